import Derived.Test.YgvaawGreatN1
set_option linter.unusedSimpArgs false
set_option linter.unusedVariables false
namespace Go.Proofs.YgvaawGreat
open Go
theorem mzB {w : World} {b m : Nat} (h : Blk w b (madeCells (Value.int .u8 0).cells (m * 1))) : Blk w b (bL (List.replicate m 0)).toArray := by
  have e : madeCells (Value.int .u8 0).cells (m * 1) = (bL (List.replicate m 0)).toArray := by
    rw [Nat.mul_one]
    exact (size_madeZ (.int .u8 0) rfl m).trans (by simp [bL, bval])
  rw [e] at h; exact h
theorem bL_take (l : List Nat) (k : Nat) : (bL l).take k = bL (l.take k) := by simp [bL]
theorem bL_drop (l : List Nat) (k : Nat) : (bL l).drop k = bL (l.drop k) := by simp [bL]
section
variable {n : Nat} {s : Nat → Value} {w : World} {d : Option Nat} {ty : TypeId} {pos : String} {af : Array Edge} {g : Option (Nat × Bool)}
/-- copy of bytes -/
theorem e_copyW {x y : Operand} {T T' s0 b o dl dc : Nat} {cs : Array Value} {l : List Nat} {v : Value} (hU : Hvaa.prog.underlying T = some (.slice 5)) (hx : ev n s x = .slice (some ⟨b, o, none⟩) dl dc) (hy : ev n s y = v)
    (hW : WV s0 w v l) (hb : Blk w b cs) (ho : o + min l.length dl ≤ cs.size) :
    Eff n s w ⟨d, .call { callee := .builtin .copy, args := #[x, y], argTypes := #[T, T'] }, ty, pos, af, g⟩ (fun v w' => v = .int .i64 (min l.length dl : Nat) ∧ Wr w w' b (spl cs o (bL (l.take dl)))) := by
  rcases hW.at' with ⟨h1, h2⟩ | ⟨b2, o2, c, h1, h2, h3, h4, h5⟩
  · obtain ⟨q, h1⟩ := h1
    subst h1 h2
    refine ⟨fun K Q hK => ?_⟩
    have : (execOp (mk n s).eval ⟨d, .call { callee := .builtin .copy, args := #[x, y], argTypes := #[T, T'] }, ty, pos, af, g⟩).run Hvaa.prog w = .ok (.value (.int .i64 0)) w := by
      rw [mk_eval']
      have e1 : Nat.min 0 dl = 0 := Nat.zero_min dl
      have hl0 : ∀ a, (loadCells a 0).run Hvaa.prog w = .ok #[] w := fun a => by simpa using run_loadCells_list (P := Hvaa.prog) w a [] (fun j v h => by simp at h)
      cases q <;> simp [execOp, resolve, invoke, builtin, Builtin.copy_, Builtin.lenOf, Builtin.firstCells, hx, hy, run_underlying hU, run_sizeOf sz_5, goInt, e1, storeCells, hl0]
    unfold Oper.wp
    rw [this]
    refine hK _ _ ⟨by simp, Ch.refl _ _, by simpa [bL, spl] using hb, rfl⟩
  · subst h1
    have hl : (bL (l.take dl)).length = min l.length dl := by simp [bL]; omega
    have hr : Row w b2 o2 (bL (l.take dl)) := by
      intro i u hu
      refine h5 i u ?_
      rw [← bL_take, List.getElem?_take] at hu
      split at hu
      · exact hu
      · cases hu
    have := e_copy (d := d) (ty := ty) (pos := pos) (af := af) (g := g) (T' := T') hU sz_5 hx hy hl hr (one_bL _) hb (by rw [hl]; exact ho)
    rw [hl] at this
    exact this
end
/-- bytes in a fresh block of its own -/
structure OB (w w' : World) (v : Value) (l : List Nat) : Prop where
  dig : Dig 256 l
  at' : (v = .slice none 0 0 ∧ l = []) ∨ ∃ b, v = .slice (some ⟨b, 0, none⟩) l.length l.length ∧ w.heap.size ≤ b ∧ b < w'.heap.size ∧ l.length < 9223372036854775808 ∧ Blk w' b (bL l).toArray
theorem OB.val {w w' : World} {v : Value} {l : List Nat} (h : OB w w' v l) : ∃ a, v = .slice a l.length l.length := by
  rcases h.at' with ⟨h1, h2⟩ | ⟨b, h1, h2⟩
  · exact ⟨none, by rw [h1, h2]; rfl⟩
  · exact ⟨_, h1⟩
/-- some bytes at the start of a fresh block -/
structure FB (w w' : World) (v : Value) (l : List Nat) : Prop where
  dig : Dig 256 l
  at' : (v = .slice none 0 0 ∧ l = []) ∨ ∃ b c r, v = .slice (some ⟨b, 0, none⟩) l.length c ∧ l.length ≤ c ∧ c < 9223372036854775808 ∧ w.heap.size ≤ b ∧ Blk w' b (bL (l ++ r)).toArray
theorem OB.fb {w w' : World} {v : Value} {l : List Nat} (h : OB w w' v l) : FB w w' v l := by
  refine ⟨h.dig, ?_⟩
  rcases h.at' with h1 | ⟨b, h1, h2, h3, h4, h5⟩
  · exact .inl h1
  · exact .inr ⟨b, _, [], h1, Nat.le_refl _, h4, h2, by simpa using h5⟩
/-- made here, kept from now on -/
theorem FB.keep {M : Nat → Prop} {w w' : World} {H H' : Store} {v : Value} {l : List Nat} (h : FB w w' v l) (g : Go M w H w' H') (hn : ∀ b, H'.has b → b < w.heap.size) : ∃ H2, Go M w H w' H2 ∧ Le H' H2 ∧ BV H2 v l := by
  rcases h.at' with ⟨h1, h2⟩ | ⟨b, c, r, h1, h2, h3, h4, h5⟩
  · subst h1 h2
    exact ⟨H', g, Le.refl _, BV.nil _⟩
  · have hnb : ¬ H'.has b := fun hb => by have := hn b hb; omega
    refine ⟨_, g.keep h5 h4 hnb, ?_, ?_⟩
    · intro q ds hq
      unfold Store.add
      rw [if_neg (fun e => hnb ⟨ds, by rw [← e]; exact hq⟩)]; exact hq
    · rw [h1]
      refine ⟨SV.of (by simp [bL]) h2 h3 (Store.add_get _ _ _) ?_, h.dig⟩
      rw [bL_append]
      exact RowIn.app _ _
theorem FB.num {M : Nat → Prop} {w w' : World} {H H' : Store} {v : Value} {l : List Nat} {x : Nat} (h : FB w w' v l) (g : Go M w H w' H') (hn : ∀ b, H'.has b → b < w.heap.size) (ht : Tr l) (hv : val 256 l = x) : ∃ H2, Go M w H w' H2 ∧ Le H' H2 ∧ NV H2 v x := by
  obtain ⟨H2, g2, l2, b2⟩ := h.keep g hn
  exact ⟨H2, g2, l2, ⟨l, b2, hv, ht⟩⟩
end Go.Proofs.YgvaawGreat
