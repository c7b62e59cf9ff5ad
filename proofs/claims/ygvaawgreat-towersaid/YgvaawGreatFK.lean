import Derived.Test.YgvaawGreatY31
set_option maxRecDepth 100000
set_option linter.unusedSimpArgs false
set_option linter.unusedVariables false
namespace Go.Proofs.YgvaawGreat
open Go
/-! A list made at once and filled place by place. -/
structure FK {α : Type} (P : Cp α) (k : Nat) (H : Store) (base B : Nat) (w : World) (v : Value) (xs : List α) (i : Nat) : Prop where
  ex : (v = .slice none 0 0 ∧ xs.length = 0) ∨ ∃ b cs rest, v = .slice (some ⟨b, 0, none⟩) xs.length xs.length ∧ base ≤ b ∧ b < B ∧ Blk w b (cs.flatten ++ rest).toArray ∧ cs.length = i ∧ rest.length = (xs.length - i) * k ∧ CP P k H cs xs
section
variable {α : Type} {P : Cp α} {k : Nat} {H : Store} {base B : Nat} {w w' : World} {v : Value} {xs : List α} {i : Nat}
theorem FK.ch {M : Nat → Prop} (h : FK P k H base B w v xs i) (c : Ch M w w') (hM : ∀ b, M b → b < base ∨ B ≤ b) : FK P k H base B w' v xs i := by
  rcases h.ex with h | ⟨b, cs, rest, h1, h2, h3, h4, h5⟩
  · exact ⟨.inl h⟩
  · exact ⟨.inr ⟨b, cs, rest, h1, h2, h3, h4.ch c (fun hm => by have := hM b hm; omega), h5⟩⟩
theorem FK.up (h : FK P k H base B w v xs i) (c : Up w w') : FK P k H base B w' v xs i := h.ch c (fun _ h => h.elim)
theorem FK.wr {b : Nat} {ds : Array Value} (h : FK P k H base B w v xs i) (x : Wr w w' b ds) (hb : b < base ∨ B ≤ b) : FK P k H base B w' v xs i := h.ch x.ch (fun q hq => by rw [hq]; exact hb)
theorem FK.monoH {H' : Store} (h : FK P k H base B w v xs i) (hl : Le H H') (mc : MC P := by first | with_reducible exact mc_addr | with_reducible exact mc_word | with_reducible exact mc_slot | with_reducible exact mc_acct | with_reducible exact mc_mark | with_reducible exact mc_tri | with_reducible exact mc_log | with_reducible exact mc_nat | with_reducible exact mc_access | with_reducible exact mc_sk | with_reducible exact mc_ea | with_reducible exact mc_es | with_reducible exact mc_raw | with_reducible exact mc_oslot | with_reducible exact mc_oacct | with_reducible exact mc_tx | assumption) : FK P k H' base B w v xs i := by
  rcases h.ex with h | ⟨b, cs, rest, h1, h2, h3, h4, h5, h6, h7⟩
  · exact ⟨.inl h⟩
  · exact ⟨.inr ⟨b, cs, rest, h1, h2, h3, h4, h5, h6, h7.mono hl⟩⟩
theorem FK.nil (hx : xs.length = 0) : FK P k H base B w (.slice none 0 0) xs 0 := ⟨.inl ⟨rfl, hx⟩⟩
theorem FK.made {b n : Nat} {z : Value} (hb : base ≤ b) (hB : b < B) (hn : n = xs.length) (h : Blk w b (madeCells z.cells (n * k))) : FK P k H base B w (.slice (some ⟨b, 0, none⟩) n n) xs 0 := by
  subst hn
  obtain ⟨r, hr, h2⟩ := made_list h
  exact ⟨.inr ⟨b, [], r, rfl, hb, hB, h2, rfl, by rw [hr, Nat.sub_zero], CP.nil _ _ _ _⟩⟩
theorem FK.pos (h : FK P k H base B w v xs i) (hx : 0 < xs.length) : ∃ b cs rest, v = .slice (some ⟨b, 0, none⟩) xs.length xs.length ∧ base ≤ b ∧ b < B ∧ Blk w b (cs.flatten ++ rest).toArray ∧ cs.length = i ∧ rest.length = (xs.length - i) * k ∧ CP P k H cs xs := by
  rcases h.ex with ⟨_, h⟩ | h
  · omega
  · exact h
theorem FK.lim (h : FK P k H base B w v xs i) : ∀ q, v.ownBlock = some q → base ≤ q ∧ q < B := by
  intro q hq
  rcases h.ex with ⟨h1, _⟩ | ⟨b, cs, rest, h1, h2, h3, _⟩
  · rw [h1] at hq; cases hq
  · rw [h1] at hq; cases hq; exact ⟨h2, h3⟩
theorem FK.one1 (h : FK P k H base B w v xs i) : v.one1 = true := by
  rcases h.ex with ⟨h1, _⟩ | ⟨b, cs, rest, h1, _⟩ <;> rw [h1] <;> rfl
/-- one more record was laid -/
theorem FK.step {b : Nat} {cs : List (List Value)} {rest c : List Value} (hb : base ≤ b) (hB : b < B) (hl : cs.length = i) (hr : rest.length = (xs.length - i) * k) (hcp : CP P k H cs xs) (hi : i < xs.length) (hc : c.length = k) (hP : P H c xs[i]) (h : Blk w b (spl (cs.flatten ++ rest).toArray (0 + i * k) c)) (mc : MC P := by first | with_reducible exact mc_addr | with_reducible exact mc_word | with_reducible exact mc_slot | with_reducible exact mc_acct | with_reducible exact mc_mark | with_reducible exact mc_tri | with_reducible exact mc_log | with_reducible exact mc_nat | with_reducible exact mc_access | with_reducible exact mc_sk | with_reducible exact mc_ea | with_reducible exact mc_es | with_reducible exact mc_raw | with_reducible exact mc_oslot | with_reducible exact mc_oacct | with_reducible exact mc_tx | assumption) : FK P k H base B w (.slice (some ⟨b, 0, none⟩) xs.length xs.length) xs (i + 1) := by
  have hfl : cs.flatten.length = i * k := by rw [hcp.len (by omega), hl]
  have hkr : k ≤ rest.length := by
    rw [hr]
    exact Nat.le_mul_of_pos_left k (by omega)
  rw [fill_rec hfl hc hkr] at h
  refine ⟨.inr ⟨b, _, _, rfl, hb, hB, h, by rw [List.length_append, hl]; rfl, ?_, hcp.snoc hl hi hc hP⟩⟩
  rw [List.length_drop, hr, show xs.length - i = (xs.length - (i + 1)) + 1 by omega, Nat.add_mul, Nat.one_mul]
  omega
theorem FK.keep {M : Nat → Prop} {w0 : World} {H0 H' : Store} (h : FK P k H base B w v xs xs.length) (g : Go M w0 H0 w H') (hH : Le H H') (hb : w0.heap.size ≤ base) (hn : xs.length < 9223372036854775808) (mc : MC P := by first | with_reducible exact mc_addr | with_reducible exact mc_word | with_reducible exact mc_slot | with_reducible exact mc_acct | with_reducible exact mc_mark | with_reducible exact mc_tri | with_reducible exact mc_log | with_reducible exact mc_nat | with_reducible exact mc_access | with_reducible exact mc_sk | with_reducible exact mc_ea | with_reducible exact mc_es | with_reducible exact mc_raw | with_reducible exact mc_oslot | with_reducible exact mc_oacct | with_reducible exact mc_tx | assumption) : ∃ H2, Go M w0 H0 w H2 ∧ Le H' H2 ∧ LV P k H2 v xs ∧ ∀ q, H2.has q → H'.has q ∨ some q = v.ownBlock := by
  rcases h.ex with ⟨h1, h2⟩ | ⟨b, cs, rest, h1, h2, h3, h4, h5, h6, h7⟩
  · exact ⟨H', g, Le.refl _, by rw [h1, List.length_eq_zero_iff.1 h2]; exact LV.nil _ _ _, fun q hq => .inl hq⟩
  · have hr : rest = [] := List.length_eq_zero_iff.1 (by rw [h6, Nat.sub_self, Nat.zero_mul])
    rw [hr, List.append_nil] at h4
    obtain ⟨H2, g2, l2, e2, hn2⟩ := g.hold' h4 (by omega)
    refine ⟨H2, g2, l2, ?_, fun q hq => orI (hn2 q hq) id (fun e => by rw [h1, e]; rfl)⟩
    rw [h1]
    exact LV.ofNew e2 (hH.trans l2) mc.m rfl hn h5 h7.get
end
section
variable {S : World → Prop} {n : Nat} {s : Nat → Value} {d : Option Nat} {ty : TypeId} {pos : String} {af : Array Edge} {g : Option (Nat × Bool)}
theorem y_neqNS {x y : Operand} {T T' e k c : Nat} {a : Option Addr} (hU : Hvaa.prog.underlying T = some (.slice e)) (hx : ev n s x = .slice a k c) (hy : ev n s y = .slice none 0 0) : Yv S n s ⟨d, .binOp .neq T x y T', ty, pos, af, g⟩ (.bool (!a.isNone)) := fun w _ => by
  simp [execOp, hx, hy, eqGuard, binOp, run_equalS hU]
end
end Go.Proofs.YgvaawGreat
