import Derived.Test.YgvaawGreatY31
set_option maxRecDepth 100000
set_option linter.unusedSimpArgs false
set_option linter.unusedVariables false
namespace Go.Proofs.YgvaawGreat
open Go
/-! Bytes that grow by append of whole slices. -/
structure AB (base B : Nat) (w : World) (v : Value) (l : List Nat) : Prop where
  own : w.ownsRow base 5 1 v l.length (bL l)
  lim : ∀ q, v.ownBlock = some q → base ≤ q ∧ q < B
  dig : Dig 256 l
theorem AB.ch {base B : Nat} {M : Nat → Prop} {w w' : World} {v : Value} {l : List Nat} (h : AB base B w v l) (c : Ch M w w') (hM : ∀ b, M b → b < base ∨ B ≤ b) : AB base B w' v l := by
  refine ⟨?_, h.lim, h.dig⟩
  obtain ⟨h1, h2⟩ := h.own
  refine ⟨h1, ?_⟩
  rcases h2 with h2 | ⟨g, cap, cur, h2, h3, h4, h5⟩
  · exact .inl h2
  · refine .inr ⟨g, cap, cur, h2, h3, ?_, h5⟩
    have hl := h.lim g (by rw [h2]; rfl)
    rw [c.block g (Array.getElem?_eq_some_iff.1 h4).1 (fun hm => by have := hM g hm; omega)]; exact h4
theorem AB.up {base B : Nat} {w w' : World} {v : Value} {l : List Nat} (h : AB base B w v l) (c : Up w w') : AB base B w' v l := h.ch c (fun _ h => h.elim)
theorem AB.wr {base B b : Nat} {w w' : World} {v : Value} {l : List Nat} {ds : Array Value} (h : AB base B w v l) (x : Wr w w' b ds) (hb : b < base ∨ B ≤ b) : AB base B w' v l := h.ch x.ch (fun q hq => by rw [hq]; exact hb)
theorem AB.ne {base B b : Nat} {w : World} {v : Value} {l : List Nat} (h : AB base B w v l) (hb : b < base ∨ B ≤ b) : ¬ some b = v.ownBlock := fun hq => by have := h.lim b hq.symm; omega
theorem flatB : ∀ l : List Nat, (l.map fun d => [bval d]).flatten = bL l
  | [] => rfl
  | d :: l => by rw [List.map_cons, List.flatten_cons, flatB l]; rfl
theorem AB.keep' {M : Nat → Prop} {base B : Nat} {w w' : World} {H H' : Store} {v : Value} {l : List Nat} (h : AB base B w' v l) (g : Go M w H w' H') (hb : w.heap.size ≤ base) : ∃ H2, Go M w H w' H2 ∧ Le H' H2 ∧ BV H2 v l ∧ ∀ q, H2.has q → H'.has q ∨ some q = v.ownBlock := by
  have hg : Gr base 5 1 B w' v (l.map fun d => [bval d]) := by
    refine ⟨?_, fun c hc => ?_, h.lim⟩
    · rw [List.length_map, flatB]; exact h.own
    · obtain ⟨d, _, rfl⟩ := List.mem_map.1 hc
      rfl
  obtain ⟨H2, g2, l2, sv, hn⟩ := hg.keep' g hb
  rw [flatB, List.length_map] at sv
  exact ⟨H2, g2, l2, ⟨sv, h.dig⟩, hn⟩
theorem AB.ofNew {w w' : World} {b : Nat} {l : List Nat} (n : w.heap.size ≤ b) (h : w'.heap[b]? = some (.cells (bL l).toArray 5 (0, 0))) (hd : Dig 256 l) (hl : l.length ≤ 1099511627776) : AB w.heap.size w'.heap.size w' (.slice (some ⟨b, 0, none⟩) l.length l.length) l := by
  refine ⟨⟨by rw [length_bL, Nat.mul_one], .inr ⟨b, l.length, _, rfl, n, h, Nat.le_refl _, by unfold maxLen; omega, by rw [List.size_toArray, length_bL, Nat.mul_one], ?_⟩⟩, fun q hq => ?_, hd⟩
  · rw [Nat.mul_one]
    show (bL l).take l.length = bL l
    rw [← length_bL l, List.take_length]
  · cases hq
    exact ⟨n, (Array.getElem?_eq_some_iff.1 h).1⟩
section
variable {n : Nat} {s : Nat → Value} {w : World} {d : Option Nat} {ty : TypeId} {pos : String} {af : Array Edge} {g : Option (Nat × Bool)}
theorem e_bytes1 {x : Operand} {q : Nat} (hx : ev n s x = .int .u8 (q : Nat)) (hq : q < 256) : Eff n s w ⟨d, .buildSlice 38 1 #[(0, x)], ty, pos, af, g⟩ (fun u w' => AB w.heap.size w'.heap.size w' u [q] ∧ Up w w') := by
  refine ⟨fun K Q hK => ?_⟩
  have hv : (Value.int .u8 (q : Nat)).cells.size = 0 + 1 := rfl
  have hf : Instr.fill (fun i => some (i * (0 + 1), 0 + 1)) ((Array.range (0 + 1)).map ((Value.int .u8 0).cells[· % (Value.int .u8 0).cells.size]!)) [(0, Value.int .u8 (q : Nat))] = some (Value.int .u8 (q : Nat)).cells := by
    rw [fill_one (off := 0) (k := 0 + 1) (by simp) hv (by simp), Instr.fill]
    rw [spl_full _ _ (by simp [hv])]
  have : (execOp (mk n s).eval ⟨d, .buildSlice 38 1 #[(0, x)], ty, pos, af, g⟩).run Hvaa.prog w = .ok (.value (.slice (some ⟨w.heap.size, 0, none⟩) 1 1)) (w.alloc (.cells (Value.int .u8 (q : Nat)).cells 5)) := by
    rw [mk_eval']
    simp only [Nat.zero_add, Nat.mul_one] at hf
    simp [execOp, Instr.buildSlice, run_underlying Hvaa.underlying38, run_sizeOf sz_5, run_zero zr_5, hx, newRow, hf]
  unfold Oper.wp
  rw [this]
  have hn := new_alloc w (Value.int .u8 (q : Nat)).cells 5
  refine hK _ _ ⟨AB.ofNew (l := [q]) hn.fresh (heap_alloc_new w _) (Dig.one hq) (by simp), hn.up⟩
theorem e_appB {x y : Operand} {T base B b2 o2 c2 : Nat} {v : Value} {l l2 : List Nat} (hU : Hvaa.prog.underlying T = some (.slice 5)) (hx : ev n s x = v) (hO : AB base B w v l) {m : Nat} (hm : l2.length = m) (hy : ev n s y = .slice (some ⟨b2, o2, none⟩) m c2) (hr : Row w b2 o2 (bL l2)) (hd : Dig 256 l2) (hn : l.length + l2.length ≤ 1099511627776) (hbase : base ≤ w.heap.size) :
    Eff n s w ⟨d, .call { callee := .builtin .append, args := #[x, y], argTypes := #[T, T] }, ty, pos, af, g⟩ (fun v' w' => AB base w'.heap.size w' v' (l ++ l2) ∧ Ch (fun b => some b = v.ownBlock) w w') := by
  subst hm
  obtain ⟨i, hi, g2, g3, g4⟩ := info_of sz_5 zr_5 by_5
  have hnews : ∀ (j : Nat) u, (bL l2)[j]? = some u → w.cell? ((⟨b2, o2, none⟩ : Addr).add j) = some u := fun j u hu => by
    rw [addr_add]; exact hr j u hu
  have h63 : l.length + l2.length ≤ maxLen := by unfold maxLen; omega
  obtain ⟨v', w', hrun, ho, hg, _⟩ := run_append_own (P := Hvaa.prog) w base T ty 5 i (.int .u8 0) 1 1 hU hi g4 g2 g3 rfl (by decide) v l.length (bL l) hO.own ⟨b2, o2, none⟩ l2.length c2 (bL l2) (by rw [length_bL, Nat.mul_one]) hnews (fun u hu => one_cell (one_bL _ u hu)) h63 (by omega) hbase
  refine ⟨fun K Q hK => ?_⟩
  have : (execOp (mk n s).eval ⟨d, .call { callee := .builtin .append, args := #[x, y], argTypes := #[T, T] }, ty, pos, af, g⟩).run Hvaa.prog w = .ok (.value v') w' := by
    rw [mk_eval']
    simp [execOp, resolve, invoke, builtin, hx, hy, hrun]
  unfold Oper.wp
  rw [this]
  obtain ⟨q1, q2, q3, q4, q5⟩ := hg
  refine hK _ _ ⟨⟨?_, fun r hr' => ho.lt r hr', hO.dig.app hd⟩, ⟨q1, q2, q3, q4, fun b hb hM => q5 b hb hM⟩⟩
  rw [List.length_append, bL_append]; exact ho
end
end Go.Proofs.YgvaawGreat
