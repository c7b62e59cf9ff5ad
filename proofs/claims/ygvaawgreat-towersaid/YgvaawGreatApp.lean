import Derived.Test.YgvaawGreatY6
set_option maxRecDepth 100000
set_option linter.unusedSimpArgs false
set_option linter.unusedVariables false
namespace Go.Proofs.YgvaawGreat
open Go
/-! A list that is being built by append. -/
structure Gr (base e k B : Nat) (w : World) (v : Value) (cs : List (List Value)) : Prop where
  own : w.ownsRow base e k v cs.length cs.flatten
  len : ∀ c ∈ cs, c.length = k
  lim : ∀ q, v.ownBlock = some q → base ≤ q ∧ q < B
theorem Gr.nil (base e k B : Nat) (w : World) : Gr base e k B w (.slice none 0 0) [] := ⟨World.ownsRow_nil w base e k, by simp, fun q h => by cases h⟩
theorem Gr.ch {base e k B : Nat} {M : Nat → Prop} {w w' : World} {v : Value} {cs : List (List Value)} (h : Gr base e k B w v cs) (c : Ch M w w') (hM : ∀ b, M b → b < base ∨ B ≤ b) : Gr base e k B w' v cs := by
  refine ⟨?_, h.len, h.lim⟩
  obtain ⟨h1, h2⟩ := h.own
  refine ⟨h1, ?_⟩
  rcases h2 with h2 | ⟨g, cap, cur, h2, h3, h4, h5⟩
  · exact .inl h2
  · refine .inr ⟨g, cap, cur, h2, h3, ?_, h5⟩
    have hl := h.lim g (by rw [h2]; rfl)
    rw [c.block g (Array.getElem?_eq_some_iff.1 h4).1 (fun hm => by have := hM g hm; omega)]; exact h4
theorem Gr.up {base e k B : Nat} {w w' : World} {v : Value} {cs : List (List Value)} (h : Gr base e k B w v cs) (c : Up w w') : Gr base e k B w' v cs := h.ch c (fun _ h => h.elim)
theorem Gr.wr {base e k B b : Nat} {w w' : World} {v : Value} {cs : List (List Value)} {ds : Array Value} (h : Gr base e k B w v cs) (x : Wr w w' b ds) (hb : b < base ∨ B ≤ b) : Gr base e k B w' v cs := h.ch x.ch (fun q hq => by rw [hq]; exact hb)
theorem Gr.mono {base e k B B' : Nat} {w : World} {v : Value} {cs : List (List Value)} (h : Gr base e k B w v cs) (hB : B ≤ B') : Gr base e k B' w v cs := ⟨h.own, h.len, fun q hq => by have := h.lim q hq; omega⟩
theorem Gr.ne {base e k B b : Nat} {w : World} {v : Value} {cs : List (List Value)} (h : Gr base e k B w v cs) (hb : b < base ∨ B ≤ b) : ¬ some b = v.ownBlock := fun hq => by have := h.lim b hq.symm; omega
theorem one_cell {v : Value} (h : v.one1 = true) : v.oneCell' = true := by cases v <;> first | rfl | exact absurd h Bool.false_ne_true
theorem Gr.keep {M : Nat → Prop} {base e k B : Nat} {w w' : World} {H H' : Store} {v : Value} {cs : List (List Value)} (h : Gr base e k B w' v cs) (g : Go M w H w' H') (hb : w.heap.size ≤ base) : ∃ H2, Go M w H w' H2 ∧ Le H' H2 ∧ SV H2 k cs.length v cs.flatten := by
  obtain ⟨h1, h2⟩ := h.own
  rcases h2 with ⟨rfl, h2⟩ | ⟨q, cap, cur, rfl, h3, h4, h5, h6, h7, h8⟩
  · exact ⟨H', g, Le.refl _, ⟨h1, .inl ⟨⟨_, rfl⟩, h2⟩⟩⟩
  · obtain ⟨H2, g2, l2, e2⟩ := g.hold ⟨e, h4⟩ (by omega)
    refine ⟨H2, g2, l2, SV.of h1 h5 ?_ e2 ?_⟩
    · have : cap ≤ 9223372036854775807 := by simpa [maxLen] using h6
      omega
    · intro i v hv
      have hi : i < (cs.flatten).length := (List.getElem?_eq_some_iff.1 hv).1
      rw [← h8, List.getElem?_take] at hv
      rw [Nat.zero_add]
      split at hv
      · simpa using hv
      · cases hv
section
variable {n : Nat} {s : Nat → Value} {w : World} {d : Option Nat} {ty : TypeId} {pos : String} {af : Array Edge} {g : Option (Nat × Bool)}
theorem e_app {x y : Operand} {T e k q base B by_ : Nat} {z v : Value} {cs : List (List Value)} {c : List Value} (hU : Hvaa.prog.underlying T = some (.slice e)) (hs : Sz e k) (hz : Zr e z) (hq : By e q) (hzs : z.cells.size = k) (hk : 0 < k)
    (hx : ev n s x = v) (hO : Gr base e k B w v cs) (hy : ev n s y = .slice (some ⟨by_, 0, none⟩) 1 1) (hc : c.length = k) (hr : Blk w by_ c.toArray) (h1 : ∀ u ∈ c, u.one1 = true) (hq2 : q ≤ 4096) (hn : cs.length ≤ 4294967296) (hbase : base ≤ w.heap.size) :
    Eff n s w ⟨d, .call { callee := .builtin .append, args := #[x, y], argTypes := #[T, T] }, ty, pos, af, g⟩ (fun v' w' => Gr base e k w'.heap.size w' v' (cs ++ [c]) ∧ Ch (fun b => some b = v.ownBlock) w w' ∧ ∀ b, b < w.heap.size → ¬ some b = v.ownBlock → ¬ some b = v'.ownBlock) := by
  have hb2 : (cs.length + 1) * q ≤ 140737488355328 := by
    have := Nat.mul_le_mul (show cs.length + 1 ≤ 4294967297 by omega) hq2
    omega
  obtain ⟨i, hi, g2, g3, g4⟩ := info_of hs hz hq
  have hnews : ∀ (j : Nat) u, c[j]? = some u → w.cell? ((⟨by_, 0, none⟩ : Addr).add j) = some u := fun j u hu => by
    rw [addr_add]; exact hr.cell (by simpa using hu)
  have h63 : cs.length + 1 ≤ maxLen := by unfold maxLen; omega
  obtain ⟨v', w', hrun, ho, hg, _⟩ := run_append_own (P := Hvaa.prog) w base T ty e i z k q hU hi g4 g2 g3 hzs hk v cs.length cs.flatten hO.own ⟨by_, 0, none⟩ 1 1 c (by rw [hc, Nat.one_mul]) hnews (fun u hu => one_cell (h1 u hu)) h63 hb2 hbase
  refine ⟨fun K Q hK => ?_⟩
  have : (execOp (mk n s).eval ⟨d, .call { callee := .builtin .append, args := #[x, y], argTypes := #[T, T] }, ty, pos, af, g⟩).run Hvaa.prog w = .ok (.value v') w' := by
    rw [mk_eval']
    simp [execOp, resolve, invoke, builtin, hx, hy, hrun]
  unfold Oper.wp
  rw [this]
  obtain ⟨q1, q2, q3, q4, q5⟩ := hg
  have hnew : ∀ b, b < w.heap.size → ¬ some b = v.ownBlock → ¬ some b = v'.ownBlock := by
    intro b hb hne he
    subst g2 g3
    have hl' : c.length = 1 * i.size := by rw [hc, Nat.one_mul]
    have h63' : cs.length + 1 ≤ 9223372036854775807 := by unfold maxLen at h63; omega
    rcases hO.own.2 with ⟨e1, e2⟩ | ⟨gq, cap, cur, e1, e2, e3, e4, e5, e6, e7⟩
    · subst e1
      have hr2 := run_append_nil (P := Hvaa.prog) w T ty e i z hU hi g4 ⟨by_, 0, none⟩ 1 1 c hl' hnews (by decide) (by decide) (by omega)
      rw [hr2] at hrun
      cases hrun
      simp only [Value.ownBlock, Option.some.injEq] at he
      omega
    · subst e1
      by_cases hroom : cs.length + 1 ≤ cap
      · have hr2 := run_append_room (P := Hvaa.prog) w T ty e i hU hi gq cs.length cap cur e3 ⟨by_, 0, none⟩ 1 1 c hl' hnews (fun u hu => one_cell (h1 u hu)) hroom (by
          rw [e6, hc]
          have := Nat.mul_le_mul_right i.size hroom
          rw [Nat.add_mul, Nat.one_mul] at this
          exact this)
        rw [hr2] at hrun
        cases hrun
        exact hne he
      · have holds := hO.own.cells (g := gq) rfl
        have hr2 := run_append_grow (P := Hvaa.prog) w T ty e i z hU hi g4 ⟨gq, 0, none⟩ cs.length cap cs.flatten hO.own.1 holds ⟨by_, 0, none⟩ 1 1 c hl' hnews (by omega) (by omega) (growslice_fits (by omega) hb2)
        rw [hr2] at hrun
        cases hrun
        simp only [Value.ownBlock, Option.some.injEq] at he
        omega
  refine hK _ _ ⟨⟨?_, ?_, ?_⟩, ⟨q1, q2, q3, q4, fun b hb hM => q5 b hb hM⟩, hnew⟩
  · rw [List.length_append, List.length_singleton, List.flatten_append, List.flatten_singleton]; exact ho
  · intro c' hc'
    rcases List.mem_append.1 hc' with h | h
    · exact hO.len c' h
    · rw [List.mem_singleton.1 h]; exact hc
  · intro r hr'
    exact ho.lt r hr'
end
end Go.Proofs.YgvaawGreat
