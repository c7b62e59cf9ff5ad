import Derived.Test.YgvaawGreatY10
set_option maxRecDepth 100000
set_option linter.unusedSimpArgs false
set_option linter.unusedVariables false
namespace Go.Proofs.YgvaawGreat
open Go
theorem Go.hold' {M : Nat → Prop} {w w' : World} {H H' : Store} (g : Go M w H w' H') {b : Nat} {cs : Array Value} (hb : Blk w' b cs) (hf : w.heap.size ≤ b) : ∃ H2, Go M w H w' H2 ∧ Le H' H2 ∧ H2 b = some cs ∧ ∀ q, H2.has q → H'.has q ∨ q = b := by
  by_cases hn : H'.has b
  · obtain ⟨ds, hd⟩ := hn
    have := (g.fz.blk b ds hd).same hb
    subst this
    exact ⟨H', g, Le.refl _, hd, fun q hq => .inl hq⟩
  · refine ⟨_, g.keep hb hf hn, ?_, Store.add_get _ _ _, ?_⟩
    · intro q ds hq
      unfold Store.add
      rw [if_neg (fun e => hn ⟨ds, by rw [← e]; exact hq⟩)]; exact hq
    · intro q ⟨ds, hq⟩
      unfold Store.add at hq
      by_cases e : q = b
      · exact .inr e
      · rw [if_neg e] at hq; exact .inl ⟨ds, hq⟩
theorem Gr.keep' {M : Nat → Prop} {base e k B : Nat} {w w' : World} {H H' : Store} {v : Value} {cs : List (List Value)} (h : Gr base e k B w' v cs) (g : Go M w H w' H') (hb : w.heap.size ≤ base) : ∃ H2, Go M w H w' H2 ∧ Le H' H2 ∧ SV H2 k cs.length v cs.flatten ∧ ∀ q, H2.has q → H'.has q ∨ some q = v.ownBlock := by
  obtain ⟨h1, h2⟩ := h.own
  rcases h2 with ⟨rfl, h2⟩ | ⟨q, cap, cur, rfl, h3, h4, h5, h6, h7, h8⟩
  · exact ⟨H', g, Le.refl _, ⟨h1, .inl ⟨⟨_, rfl⟩, h2⟩⟩, fun q hq => .inl hq⟩
  · obtain ⟨H2, g2, l2, e2, e3⟩ := g.hold' ⟨e, h4⟩ (by omega)
    refine ⟨H2, g2, l2, SV.of h1 h5 ?_ e2 ?_, fun r hr => ?_⟩
    · have : cap ≤ 9223372036854775807 := by simpa [maxLen] using h6
      omega
    · intro i v hv
      have hi : i < (cs.flatten).length := (List.getElem?_eq_some_iff.1 hv).1
      rw [← h8, List.getElem?_take] at hv
      rw [Nat.zero_add]
      split at hv
      · simpa using hv
      · cases hv
    · rcases e3 r hr with h | h
      · exact .inl h
      · exact .inr (by rw [h]; rfl)
theorem GL.keep' {α : Type} {P : Cp α} {H : Store} {base e k B : Nat} {w : World} {v : Value} {O : List α} {M : Nat → Prop} {w0 : World} {H0 H' : Store} (h : GL P H base e k B w v O) (hP : Mono P) (g : Go M w0 H0 w H') (hH : Le H H') (hb : w0.heap.size ≤ base) : ∃ H2, Go M w0 H0 w H2 ∧ Le H' H2 ∧ LV P k H2 v O ∧ ∀ q, H2.has q → H'.has q ∨ some q = v.ownBlock := by
  obtain ⟨cs, h1, h2, h3⟩ := h.ex
  obtain ⟨H2, g2, l2, sv, hq⟩ := h1.keep' g hb
  refine ⟨H2, g2, l2, ⟨cs, by rw [← h2]; exact sv, h2, fun i c x hc hx => ?_⟩, hq⟩
  have := h3 i c x hc hx
  exact ⟨this.1, hP _ _ _ _ (hH.trans l2) this.2⟩
/-- storage put in its account -/
def putS (l : List (Nat × Nat)) (k v : Nat) : List (Nat × Nat) := putP (fun y => y.1 == k) (fun y => decide (k < y.1)) (if decide (v = 0) then none else some (k, v)) l
def setSlots (A : YAcct) (l : List (Nat × Nat)) : YAcct := ⟨A.addr, A.nonce, A.bal, A.code, l⟩
end Go.Proofs.YgvaawGreat
