import Derived.Test.YgvaawGreatQ3
set_option maxRecDepth 100000
set_option linter.unusedSimpArgs false
set_option linter.unusedVariables false
namespace Go.Proofs.YgvaawGreat
open Go
/-! The end of a transaction in the vault. -/
def endW (A : AW) : AW where
  nonce a := if A.gone a then 0 else A.nonce a
  bal a := A.bal a
  code a := if A.gone a then [] else A.code a
  slot a k := if A.gone a then 0 else A.slot a k
  warmA _ := false
  warmS _ _ := false
  refund := 0
  logs := []
  temp _ _ := 0
  made _ := false
  gone _ := false
theorem end_aKs (l : List EAcct) : aKs (l.map endA) = aKs l := by
  unfold aKs
  rw [List.map_map]
  rfl
theorem end_sKs (V : EV) (l : List ESlot) : sKs (l.map (endS V)) = sKs l := by
  unfold sKs
  rw [List.map_map]
  rfl
theorem end_hmA (l : List EAcct) : hmA (l.map endA) = hmA l := by
  funext i
  unfold hmA
  rw [List.getElem?_map]
  cases l[i]? <;> rfl
theorem end_hmS (V : EV) (l : List ESlot) : hmS (l.map (endS V)) = hmS l := by
  funext i
  unfold hmS
  rw [List.getElem?_map]
  cases l[i]? <;> rfl
theorem map_some {α β : Type} {f : α → β} {l : List α} {i : Nat} {y : β} (h : (l.map f)[i]? = some y) : ∃ x, l[i]? = some x ∧ f x = y := by
  rw [List.getElem?_map] at h
  cases hx : l[i]? with
  | none => rw [hx] at h; cases h
  | some x => rw [hx] at h; exact ⟨x, rfl, by cases h; rfl⟩
theorem end_ok {V : EV} (ho : VOk V) : VOk (endV V) := by
  refine ⟨⟨?_, ?_, Nat.zero_le _, Nat.zero_le _, (fun m h => by simp [endV, ndV] at h), (show (0 : Nat) < 18446744073709551616 by decide), Nat.zero_le _, Nat.zero_le _⟩, ?_, ?_, ?_, ?_, (fun e => by cases e), (fun _ => rfl), (fun i j x y h => by simp [endV, ndV] at h), ?_, (fun x h => by simp [endV, ndV] at h), (fun e h => by simp [endV, ndV] at h), Nat.zero_le _⟩
  · show (V.accts.map endA).length ≤ 2560
    rw [List.length_map]; exact ho.bd.accts
  · show (V.slots.map (endS V)).length ≤ 2560
    rw [List.length_map]; exact ho.bd.slots
  · show Tab 4096 V.atb (V.accts.map endA).length (hmA (V.accts.map endA))
    rw [List.length_map, end_hmA]; exact ho.a
  · intro i j x y hx hy e
    obtain ⟨x', h1, rfl⟩ := map_some hx
    obtain ⟨y', h2, rfl⟩ := map_some hy
    exact ho.ad i j x' y' h1 h2 e
  · show Tab 4096 V.stb (V.slots.map (endS V)).length (hmS (V.slots.map (endS V)))
    rw [List.length_map, end_hmS]; exact ho.s
  · intro i j x y hx hy e e2
    obtain ⟨x', h1, rfl⟩ := map_some hx
    obtain ⟨y', h2, rfl⟩ := map_some hy
    exact ho.sd i j x' y' h1 h2 e e2
  · intro x hx
    have hx : x ∈ V.slots.map (endS V) := hx
    obtain ⟨x', h1, rfl⟩ := List.mem_map.1 hx
    show x'.acct < (V.accts.map endA).length
    rw [List.length_map]
    exact ho.sa x' h1
theorem end_ai (V : EV) (a : Nat) : ai (endV V) a = ai V a := by
  show (aKs (V.accts.map endA)).idxOf a = _
  rw [end_aKs]
  rfl
theorem end_hasA {V : EV} {a : Nat} : hasA (endV V) a ↔ hasA V a := by
  show a ∈ aKs (V.accts.map endA) ↔ _
  rw [end_aKs]
  rfl
theorem end_ax (V : EV) (a : Nat) : ax (endV V) a = endA (ax V a) := by
  unfold ax
  rw [end_ai]
  show ((V.accts.map endA)[ai V a]?).getD (blankA a) = _
  rw [List.getElem?_map]
  cases V.accts[ai V a]? <;> rfl
theorem end_sx {V : EV} (ho : VOk V) (a k : Nat) : (sx (endV V) a k).val = (if (ax V a).gone then 0 else (sx V a k).val) ∧ (sx (endV V) a k).orig = (sx (endV V) a k).val ∧ (sx (endV V) a k).warm = false := by
  have hk : (ai (endV V) a, k) ∈ sKs (endV V).slots ↔ (ai V a, k) ∈ sKs V.slots := by
    show (ai (endV V) a, k) ∈ sKs (V.slots.map (endS V)) ↔ _
    rw [end_sKs, end_ai]
  by_cases h : (ai V a, k) ∈ sKs V.slots
  · obtain ⟨x, h1, h2, h3⟩ := sKs_get.1 (idx_get h)
    have hlt : ai V a < V.accts.length := sKs_lt ho.sa h
    have hg : goneAt V x.acct = (ax V a).gone := by
      unfold goneAt ax
      rw [h2, List.getElem?_eq_getElem hlt]
      rfl
    have e1 : sx V a k = x := sx_eq ho h1 h2 h3
    have e2 : sx (endV V) a k = endS V x := by
      refine sx_eq (end_ok ho) (i := (sKs V.slots).idxOf (ai V a, k)) ?_ (by rw [end_ai]; exact h2) h3
      show (V.slots.map (endS V))[_]? = _
      rw [List.getElem?_map, h1]
      rfl
    rw [e1, e2]
    unfold endS
    rw [hg]
    exact ⟨rfl, rfl, rfl⟩
  · rw [sx_no h, sx_no (fun h9 => h (hk.1 h9))]
    refine ⟨?_, rfl, rfl⟩
    show (0 : Nat) = if _ then 0 else 0
    split <;> rfl
theorem end_tx (V : EV) (a k : Nat) : tx (endV V) a k = blankT 0 k := tx_no (by intro h; cases h)
theorem end_abs {V : EV} (ho : VOk V) : absV (endV V) = endW (absV V) := by
  have h1 : (fun a => (ax (endV V) a).nonce) = (endW (absV V)).nonce := by funext a; rw [end_ax]; rfl
  have h2 : (fun a => (ax (endV V) a).bal) = (endW (absV V)).bal := by funext a; rw [end_ax]; rfl
  have h3 : (fun a => (ax (endV V) a).code) = (endW (absV V)).code := by funext a; rw [end_ax]; rfl
  have h4 : (fun a k => (sx (endV V) a k).val) = (endW (absV V)).slot := by funext a k; exact (end_sx ho a k).1
  have h5 : (fun a => (ax (endV V) a).warm) = (endW (absV V)).warmA := by funext a; rw [end_ax]; rfl
  have h6 : (fun a k => (sx (endV V) a k).warm) = (endW (absV V)).warmS := by funext a k; exact (end_sx ho a k).2.2
  have h7 : (fun a k => (tx (endV V) a k).val) = (endW (absV V)).temp := by funext a k; rw [end_tx]; rfl
  have h8 : (fun a => (ax (endV V) a).made) = (endW (absV V)).made := by funext a; rw [end_ax]; rfl
  have h9 : (fun a => (ax (endV V) a).gone) = (endW (absV V)).gone := by funext a; rw [end_ax]; rfl
  unfold absV
  rw [h1, h2, h3, h4, h5, h6, h7, h8, h9]
  rfl
theorem end_va {V : EV} {A : AW} {sv : List AW} {og : Nat → Nat → Nat} (ho : VOk V) (h : VA V A sv og) : VA (endV V) (endW A) [] (endW A).slot := by
  refine ⟨by rw [end_abs ho, h.abs], ?_, rfl, fun i m hm => by simp [endV, ndV] at hm, fun i j m n _ hm => by simp [endV, ndV] at hm⟩
  rw [← h.abs, ← end_abs ho]
  funext a k
  exact (end_sx ho a k).2.1
end Go.Proofs.YgvaawGreat
