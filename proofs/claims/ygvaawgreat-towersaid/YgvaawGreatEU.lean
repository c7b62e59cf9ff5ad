import Derived.Test.YgvaawGreatE9
set_option maxRecDepth 100000
set_option linter.unusedSimpArgs false
set_option linter.unusedVariables false
namespace Go.Proofs.YgvaawGreat
open Go
/-! Undoing, plainly. -/
theorem undoE_keep (V : EV) (e : EEnt) : (undoE V e).journal = V.journal ∧ (undoE V e).marks = V.marks ∧ (undoE V e).atb = V.atb ∧ (undoE V e).stb = V.stb ∧ (undoE V e).tm = V.tm ∧ (undoE V e).ttb = V.ttb := by
  rcases (show e.kind = 0 ∨ e.kind = 1 ∨ e.kind = 2 ∨ e.kind = 3 ∨ e.kind = 4 ∨ e.kind = 5 ∨ e.kind = 6 ∨ e.kind = 7 ∨ e.kind = 8 ∨ e.kind = 9 ∨ e.kind = 10 ∨ 11 ≤ e.kind by omega) with k | k | k | k | k | k | k | k | k | k | k | k
  · rw [u_0 k]; exact ⟨rfl, rfl, rfl, rfl, rfl, rfl⟩
  · rw [u_1 k]; exact ⟨rfl, rfl, rfl, rfl, rfl, rfl⟩
  · rw [u_2 k]; exact ⟨rfl, rfl, rfl, rfl, rfl, rfl⟩
  · rw [u_3 k]; exact ⟨rfl, rfl, rfl, rfl, rfl, rfl⟩
  · rw [u_4 k]; exact ⟨rfl, rfl, rfl, rfl, rfl, rfl⟩
  · rw [u_5 k]; exact ⟨rfl, rfl, rfl, rfl, rfl, rfl⟩
  · rw [u_6 k]; exact ⟨rfl, rfl, rfl, rfl, rfl, rfl⟩
  · rw [u_7 k]; exact ⟨rfl, rfl, rfl, rfl, rfl, rfl⟩
  · rw [u_8 k]; exact ⟨rfl, rfl, rfl, rfl, rfl, rfl⟩
  · rw [u_9 k]; exact ⟨rfl, rfl, rfl, rfl, rfl, rfl⟩
  · rw [u_10 k]; exact ⟨rfl, rfl, rfl, rfl, rfl, rfl⟩
  · rw [u_x k]; exact ⟨rfl, rfl, rfl, rfl, rfl, rfl⟩
theorem undoE_ref (V : EV) (e : EEnt) : (undoE V e).ref = if e.kind = 6 then e.n else V.ref := by
  rcases (show e.kind = 0 ∨ e.kind = 1 ∨ e.kind = 2 ∨ e.kind = 3 ∨ e.kind = 4 ∨ e.kind = 5 ∨ e.kind = 6 ∨ e.kind = 7 ∨ e.kind = 8 ∨ e.kind = 9 ∨ e.kind = 10 ∨ 11 ≤ e.kind by omega) with k | k | k | k | k | k | k | k | k | k | k | k
  · rw [u_0 k, if_neg (by omega)]
  · rw [u_1 k, if_neg (by omega)]
  · rw [u_2 k, if_neg (by omega)]
  · rw [u_3 k, if_neg (by omega)]
  · rw [u_4 k, if_neg (by omega)]
  · rw [u_5 k, if_neg (by omega)]
  · rw [u_6 k, if_pos k]
  · rw [u_7 k, if_neg (by omega)]
  · rw [u_8 k, if_neg (by omega)]
  · rw [u_9 k, if_neg (by omega)]
  · rw [u_10 k, if_neg (by omega)]
  · rw [u_x k, if_neg (by omega)]
theorem undoE_logs (V : EV) (e : EEnt) : (undoE V e).logs = if e.kind = 7 then V.logs.dropLast else V.logs := by
  rcases (show e.kind = 0 ∨ e.kind = 1 ∨ e.kind = 2 ∨ e.kind = 3 ∨ e.kind = 4 ∨ e.kind = 5 ∨ e.kind = 6 ∨ e.kind = 7 ∨ e.kind = 8 ∨ e.kind = 9 ∨ e.kind = 10 ∨ 11 ≤ e.kind by omega) with k | k | k | k | k | k | k | k | k | k | k | k
  · rw [u_0 k, if_neg (by omega)]
  · rw [u_1 k, if_neg (by omega)]
  · rw [u_2 k, if_neg (by omega)]
  · rw [u_3 k, if_neg (by omega)]
  · rw [u_4 k, if_neg (by omega)]
  · rw [u_5 k, if_neg (by omega)]
  · rw [u_6 k, if_neg (by omega)]
  · rw [u_7 k, if_pos k]
  · rw [u_8 k, if_neg (by omega)]
  · rw [u_9 k, if_neg (by omega)]
  · rw [u_10 k, if_neg (by omega)]
  · rw [u_x k, if_neg (by omega)]
def oKs (l : List ESlot) : List Nat := l.map (fun x => x.orig)
theorem undoE_orig (V : EV) (e : EEnt) : oKs (undoE V e).slots = oKs V.slots := by
  rcases (show e.kind = 0 ∨ e.kind = 1 ∨ e.kind = 2 ∨ e.kind = 3 ∨ e.kind = 4 ∨ e.kind = 5 ∨ e.kind = 6 ∨ e.kind = 7 ∨ e.kind = 8 ∨ e.kind = 9 ∨ e.kind = 10 ∨ 11 ≤ e.kind by omega) with k | k | k | k | k | k | k | k | k | k | k | k
  · rw [u_0 k]
  · rw [u_1 k]
  · rw [u_2 k]
  · rw [u_3 k]; exact mod_map (fun _ => rfl)
  · rw [u_4 k]
  · rw [u_5 k]; exact mod_map (fun _ => rfl)
  · rw [u_6 k]
  · rw [u_7 k]
  · rw [u_8 k]
  · rw [u_9 k]
  · rw [u_10 k]
  · rw [u_x k]
theorem og_eq {V V' : EV} (h : SameLen V V') (ho : oKs V'.slots = oKs V.slots) : ogV V' = ogV V := by
  funext a k
  unfold ogV sx
  rw [h.ai, h.si]
  have e : ∀ (l : List ESlot) (i : Nat), ((l[i]?).getD (blankS 0 k)).orig = ((oKs l)[i]?).getD 0 := fun l i => by
    unfold oKs
    rw [List.getElem?_map]
    cases l[i]? with
    | none => simp [blankS]
    | some x => simp
  rw [e, e, ho]
/-- the last entry is undone -/
def unV (V : EV) (e : EEnt) : EV := { undoE V e with journal := V.journal.take (V.journal.length - 1) }
theorem take_last {α : Type} {l : List α} {e : α} (h : l[l.length - 1]? = some e) : l = l.take (l.length - 1) ++ [e] := by
  have hlt := (List.getElem?_eq_some_iff.1 h).1
  have := List.take_append_drop (l.length - 1) l
  rw [List.drop_eq_getElem_cons hlt] at this
  have h2 := (List.getElem?_eq_some_iff.1 h).2
  rw [h2, List.drop_eq_nil_of_le (by omega)] at this
  exact this.symm
theorem VOk.un {V : EV} {e : EEnt} (h : VOk V) (he : V.journal[V.journal.length - 1]? = some e) (hn : e.n < 18446744073709551616) : VOk (unV V e) := by
  obtain ⟨k1, k2, k3, k4, k5, k6⟩ := undoE_keep V e
  have sl := undoE_len V e
  have hlt := (List.getElem?_eq_some_iff.1 he).1
  have hl := take_last he
  have hjl := h.jl
  rw [hl, List.filter_append, List.length_append] at hjl
  refine h.data (V' := unV V e) ⟨sl.a, sl.s, sl.t⟩ ⟨by show (undoE V e).accts.length ≤ _; rw [sl.al]; exact h.bd.accts, by show (undoE V e).slots.length ≤ _; rw [sl.sl]; exact h.bd.slots, by show (V.journal.take _).length ≤ _; rw [List.length_take]; have := h.bd.journal; omega, by show (undoE V e).marks.length ≤ _; rw [k2]; exact h.bd.marks, by show ∀ m ∈ (undoE V e).marks, _; rw [k2]; exact h.bd.mkb, ?_, ?_, by show (undoE V e).temps.length ≤ _; rw [sl.tl]; exact h.bd.temps⟩ k3 k4 k5 k6 (fun e' he' => h.jr e' (List.mem_of_mem_take he')) ?_
  · show (undoE V e).ref < _
    rw [undoE_ref]
    split
    · exact hn
    · exact h.bd.ref
  · show (undoE V e).logs.length ≤ _
    rw [undoE_logs]
    have := h.bd.logs
    split
    · rw [List.length_dropLast]; omega
    · exact this
  · show (List.filter _ (V.journal.take _)).length ≤ (undoE V e).logs.length
    rw [undoE_logs]
    split
    · rename_i k
      rw [List.length_dropLast]
      have e1 : (List.filter (fun e => e.kind == 7) [e]).length = 1 := by simp [k]
      omega
    · omega
theorem undoL_app (a b : List EEnt) (V : EV) : undoL (a ++ b) V = undoL b (undoL a V) := by
  induction a generalizing V with
  | nil => rfl
  | cons e a ih => exact ih _
/-- Vk is V with all entries from j on undone -/
structure UnR (V Vk : EV) (j : Nat) : Prop where
  le : j ≤ V.journal.length
  jj : Vk.journal = V.journal.take j
  a : Vk.accts = (undoL (V.journal.drop j).reverse V).accts
  s : Vk.slots = (undoL (V.journal.drop j).reverse V).slots
  t : Vk.temps = (undoL (V.journal.drop j).reverse V).temps
  r : Vk.ref = (undoL (V.journal.drop j).reverse V).ref
  l : Vk.logs = (undoL (V.journal.drop j).reverse V).logs
theorem UnR.refl {V V' : EV} (h : V' = { V with marks := V'.marks }) : UnR V V' V.journal.length := by
  rw [h]
  refine ⟨Nat.le_refl _, by simp, ?_, ?_, ?_, ?_, ?_⟩ <;> (rw [List.drop_length]; rfl)
theorem undoE_data {V V' : EV} {e : EEnt} (h1 : V'.accts = V.accts) (h2 : V'.slots = V.slots) (h3 : V'.temps = V.temps) (h4 : V'.ref = V.ref) (h5 : V'.logs = V.logs) : (undoE V' e).accts = (undoE V e).accts ∧ (undoE V' e).slots = (undoE V e).slots ∧ (undoE V' e).temps = (undoE V e).temps ∧ (undoE V' e).ref = (undoE V e).ref ∧ (undoE V' e).logs = (undoE V e).logs := by
  rcases (show e.kind = 0 ∨ e.kind = 1 ∨ e.kind = 2 ∨ e.kind = 3 ∨ e.kind = 4 ∨ e.kind = 5 ∨ e.kind = 6 ∨ e.kind = 7 ∨ e.kind = 8 ∨ e.kind = 9 ∨ e.kind = 10 ∨ 11 ≤ e.kind by omega) with k | k | k | k | k | k | k | k | k | k | k | k
  · rw [u_0 k, u_0 k]; exact ⟨by simp only [h1], h2, h3, h4, h5⟩
  · rw [u_1 k, u_1 k]; exact ⟨by simp only [h1], h2, h3, h4, h5⟩
  · rw [u_2 k, u_2 k]; exact ⟨by simp only [h1], h2, h3, h4, h5⟩
  · rw [u_3 k, u_3 k]; exact ⟨h1, by simp only [h2], h3, h4, h5⟩
  · rw [u_4 k, u_4 k]; exact ⟨by simp only [h1], h2, h3, h4, h5⟩
  · rw [u_5 k, u_5 k]; exact ⟨h1, by simp only [h2], h3, h4, h5⟩
  · rw [u_6 k, u_6 k]; exact ⟨h1, h2, h3, rfl, h5⟩
  · rw [u_7 k, u_7 k]; exact ⟨h1, h2, h3, h4, by simp only [h5]⟩
  · rw [u_8 k, u_8 k]; exact ⟨h1, h2, by simp only [h3], h4, h5⟩
  · rw [u_9 k, u_9 k]; exact ⟨by simp only [h1], h2, h3, h4, h5⟩
  · rw [u_10 k, u_10 k]; exact ⟨by simp only [h1], h2, h3, h4, h5⟩
  · rw [u_x k, u_x k]; exact ⟨h1, h2, h3, h4, h5⟩
theorem UnR.step {V Vk : EV} {j : Nat} {e : EEnt} (h : UnR V Vk j) (hj : 0 < j) (he : Vk.journal[Vk.journal.length - 1]? = some e) : UnR V (unV Vk e) (j - 1) := by
  have hlen : Vk.journal.length = j := by rw [h.jj, List.length_take]; have := h.le; omega
  have he2 : V.journal[j - 1]? = some e := by
    rw [hlen, h.jj, List.getElem?_take, if_pos (by omega)] at he
    exact he
  have hd : V.journal.drop (j - 1) = e :: V.journal.drop j := by
    have hlt := (List.getElem?_eq_some_iff.1 he2).1
    rw [List.drop_eq_getElem_cons hlt, (List.getElem?_eq_some_iff.1 he2).2, show j - 1 + 1 = j by omega]
  have hu : undoL (V.journal.drop (j - 1)).reverse V = undoE (undoL (V.journal.drop j).reverse V) e := by
    rw [hd, List.reverse_cons, undoL_app]
    rfl
  obtain ⟨e1, e2, e3, e4, e5⟩ := undoE_data (e := e) h.a h.s h.t h.r h.l
  refine ⟨by have := h.le; omega, ?_, ?_, ?_, ?_, ?_, ?_⟩
  · show Vk.journal.take _ = _
    rw [hlen, h.jj, List.take_take]
    congr 1
    omega
  · rw [hu]; exact e1
  · rw [hu]; exact e2
  · rw [hu]; exact e3
  · rw [hu]; exact e4
  · rw [hu]; exact e5
theorem abs_data {V V' : EV} (h1 : V'.accts = V.accts) (h2 : V'.slots = V.slots) (h3 : V'.temps = V.temps) (h4 : V'.ref = V.ref) (h5 : V'.logs = V.logs) : absV V' = absV V := undoL_data [] h1 h2 h3 h4 h5
theorem undoL_orig : ∀ (es : List EEnt) (V : EV), oKs (undoL es V).slots = oKs V.slots
  | [], _ => rfl
  | e :: es, V => (undoL_orig es _).trans (undoE_orig V e)
theorem UnR.va {V Vk : EV} {A : AW} {sv : List AW} {og : Nat → Nat → Nat} {id m : Nat} {l : List Nat} (h : UnR V Vk m) (hv : VA V A sv og) (hm : V.marks[id]? = some m) (hl : Vk.marks = l) : ∃ A', sv[id]? = some A' ∧ VA { Vk with marks := V.marks.take id } A' (sv.take id) og := by
  obtain ⟨h1, h2⟩ := hv.mr id m hm
  have sl := undoL_len (V.journal.drop m).reverse V
  refine ⟨_, h2, abs_data h.a h.s h.t h.r h.l, ?_, by show (sv.take id).length = (V.marks.take id).length; rw [List.length_take, List.length_take, hv.len], fun i q hi => ?_, fun i j q r hij hi hj => ?_⟩
  · rw [← hv.og]
    refine og_eq ⟨?_, ?_, ?_⟩ ?_
    · show aKs Vk.accts = _; rw [h.a]; exact sl.a
    · show sKs Vk.slots = _; rw [h.s]; exact sl.s
    · show tKs Vk.temps = _; rw [h.t]; exact sl.t
    · show oKs Vk.slots = _; rw [h.s]; exact undoL_orig _ _
  · have hi : (V.marks.take id)[i]? = some q := hi
    rw [List.getElem?_take] at hi
    split at hi
    · rename_i hlt
      obtain ⟨h3, h4⟩ := hv.mr i q hi
      have hq : q ≤ m := hv.mono i id q m (by omega) hi hm
      refine ⟨by show q ≤ Vk.journal.length; rw [h.jj, List.length_take]; omega, ?_⟩
      rw [List.getElem?_take, if_pos hlt, h4]
      congr 1
      unfold sva
      show absV _ = absV (undoL (Vk.journal.drop q).reverse { Vk with marks := V.marks.take id })
      have e1 : V.journal.drop q = Vk.journal.drop q ++ V.journal.drop m := by
        rw [h.jj, ← List.drop_append_of_le_length (by rw [List.length_take]; omega), List.take_append_drop]
      rw [e1, List.reverse_append, undoL_app]
      exact (undoL_data _ (V := undoL (V.journal.drop m).reverse V) (V' := { Vk with marks := V.marks.take id }) h.a h.s h.t h.r h.l).symm
    · cases hi
  · have hi : (V.marks.take id)[i]? = some q := hi
    have hj : (V.marks.take id)[j]? = some r := hj
    rw [List.getElem?_take] at hi hj
    split at hi
    · split at hj
      · exact hv.mono i j q r hij hi hj
      · cases hj
    · cases hi
end Go.Proofs.YgvaawGreat
