import Derived.Test.YgvaawGreatP1
set_option maxRecDepth 100000
set_option linter.unusedSimpArgs false
set_option linter.unusedVariables false
namespace Go.Proofs.YgvaawGreat
open Go
/-! The refund against the slots that are cleared; a world's invariant. -/
def slF (l : List YAcct) (a k : Nat) : Nat := slotAt (acctAt l a).slots k
def clr (st : List (Nat × Nat × Nat)) (l : List YAcct) : Nat := (st.filter (fun t => decide (slF l t.1 t.2.1 = 0))).length
theorem clr_same {st : List (Nat × Nat × Nat)} {l l' : List YAcct} (h : ∀ a k, slF l' a k = slF l a k) : clr st l' = clr st l := by
  unfold clr
  congr 2
  funext t
  rw [h]
theorem tri_cons (y : Nat × Nat × Nat) (l : List (Nat × Nat × Nat)) (a k : Nat) : triAt (y :: l) a k = if y.1 = a ∧ y.2.1 = k then y.2.2 else triAt l a k := by
  unfold triAt
  rw [List.find?_cons]
  by_cases h : y.1 = a ∧ y.2.1 = k
  · rw [if_pos h, show (y.1 == a && y.2.1 == k) = true from by simp [h.1, h.2]]; rfl
  · rw [if_neg h, show (y.1 == a && y.2.1 == k) = false from by
      cases hh : (y.1 == a && y.2.1 == k)
      · rfl
      · simp at hh; exact absurd hh h]
theorem tri_none {l : List (Nat × Nat × Nat)} {a k : Nat} (h : ∀ y ∈ l, ¬ (y.1 = a ∧ y.2.1 = k)) : triAt l a k = 0 := by
  unfold triAt
  rw [List.find?_eq_none.2 (fun x hx => by simp; exact fun e1 e2 => h x hx ⟨e1, e2⟩)]
  rfl
theorem fil_len {α : Type} {p q : α → Bool} : ∀ l : List α, (∀ x ∈ l, p x = q x) → (l.filter p).length = (l.filter q).length
  | [], _ => rfl
  | y :: l, h => by
    rw [List.filter_cons, List.filter_cons, h y (List.mem_cons_self ..)]
    have := fil_len l (fun x hx => h x (List.mem_cons_of_mem _ hx))
    split
    · rw [List.length_cons, List.length_cons, this]
    · exact this
theorem clr_set {l l' : List YAcct} {a k v n : Nat} (hv : slF l a k = v) (h : ∀ b q, slF l' b q = if b = a ∧ q = k then n else slF l b q) : ∀ st : List (Nat × Nat × Nat), st.Pairwise Lt3 → (∀ x ∈ st, x.2.2 ≠ 0) → clr st l' + (if triAt st a k ≠ 0 ∧ v = 0 then 1 else 0) = clr st l + (if triAt st a k ≠ 0 ∧ n = 0 then 1 else 0)
  | [], _, _ => by
    have e : triAt [] a k = 0 := rfl
    rw [e]
    simp [clr]
  | y :: st, hp, hz => by
    obtain ⟨ha, hb⟩ := List.pairwise_cons.1 hp
    have ih := clr_set hv h st hb (fun x hx => hz x (List.mem_cons_of_mem _ hx))
    rw [tri_cons]
    unfold clr at ih ⊢
    rw [List.filter_cons, List.filter_cons, h]
    by_cases e : y.1 = a ∧ y.2.1 = k
    · rw [if_pos e, if_pos e]
      have hy : y.2.2 ≠ 0 := hz y (List.mem_cons_self ..)
      have hn : triAt st a k = 0 := tri_none (fun z hz9 h9 => by have := ha z hz9; unfold Lt3 at this; omega)
      rw [hn] at ih
      rw [e.1, e.2, hv]
      simp only [ne_eq, hy, not_false_eq_true, true_and]
      simp only [ne_eq, not_true_eq_false, false_and, if_false] at ih
      by_cases e1 : v = 0 <;> by_cases e2 : n = 0 <;> simp only [e1, e2, decide_true, decide_false, if_true, if_false, List.length_cons, Bool.false_eq_true] <;> omega
    · rw [if_neg e, if_neg e]
      by_cases e1 : slF l y.1 y.2.1 = 0
      · simp only [e1, decide_true, if_true, List.length_cons]
        omega
      · simp only [e1, decide_false, Bool.false_eq_true, if_false]
        omega
structure WI (st : List (Nat × Nat × Nat)) (hold : Nat) (W : YWorld) : Prop where
  wf : WF W
  sum : sumB W.accts + hold < W256
  ref : 4800 * clr st W.accts ≤ W.refund
section
variable {st : List (Nat × Nat × Nat)} {hold : Nat} {W : YWorld}
theorem WI.warmA (h : WI st hold W) (a : Nat) : WI st hold { W with warmA := withA W.warmA a } := ⟨{ h.wf with warmA := withA_rise h.wf.warmA a }, h.sum, h.ref⟩
theorem WI.made (h : WI st hold W) (a : Nat) : WI st hold { W with made := withA W.made a } := ⟨{ h.wf with made := withA_rise h.wf.made a }, h.sum, h.ref⟩
theorem WI.gone (h : WI st hold W) (a : Nat) : WI st hold { W with gone := withA W.gone a } := ⟨{ h.wf with gone := withA_rise h.wf.gone a }, h.sum, h.ref⟩
theorem WI.warmS (h : WI st hold W) (a k : Nat) : WI st hold { W with warmS := withM W.warmS a k } := ⟨{ h.wf with warmS := withM_rise h.wf.warmS a k }, h.sum, h.ref⟩
theorem WI.temps (h : WI st hold W) (a k v : Nat) : WI st hold { W with temps := putT W.temps a k v } := ⟨{ h.wf with temps := putT_rise h.wf.temps a k v, tnz := putT_nz h.wf.tnz a k v }, h.sum, h.ref⟩
theorem WI.log (h : WI st hold W) (x : YLog) (hx : x.topics.length ≤ 4 ∧ x.data.length ≤ 1048576) : WI st hold { W with logs := W.logs ++ [x] } := ⟨{ h.wf with logs := fun y hy => (List.mem_append.1 hy).elim (fun h1 => h.wf.logs y h1) (fun h1 => by rw [List.mem_singleton.1 h1]; exact hx) }, h.sum, h.ref⟩
theorem WI.accts (h : WI st hold W) {l : List YAcct} (ho : AlOk l) (hs : sumB l ≤ sumB W.accts) (hc : ∀ a k, slF l a k = slF W.accts a k) : WI st hold { W with accts := l } := ⟨{ h.wf with accts := ho }, by have := h.sum; show sumB l + hold < W256; omega, by show 4800 * clr st l ≤ W.refund; rw [clr_same hc]; exact h.ref⟩
theorem slF_put {l : List YAcct} {A : YAcct} (hA : A.slots = (acctAt l A.addr).slots) (a k : Nat) : slF (putA l A) a k = slF l a k := by
  unfold slF
  rw [acct_put]
  by_cases e : a = A.addr
  · rw [if_pos e, hA, e]
  · rw [if_neg e]
theorem slF_bal (l : List YAcct) (a n b k : Nat) : slF (putA l (setBal (acctAt l a) n)) b k = slF l b k := slF_put (by show (acctAt l a).slots = (acctAt l (acctAt l a).addr).slots; rw [acct_ad]) b k
theorem slF_non (l : List YAcct) (a n b k : Nat) : slF (putA l (setNon (acctAt l a) n)) b k = slF l b k := slF_put (by show (acctAt l a).slots = (acctAt l (acctAt l a).addr).slots; rw [acct_ad]) b k
theorem slF_code (l : List YAcct) (a : Nat) (c : List Nat) (b k : Nat) : slF (putA l (setCode (acctAt l a) c)) b k = slF l b k := slF_put (by show (acctAt l a).slots = (acctAt l (acctAt l a).addr).slots; rw [acct_ad]) b k
theorem slF_move (l : List YAcct) (a b v c k : Nat) : slF (moveA l a b v) c k = slF l c k := by
  unfold moveA
  split
  · rfl
  · unfold giveB takeB
    rw [slF_bal, slF_bal]
theorem WI.non (h : WI st hold W) (a n : Nat) : WI st hold { W with accts := putA W.accts (setNon (acctAt W.accts a) n) } :=
  h.accts (h.wf.accts.non a n) (Nat.le_of_eq (sum_same h.wf.accts (by show (acctAt W.accts a).bal = (acctAt W.accts (acctAt W.accts a).addr).bal; rw [acct_ad]))) (slF_non _ _ _)
theorem WI.code (h : WI st hold W) (a : Nat) (c : List Nat) : WI st hold { W with accts := putA W.accts (setCode (acctAt W.accts a) c) } :=
  h.accts (h.wf.accts.code a c) (Nat.le_of_eq (sum_same h.wf.accts (by show (acctAt W.accts a).bal = (acctAt W.accts (acctAt W.accts a).addr).bal; rw [acct_ad]))) (slF_code _ _ _)
theorem WI.move (h : WI st hold W) (a b v : Nat) : WI st hold { W with accts := moveA W.accts a b v } :=
  h.accts (h.wf.accts.move a b v) (Nat.le_of_eq (move_sum h.wf.accts a b v)) (slF_move _ _ _ _)
theorem slF_slots (l : List YAcct) (a k v b q : Nat) : slF (putA l (setSlots (acctAt l a) (putS (acctAt l a).slots k v))) b q = if b = a ∧ q = k then v else slF l b q := by
  unfold slF
  rw [acct_put]
  have e : (setSlots (acctAt l a) (putS (acctAt l a).slots k v)).addr = a := acct_ad l a
  rw [e]
  by_cases h : b = a
  · rw [if_pos h, h]
    show slotAt (putS (acctAt l a).slots k v) q = _
    rw [slot_put]
    by_cases hq : q = k
    · rw [if_pos hq, if_pos ⟨rfl, hq⟩]
    · rw [if_neg hq, if_neg (fun h9 => hq h9.2)]
  · rw [if_neg h, if_neg (fun h9 => h h9.1)]
theorem sto_ok {s : YSt} {f : YF} (hp : s.start.Pairwise Lt3) (hz : ∀ x ∈ s.start, x.2.2 ≠ 0) (h : WI s.start hold s.now) : stoOk s f = true := by
  unfold stoOk
  refine decide_eq_true ?_
  unfold sMinus
  split
  · exact Nat.zero_le _
  · unfold sM0
    split
    · rename_i hc
      have h1 := clr_set (l := s.now.accts) (l' := putA s.now.accts (setSlots (acctAt s.now.accts f.self) (putS (acctAt s.now.accts f.self).slots (yKey f) 1))) (a := f.self) (k := yKey f) (v := yVal s f) (n := 1) rfl (slF_slots _ _ _ _) s.start hp hz
      have e : triAt s.start f.self (yKey f) = yOrig s f := rfl
      rw [e, if_pos ⟨hc.1, hc.2⟩, if_neg (fun h9 => absurd h9.2 (by decide))] at h1
      have := h.ref
      omega
    · exact Nat.zero_le _
theorem sto_arith {o v n c1 c r : Nat} (h1 : c1 + (if o ≠ 0 ∧ v = 0 then 1 else 0) = c + (if o ≠ 0 ∧ n = 0 then 1 else 0)) (hr : 4800 * c ≤ r) (ho : sMinus o v n ≤ r) : 4800 * c1 ≤ r - sMinus o v n + sPlus o v n := by
  unfold sMinus sM0 at ho ⊢
  unfold sPlus sP0
  by_cases e1 : n = v
  · subst e1
    rw [if_pos (.inl rfl), if_pos rfl]
    omega
  · by_cases e2 : v = o
    · subst e2
      rw [if_neg (fun h => h.1 h.2)] at h1
      rw [if_pos (.inr rfl), if_neg e1, if_pos rfl]
      by_cases q : v ≠ 0 ∧ n = 0
      · rw [if_pos q] at h1 ⊢
        omega
      · rw [if_neg q] at h1 ⊢
        omega
    · have e3 : ¬ (n = v ∨ v = o) := fun h => h.elim e1 e2
      rw [if_neg e3] at ho ⊢
      rw [if_neg e1, if_neg e2]
      by_cases p1 : o ≠ 0 ∧ v = 0
      · have z2 : n ≠ 0 := fun h => e1 (by rw [h, p1.2])
        rw [if_pos p1, if_neg (fun h => z2 h.2)] at h1
        rw [if_pos p1] at ho ⊢
        omega
      · rw [if_neg p1] at h1 ⊢
        by_cases p2 : o ≠ 0 ∧ n = 0
        · have z1 : v ≠ 0 := fun h => p1 ⟨p2.1, h⟩
          rw [if_pos p2] at h1
          rw [if_pos (show o ≠ 0 ∧ v ≠ 0 ∧ n = 0 from ⟨p2.1, z1, p2.2⟩)]
          omega
        · rw [if_neg p2] at h1
          omega
theorem WI.sto {s : YSt} {f : YF} (hp : s.start.Pairwise Lt3) (hz : ∀ x ∈ s.start, x.2.2 ≠ 0) (h : WI s.start hold s.now) {k v : Nat} (hk : k = yKey f) (hv : v = argN f.stack 1) : WI s.start hold (stoN s f k v).now := by
  subst hk
  subst hv
  have ho := sto_ok (f := f) hp hz h
  have ho : sMinus (yOrig s f) (yVal s f) (argN f.stack 1) ≤ s.now.refund := of_decide_eq_true ho
  have h1 := clr_set (l := s.now.accts) (l' := putA s.now.accts (setSlots (acctAt s.now.accts f.self) (putS (acctAt s.now.accts f.self).slots (yKey f) (argN f.stack 1)))) (a := f.self) (k := yKey f) (v := yVal s f) (n := argN f.stack 1) rfl (slF_slots _ _ _ _) s.start hp hz
  have e : triAt s.start f.self (yKey f) = yOrig s f := rfl
  rw [e] at h1
  have hr := h.ref
  have hsum := sum_same h.wf.accts (A := setSlots (acctAt s.now.accts f.self) (putS (acctAt s.now.accts f.self).slots (yKey f) (argN f.stack 1))) (by show (acctAt s.now.accts f.self).bal = (acctAt s.now.accts (acctAt s.now.accts f.self).addr).bal; rw [acct_ad])
  refine ⟨{ h.wf with warmS := withM_rise h.wf.warmS _ _, accts := h.wf.accts.slots _ _ _ }, ?_, ?_⟩
  · show sumB (putA s.now.accts _) + hold < W256
    rw [hsum]
    exact h.sum
  · show 4800 * clr s.start (putA s.now.accts _) ≤ s.now.refund - _ + _
    exact sto_arith h1 hr ho
end
end Go.Proofs.YgvaawGreat
