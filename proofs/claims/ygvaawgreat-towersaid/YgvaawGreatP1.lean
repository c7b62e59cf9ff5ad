import Derived.Test.YgvaawGreatW1
set_option maxRecDepth 100000
set_option linter.unusedSimpArgs false
set_option linter.unusedVariables false
namespace Go.Proofs.YgvaawGreat
open Go
/-! Plain laws of the specification's lists: rising, no zero, sums. -/
theorem putN_eq {α : Type} {same lt : α → Bool} : ∀ l : List α, putP same lt none l = l.filter (fun y => !same y)
  | [] => rfl
  | y :: l => by
    rw [putP, putN_eq l, List.filter_cons]
    cases same y <;> rfl
theorem put_mem {α : Type} {same lt : α → Bool} {z : α} : ∀ (x : Option α) (l : List α), z ∈ putP same lt x l → x = some z ∨ z ∈ l
  | none, l => fun h => by
    rw [putN_eq] at h
    exact .inr (List.mem_filter.1 h).1
  | some n, [] => fun h => by
    have h : z ∈ (some n : Option α).toList := h
    simp at h
    exact .inl (by rw [h])
  | some n, y :: l => fun h => by
    rw [putP] at h
    by_cases hc : (same y || lt y) = true
    · rw [if_pos hc] at h
      rcases List.mem_cons.1 h with h | h
      · exact .inl (by rw [h])
      · by_cases hs : same y = true
        · rw [if_pos hs, putN_eq] at h
          exact .inr (List.mem_cons_of_mem _ (List.mem_filter.1 h).1)
        · rw [if_neg hs, putN_eq] at h
          rcases List.mem_cons.1 h with h | h
          · exact .inr (by rw [h]; exact List.mem_cons_self ..)
          · exact .inr (List.mem_cons_of_mem _ (List.mem_filter.1 h).1)
    · rw [if_neg hc] at h
      rcases List.mem_cons.1 h with h | h
      · exact .inr (by rw [h]; exact List.mem_cons_self ..)
      · rcases put_mem (some n) l h with h | h
        · exact .inl h
        · exact .inr (List.mem_cons_of_mem _ h)
theorem put_sorted {α : Type} {R : α → α → Prop} {same lt : α → Bool} (tr : ∀ a b c, R a b → R b c → R a c) {n : α} (h1 : ∀ y, same y = false → lt y = false → R y n) (h2 : ∀ y, lt y = true → R n y) (h3 : ∀ y z, same y = true → R y z → R n z) : ∀ l : List α, l.Pairwise R → (putP same lt (some n) l).Pairwise R
  | [], _ => by
    show ((some n : Option α).toList).Pairwise R
    simp
  | y :: l, h => by
    obtain ⟨ha, hb⟩ := List.pairwise_cons.1 h
    rw [putP]
    by_cases hc : (same y || lt y) = true
    · rw [if_pos hc]
      by_cases hs : same y = true
      · rw [if_pos hs, putN_eq]
        refine List.pairwise_cons.2 ⟨fun z hz => h3 y z hs (ha z (List.mem_filter.1 hz).1), hb.filter _⟩
      · rw [if_neg hs, putN_eq]
        have hl : lt y = true := by cases hh : same y <;> simp_all
        refine List.pairwise_cons.2 ⟨fun z hz => ?_, List.pairwise_cons.2 ⟨fun z hz => ha z (List.mem_filter.1 hz).1, hb.filter _⟩⟩
        rcases List.mem_cons.1 hz with hz | hz
        · rw [hz]; exact h2 y hl
        · exact tr _ _ _ (h2 y hl) (ha z (List.mem_filter.1 hz).1)
    · rw [if_neg hc]
      have hs : same y = false ∧ lt y = false := by cases hh : same y <;> cases hg : lt y <;> simp_all
      refine List.pairwise_cons.2 ⟨fun z hz => ?_, put_sorted tr h1 h2 h3 l hb⟩
      rcases put_mem _ _ hz with hz | hz
      · cases hz
        exact h1 y hs.1 hs.2
      · exact ha z hz
theorem put_sortedO {α : Type} {R : α → α → Prop} {same lt : α → Bool} (tr : ∀ a b c, R a b → R b c → R a c) (x : Option α) (h : ∀ n, x = some n → (∀ y, same y = false → lt y = false → R y n) ∧ (∀ y, lt y = true → R n y) ∧ ∀ y z, same y = true → R y z → R n z) (l : List α) (hl : l.Pairwise R) : (putP same lt x l).Pairwise R := by
  cases x with
  | none => rw [putN_eq]; exact hl.filter _
  | some n => exact put_sorted tr (h n rfl).1 (h n rfl).2.1 (h n rfl).2.2 l hl
/-- rising pairs -/
def Lx (x y : Nat × Nat) : Prop := x.1 < y.1 ∨ (x.1 = y.1 ∧ x.2 < y.2)
def Lt3 (x y : Nat × Nat × Nat) : Prop := x.1 < y.1 ∨ (x.1 = y.1 ∧ x.2.1 < y.2.1)
def Ls (x y : Nat × Nat) : Prop := x.1 < y.1
def La (x y : YAcct) : Prop := x.addr < y.addr
structure SlOk (l : List (Nat × Nat)) : Prop where
  rise : l.Pairwise Ls
  nz : ∀ x ∈ l, x.2 ≠ 0
structure AlOk (l : List YAcct) : Prop where
  rise : l.Pairwise La
  nz : ∀ A ∈ l, emptyS A = false
  sl : ∀ A ∈ l, SlOk A.slots
structure WF (W : YWorld) : Prop where
  accts : AlOk W.accts
  warmA : W.warmA.Pairwise (· < ·)
  warmS : W.warmS.Pairwise Lx
  temps : W.temps.Pairwise Lt3
  tnz : ∀ x ∈ W.temps, x.2.2 ≠ 0
  made : W.made.Pairwise (· < ·)
  gone : W.gone.Pairwise (· < ·)
  logs : ∀ x ∈ W.logs, x.topics.length ≤ 4 ∧ x.data.length ≤ 1048576
theorem SlOk.nil : SlOk [] := ⟨.nil, fun _ h => by cases h⟩
theorem SlOk.put {l : List (Nat × Nat)} (h : SlOk l) (k v : Nat) : SlOk (putS l k v) := by
  unfold putS
  refine ⟨put_sortedO (R := Ls) (fun a b c h1 h2 => Nat.lt_trans h1 h2) _ (fun n hn => ?_) l h.rise, fun x hx => ?_⟩
  · by_cases hv : v = 0
    · rw [if_pos (by simp [hv])] at hn; cases hn
    · rw [if_neg (by simp [hv])] at hn
      cases hn
      refine ⟨fun y h1 h2 => ?_, fun y h1 => ?_, fun y z h1 h2 => ?_⟩
      · have h1 : ¬ y.1 = k := by simpa using h1
        have h2 : ¬ k < y.1 := of_decide_eq_false h2
        show y.1 < k
        omega
      · exact (show k < y.1 from of_decide_eq_true h1)
      · have h1 : y.1 = k := by simpa using h1
        have h2 : y.1 < z.1 := h2
        show k < z.1
        omega
  · rcases put_mem _ _ hx with h1 | h1
    · by_cases hv : v = 0
      · rw [if_pos (by simp [hv])] at h1; cases h1
      · rw [if_neg (by simp [hv])] at h1
        cases h1
        exact hv
    · exact h.nz x h1
theorem AlOk.put {l : List YAcct} (h : AlOk l) {A : YAcct} (hA : SlOk A.slots) : AlOk (putA l A) := by
  unfold putA
  refine ⟨put_sortedO (R := La) (fun a b c h1 h2 => Nat.lt_trans h1 h2) _ (fun n hn => ?_) l h.rise, fun x hx => ?_, fun x hx => ?_⟩
  · by_cases hv : emptyS A = true
    · rw [if_pos hv] at hn; cases hn
    · rw [if_neg hv] at hn
      cases hn
      refine ⟨fun y h1 h2 => ?_, fun y h1 => ?_, fun y z h1 h2 => ?_⟩
      · have h1 : ¬ y.addr = A.addr := by simpa using h1
        have h2 : ¬ A.addr < y.addr := of_decide_eq_false h2
        show y.addr < A.addr
        omega
      · exact (show A.addr < y.addr from of_decide_eq_true h1)
      · have h1 : y.addr = A.addr := by simpa using h1
        have h2 : y.addr < z.addr := h2
        show A.addr < z.addr
        omega
  · rcases put_mem _ _ hx with h1 | h1
    · by_cases hv : emptyS A = true
      · rw [if_pos hv] at h1; cases h1
      · rw [if_neg hv] at h1
        cases h1
        cases hh : emptyS A
        · rfl
        · exact absurd hh hv
    · exact h.nz x h1
  · rcases put_mem _ _ hx with h1 | h1
    · by_cases hv : emptyS A = true
      · rw [if_pos hv] at h1; cases h1
      · rw [if_neg hv] at h1
        cases h1
        exact hA
    · exact h.sl x h1
theorem acct_mem {l : List YAcct} {a : Nat} : acctAt l a ∈ l ∨ acctAt l a = noAcct a := by
  unfold acctAt
  cases h : l.find? (fun x => x.addr == a) with
  | none => exact .inr rfl
  | some x => exact .inl (List.mem_of_find?_eq_some h)
theorem AlOk.at {l : List YAcct} (h : AlOk l) (a : Nat) : SlOk (acctAt l a).slots := by
  rcases acct_mem (l := l) (a := a) with h1 | h1
  · exact h.sl _ h1
  · rw [h1]; exact SlOk.nil
theorem ins_rise {a : Nat} : ∀ l : List Nat, a ∉ l → l.Pairwise (· < ·) → (insA a l).Pairwise (· < ·)
  | [], _, _ => by simp [insA]
  | x :: l, hn, h => by
    obtain ⟨ha, hb⟩ := List.pairwise_cons.1 h
    rw [insA]
    by_cases hx : a < x
    · rw [if_pos hx]
      refine List.pairwise_cons.2 ⟨fun z hz => ?_, h⟩
      rcases List.mem_cons.1 hz with hz | hz
      · omega
      · have := ha z hz; omega
    · rw [if_neg hx]
      refine List.pairwise_cons.2 ⟨fun z hz => ?_, ins_rise l (fun h9 => hn (List.mem_cons_of_mem _ h9)) hb⟩
      rcases (mem_ins _ _ l).1 hz with hz | hz
      · have : a ≠ x := fun e => hn (by rw [e]; exact List.mem_cons_self ..)
        omega
      · exact ha z hz
theorem withA_rise {l : List Nat} (h : l.Pairwise (· < ·)) (a : Nat) : (withA l a).Pairwise (· < ·) := by
  unfold withA
  by_cases hm : a ∈ l
  · rw [if_pos hm]; exact h
  · rw [if_neg hm]; exact ins_rise l hm h
theorem Lx.trans {a b c : Nat × Nat} (h1 : Lx a b) (h2 : Lx b c) : Lx a c := by unfold Lx at *; omega
theorem Lt3.trans {a b c : Nat × Nat × Nat} (h1 : Lt3 a b) (h2 : Lt3 b c) : Lt3 a c := by unfold Lt3 at *; omega
theorem insM_rise {a k : Nat} : ∀ l : List (Nat × Nat), (a, k) ∉ l → l.Pairwise Lx → (insM l a k).Pairwise Lx
  | [], _, _ => by show ((some (a, k) : Option (Nat × Nat)).toList).Pairwise Lx; simp
  | y :: l, hn, h => by
    obtain ⟨ha, hb⟩ := List.pairwise_cons.1 h
    have ih := insM_rise l (fun h9 => hn (List.mem_cons_of_mem _ h9)) hb
    unfold insM at ih ⊢
    rw [putP]
    by_cases hc : ltM a k y = true
    · rw [if_pos (by rw [hc]; rfl), if_neg (by decide), putN_eq]
      have hy : Lx (a, k) y := by
        unfold ltM at hc
        simp at hc
        unfold Lx
        simpa using hc
      have e : l.filter (fun _ => !false) = l := by simp
      rw [e]
      refine List.pairwise_cons.2 ⟨fun z hz => ?_, h⟩
      rcases List.mem_cons.1 hz with hz | hz
      · rw [hz]; exact hy
      · exact hy.trans (ha z hz)
    · rw [if_neg (by simp only [Bool.false_or]; exact hc)]
      refine List.pairwise_cons.2 ⟨fun z hz => ?_, ih⟩
      rcases put_mem _ _ hz with hz | hz
      · cases hz
        have hne : y ≠ (a, k) := fun e => hn (by rw [e]; exact List.mem_cons_self ..)
        obtain ⟨y1, y2⟩ := y
        unfold ltM at hc
        simp at hc
        unfold Lx
        simp only at *
        have : ¬ (y1 = a ∧ y2 = k) := fun ⟨e1, e2⟩ => hne (by rw [e1, e2])
        have h5 : a = y1 → ¬ k < y2 := fun e => by have := hc.2 e; omega
        have h6 := hc.1
        by_cases e : y1 = a
        · have := h5 e.symm
          omega
        · omega
      · exact ha z hz
theorem withM_rise {l : List (Nat × Nat)} (h : l.Pairwise Lx) (a k : Nat) : (withM l a k).Pairwise Lx := by
  unfold withM
  by_cases hm : (a, k) ∈ l
  · rw [if_pos hm]; exact h
  · rw [if_neg hm]; exact insM_rise l hm h
theorem putT_rise {l : List (Nat × Nat × Nat)} (h : l.Pairwise Lt3) (a k v : Nat) : (putT l a k v).Pairwise Lt3 := by
  unfold putT
  refine put_sortedO (R := Lt3) (fun a b c h1 h2 => h1.trans h2) _ (fun n hn => ?_) l h
  by_cases hv : v = 0
  · rw [if_pos (by simp [hv])] at hn; cases hn
  · rw [if_neg (by simp [hv])] at hn
    cases hn
    refine ⟨fun y h1 h2 => ?_, fun y h1 => ?_, fun y z h1 h2 => ?_⟩
    · unfold saT at h1
      unfold ltT at h2
      simp at h1 h2
      unfold Lt3
      simp only
      by_cases e : y.1 = a
      · have := h1 e
        have := h2.2 e.symm
        omega
      · have := h2.1
        omega
    · unfold ltT at h1
      simp at h1
      unfold Lt3
      simp only
      omega
    · unfold saT at h1
      simp at h1
      unfold Lt3 at *
      simp only
      omega
theorem putT_nz {l : List (Nat × Nat × Nat)} (h : ∀ x ∈ l, x.2.2 ≠ 0) (a k v : Nat) : ∀ x ∈ putT l a k v, x.2.2 ≠ 0 := by
  intro x hx
  unfold putT at hx
  rcases put_mem _ _ hx with h1 | h1
  · by_cases hv : v = 0
    · rw [if_pos (by simp [hv])] at h1; cases h1
    · rw [if_neg (by simp [hv])] at h1
      cases h1
      exact hv
  · exact h x h1
/-- what rises is found -/
theorem find_rise {l : List YAcct} (h : l.Pairwise La) {A : YAcct} (hA : A ∈ l) : acctAt l A.addr = A := by
  unfold acctAt
  induction l with
  | nil => cases hA
  | cons y l ih =>
    obtain ⟨ha, hb⟩ := List.pairwise_cons.1 h
    rw [List.find?_cons]
    rcases List.mem_cons.1 hA with e | e
    · rw [e]; simp
    · have : y.addr < A.addr := ha A e
      rw [show (y.addr == A.addr) = false from by simp; omega]
      exact ih hb e
theorem acct_none {l : List YAcct} {a : Nat} (h : ∀ A ∈ l, A.addr ≠ a) : acctAt l a = noAcct a := by
  unfold acctAt
  rw [List.find?_eq_none.2 (fun x hx => by simp; exact h x hx)]
  rfl
def sumB (l : List YAcct) : Nat := (l.map (·.bal)).sum
theorem sumB_cons (y : YAcct) (l : List YAcct) : sumB (y :: l) = y.bal + sumB l := by simp [sumB]
theorem acct_cons (y : YAcct) (l : List YAcct) (a : Nat) : acctAt (y :: l) a = if y.addr = a then y else acctAt l a := by
  unfold acctAt
  rw [List.find?_cons]
  by_cases h : y.addr = a
  · rw [if_pos h, show (y.addr == a) = true from by simp [h]]; rfl
  · rw [if_neg h, show (y.addr == a) = false from by simp [h]]
theorem sum_rm {a : Nat} : ∀ l : List YAcct, l.Pairwise La → sumB (l.filter (fun y => !(y.addr == a))) + (acctAt l a).bal = sumB l
  | [], _ => rfl
  | y :: l, h => by
    obtain ⟨ha, hb⟩ := List.pairwise_cons.1 h
    have ih := sum_rm (a := a) l hb
    rw [List.filter_cons, acct_cons]
    by_cases e : y.addr = a
    · rw [if_neg (by simp [e]), if_pos e]
      have hz : acctAt l a = noAcct a := acct_none (fun A hA => by have : y.addr < A.addr := ha A hA; omega)
      rw [hz] at ih
      have : (noAcct a).bal = 0 := rfl
      rw [sumB_cons]
      omega
    · rw [if_pos (by simp [e]), if_neg e, sumB_cons, sumB_cons]
      omega
theorem sum_in {n : YAcct} {lt : YAcct → Bool} : ∀ l : List YAcct, l.Pairwise La → sumB (putP (fun y => y.addr == n.addr) lt (some n) l) + (acctAt l n.addr).bal = sumB l + n.bal
  | [], _ => by
    show sumB ((some n : Option YAcct).toList) + 0 = 0 + n.bal
    simp [sumB]
  | y :: l, h => by
    obtain ⟨ha, hb⟩ := List.pairwise_cons.1 h
    have ih := sum_in (n := n) (lt := lt) l hb
    have hr := sum_rm (a := n.addr) l hb
    rw [putP]
    by_cases hc : ((y.addr == n.addr) || lt y) = true
    · rw [if_pos hc, sumB_cons]
      by_cases e : y.addr = n.addr
      · rw [if_pos (by simp [e]), putN_eq, acct_cons, if_pos e, sumB_cons]
        have hz : acctAt l n.addr = noAcct n.addr := acct_none (fun A hA => by have : y.addr < A.addr := ha A hA; omega)
        rw [hz] at hr
        have : (noAcct n.addr).bal = 0 := rfl
        omega
      · rw [if_neg (by simp [e]), putN_eq, acct_cons, if_neg e, sumB_cons, sumB_cons]
        omega
    · rw [if_neg hc, sumB_cons, sumB_cons, acct_cons]
      have e : ¬ y.addr = n.addr := fun e => hc (by simp [e])
      rw [if_neg e]
      omega
theorem sum_put {l : List YAcct} (h : l.Pairwise La) (A : YAcct) : sumB (putA l A) + (acctAt l A.addr).bal = sumB l + A.bal := by
  unfold putA
  by_cases he : emptyS A = true
  · rw [if_pos he, putN_eq, sum_rm l h]
    have : A.bal = 0 := by rw [empty_no he]; rfl
    omega
  · rw [if_neg he]
    exact sum_in l h
theorem sum_le {l : List YAcct} (h : l.Pairwise La) (a : Nat) : (acctAt l a).bal ≤ sumB l := by
  have := sum_rm (a := a) l h
  omega
theorem bal_two {l : List YAcct} (h : l.Pairwise La) {a b : Nat} (hab : a ≠ b) : (acctAt l a).bal + (acctAt l b).bal ≤ sumB l := by
  have h1 := sum_rm (a := a) l h
  have h2 := sum_le (h.filter (fun y => !(y.addr == a))) b
  have e : acctAt (l.filter (fun y => !(y.addr == a))) b = acctAt l b := by
    unfold acctAt
    congr 1
    have := @put_find_other YAcct (fun y => y.addr == a) (fun _ => false) (fun y => y.addr == b) none l (fun _ h => by cases h) (fun y hy => by simp at hy ⊢; omega)
    rw [putN_eq] at this
    exact this
  rw [e] at h2
  omega
theorem take_sum {l : List YAcct} (h : AlOk l) {a v : Nat} (hv : v ≤ (acctAt l a).bal) : sumB (takeB l a v) + v = sumB l := by
  have := sum_put h.rise (setBal (acctAt l a) ((acctAt l a).bal - v))
  have e : (setBal (acctAt l a) ((acctAt l a).bal - v)).addr = a := acct_ad l a
  rw [e] at this
  have e2 : (setBal (acctAt l a) ((acctAt l a).bal - v)).bal = (acctAt l a).bal - v := rfl
  unfold takeB
  omega
theorem give_sum {l : List YAcct} (h : AlOk l) {a v : Nat} : sumB (giveB l a v) = sumB l + v := by
  have := sum_put h.rise (setBal (acctAt l a) ((acctAt l a).bal + v))
  have e : (setBal (acctAt l a) ((acctAt l a).bal + v)).addr = a := acct_ad l a
  rw [e] at this
  have e2 : (setBal (acctAt l a) ((acctAt l a).bal + v)).bal = (acctAt l a).bal + v := rfl
  unfold giveB
  omega
theorem AlOk.take {l : List YAcct} (h : AlOk l) (a v : Nat) : AlOk (takeB l a v) := h.put (h.at a)
theorem AlOk.give {l : List YAcct} (h : AlOk l) (a v : Nat) : AlOk (giveB l a v) := h.put (h.at a)
theorem AlOk.move {l : List YAcct} (h : AlOk l) (a b v : Nat) : AlOk (moveA l a b v) := by
  unfold moveA
  split
  · exact h
  · exact (h.take a v).give b v
theorem move_sum {l : List YAcct} (h : AlOk l) (a b v : Nat) : sumB (moveA l a b v) = sumB l := by
  unfold moveA
  split
  · rfl
  · rename_i hc
    rw [give_sum (h.take a v)]
    exact take_sum h (by omega)
/-- the receiver's balance behind a move -/
theorem move_room {l : List YAcct} (h : AlOk l) {a b v : Nat} (hv : v ≤ (acctAt l a).bal) : (acctAt (takeB l a v) b).bal + v ≤ sumB l := by
  have h1 := take_sum h hv
  have h2 := sum_le (h.take a v).rise b
  omega
theorem AlOk.non {l : List YAcct} (h : AlOk l) (a n : Nat) : AlOk (putA l (setNon (acctAt l a) n)) := h.put (h.at a)
theorem AlOk.code {l : List YAcct} (h : AlOk l) (a : Nat) (c : List Nat) : AlOk (putA l (setCode (acctAt l a) c)) := h.put (h.at a)
theorem AlOk.bal {l : List YAcct} (h : AlOk l) (a n : Nat) : AlOk (putA l (setBal (acctAt l a) n)) := h.put (h.at a)
theorem AlOk.slots {l : List YAcct} (h : AlOk l) (a k v : Nat) : AlOk (putA l (setSlots (acctAt l a) (putS (acctAt l a).slots k v))) := h.put ((h.at a).put k v)
theorem sum_same {l : List YAcct} (h : AlOk l) {A : YAcct} (hb : A.bal = (acctAt l A.addr).bal) : sumB (putA l A) = sumB l := by
  have := sum_put h.rise A
  omega
end Go.Proofs.YgvaawGreat
