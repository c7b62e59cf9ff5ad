import Derived.Test.YgvaawGreatZ9
set_option maxRecDepth 100000
set_option linter.unusedSimpArgs false
set_option linter.unusedVariables false
namespace Go.Proofs.YgvaawGreat
open Go
/-! What the paper's lists mean, after each turn, as a world of functions. -/
theorem put_find_same {α : Type} {same lt : α → Bool} : ∀ (x : Option α) (l : List α), (∀ n, x = some n → same n = true) → (putP same lt x l).find? same = x
  | none, [], _ => rfl
  | some n, [], h => by simp [putP, h n rfl]
  | none, y :: l, h => by
    rw [putP]
    by_cases hy : same y = true
    · rw [if_pos hy]; exact put_find_same none l h
    · rw [if_neg hy, List.find?_cons_of_neg hy]; exact put_find_same none l h
  | some n, y :: l, h => by
    rw [putP]
    by_cases hy : (same y || lt y) = true
    · rw [if_pos hy, List.find?_cons_of_pos (h n rfl)]
    · rw [if_neg hy]
      have : ¬ same y = true := fun e => hy (by rw [e]; rfl)
      rw [List.find?_cons_of_neg this]
      exact put_find_same (some n) l h
theorem put_find_other {α : Type} {same lt p : α → Bool} : ∀ (x : Option α) (l : List α), (∀ n, x = some n → p n = false) → (∀ y, p y = true → same y = false) → (putP same lt x l).find? p = l.find? p
  | none, [], _, _ => rfl
  | some n, [], h, _ => by simp [putP, h n rfl]
  | none, y :: l, h, hd => by
    rw [putP]
    by_cases hp : p y = true
    · rw [if_neg (by rw [hd y hp]; decide), List.find?_cons_of_pos hp, List.find?_cons_of_pos hp]
    · rw [List.find?_cons_of_neg hp]
      by_cases hy : same y = true
      · rw [if_pos hy]; exact put_find_other none l h hd
      · rw [if_neg hy, List.find?_cons_of_neg hp]; exact put_find_other none l h hd
  | some n, y :: l, h, hd => by
    rw [putP]
    have hn : ¬ p n = true := by rw [h n rfl]; decide
    have h0 : ∀ m, (none : Option α) = some m → p m = false := fun m e => by cases e
    by_cases hc : (same y || lt y) = true
    · rw [if_pos hc, List.find?_cons_of_neg hn]
      by_cases hp : p y = true
      · rw [if_neg (by rw [hd y hp]; decide), List.find?_cons_of_pos hp, List.find?_cons_of_pos hp]
      · rw [List.find?_cons_of_neg hp]
        by_cases hy : same y = true
        · rw [if_pos hy]; exact put_find_other none l h0 hd
        · rw [if_neg hy, List.find?_cons_of_neg hp]; exact put_find_other none l h0 hd
    · rw [if_neg hc]
      by_cases hp : p y = true
      · rw [List.find?_cons_of_pos hp, List.find?_cons_of_pos hp]
      · rw [List.find?_cons_of_neg hp, List.find?_cons_of_neg hp]
        exact put_find_other (some n) l h hd
theorem acct_ad (l : List YAcct) (a : Nat) : (acctAt l a).addr = a := by
  unfold acctAt
  cases h : l.find? (fun x => x.addr == a) with
  | none => rfl
  | some x => simpa using List.find?_some h
theorem empty_no {A : YAcct} (h : emptyS A = true) : A = noAcct A.addr := by
  obtain ⟨ad, n, b, cd, sl⟩ := A
  unfold emptyS emptyB at h
  simp only [Bool.and_eq_true, decide_eq_true_eq, List.length_eq_zero_iff] at h
  obtain ⟨⟨⟨rfl, rfl⟩, rfl⟩, rfl⟩ := h
  rfl
theorem acct_put (l : List YAcct) (A : YAcct) (b : Nat) : acctAt (putA l A) b = if b = A.addr then A else acctAt l b := by
  unfold acctAt putA
  by_cases e : b = A.addr
  · subst e
    rw [if_pos rfl]
    rw [put_find_same _ l (fun n hn => by
      split at hn
      · cases hn
      · cases hn; simp)]
    by_cases h : emptyS A = true
    · rw [if_pos h]; exact (empty_no h).symm
    · rw [if_neg h]; rfl
  · rw [if_neg e, put_find_other _ l (fun n hn => by
      split at hn
      · cases hn
      · cases hn; simpa using fun h => e h.symm) (fun y hy => by
        have : y.addr = b := by simpa using hy
        simpa [this] using e)]
theorem slot_put (l : List (Nat × Nat)) (k v q : Nat) : slotAt (putS l k v) q = if q = k then v else slotAt l q := by
  unfold slotAt putS
  by_cases e : q = k
  · subst e
    rw [if_pos rfl]
    rw [put_find_same _ l (fun n hn => by
      split at hn
      · cases hn
      · cases hn; simp)]
    by_cases h : v = 0
    · subst h; rfl
    · rw [if_neg (by simpa using h)]; rfl
  · rw [if_neg e, put_find_other _ l (fun n hn => by
      split at hn
      · cases hn
      · cases hn; simpa using fun h => e h.symm) (fun y hy => by
        have : y.1 = q := by simpa using hy
        simpa [this] using e)]
theorem tri_put (l : List (Nat × Nat × Nat)) (a k v b q : Nat) : triAt (putT l a k v) b q = if b = a ∧ q = k then v else triAt l b q := by
  unfold triAt putT
  have hs : ∀ c j, (fun x : Nat × Nat × Nat => x.1 == c && x.2.1 == j) = saT c j := fun c j => by
    funext x
    unfold saT
    simp [Bool.beq_eq_decide_eq]
  rw [hs]
  by_cases e : b = a ∧ q = k
  · obtain ⟨rfl, rfl⟩ := e
    rw [if_pos (show b = b ∧ q = q from ⟨rfl, rfl⟩)]
    rw [put_find_same _ l (fun n hn => by
      split at hn
      · cases hn
      · cases hn; simp [saT])]
    by_cases h : v = 0
    · subst h; rfl
    · rw [if_neg (by simpa using h)]; rfl
  · rw [if_neg e, put_find_other _ l (fun n hn => by
      split at hn
      · cases hn
      · cases hn
        unfold saT
        simp only [Bool.and_eq_false_imp, decide_eq_true_eq, decide_eq_false_iff_not]
        intro h1 h2
        exact e ⟨h1.symm, h2.symm⟩) (fun y hy => by
        unfold saT at hy ⊢
        simp only [Bool.and_eq_true, decide_eq_true_eq] at hy
        simp only [Bool.and_eq_false_imp, decide_eq_true_eq, decide_eq_false_iff_not]
        intro h1 h2
        exact e ⟨hy.1.symm.trans h1, hy.2.symm.trans h2⟩)]
theorem mem_ins (a b : Nat) : ∀ l : List Nat, b ∈ insA a l ↔ b = a ∨ b ∈ l
  | [] => by simp [insA]
  | x :: l => by
    rw [insA]
    split
    · simp
    · simp [mem_ins a b l]
      constructor
      · rintro (h | h | h) <;> simp [h]
      · rintro (h | h | h) <;> simp [h]
theorem mem_withA (l : List Nat) (a b : Nat) : b ∈ withA l a ↔ b = a ∨ b ∈ l := by
  unfold withA
  split
  · rename_i h
    constructor
    · exact .inr
    · rintro (rfl | h2)
      · exact h
      · exact h2
  · exact mem_ins a b l
theorem mem_putN {α : Type} {same lt : α → Bool} (hs : ∀ y, same y = false) (b : α) : ∀ (x : Option α) (l : List α), b ∈ putP same lt x l ↔ x = some b ∨ b ∈ l
  | none, [] => by simp [putP]
  | some n, [] => by simp [putP, eq_comm]
  | none, y :: l => by
    rw [putP, if_neg (by rw [hs y]; decide), List.mem_cons, mem_putN hs b none l, List.mem_cons]
    simp
  | some n, y :: l => by
    rw [putP]
    split
    · rw [if_neg (by rw [hs y]; decide), List.mem_cons, List.mem_cons, mem_putN hs b none l, List.mem_cons]
      simp [eq_comm]
    · rw [List.mem_cons, mem_putN hs b (some n) l, List.mem_cons]
      constructor
      · rintro (h | h | h) <;> simp [h]
      · rintro (h | h | h) <;> simp [h]
theorem mem_withM (l : List (Nat × Nat)) (a k : Nat) (y : Nat × Nat) : y ∈ withM l a k ↔ y = (a, k) ∨ y ∈ l := by
  unfold withM
  split
  · rename_i h
    constructor
    · exact .inr
    · rintro (rfl | h2)
      · exact h
      · exact h2
  · unfold insM
    rw [mem_putN (fun _ => rfl)]
    simp [eq_comm]
theorem AW.ext' {A B : AW} (h1 : A.nonce = B.nonce) (h2 : A.bal = B.bal) (h3 : A.code = B.code) (h4 : A.slot = B.slot) (h5 : A.warmA = B.warmA) (h6 : A.warmS = B.warmS) (h7 : A.refund = B.refund) (h8 : A.logs = B.logs) (h9 : A.temp = B.temp) (h10 : A.made = B.made) (h11 : A.gone = B.gone) : A = B := by
  cases A; cases B; simp_all
section
variable (W : YWorld) (a k u : Nat)
theorem ay_put (A : YAcct) : absY { W with accts := putA W.accts A } = { absY W with nonce := fset (absY W).nonce A.addr A.nonce, bal := fset (absY W).bal A.addr A.bal, code := fset (absY W).code A.addr A.code, slot := fun b q => if b = A.addr then slotAt A.slots q else (absY W).slot b q } := by
  refine AW.ext' ?_ ?_ ?_ ?_ rfl rfl rfl rfl rfl rfl rfl
  · funext b
    show (acctAt (putA W.accts A) b).nonce = if b = A.addr then _ else _
    rw [acct_put]; split <;> rfl
  · funext b
    show (acctAt (putA W.accts A) b).bal = if b = A.addr then _ else _
    rw [acct_put]; split <;> rfl
  · funext b
    show (acctAt (putA W.accts A) b).code = if b = A.addr then _ else _
    rw [acct_put]; split <;> rfl
  · funext b q
    show slotAt (acctAt (putA W.accts A) b).slots q = if b = A.addr then _ else _
    rw [acct_put]; split <;> rfl
theorem fset_self {β : Type} (f : Nat → β) (a : Nat) : fset f a (f a) = f := by
  funext b
  unfold fset
  split
  · rename_i h; rw [h]
  · rfl
theorem ay_bal : absY { W with accts := putA W.accts (setBal (acctAt W.accts a) u) } = { absY W with bal := fset (absY W).bal a u } := by
  rw [ay_put]
  have e : (setBal (acctAt W.accts a) u).addr = a := acct_ad _ _
  rw [e]
  refine AW.ext' (fset_self (absY W).nonce a) rfl (fset_self (absY W).code a) ?_ rfl rfl rfl rfl rfl rfl rfl
  funext b q
  show (if b = a then slotAt (acctAt W.accts a).slots q else slotAt (acctAt W.accts b).slots q) = slotAt (acctAt W.accts b).slots q
  split
  · rename_i h; rw [h]
  · rfl
theorem ay_nonce : absY { W with accts := putA W.accts (setNon (acctAt W.accts a) u) } = { absY W with nonce := fset (absY W).nonce a u } := by
  rw [ay_put]
  have e : (setNon (acctAt W.accts a) u).addr = a := acct_ad _ _
  rw [e]
  refine AW.ext' rfl (fset_self (absY W).bal a) (fset_self (absY W).code a) ?_ rfl rfl rfl rfl rfl rfl rfl
  funext b q
  show (if b = a then slotAt (acctAt W.accts a).slots q else slotAt (acctAt W.accts b).slots q) = slotAt (acctAt W.accts b).slots q
  split
  · rename_i h; rw [h]
  · rfl
theorem ay_code (l : List Nat) : absY { W with accts := putA W.accts (setCode (acctAt W.accts a) l) } = { absY W with code := fset (absY W).code a l } := by
  rw [ay_put]
  have e : (setCode (acctAt W.accts a) l).addr = a := acct_ad _ _
  rw [e]
  refine AW.ext' (fset_self (absY W).nonce a) (fset_self (absY W).bal a) rfl ?_ rfl rfl rfl rfl rfl rfl rfl
  funext b q
  show (if b = a then slotAt (acctAt W.accts a).slots q else slotAt (acctAt W.accts b).slots q) = slotAt (acctAt W.accts b).slots q
  split
  · rename_i h; rw [h]
  · rfl
theorem ay_slot : absY { W with accts := putA W.accts (setSlots (acctAt W.accts a) (putS (acctAt W.accts a).slots k u)) } = { absY W with slot := fset2 (absY W).slot a k u } := by
  rw [ay_put]
  have e : (setSlots (acctAt W.accts a) (putS (acctAt W.accts a).slots k u)).addr = a := acct_ad _ _
  rw [e]
  refine AW.ext' (fset_self (absY W).nonce a) (fset_self (absY W).bal a) (fset_self (absY W).code a) ?_ rfl rfl rfl rfl rfl rfl rfl
  funext b q
  show (if b = a then slotAt (putS (acctAt W.accts a).slots k u) q else slotAt (acctAt W.accts b).slots q) = if b = a ∧ q = k then u else slotAt (acctAt W.accts b).slots q
  by_cases h : b = a
  · subst h
    rw [if_pos rfl, slot_put]
    by_cases h2 : q = k
    · rw [if_pos h2, if_pos ⟨rfl, h2⟩]
    · rw [if_neg h2, if_neg (fun h => h2 h.2)]
  · rw [if_neg h, if_neg (fun e => h e.1)]
theorem dec_or {p q r : Prop} [Decidable p] [Decidable q] [Decidable r] (h : p ↔ q ∨ r) : decide p = if q then true else decide r := by
  by_cases hq : q
  · rw [if_pos hq]; exact decide_eq_true (h.2 (.inl hq))
  · rw [if_neg hq]
    exact decide_eq_decide.2 (h.trans ⟨fun e => e.resolve_left hq, .inr⟩)
theorem ay_warmA : absY { W with warmA := withA W.warmA a } = { absY W with warmA := fset (absY W).warmA a true } := by
  refine AW.ext' rfl rfl rfl rfl ?_ rfl rfl rfl rfl rfl rfl
  funext b
  exact dec_or (mem_withA W.warmA a b)
theorem ay_made : absY { W with made := withA W.made a } = { absY W with made := fset (absY W).made a true } := by
  refine AW.ext' rfl rfl rfl rfl rfl rfl rfl rfl rfl ?_ rfl
  funext b
  exact dec_or (mem_withA W.made a b)
theorem ay_gone : absY { W with gone := withA W.gone a } = { absY W with gone := fset (absY W).gone a true } := by
  refine AW.ext' rfl rfl rfl rfl rfl rfl rfl rfl rfl rfl ?_
  funext b
  exact dec_or (mem_withA W.gone a b)
theorem ay_warmS : absY { W with warmS := withM W.warmS a k } = { absY W with warmS := fset2 (absY W).warmS a k true } := by
  refine AW.ext' rfl rfl rfl rfl rfl ?_ rfl rfl rfl rfl rfl
  funext b q
  have h : (b, q) ∈ withM W.warmS a k ↔ (b = a ∧ q = k) ∨ (b, q) ∈ W.warmS := by
    rw [mem_withM]
    simp
  exact dec_or h
theorem ay_temp : absY { W with temps := putT W.temps a k u } = { absY W with temp := fset2 (absY W).temp a k u } := by
  refine AW.ext' rfl rfl rfl rfl rfl rfl rfl rfl ?_ rfl rfl
  funext b q
  exact tri_put W.temps a k u b q
end
end Go.Proofs.YgvaawGreat
