import Derived.Test.YgvaawGreatP10
set_option maxRecDepth 100000
set_option linter.unusedSimpArgs false
set_option linter.unusedVariables false
namespace Go.Proofs.YgvaawGreat
open Go
/-! What Fill lays. -/
def ev0 : EV := ⟨[], [], [], [], 0, [], [], fun _ => 0, fun _ => 0, false, fun _ => 0⟩
def yw (L : List YAcct) : YWorld := ⟨L, [], [], 0, [], [], [], []⟩
theorem yw_acc (L : List YAcct) : (yw L).accts = L := rfl
structure FV (L : List YAcct) (V : EV) (ns : Nat) : Prop where
  ok : VOk V
  abs : absV V = absY (yw L)
  og : ogV V = fun a k => slotAt (acctAt L a).slots k
  jr : V.journal = []
  mr : V.marks = []
  te : V.temps = []
  na : V.accts.length ≤ L.length
  ns : V.slots.length ≤ ns
theorem tab_neg (N : Nat) (hm : Nat → Nat) : Tab N (fun _ => -1) 0 hm := ⟨fun p hp => .inl rfl, fun i hi => absurd hi (Nat.not_lt_zero _), fun p q hp hq h h0 => absurd h0 (by decide)⟩
theorem fv_zero {A S T : Nat → Int} (hA : ∀ p, p < 4096 → A p = -1) (hS : ∀ p, p < 4096 → S p = -1) : FV [] ⟨[], [], [], [], 0, [], [], A, S, false, T⟩ 0 := by
  have tA : ∀ (hm : Nat → Nat), Tab 4096 A 0 hm := fun hm => ⟨fun p hp => .inl (hA p hp), fun i hi => absurd hi (Nat.not_lt_zero _), fun p q hp hq h h0 => by rw [hA p hp] at h0; exact absurd h0 (by decide)⟩
  have tS : ∀ (hm : Nat → Nat), Tab 4096 S 0 hm := fun hm => ⟨fun p hp => .inl (hS p hp), fun i hi => absurd hi (Nat.not_lt_zero _), fun p q hp hq h h0 => by rw [hS p hp] at h0; exact absurd h0 (by decide)⟩
  have bd : VBd ⟨[], [], [], [], 0, [], [], A, S, false, T⟩ := ⟨Nat.zero_le _, Nat.zero_le _, Nat.zero_le _, Nat.zero_le _, (fun m hm => (by cases hm)), (by show 0 < 18446744073709551616; decide), Nat.zero_le _, Nat.zero_le _⟩
  have ok : VOk ⟨[], [], [], [], 0, [], [], A, S, false, T⟩ := ⟨bd, tA _, (fun i j x y hx => (by cases hx)), tS _, (fun i j x y hx => (by cases hx)), (fun h => (by cases h)), (fun _ => rfl), (fun i j x y hx => (by cases hx)), (fun x hx => (by cases hx)), (fun x hx => (by cases hx)), (fun e he => (by cases he)), Nat.le_refl _⟩
  exact ⟨ok, rfl, rfl, rfl, rfl, rfl, Nat.le_refl _, Nat.le_refl _⟩
theorem acct_snoc {L : List YAcct} {B : YAcct} (hn : ∀ C ∈ L, C.addr ≠ B.addr) (b : Nat) : acctAt (L ++ [B]) b = if b = B.addr then B else acctAt L b := by
  induction L with
  | nil =>
    rw [List.nil_append, acct_cons]
    by_cases h : B.addr = b
    · rw [if_pos h, if_pos h.symm]
    · rw [if_neg h, if_neg (Ne.symm h)]
  | cons C L ih =>
    rw [List.cons_append, acct_cons, acct_cons, ih (fun D hD => hn D (List.mem_cons_of_mem _ hD))]
    have hC := hn C (List.mem_cons_self ..)
    by_cases h : C.addr = b
    · rw [if_pos h, if_pos h, if_neg (fun e => hC (by rw [h, e]))]
    · rw [if_neg h, if_neg h]
theorem slot_cons (x : Nat × Nat) (l : List (Nat × Nat)) (q : Nat) : slotAt (x :: l) q = if x.1 = q then x.2 else slotAt l q := by
  unfold slotAt
  by_cases h : x.1 = q
  · simp [h]
  · simp [h]
theorem slot_snoc {S : List (Nat × Nat)} {k v : Nat} (hn : ∀ x ∈ S, x.1 ≠ k) (q : Nat) : slotAt (S ++ [(k, v)]) q = if q = k then v else slotAt S q := by
  induction S with
  | nil =>
    rw [List.nil_append, slot_cons]
    by_cases h : k = q
    · rw [if_pos h, if_pos h.symm]
    · rw [if_neg h, if_neg (Ne.symm h)]
  | cons x S ih =>
    rw [List.cons_append, slot_cons, slot_cons, ih (fun y hy => hn y (List.mem_cons_of_mem _ hy))]
    have hx := hn x (List.mem_cons_self ..)
    by_cases h : x.1 = q
    · rw [if_pos h, if_pos h, if_neg (fun e => hx (by rw [h, e]))]
    · rw [if_neg h, if_neg h]
theorem acct_nn {L : List YAcct} {a : Nat} (hn : ∀ C ∈ L, C.addr ≠ a) : acctAt L a = noAcct a := by
  induction L with
  | nil => rfl
  | cons C L ih =>
    rw [acct_cons, if_neg (hn C (List.mem_cons_self ..)), ih (fun D hD => hn D (List.mem_cons_of_mem _ hD))]
/-- one more account, as yet without slots -/
theorem fv_acct {L : List YAcct} {V V1 V' : EV} {ns i : Nat} {x y : EAcct} {B : YAcct} (h : FV L V ns) (hl : Lay V V1 1 0 0) (hx : V1.accts[i]? = some x) (ha : x.addr = B.addr) (hn : ∀ C ∈ L, C.addr ≠ B.addr) (hy : y = { x with nonce := B.nonce, bal := B.bal, code := B.code }) (hs : B.slots = []) (e1 : V' = { V1 with accts := V1.accts.set i y }) : FV (L ++ [B]) V' ns := by
  have hya : y.addr = x.addr := by rw [hy]
  have sl : SameLen V1 V' := by rw [e1]; exact ⟨set_ks hx hya, rfl, rfl⟩
  have ab1 : absV V1 = absY (yw L) := (hl.ext.abs h.ok.sa h.ok.ta).trans h.abs
  have og1 : ogV V1 = _ := (hl.ext.og h.ok.sa).trans h.og
  have hj : V'.journal = [] := by rw [e1]; exact hl.j.trans h.jr
  have hlg : V'.logs = V1.logs := by rw [e1]
  have ok' : VOk V' := by
    have hb := hl.ok.bd
    refine hl.ok.data sl ⟨by rw [sl.al]; exact hb.accts, by rw [sl.sl]; exact hb.slots, by rw [hj]; simp, by rw [e1]; exact hb.marks, by rw [e1]; exact hb.mkb, by rw [e1]; exact hb.ref, by rw [e1]; exact hb.logs, by rw [sl.tl]; exact hb.temps⟩ (by rw [e1]) (by rw [e1]) (by rw [e1]) (by rw [e1]) (fun e he => ?_) ?_
    · rw [hj] at he; cases he
    · rw [hj]; simp
  have hax : ∀ b, ax V' b = if b = x.addr then y else ax V1 b := ax_set hl.ok hx hya (by rw [e1])
  have hsx : ∀ a k, sx V' a k = sx V1 a k := sx_same sl (by rw [e1])
  have htx : ∀ a k, tx V' a k = tx V1 a k := tx_same sl (by rw [e1])
  have f1 : ∀ b, (ax V1 b).nonce = (acctAt L b).nonce := fun b => congrFun (congrArg AW.nonce ab1) b
  have f2 : ∀ b, (ax V1 b).bal = (acctAt L b).bal := fun b => congrFun (congrArg AW.bal ab1) b
  have f3 : ∀ b, (ax V1 b).code = (acctAt L b).code := fun b => congrFun (congrArg AW.code ab1) b
  have f4 : ∀ b k, (sx V1 b k).val = slotAt (acctAt L b).slots k := fun b k => congrFun (congrFun (congrArg AW.slot ab1) b) k
  have f5 : ∀ b, (ax V1 b).warm = false := fun b => congrFun (congrArg AW.warmA ab1) b
  have f6 : ∀ b k, (sx V1 b k).warm = false := fun b k => congrFun (congrFun (congrArg AW.warmS ab1) b) k
  have f7 : ∀ b k, (tx V1 b k).val = triAt [] b k := fun b k => congrFun (congrFun (congrArg AW.temp ab1) b) k
  have f8 : ∀ b, (ax V1 b).made = false := fun b => congrFun (congrArg AW.made ab1) b
  have f9 : ∀ b, (ax V1 b).gone = false := fun b => congrFun (congrArg AW.gone ab1) b
  have g1 : V1.ref = 0 := congrArg AW.refund ab1
  have g2 : V1.logs = [] := congrArg AW.logs ab1
  have hxx : ax V1 x.addr = x := ax_eq hl.ok hx rfl
  have hsn := acct_snoc hn
  have hno := acct_nn hn
  have hslot : ∀ b k, slotAt (acctAt (L ++ [B]) b).slots k = slotAt (acctAt L b).slots k := fun b k => by
    rw [hsn]
    by_cases e : b = B.addr
    · rw [if_pos e, hs, e, hno]
      rfl
    · rw [if_neg e]
  refine ⟨ok', ?_, ?_, hj, by rw [e1]; exact hl.m.trans h.mr, ?_, ?_, by rw [sl.sl]; exact Nat.le_trans hl.ns h.ns⟩
  · show (⟨_, _, _, _, _, _, _, _, _, _, _⟩ : AW) = ⟨_, _, _, _, _, _, _, _, _, _, _⟩
    congr 1
    · funext b
      rw [hax b, yw_acc, hsn b, ha]
      by_cases e : b = B.addr
      · rw [if_pos e, if_pos e, hy]
      · rw [if_neg e, if_neg e]; exact f1 b
    · funext b
      rw [hax b, yw_acc, hsn b, ha]
      by_cases e : b = B.addr
      · rw [if_pos e, if_pos e, hy]
      · rw [if_neg e, if_neg e]; exact f2 b
    · funext b
      rw [hax b, yw_acc, hsn b, ha]
      by_cases e : b = B.addr
      · rw [if_pos e, if_pos e, hy]
      · rw [if_neg e, if_neg e]; exact f3 b
    · funext b k
      rw [hsx, yw_acc, hslot]
      exact f4 b k
    · funext b
      rw [hax b]
      by_cases e : b = x.addr
      · rw [if_pos e, hy]
        have := f5 x.addr
        rw [hxx] at this
        exact this
      · rw [if_neg e]; exact f5 b
    · funext b k
      rw [hsx]
      exact f6 b k
    · rw [e1]; exact g1
    · rw [e1]; exact g2
    · funext b k
      rw [htx]
      exact f7 b k
    · funext b
      rw [hax b]
      by_cases e : b = x.addr
      · rw [if_pos e, hy]
        have := f8 x.addr
        rw [hxx] at this
        exact this
      · rw [if_neg e]; exact f8 b
    · funext b
      rw [hax b]
      by_cases e : b = x.addr
      · rw [if_pos e, hy]
        have := f9 x.addr
        rw [hxx] at this
        exact this
      · rw [if_neg e]; exact f9 b
  · funext b k
    show (sx V' b k).orig = _
    rw [hsx, hslot]
    exact congrFun (congrFun og1 b) k
  · have h1 := hl.nt
    rw [h.te] at h1
    rw [e1]
    exact List.length_eq_zero_iff.1 (by simpa using h1)
  · rw [sl.al, List.length_append]
    have := hl.na
    have := h.na
    simp only [List.length_cons, List.length_nil]
    omega
/-- one more slot of the last account -/
theorem fv_slot {L : List YAcct} {V V1 V' : EV} {ns i : Nat} {x y : ESlot} {B : YAcct} {k v : Nat} (h : FV (L ++ [B]) V ns) (hl : Lay V V1 0 1 0) (hA : hasA V B.addr) (hn : ∀ C ∈ L, C.addr ≠ B.addr) (hx : V1.slots[i]? = some x) (ha : x.acct = ai V B.addr) (hk : x.key = k) (hnk : ∀ z ∈ B.slots, z.1 ≠ k) (hy : y = { x with val := v, orig := v }) (e1 : V' = { V1 with slots := V1.slots.set i y }) : FV (L ++ [{ B with slots := B.slots ++ [(k, v)] }]) V' (ns + 1) := by
  have hya : y.acct = x.acct := by rw [hy]
  have hyk : y.key = x.key := by rw [hy]
  have sl : SameLen V1 V' := by rw [e1]; exact ⟨rfl, sset_ks hx hya hyk, rfl⟩
  have ab1 : absV V1 = absY (yw (L ++ [B])) := (hl.ext.abs h.ok.sa h.ok.ta).trans h.abs
  have og1 : ogV V1 = _ := (hl.ext.og h.ok.sa).trans h.og
  have hj : V'.journal = [] := by rw [e1]; exact hl.j.trans h.jr
  have hA1 : hasA V1 B.addr := hl.ext.hasA hA
  have ha1 : x.acct = ai V1 B.addr := by rw [hl.ext.ai hA]; exact ha
  have ok' : VOk V' := by
    have hb := hl.ok.bd
    refine hl.ok.data sl ⟨by rw [sl.al]; exact hb.accts, by rw [sl.sl]; exact hb.slots, by rw [hj]; simp, by rw [e1]; exact hb.marks, by rw [e1]; exact hb.mkb, by rw [e1]; exact hb.ref, by rw [e1]; exact hb.logs, by rw [sl.tl]; exact hb.temps⟩ (by rw [e1]) (by rw [e1]) (by rw [e1]) (by rw [e1]) (fun e he => ?_) ?_
    · rw [hj] at he; cases he
    · rw [hj]; simp
  have hax : ∀ b, ax V' b = ax V1 b := ax_same (by rw [e1])
  have hsx : ∀ b q, sx V' b q = if b = B.addr ∧ q = x.key then y else sx V1 b q := sx_set hl.ok hx hA1 ha1 hya hyk (by rw [e1]) (by rw [e1])
  have htx : ∀ a k, tx V' a k = tx V1 a k := tx_same sl (by rw [e1])
  have f1 : ∀ b, (ax V1 b).nonce = (acctAt (L ++ [B]) b).nonce := fun b => congrFun (congrArg AW.nonce ab1) b
  have f2 : ∀ b, (ax V1 b).bal = (acctAt (L ++ [B]) b).bal := fun b => congrFun (congrArg AW.bal ab1) b
  have f3 : ∀ b, (ax V1 b).code = (acctAt (L ++ [B]) b).code := fun b => congrFun (congrArg AW.code ab1) b
  have f4 : ∀ b k, (sx V1 b k).val = slotAt (acctAt (L ++ [B]) b).slots k := fun b k => congrFun (congrFun (congrArg AW.slot ab1) b) k
  have f5 : ∀ b, (ax V1 b).warm = false := fun b => congrFun (congrArg AW.warmA ab1) b
  have f6 : ∀ b k, (sx V1 b k).warm = false := fun b k => congrFun (congrFun (congrArg AW.warmS ab1) b) k
  have f7 : ∀ b k, (tx V1 b k).val = triAt [] b k := fun b k => congrFun (congrFun (congrArg AW.temp ab1) b) k
  have f8 : ∀ b, (ax V1 b).made = false := fun b => congrFun (congrArg AW.made ab1) b
  have f9 : ∀ b, (ax V1 b).gone = false := fun b => congrFun (congrArg AW.gone ab1) b
  have g1 : V1.ref = 0 := congrArg AW.refund ab1
  have g2 : V1.logs = [] := congrArg AW.logs ab1
  have hsn := acct_snoc hn
  have hn2 : ∀ C ∈ L, C.addr ≠ ({ B with slots := B.slots ++ [(k, v)] } : YAcct).addr := hn
  have hsn2 := acct_snoc hn2
  have hxw : x.warm = false := by
    have := f6 B.addr x.key
    rw [sx_eq hl.ok hx ha1 rfl] at this
    exact this
  have hslot : ∀ b q, slotAt (acctAt (L ++ [{ B with slots := B.slots ++ [(k, v)] }]) b).slots q = if b = B.addr ∧ q = k then v else slotAt (acctAt (L ++ [B]) b).slots q := fun b q => by
    rw [hsn2, hsn]
    by_cases e : b = B.addr
    · rw [if_pos e, if_pos e]
      show slotAt (B.slots ++ [(k, v)]) q = _
      rw [slot_snoc hnk]
      by_cases e2 : q = k
      · rw [if_pos e2, if_pos ⟨e, e2⟩]
      · rw [if_neg e2, if_neg (fun h9 => e2 h9.2)]
    · rw [if_neg e, if_neg e, if_neg (fun h9 => e h9.1)]
  have hte : V1.temps = [] := by
    have h1 := hl.nt
    rw [h.te] at h1
    exact List.length_eq_zero_iff.1 (by simpa using h1)
  refine ⟨ok', ?_, ?_, hj, by rw [e1]; exact hl.m.trans h.mr, by rw [e1]; exact hte, ?_, ?_⟩
  · show (⟨_, _, _, _, _, _, _, _, _, _, _⟩ : AW) = ⟨_, _, _, _, _, _, _, _, _, _, _⟩
    congr 1
    · funext b
      rw [hax b, f1 b, yw_acc, hsn, hsn2]
      by_cases e : b = B.addr
      · rw [if_pos e, if_pos e]
      · rw [if_neg e, if_neg e]
    · funext b
      rw [hax b, f2 b, yw_acc, hsn, hsn2]
      by_cases e : b = B.addr
      · rw [if_pos e, if_pos e]
      · rw [if_neg e, if_neg e]
    · funext b
      rw [hax b, f3 b, yw_acc, hsn, hsn2]
      by_cases e : b = B.addr
      · rw [if_pos e, if_pos e]
      · rw [if_neg e, if_neg e]
    · funext b q
      rw [hsx, yw_acc, hslot, hk]
      by_cases e : b = B.addr ∧ q = k
      · rw [if_pos e, if_pos e, hy]
      · rw [if_neg e, if_neg e]; exact f4 b q
    · funext b
      rw [hax b]; exact f5 b
    · funext b q
      rw [hsx]
      by_cases e : b = B.addr ∧ q = x.key
      · rw [if_pos e, hy]; exact hxw
      · rw [if_neg e]; exact f6 b q
    · rw [e1]; exact g1
    · rw [e1]; exact g2
    · funext b q
      rw [htx]
      exact f7 b q
    · funext b
      rw [hax b]; exact f8 b
    · funext b
      rw [hax b]; exact f9 b
  · funext b q
    show (sx V' b q).orig = _
    rw [hsx, hslot, hk]
    by_cases e : b = B.addr ∧ q = k
    · rw [if_pos e, if_pos e, hy]
    · rw [if_neg e, if_neg e]
      exact congrFun (congrFun og1 b) q
  · rw [sl.al]
    have h1 := hl.na
    have h2 := h.na
    rw [List.length_append] at h2 ⊢
    simp only [List.length_cons, List.length_nil] at h2 ⊢
    omega
  · rw [sl.sl]
    have h1 := hl.ns
    have h2 := h.ns
    omega
end Go.Proofs.YgvaawGreat
