import Derived.Test.YgvaawGreatP6
import Derived.Test.YgvaawGreatX3
import Derived.Test.YgvaawGreatQ2
set_option maxRecDepth 100000
set_option linter.unusedSimpArgs false
set_option linter.unusedVariables false
namespace Go.Proofs.YgvaawGreat
open Go
/-! The opening of a transaction, as a plain function, and that it opens well. -/
def startL (l : List YAcct) : List (Nat × Nat × Nat) := l.flatMap (fun A => A.slots.map (fun x => (A.addr, x.1, x.2)))
def wKeys (W : YWorld) (a : Nat) (ks : List Nat) : YWorld := ks.foldl (fun W k => { W with warmS := withM W.warmS a k }) W
def wList (W : YWorld) (l : List (Nat × List Nat)) : YWorld := l.foldl (fun W x => wKeys { W with warmA := withA W.warmA x.1 } x.1 x.2) W
def bSnd (s : YSt) (T : YTx) : YAcct := acctAt s.now.accts T.frm
def bTgt (s : YSt) (T : YTx) : Nat := if T.create = true then crtN T.frm (bSnd s T).nonce else T.to
def bA1 (s : YSt) (T : YTx) : List YAcct := putA s.now.accts (setNon (acctAt s.now.accts T.frm) ((bSnd s T).nonce + 1))
def bA2 (s : YSt) (T : YTx) : List YAcct := putA (bA1 s T) (setBal (acctAt (bA1 s T) T.frm) ((bSnd s T).bal - T.gas * priceN s T))
def wrmY (W : YWorld) (a : Nat) : YWorld := { W with warmA := withA W.warmA a }
def bW3 (s : YSt) (T : YTx) : YWorld := wrmY (wrmY (wrmY (wrmY (wrmY { s.now with accts := bA2 s T } T.frm) s.env.coinbase) (bTgt s T)) 4) 5
def bW (s : YSt) (T : YTx) : YWorld := wList (bW3 s T) T.access
def bS (s : YSt) (T : YTx) : YSt := { s with now := bW s T, start := startL s.now.accts, frames := [], ret := [], applied := s.applied + 1, limit := T.gas, txGas := T.gas - intrN T, price := priceN s T, origin := T.frm, made := if T.create = true then bTgt s T else 0 }
def bF (s : YSt) (T : YTx) : YF := if T.create = true then cFr 1 false T.value (bTgt s T) T.frm (T.gas - intrN T) 0 T.data [] else cFr 0 false T.value (bTgt s T) T.frm (T.gas - intrN T) (natAt (bTgt s T)) (if natAt (bTgt s T) = 0 then (acctAt (bW s T).accts (bTgt s T)).code else []) T.data
def begY (s : YSt) (T : YTx) : YSt := if T.create = true ∧ tknB (bS s T) (bTgt s T) = true then { bS s T with phase := 2, status := 12, left := 0 } else entY { bS s T with phase := 1 } (bF s T)
/-- between transactions -/
structure II (s : YSt) : Prop where
  ph : s.phase = 0
  fr : s.frames = []
  ok : AlOk s.now.accts
  now : s.now = ⟨s.now.accts, [], [], 0, [], [], [], []⟩
  sum : sumB s.now.accts < W256
  ap : s.applied ≤ 4
theorem start_cons (A : YAcct) (l : List YAcct) : startL (A :: l) = A.slots.map (fun x => (A.addr, x.1, x.2)) ++ startL l := by simp [startL]
theorem start_mem {x : Nat × Nat × Nat} {l : List YAcct} (h : x ∈ startL l) : ∃ A ∈ l, ∃ y ∈ A.slots, x = (A.addr, y.1, y.2) := by
  obtain ⟨A, hA, h1⟩ := List.mem_flatMap.1 h
  obtain ⟨y, hy, e⟩ := List.mem_map.1 h1
  exact ⟨A, hA, y, hy, e.symm⟩
theorem start_nz {l : List YAcct} (h : AlOk l) : ∀ x ∈ startL l, x.2.2 ≠ 0 := fun x hx => by
  obtain ⟨A, hA, y, hy, e⟩ := start_mem hx
  rw [e]
  exact (h.sl A hA).nz y hy
theorem AlOk.tail {A : YAcct} {l : List YAcct} (h : AlOk (A :: l)) : AlOk l := ⟨(List.pairwise_cons.1 h.rise).2, fun x hx => h.nz x (List.mem_cons_of_mem _ hx), fun x hx => h.sl x (List.mem_cons_of_mem _ hx)⟩
theorem start_rise : ∀ {l : List YAcct}, AlOk l → (startL l).Pairwise Lt3
  | [], _ => .nil
  | A :: l, h => by
    rw [start_cons, List.pairwise_append]
    refine ⟨?_, start_rise h.tail, fun x hx y hy => ?_⟩
    · rw [List.pairwise_map]
      exact pwI (h.sl A (List.mem_cons_self ..)).rise (fun {a b} hab => .inr ⟨rfl, hab⟩)
    · obtain ⟨z, hz, e⟩ := List.mem_map.1 hx
      obtain ⟨B, hB, u, hu, e2⟩ := start_mem hy
      rw [← e, e2]
      exact .inl ((List.pairwise_cons.1 h.rise).1 B hB)
theorem start_at : ∀ {l : List YAcct}, AlOk l → ∀ a k, triAt (startL l) a k = slF l a k
  | [], _, a, k => rfl
  | A :: l, h, a, k => by
    have ih := start_at h.tail a k
    unfold slF at ih ⊢
    rw [start_cons, acct_cons]
    by_cases e : A.addr = a
    · rw [if_pos e]
      have hz : triAt (startL l) a k = 0 := tri_none (fun y hy h9 => by
        obtain ⟨B, hB, u, hu, e2⟩ := start_mem hy
        have : A.addr < B.addr := (List.pairwise_cons.1 h.rise).1 B hB
        rw [e2] at h9
        have := h9.1
        simp only at this
        omega)
      unfold triAt at hz ⊢
      unfold slotAt
      rw [List.find?_append, List.find?_map]
      have e1 : ((fun x : Nat × Nat × Nat => x.1 == a && x.2.1 == k) ∘ fun x : Nat × Nat => (A.addr, x.1, x.2)) = fun x => x.1 == k := by
        funext x
        show (A.addr == a && x.1 == k) = _
        rw [e]; simp
      rw [e1]
      cases hf : A.slots.find? (fun x => x.1 == k) with
      | none => simpa using hz
      | some x => simp
    · rw [if_neg e, ← ih]
      unfold triAt
      rw [List.find?_append, List.find?_map]
      have e1 : ((fun x : Nat × Nat × Nat => x.1 == a && x.2.1 == k) ∘ fun x : Nat × Nat => (A.addr, x.1, x.2)) = fun _ => false := by
        funext x
        show (A.addr == a && x.1 == k) = _
        simp [e]
      rw [e1, List.find?_eq_none.2 (fun _ _ h => by cases h)]
      rfl
theorem clr_start {l l' : List YAcct} (h : AlOk l) (hs : ∀ a k, slF l' a k = slF l a k) : clr (startL l) l' = 0 := by
  rw [clr_same hs]
  unfold clr
  rw [List.filter_eq_nil_iff.2 (fun x hx => by
    have h1 := tri_find (start_rise h) hx
    rw [start_at h] at h1
    have := start_nz h x hx
    simp only [decide_eq_true_eq]
    omega)]
  rfl
theorem WI.keys {st : List (Nat × Nat × Nat)} {hold : Nat} (a : Nat) : ∀ (ks : List Nat) {W : YWorld}, WI st hold W → WI st hold (wKeys W a ks)
  | [], _, h => h
  | k :: ks, _, h => WI.keys a ks (h.warmS a k)
theorem WI.list {st : List (Nat × Nat × Nat)} {hold : Nat} : ∀ (l : List (Nat × List Nat)) {W : YWorld}, WI st hold W → WI st hold (wList W l)
  | [], _, h => h
  | x :: l, _, h => WI.list l (WI.keys x.1 x.2 (h.warmA x.1))
theorem keys_accts (a : Nat) : ∀ (ks : List Nat) (W : YWorld), (wKeys W a ks).accts = W.accts
  | [], _ => rfl
  | _ :: ks, _ => keys_accts a ks _
theorem list_accts : ∀ (l : List (Nat × List Nat)) (W : YWorld), (wList W l).accts = W.accts
  | [], _ => rfl
  | x :: l, W => (list_accts l _).trans (keys_accts x.1 x.2 _)
theorem ay_keys (a : Nat) : ∀ (ks : List Nat) (W : YWorld), absY (wKeys W a ks) = keyF a ks (absY W)
  | [], _ => rfl
  | k :: ks, W => by
    show absY (wKeys { W with warmS := withM W.warmS a k } a ks) = keyF a ks (wrsF a k (absY W))
    rw [ay_keys a ks, ay_warmS]
    rfl
theorem ay_list : ∀ (l : List (Nat × List Nat)) (W : YWorld), absY (wList W l) = lstF l (absY W)
  | [], _ => rfl
  | x :: l, W => by
    show absY (wList (wKeys { W with warmA := withA W.warmA x.1 } x.1 x.2) l) = lstF l (keyF x.1 x.2 (wrmF x.1 (absY W)))
    rw [ay_list l, ay_keys, ay_warmA]
    rfl
/-- what an accepted transaction has shown -/
structure Vd (s : YSt) (T : YTx) : Prop where
  ph : s.phase = 0
  ap : s.applied < 4
  gas : T.gas ≤ 1048576
  data : T.data.length ≤ 1024
  ls : lsOk T.access = true
  non : T.nonce = (bSnd s T).nonce
  nmx : (bSnd s T).nonce ≠ 18446744073709551615
  code : (bSnd s T).code.length = 0
  init : T.create = true → T.data.length ≤ 512
  intr : intrN T ≤ T.gas
  bal : T.gas * feeM T + T.value ≤ (bSnd s T).bal
  tip : feeT T ≤ feeM T
  bf : s.env.baseFee ≤ feeM T
theorem vd_of {s : YSt} {T : YTx} (h : verdN s T = 0) : Vd s T := by
  unfold verdN at h
  have h1 : ¬ (s.phase ≠ 0) := fun h9 => by rw [if_pos h9] at h; cases h
  rw [if_neg h1] at h
  have h2 : ¬ (4 ≤ s.applied) := fun h9 => by rw [if_pos h9] at h; cases h
  rw [if_neg h2] at h
  have h3 : ¬ (1048576 < T.gas ∨ 1024 < T.data.length ∨ lsOk T.access = false) := fun h9 => by rw [if_pos h9] at h; cases h
  rw [if_neg h3] at h
  have h4 : ¬ (T.nonce ≠ (vdA s T).nonce) := fun h9 => by rw [if_pos h9] at h; cases h
  rw [if_neg h4] at h
  have h5 : ¬ ((vdA s T).nonce = 18446744073709551615) := fun h9 => by rw [if_pos h9] at h; cases h
  rw [if_neg h5] at h
  have h6 : ¬ (0 < (vdA s T).code.length) := fun h9 => by rw [if_pos h9] at h; cases h
  rw [if_neg h6] at h
  have h7 : ¬ (T.create = true ∧ 512 < T.data.length) := fun h9 => by rw [if_pos h9] at h; cases h
  rw [if_neg h7] at h
  have h8 : ¬ (T.gas < intrN T) := fun h9 => by rw [if_pos h9] at h; cases h
  rw [if_neg h8] at h
  have h9 : ¬ (s.env.gasLimit < T.gas) := fun h9 => by rw [if_pos h9] at h; cases h
  rw [if_neg h9] at h
  have h10 : ¬ ((vdA s T).bal < T.gas * feeM T + T.value) := fun h9 => by rw [if_pos h9] at h; cases h
  rw [if_neg h10] at h
  have h11 : ¬ (feeM T < feeT T) := fun h9 => by rw [if_pos h9] at h; cases h
  rw [if_neg h11] at h
  have h12 : ¬ (feeM T < s.env.baseFee) := fun h9 => by rw [if_pos h9] at h; cases h
  rw [if_neg h12] at h
  have e : vdA s T = bSnd s T := rfl
  rw [e] at h4 h5 h6 h10
  refine ⟨Classical.not_not.1 h1, by omega, by omega, by omega, ?_, Classical.not_not.1 h4, h5, by omega, fun hc => ?_, by omega, by omega, by omega, by omega⟩
  · cases hl : lsOk T.access
    · exact absurd (.inr (.inr hl)) h3
    · rfl
  · exact Nat.le_of_not_lt fun h9 => h7 ⟨hc, h9⟩
theorem price_le {s : YSt} {T : YTx} (h : Vd s T) : priceN s T ≤ feeM T ∧ s.env.baseFee ≤ priceN s T := by
  unfold priceN
  have := h.bf
  omega
theorem Vd.fee {s : YSt} {T : YTx} (h : Vd s T) : T.gas * priceN s T + T.value ≤ (bSnd s T).bal := by
  have h1 := Nat.mul_le_mul_left T.gas (price_le h).1
  have := h.bal
  omega
section
variable {s : YSt} {T : YTx}
theorem WI.b2 (h : II s) (v : Vd s T) : WI (startL s.now.accts) (T.gas * priceN s T) { s.now with accts := bA2 s T } := by
  have hf := v.fee
  have h1 : AlOk (bA1 s T) := h.ok.non _ _
  have h2 : AlOk (bA2 s T) := h1.bal _ _
  have hs1 : sumB (bA1 s T) = sumB s.now.accts := sum_non h.ok _ _
  have hb1 : (acctAt (bA1 s T) T.frm).bal = (bSnd s T).bal := bal_non _ _ _ _
  have hs2 := sum_put h1.rise (setBal (acctAt (bA1 s T) T.frm) ((bSnd s T).bal - T.gas * priceN s T))
  have e : (setBal (acctAt (bA1 s T) T.frm) ((bSnd s T).bal - T.gas * priceN s T)).addr = T.frm := acct_ad _ _
  rw [e, hb1, hs1] at hs2
  have e2 : (setBal (acctAt (bA1 s T) T.frm) ((bSnd s T).bal - T.gas * priceN s T)).bal = (bSnd s T).bal - T.gas * priceN s T := rfl
  rw [e2] at hs2
  have e3 : sumB (bA2 s T) = sumB (putA (bA1 s T) (setBal (acctAt (bA1 s T) T.frm) ((bSnd s T).bal - T.gas * priceN s T))) := rfl
  refine ⟨?_, ?_, ?_⟩
  · rw [h.now]
    exact ⟨h2, .nil, .nil, .nil, (fun _ h => by cases h), .nil, .nil, (fun _ h => by cases h)⟩
  · show sumB (bA2 s T) + _ < _
    have := h.sum
    omega
  · show 4800 * clr (startL s.now.accts) (bA2 s T) ≤ s.now.refund
    rw [clr_start h.ok (fun a k => by unfold bA2 bA1; rw [slF_bal, slF_non])]
    exact Nat.zero_le _
theorem WI.bw (h : II s) (v : Vd s T) : WI (startL s.now.accts) (T.gas * priceN s T) (bW s T) := by
  unfold bW
  exact WI.list _ (((((WI.b2 h v).warmA _).warmA _).warmA _).warmA _ |>.warmA _)
theorem beg_ib (h : II s) (v : Vd s T) (ht : TOk T) (n : Nat) : IB { bS s T with phase := n } := by
  refine ⟨start_rise h.ok, start_nz h.ok, WI.bw h v, Nat.zero_le _, ?_, ht.frm, ?_, v.gas, (price_le v).2⟩
  · show s.applied + 1 ≤ 4
    have := v.ap
    omega
  · exact Nat.lt_of_le_of_lt (price_le v).1 (feeM_lt ht)
theorem beg_it (h : II s) (v : Vd s T) (ht : TOk T) : IT (begY s T) := by
  unfold begY
  split
  · refine .inr ⟨?_, rfl, rfl, by show 12 ≤ 12; decide, Nat.zero_le _⟩
    exact (beg_ib h v ht 2).eq rfl rfl rfl rfl rfl rfl (WI.bw h v) (Nat.zero_le _)
  · refine (ent_is (s := { bS s T with phase := 1 }) (c := bF s T) (low2 := []) (beg_ib h v ht 1) rfl (fun _ h => by cases h) (fun _ h => by cases h) (fun _ h => by cases h) ?_ ?_ rfl).1
    · show 0 + (bF s T).gas ≤ T.gas
      have : (bF s T).gas = T.gas - intrN T := by unfold bF; split <;> rfl
      omega
    · unfold bF
      split <;> rfl
end
end Go.Proofs.YgvaawGreat
