import Derived.Test.YgvaawGreatApp2
set_option maxRecDepth 100000
set_option maxHeartbeats 4000000
set_option linter.unusedSimpArgs false
set_option linter.unusedVariables false
namespace Go.Proofs.YgvaawGreat
open Go
def emptyB (A : YAcct) : Bool := decide (A.nonce = 0) && decide (A.bal = 0) && decide (A.code.length = 0)
def emptyS (A : YAcct) : Bool := emptyB A && decide (A.slots.length = 0)
def putA (l : List YAcct) (A : YAcct) : List YAcct := putP (fun y => y.addr == A.addr) (fun y => decide (A.addr < y.addr)) (if emptyS A then none else some A) l
theorem GL.mono {α : Type} {P : Cp α} {H : Store} {base e k B B' : Nat} {w : World} {v : Value} {O : List α} (h : GL P H base e k B w v O) (hB : B ≤ B') : GL P H base e k B' w v O := by
  obtain ⟨cs, h1, h2⟩ := h.ex
  exact ⟨cs, h1.mono hB, h2⟩
theorem lay_cond {y A : YAcct} : ((y.addr == A.addr) || decide (A.addr < y.addr)) = !decide (y.addr < A.addr) := by
  rw [Bool.eq_iff_iff]; simp; omega
theorem yp_empty (bq : Nat) (ca : List Value) (A : YAcct) (w : World) (H : Store) (hF : Fz w H) (kA : Blk w bq ca.toArray) (hA : P_acct H ca A) :
    Ret 23 [.pointer (some ⟨bq, 0, none⟩)] w (fun v w' => v = .bool (emptyB A) ∧ Up w w') := by
  have hF0 := hF
  obtain ⟨vn, vb, vc, vs, hc0, hA0, hn0, hb0, hcd0, hS0, hb1, hb2, hb3⟩ := hA
  obtain ⟨ca1, cc1, hvc, _⟩ := hcd0.sv.val
  refine enter (n := 23) Hvaa.func23 rfl rfl (Nat.le_of_ble_eq_true rfl) ?_
  have U := Up.refl w
  refine c_seq (fun K1 hK1 => ?_)
  refine c_region ?_
  refine l_step y_assignC ?_
  refine l_nil ?_
  refine hK1 _ _ ?_
  refine fg1 0 (gS rfl g0) (fun g => ?_)
  refine c_seq (fun K2 hK2 => ?_)
  refine c_region ?_
  refine l_step (y_moveV (et g0 rfl)) ?_
  refine l_step (y_nil (et g0 rfl)) ?_
  refine l_step (y_fld fld_107_1 (et g0 rfl)) ?_
  refine l_step (y_load1 one_95 (et g0 rfl) (at1 (kA.cell ((congrArg (fun l : List Value => l.toArray[0 + 20]?) hc0).trans ((app20 (i := 0) rfl).trans rfl))))) ?_
  refine l_eff (e_callV cal_79 (aC (et g0 rfl) aN) (yp_isZero hF hn0 (sm64 hb1))) (fun v3 w3 h3 => ?_)
  obtain ⟨rfl, u3⟩ := h3
  replace hF := hF.up u3
  replace kA := kA.up u3
  replace U := U.tr u3
  refine l_step (y_moveV (et g0 rfl)) ?_
  refine gsplitL (i := 8) g0 (fun q4 => ?_) (fun q4 => ?_)
  · skip
    have e1 : A.nonce = 0 := of_decide_eq_true q4
    refine l_gstep (j := 5) (t := 8) (by exact rfl) (by exact rfl) (et g0 rfl) (by decide) (y_moveV (et (gS rfl (gS rfl (gS rfl (gS rfl (gS rfl (gS rfl (gS rfl g0))))))) rfl)) ?_
    refine l_gstep (j := 5) (t := 8) (by exact rfl) (by exact rfl) (et (gS rfl g0) rfl) (by decide) (y_nil (et g0 rfl)) ?_
    refine l_gstep (j := 5) (t := 8) (by exact rfl) (by exact rfl) (et (gS rfl (gS rfl g0)) rfl) (by decide) (y_fld fld_107_2 (et g0 rfl)) ?_
    refine l_gstep (j := 5) (t := 8) (by exact rfl) (by exact rfl) (et (gS rfl (gS rfl (gS rfl g0))) rfl) (by decide) (y_load1 one_95 (et g0 rfl) (at1 (kA.cell ((congrArg (fun l : List Value => l.toArray[0 + 21]?) hc0).trans ((app20 (i := 1) rfl).trans rfl))))) ?_
    refine l_geff (j := 5) (t := 8) (by exact rfl) (by exact rfl) (et (gS rfl (gS rfl (gS rfl (gS rfl g0)))) rfl) rfl (e_callV cal_79 (aC (et g0 rfl) aN) (yp_isZero hF hb0 (smW hb2))) (fun v5 w5 h5 => ?_)
    obtain ⟨rfl, u5⟩ := h5
    replace hF := hF.up u5
    replace kA := kA.up u5
    replace U := U.tr u5
    refine l_step (y_pickT (et (gS rfl (gS rfl (gS rfl (gS rfl (gS rfl g0))))) rfl) (et g0 rfl)) ?_
    refine l_step (y_moveV (et g0 rfl)) ?_
    refine gsplitL (i := 15) g0 (fun q6 => ?_) (fun q6 => ?_)
    · skip
      have e2 : A.bal = 0 := of_decide_eq_true q6
      refine l_gstep (j := 12) (t := 15) (by exact rfl) (by exact rfl) (et g0 rfl) (by decide) (y_moveV (et (gS rfl (gS rfl (gS rfl (gS rfl (gS rfl (gS rfl (gS rfl (gS rfl (gS rfl (gS rfl (gS rfl (gS rfl (gS rfl (gS rfl (gS rfl g0))))))))))))))) rfl)) ?_
      refine l_gstep (j := 12) (t := 15) (by exact rfl) (by exact rfl) (et (gS rfl g0) rfl) (by decide) (y_nil (et g0 rfl)) ?_
      refine l_gstep (j := 12) (t := 15) (by exact rfl) (by exact rfl) (et (gS rfl (gS rfl g0)) rfl) (by decide) (y_fld fld_107_3 (et g0 rfl)) ?_
      refine l_gstep (j := 12) (t := 15) (by exact rfl) (by exact rfl) (et (gS rfl (gS rfl (gS rfl g0))) rfl) (by decide) (y_load1 one_38 (et g0 rfl) (at1 (kA.cell ((congrArg (fun l : List Value => l.toArray[0 + 22]?) hc0).trans ((app20 (i := 2) rfl).trans (by rw [hvc]; rfl)))))) ?_
      refine l_gstep (j := 12) (t := 15) (by exact rfl) (by exact rfl) (et (gS rfl (gS rfl (gS rfl (gS rfl g0)))) rfl) (by decide) (y_len Hvaa.underlying38 (et g0 rfl)) ?_
      refine l_gstep (j := 12) (t := 15) (by exact rfl) (by exact rfl) (et (gS rfl (gS rfl (gS rfl (gS rfl (gS rfl g0))))) rfl) (by decide) (y_eql (et g0 rfl) rfl) ?_
      refine l_step (y_pickT (et (gS rfl (gS rfl (gS rfl (gS rfl (gS rfl (gS rfl g0)))))) rfl) (et g0 rfl)) ?_
      refine l_step (y_assignV (et g0 rfl)) ?_
      refine l_nil ?_
      refine hK2 _ _ ?_
      refine fg1 2 g0 (fun g => ?_)
      refine c_ret ?_
      refine ret1 rfl (res_tmp (et g0 rfl)) ?_
      refine ⟨?_, U⟩
      unfold emptyB
      rw [decide_eq_true e1, decide_eq_true e2]
      exact dec_iff (by omega)
    · skip
      have e2 : ¬ A.bal = 0 := of_decide_eq_false q6
      refine l_gskip (j := 12) (t := 15) (by exact rfl) (by exact rfl) (et g0 rfl) (by decide) (by decide) ?_
      refine l_gskip (j := 12) (t := 15) (by exact rfl) (by exact rfl) (et (gS rfl g0) rfl) (by decide) (by decide) ?_
      refine l_gskip (j := 12) (t := 15) (by exact rfl) (by exact rfl) (et (gS rfl (gS rfl g0)) rfl) (by decide) (by decide) ?_
      refine l_gskip (j := 12) (t := 15) (by exact rfl) (by exact rfl) (et (gS rfl (gS rfl (gS rfl g0))) rfl) (by decide) (by decide) ?_
      refine l_gskip (j := 12) (t := 15) (by exact rfl) (by exact rfl) (et (gS rfl (gS rfl (gS rfl (gS rfl g0)))) rfl) (by decide) (by decide) ?_
      refine l_gskip (j := 12) (t := 15) (by exact rfl) (by exact rfl) (et (gS rfl (gS rfl (gS rfl (gS rfl (gS rfl g0))))) rfl) (by decide) (by decide) ?_
      refine l_step (y_pickF (et (gS rfl (gS rfl (gS rfl (gS rfl (gS rfl (gS rfl g0)))))) rfl) rfl) ?_
      refine l_step (y_assignV (et g0 rfl)) ?_
      refine l_nil ?_
      refine hK2 _ _ ?_
      refine fg1 2 g0 (fun g => ?_)
      refine c_ret ?_
      refine ret1 rfl (res_tmp (et g0 rfl)) ?_
      exact ⟨by unfold emptyB; rw [decide_eq_true e1, decide_eq_false e2]; rfl, U⟩
  · skip
    have e1 : ¬ A.nonce = 0 := of_decide_eq_false q4
    refine l_gskip (j := 5) (t := 8) (by exact rfl) (by exact rfl) (et g0 rfl) (by decide) (by decide) ?_
    refine l_gskip (j := 5) (t := 8) (by exact rfl) (by exact rfl) (et (gS rfl g0) rfl) (by decide) (by decide) ?_
    refine l_gskip (j := 5) (t := 8) (by exact rfl) (by exact rfl) (et (gS rfl (gS rfl g0)) rfl) (by decide) (by decide) ?_
    refine l_gskip (j := 5) (t := 8) (by exact rfl) (by exact rfl) (et (gS rfl (gS rfl (gS rfl g0))) rfl) (by decide) (by decide) ?_
    refine l_gskip (j := 5) (t := 8) (by exact rfl) (by exact rfl) (et (gS rfl (gS rfl (gS rfl (gS rfl g0)))) rfl) (by decide) (by decide) ?_
    refine l_step (y_pickF (et (gS rfl (gS rfl (gS rfl (gS rfl (gS rfl g0))))) rfl) rfl) ?_
    refine l_step (y_moveV (et g0 rfl)) ?_
    refine l_gskip (j := 12) (t := 15) (by exact rfl) (by exact rfl) (et g0 rfl) (by decide) (by decide) ?_
    refine l_gskip (j := 12) (t := 15) (by exact rfl) (by exact rfl) (et (gS rfl g0) rfl) (by decide) (by decide) ?_
    refine l_gskip (j := 12) (t := 15) (by exact rfl) (by exact rfl) (et (gS rfl (gS rfl g0)) rfl) (by decide) (by decide) ?_
    refine l_gskip (j := 12) (t := 15) (by exact rfl) (by exact rfl) (et (gS rfl (gS rfl (gS rfl g0))) rfl) (by decide) (by decide) ?_
    refine l_gskip (j := 12) (t := 15) (by exact rfl) (by exact rfl) (et (gS rfl (gS rfl (gS rfl (gS rfl g0)))) rfl) (by decide) (by decide) ?_
    refine l_gskip (j := 12) (t := 15) (by exact rfl) (by exact rfl) (et (gS rfl (gS rfl (gS rfl (gS rfl (gS rfl g0))))) rfl) (by decide) (by decide) ?_
    refine l_step (y_pickF (et (gS rfl (gS rfl (gS rfl (gS rfl (gS rfl (gS rfl g0)))))) rfl) rfl) ?_
    refine l_step (y_assignV (et g0 rfl)) ?_
    refine l_nil ?_
    refine hK2 _ _ ?_
    refine fg1 2 g0 (fun g => ?_)
    refine c_ret ?_
    refine ret1 rfl (res_tmp (et g0 rfl)) ?_
    exact ⟨by unfold emptyB; rw [decide_eq_false e1]; rfl, U⟩
theorem pass_step {α : Type} {same lt : α → Bool} {O D R : List α} {y n : α} {lb : Bool} (h : O ++ putP same lt (if lb then none else some n) (y :: D) = R) (hl : lb = true ∨ (same y || lt y) = false) (hs : same y = false) : (O ++ [y]) ++ putP same lt (if lb then none else some n) D = R := by
  cases lb
  · exact put_pass h (by rcases hl with h | h; cases h; exact h)
  · exact put_keep h hs
theorem skip_step {α : Type} {same lt : α → Bool} {O D R : List α} {y n : α} {lb : Bool} (h : O ++ putP same lt (if lb then none else some n) (y :: D) = R) (hl : lb = true) (hs : same y = true) : O ++ putP same lt (if lb then none else some n) D = R := by
  subst hl; exact put_same h hs
theorem yp_put (bs o sc : Nat) (sa : Option Addr) (cs : Array Value) (xs : List YAcct) (ca : List Value) (A : YAcct) (w : World) (H : Store) (hF : Fz w H) (kS : Blk w bs cs) (nbS : ¬ H.has bs) (hva : cs[o]? = some (.slice sa xs.length sc)) (hL : LV P_acct 24 H (.slice sa xs.length sc) xs) (hA : P_acct H ca A) (hn : xs.length < 2147483648) :
    Ret 127 [.pointer (some ⟨bs, o, none⟩), .agg ca.toArray] w (fun v w' => v = .tuple #[] ∧ ∃ v' H', Go (fun k => k = bs) w H w' H' ∧ LV P_acct 24 H' v' (putA xs A) ∧ Blk w' bs (cs.setIfInBounds (o + 0) v')) := by
  have hF0 := hF
  have lS := kS.lt
  have hAl := acct_len hA
  have hAo := acct_one hA
  have hAa := acct_addr hA
  obtain ⟨vn, vb, vc, vs, hc0, hA0, hn0, hb0, hcd0, hS0, hb1, hb2, hb3'⟩ := id hA
  obtain ⟨ss, sc1, hvs, _⟩ := hS0.val
  refine enter (n := 58) Hvaa.func127 rfl rfl (Nat.le_of_ble_eq_true rfl) ?_
  have U : Ch (fun k => k = bs) w w := Ch.refl _ w
  refine c_seq (fun K1 hK1 => ?_)
  refine c_region ?_
  refine l_eff (e_boxV (et (gS rfl g0) rfl)) (fun v2 w2 h2 => ?_)
  obtain ⟨b2, rfl, n2⟩ := h2
  have f2 : w.heap.size ≤ b2 := Nat.le_trans U.size n2.fresh
  replace hF := hF.up n2.up
  replace kS := kS.up n2.up
  replace U := U.tr n2.up
  have k2 := n2.blk
  replace k2 : Blk w2 b2 ca.toArray := k2
  refine l_nil ?_
  refine hK1 _ _ ?_
  refine fg2 0 3 (gS rfl g0) g0 (fun g => ?_)
  refine c_seq (fun K3 hK3 => ?_)
  refine c_region ?_
  refine l_step y_assignC ?_
  refine l_nil ?_
  refine hK3 _ _ ?_
  refine c_seq (fun K4 hK4 => ?_)
  refine c_region ?_
  refine l_eff (e_callV cal_23 (aC (et (gS rfl g0) rfl) aN) (yp_empty _ ca A _ H hF k2 hA)) (fun v5 w5 h5 => ?_)
  obtain ⟨rfl, u5⟩ := h5
  replace k2 := k2.up u5
  replace hF := hF.up u5
  replace kS := kS.up u5
  replace U := U.tr u5
  refine l_step (y_moveV (et g0 rfl)) ?_
  refine gsplitL (i := 9) g0 (fun q6 => ?_) (fun q6 => ?_)
  · skip
    have e9 : emptyB A = true := q6
    refine l_gstep (j := 1) (t := 9) (by exact rfl) (by exact rfl) (et g0 rfl) (by decide) (y_fld fld_107_4 (et (gS rfl (gS rfl (gS rfl (gS rfl g0)))) rfl)) ?_
    refine l_gstep (j := 1) (t := 9) (by exact rfl) (by exact rfl) (et (gS rfl g0) rfl) (by decide) (y_load1 one_105 (et g0 rfl) (at1 (k2.cell ((congrArg (fun l : List Value => l.toArray[0 + 23]?) hc0).trans ((app20 (i := 3) rfl).trans (by rw [hvs]; rfl)))))) ?_
    refine l_gstep (j := 1) (t := 9) (by exact rfl) (by exact rfl) (et (gS rfl (gS rfl g0)) rfl) (by decide) (y_len Hvaa.underlying105 (et g0 rfl)) ?_
    refine l_gstep (j := 1) (t := 9) (by exact rfl) (by exact rfl) (et (gS rfl (gS rfl (gS rfl g0))) rfl) (by decide) ((y_eql (et g0 rfl) rfl).to (dec_iff (show ((A.slots.length : Nat) : Int) = 0 ↔ A.slots.length = 0 by omega))) ?_
    refine l_step (y_pickT (et (gS rfl (gS rfl (gS rfl (gS rfl g0)))) rfl) (et g0 rfl)) ?_
    refine l_step (y_assignV (et g0 rfl)) ?_
    refine l_nil ?_
    refine hK4 _ _ ?_
    refine fg4 0 3 4 5 (gS rfl (gS rfl (gS rfl (gS rfl (gS rfl (gS rfl (gS rfl (gS rfl (gS rfl (gS rfl (gS rfl g0))))))))))) (gS rfl (gS rfl (gS rfl (gS rfl (gS rfl (gS rfl (gS rfl (gS rfl (gS rfl (gS rfl g0)))))))))) (gS rfl (gS rfl (gS rfl (gS rfl (gS rfl (gS rfl (gS rfl (gS rfl (gS rfl g0))))))))) g0 (fun g => ?_)
    refine c_seq (fun K7 hK7 => ?_)
    refine c_seq (fun K8 hK8 => ?_)
    refine c_region ?_
    refine l_step (y_moveV (et (gS rfl (gS rfl (gS rfl g0))) rfl)) ?_
    refine l_step (y_nil (et g0 rfl)) ?_
    refine l_step (y_fld fld_98_0 (et g0 rfl)) ?_
    refine l_step (y_load1 one_92 (et g0 rfl) (at1 (kS.cell (by simpa using hva)))) ?_
    refine l_step (y_len Hvaa.underlying92 (et g0 rfl)) ?_
    refine l_step y_moveC ?_
    refine l_nil ?_
    refine hK8 _ _ ?_
    refine fg7 0 3 4 5 18 19 20 (gS rfl (gS rfl (gS rfl (gS rfl (gS rfl (gS rfl (gS rfl (gS rfl (gS rfl g0))))))))) (gS rfl (gS rfl (gS rfl (gS rfl (gS rfl (gS rfl (gS rfl (gS rfl g0)))))))) (gS rfl (gS rfl (gS rfl (gS rfl (gS rfl (gS rfl (gS rfl g0))))))) (gS rfl (gS rfl (gS rfl (gS rfl (gS rfl (gS rfl g0)))))) (gS rfl (gS rfl g0)) (gS rfl g0) g0 (fun g => ?_)
    refine c_block (fun Q9 hQ9 => ?_)
    refine fg7 0 3 4 5 18 19 20 (gS rfl (gS rfl (gS rfl (gS rfl (gS rfl (gS rfl g0)))))) (gS rfl (gS rfl (gS rfl (gS rfl (gS rfl g0))))) (gS rfl (gS rfl (gS rfl (gS rfl g0)))) (gS rfl (gS rfl (gS rfl g0))) (gS rfl (gS rfl g0)) (gS rfl g0) g0 (fun g => ?_)
    obtain ⟨base, hbs⟩ : ∃ base, base = w5.heap.size := ⟨_, rfl⟩
    have hbw : w.heap.size ≤ base := by rw [hbs]; exact U.size
    have hb3 : b2 < base := by rw [hbs]; exact k2.lt
    have hbS : bs < base := by omega
    have hini : ([] : List YAcct) ++ putP (fun y => y.addr == A.addr) (fun y => decide (A.addr < y.addr)) (if (decide (A.slots.length = 0)) then none else some A) (xs.drop 0) = putA xs A := by rw [putA, show emptyS A = (decide (A.slots.length = 0)) by unfold emptyS; rw [e9]; first | rfl | exact (by simp) | (rw [Bool.eq_iff_iff]; simp; done)]; rfl
    refine c_loop (fun k_ s_ W10 => ∃ (g : Nat → Value) (ov : Value) (lb : Bool) (O : List YAcct) (i : Nat), s_ = (upd (upd (upd (upd (upd (upd (upd g 0 (.pointer (some ⟨bs, o, none⟩))) 3 (.pointer (some ⟨b2, 0, none⟩))) 4 ov) 5 (.bool lb)) 18 (.slice sa xs.length sc)) 19 (.int .i64 (xs.length : Nat))) 20 (.int .i64 (i : Nat))) ∧ xs.length - i = k_ ∧ (i ≤ xs.length) ∧ (GL P_acct H base 107 24 W10.heap.size W10 ov O) ∧ (O.length ≤ i + lb.toNat) ∧ (O ++ putP (fun y => y.addr == A.addr) (fun y => decide (A.addr < y.addr)) (if lb then none else some A) (xs.drop i) = putA xs A) ∧ Ch (fun k => base ≤ k) w5 W10) (xs.length - (0)) ?_ ?_
    · exact ⟨g, (.slice none 0 0), _, ([] : List YAcct), 0, rfl, rfl, Nat.zero_le _, GL.nil, by simp, hini, Ch.refl _ _⟩
    · skip
      intro k_ s_ W10 hI K10 hK10
      obtain ⟨g, ov, lb, O, i, rfl, rfl, hi, hO, hOl, hfin, V10⟩ := hI
      replace k2 := k2.ch V10 (by omega)
      replace hF := hF.ch V10 (by first | omega | (intro q hq e; have := hF0.lt hq; omega) | (intro q hq e; exact hOo.ne (by have := hF0.lt hq; omega) e) | (intro q hq e; exact nbS (e ▸ hq)))
      replace kS := kS.ch V10 (by first | omega | exact hOo.ne (by omega))
      replace U := U.cc V10 (by intro b hb; first | exact hb.elim | omega | (simp at hb ⊢; omega))
      have hlbn := Bool.toNat_le lb
      have hbW : base ≤ W10.heap.size := by rw [hbs]; exact V10.size
      refine c_seq (fun K11 hK11 => ?_)
      refine c_region ?_
      refine l_step (y_lss (et g0 rfl) (et (gS rfl g0) rfl)) ?_
      refine l_nil ?_
      refine hK11 _ _ ?_
      refine c_seq (fun K12 hK12 => ?_)
      refine c_cond (et g0 rfl) (fun cB1 => ?_) (fun cB1 => ?_)
      · skip
        simp only [decide_eq_true_eq, decide_eq_false_iff_not, Int.not_lt, Int.not_le, Bool.not_eq_true', Bool.not_eq_false', Bool.not_eq_eq_eq_not, Bool.not_true, Bool.not_false] at cB1
        refine c_skip ?_
        refine hK12 _ _ ?_
        refine fg7 0 3 4 5 18 19 20 (gS rfl (gS rfl (gS rfl (gS rfl (gS rfl (gS rfl (gS rfl g0))))))) (gS rfl (gS rfl (gS rfl (gS rfl (gS rfl (gS rfl g0)))))) (gS rfl (gS rfl (gS rfl (gS rfl (gS rfl g0))))) (gS rfl (gS rfl (gS rfl (gS rfl g0)))) (gS rfl (gS rfl (gS rfl g0))) (gS rfl (gS rfl g0)) (gS rfl g0) (fun g => ?_)
        refine c_seq (fun K14 hK14 => ?_)
        refine c_block (fun Q15 hQ15 => ?_)
        refine c_seq (fun K16 hK16 => ?_)
        refine c_region ?_
        obtain ⟨bq, oq, r, ha0, hrow, hrl, hP⟩ := hL.row hF (i := i) (by omega)
        have hPo := acct_one hP
        have hPa := acct_addr hP
        rw [List.drop_eq_getElem_cons (show i < xs.length by omega)] at hfin
        refine l_step (y_idxSa ha0 Hvaa.underlying92 sz_107 (et (gS rfl (gS rfl g0)) rfl) (et g0 rfl) ?_) ?_
        omega
        refine l_step (y_loadR agg_107 sz_107 (et g0 rfl) hrl (at1R hrow)) ?_
        refine l_eff (e_alloc zr_107) (fun v17 w17 h17 => ?_)
        obtain ⟨b17, rfl, n17⟩ := h17
        have d2_17 : b2 < b17 := Nat.lt_of_lt_of_le k2.lt n17.fresh
        have f17 : w.heap.size ≤ b17 := Nat.le_trans U.size n17.fresh
        have fV10_17 := Nat.le_trans V10.size n17.fresh
        replace k2 := k2.up n17.up
        replace hF := hF.up n17.up
        replace kS := kS.up n17.up
        replace hO := hO.up n17.up
        replace U := U.tr n17.up
        replace V10 := V10.tr n17.up
        have k17 := n17.blk
        have hb7 := n17.fresh
        refine l_effN (e_store sz_107 (et g0 rfl) (cellsV (et (gS rfl g0) rfl) rfl) hrl (by exact hPo) k17 (by exact Nat.le_of_ble_eq_true rfl)) (fun v18 w18 h18 => ?_)
        obtain ⟨rfl, x18⟩ := h18
        replace k2 := k2.ch x18.ch (by omega)
        replace hF := hF.ch x18.ch (by first | omega | (first | omega | (intro q hq e; have := hF0.lt hq; omega) | (intro q hq e; exact hOo.ne (by have := hF0.lt hq; omega) e) | (intro q hq e; exact nbS (e ▸ hq))))
        replace kS := kS.ch x18.ch (by first | omega | (first | omega | exact hOo.ne (by omega)))
        replace k17 := x18.blk.full (by rw [hrl]; rfl)
        replace hO := hO.wr x18 (by first | omega | (right; omega))
        replace U := U.st x18 (.inr f17)
        replace V10 := V10.st x18 (by omega)
        refine l_nil ?_
        refine hK16 _ _ ?_
        refine fg8 0 3 4 5 18 19 20 7 (gS rfl (gS rfl (gS rfl (gS rfl (gS rfl (gS rfl (gS rfl (gS rfl (gS rfl g0))))))))) (gS rfl (gS rfl (gS rfl (gS rfl (gS rfl (gS rfl (gS rfl (gS rfl g0)))))))) (gS rfl (gS rfl (gS rfl (gS rfl (gS rfl (gS rfl (gS rfl g0))))))) (gS rfl (gS rfl (gS rfl (gS rfl (gS rfl (gS rfl g0)))))) (gS rfl (gS rfl (gS rfl (gS rfl (gS rfl g0))))) (gS rfl (gS rfl (gS rfl (gS rfl g0)))) (gS rfl (gS rfl (gS rfl g0))) g0 (fun g => ?_)
        refine c_seq (fun K19 hK19 => ?_)
        refine c_seq (fun K20 hK20 => ?_)
        refine c_region ?_
        refine l_step (y_moveV (et (gS rfl (gS rfl (gS rfl (gS rfl g0)))) rfl)) ?_
        refine l_step (y_not (et g0 rfl)) ?_
        refine l_step (y_moveV (et g0 rfl)) ?_
        refine gsplitL (i := 26) g0 (fun q21 => ?_) (fun q21 => ?_)
        · skip
          have hlb : lb = false := by simpa using q21
          refine l_gstep (j := 2) (t := 26) (by exact rfl) (by exact rfl) (et g0 rfl) (by decide) (y_fld fld_107_0 (et (gS rfl (gS rfl (gS rfl (gS rfl g0)))) rfl)) ?_
          refine l_gstep (j := 2) (t := 26) (by exact rfl) (by exact rfl) (et (gS rfl g0) rfl) (by decide) (y_loadR agg_25 sz_25 (et g0 rfl) (by rw [length_bL, length_be]) (at1R (k17.row hPa.1))) ?_
          refine l_gstep (j := 2) (t := 26) (by exact rfl) (by exact rfl) (et (gS rfl (gS rfl g0)) rfl) (by decide) (y_fld fld_107_0 (et (gS rfl (gS rfl (gS rfl (gS rfl (gS rfl (gS rfl (gS rfl (gS rfl (gS rfl (gS rfl (gS rfl (gS rfl g0)))))))))))) rfl)) ?_
          refine l_gstep (j := 2) (t := 26) (by exact rfl) (by exact rfl) (et (gS rfl (gS rfl (gS rfl g0))) rfl) (by decide) (y_loadR agg_25 sz_25 (et g0 rfl) (by rw [length_bL, length_be]) (at1R (k2.row hAa.1))) ?_
          refine l_geff (j := 2) (t := 26) (by exact rfl) (by exact rfl) (et (gS rfl (gS rfl (gS rfl (gS rfl g0)))) rfl) rfl (e_callV cal_130 (aC (et (gS rfl (gS rfl g0)) rfl) (aC (et g0 rfl) aN)) (yp_before _ _ _ hPa.2 hAa.2)) (fun v22 w22 h22 => ?_)
          obtain ⟨rfl, u22⟩ := h22
          replace k2 := k2.up u22
          replace k17 := k17.up u22
          replace hF := hF.up u22
          replace kS := kS.up u22
          replace hO := hO.up u22
          replace U := U.tr u22
          replace V10 := V10.tr u22
          refine l_gstep (j := 2) (t := 26) (by exact rfl) (by exact rfl) (et (gS rfl (gS rfl (gS rfl (gS rfl (gS rfl g0))))) rfl) (by decide) (y_not (et g0 rfl)) ?_
          refine l_step (y_pickT (et (gS rfl (gS rfl (gS rfl (gS rfl (gS rfl (gS rfl g0)))))) rfl) (et g0 rfl)) ?_
          refine l_nil ?_
          refine hK20 _ _ ?_
          refine fg9 0 3 4 5 18 19 20 7 33 (gS rfl (gS rfl (gS rfl (gS rfl (gS rfl (gS rfl (gS rfl (gS rfl (gS rfl (gS rfl (gS rfl (gS rfl (gS rfl (gS rfl (gS rfl (gS rfl (gS rfl (gS rfl g0)))))))))))))))))) (gS rfl (gS rfl (gS rfl (gS rfl (gS rfl (gS rfl (gS rfl (gS rfl (gS rfl (gS rfl (gS rfl (gS rfl (gS rfl (gS rfl (gS rfl (gS rfl (gS rfl g0))))))))))))))))) (gS rfl (gS rfl (gS rfl (gS rfl (gS rfl (gS rfl (gS rfl (gS rfl (gS rfl (gS rfl (gS rfl (gS rfl (gS rfl (gS rfl (gS rfl (gS rfl g0)))))))))))))))) (gS rfl (gS rfl (gS rfl (gS rfl (gS rfl (gS rfl (gS rfl (gS rfl (gS rfl (gS rfl (gS rfl (gS rfl (gS rfl (gS rfl (gS rfl g0))))))))))))))) (gS rfl (gS rfl (gS rfl (gS rfl (gS rfl (gS rfl (gS rfl (gS rfl (gS rfl (gS rfl (gS rfl (gS rfl (gS rfl (gS rfl g0)))))))))))))) (gS rfl (gS rfl (gS rfl (gS rfl (gS rfl (gS rfl (gS rfl (gS rfl (gS rfl (gS rfl (gS rfl (gS rfl (gS rfl g0))))))))))))) (gS rfl (gS rfl (gS rfl (gS rfl (gS rfl (gS rfl (gS rfl (gS rfl (gS rfl (gS rfl (gS rfl (gS rfl g0)))))))))))) (gS rfl (gS rfl (gS rfl (gS rfl (gS rfl (gS rfl (gS rfl (gS rfl (gS rfl (gS rfl (gS rfl g0))))))))))) g0 (fun g => ?_)
          refine c_cond (et g0 rfl) (fun cB2 => ?_) (fun cB2 => ?_)
          · skip
            
            have hcd : (!decide (xs[i].addr < A.addr)) = true := cB2
            refine c_seq (fun K24 hK24 => ?_)
            refine c_region ?_
            refine l_step (y_moveV (et (gS rfl (gS rfl (gS rfl (gS rfl (gS rfl (gS rfl g0)))))) rfl)) ?_
            refine l_step (y_loadB agg_107 sz_107 (et (gS rfl (gS rfl (gS rfl (gS rfl (gS rfl (gS rfl (gS rfl (gS rfl g0)))))))) rfl) (by rw [List.size_toArray, hAl]) (at1B k2)) ?_
            refine l_eff (e_slice1 Hvaa.underlying92 sz_107 zr_107 rfl (by decide) (et g0 rfl) (by rw [show (Value.agg (ca).toArray).cells = (ca).toArray from rfl, List.size_toArray, hAl])) (fun v25 w25 h25 => ?_)
            obtain ⟨b25, rfl, n25⟩ := h25
            replace k2 := k2.up n25.up
            replace k17 := k17.up n25.up
            replace hF := hF.up n25.up
            replace kS := kS.up n25.up
            replace hO := hO.up n25.up
            replace U := U.tr n25.up
            replace V10 := V10.tr n25.up
            have kq25 : Blk w25 b25 (ca).toArray := n25.blk
            have hbz : base ≤ w25.heap.size := by have := k17.lt; omega
            refine l_eff (e_appL Hvaa.underlying92 sz_107 zr_107 by_107 rfl (by decide) (et (gS rfl (gS rfl g0)) rfl) hO (et g0 rfl) hAl kq25 hAo hA (by decide) (by first | omega | (simp; omega)) hbz) (fun v26 w26 h26 => ?_)
            obtain ⟨hO26, c26, hown26⟩ := h26
            have hOo := hO
            have nO8 := hown26 _ k17.lt (hO.ne (by omega))
            replace k2 := k2.ch c26 (by first | omega | exact hOo.ne (by omega) | assumption | (intro q hq; exact hOo.ne (by have := hF0.lt hq; omega)))
            replace k17 := k17.ch c26 (by first | omega | exact hOo.ne (by omega) | assumption | (intro q hq; exact hOo.ne (by have := hF0.lt hq; omega)))
            replace hF := hF.ch c26 (by first | omega | (intro q hq e; have := hF0.lt hq; omega) | (intro q hq e; exact hOo.ne (by have := hF0.lt hq; omega) e) | (intro q hq e; exact nbS (e ▸ hq)))
            replace kS := kS.ch c26 (by first | omega | exact hOo.ne (by omega))
            replace hO := hO26
            replace V10 := V10.cc c26 (by intro b hb; first | omega | (simp at hb ⊢; omega) | (have := hOo.lim b hb.symm; omega))
            replace U := U.cc c26 (by intro b hb; first | (have := hOo.lim b hb.symm; omega) | omega | exact .inl hb | exact .inr (hb ▸ U))
            refine l_step (y_assignV (et g0 rfl)) ?_
            refine l_nil ?_
            refine hK24 _ _ ?_
            refine fg7 0 3 4 18 19 20 7 (gS rfl (gS rfl (gS rfl (gS rfl (gS rfl (gS rfl (gS rfl (gS rfl (gS rfl (gS rfl (gS rfl (gS rfl (gS rfl g0))))))))))))) (gS rfl (gS rfl (gS rfl (gS rfl (gS rfl (gS rfl (gS rfl (gS rfl (gS rfl (gS rfl (gS rfl (gS rfl g0)))))))))))) g0 (gS rfl (gS rfl (gS rfl (gS rfl (gS rfl (gS rfl (gS rfl (gS rfl (gS rfl g0))))))))) (gS rfl (gS rfl (gS rfl (gS rfl (gS rfl (gS rfl (gS rfl (gS rfl g0)))))))) (gS rfl (gS rfl (gS rfl (gS rfl (gS rfl (gS rfl (gS rfl g0))))))) (gS rfl (gS rfl (gS rfl (gS rfl (gS rfl (gS rfl g0)))))) (fun g => ?_)
            refine c_region ?_
            refine l_step y_assignC ?_
            refine l_nil ?_
            refine hK19 _ _ ?_
            refine c_seq (fun K27 hK27 => ?_)
            refine c_region ?_
            refine l_step (y_fld fld_107_0 (et (gS rfl g0) rfl)) ?_
            refine l_step (y_loadR agg_25 sz_25 (et g0 rfl) (by rw [length_bL, length_be]) (at1R (k17.row hPa.1))) ?_
            refine l_step (y_fld fld_107_0 (et (gS rfl (gS rfl (gS rfl (gS rfl (gS rfl (gS rfl (gS rfl (gS rfl g0)))))))) rfl)) ?_
            refine l_step (y_loadR agg_25 sz_25 (et g0 rfl) (by rw [length_bL, length_be]) (at1R (k2.row hAa.1))) ?_
            refine l_step (y_neqAddr hPa.2 hAa.2 (et (gS rfl (gS rfl g0)) rfl) (et g0 rfl)) ?_
            refine l_nil ?_
            refine hK27 _ _ ?_
            refine fg9 0 3 4 18 19 20 7 5 42 (gS rfl (gS rfl (gS rfl (gS rfl (gS rfl (gS rfl (gS rfl (gS rfl (gS rfl (gS rfl (gS rfl (gS rfl g0)))))))))))) (gS rfl (gS rfl (gS rfl (gS rfl (gS rfl (gS rfl (gS rfl (gS rfl (gS rfl (gS rfl (gS rfl g0))))))))))) (gS rfl (gS rfl (gS rfl (gS rfl (gS rfl (gS rfl (gS rfl (gS rfl (gS rfl (gS rfl g0)))))))))) (gS rfl (gS rfl (gS rfl (gS rfl (gS rfl (gS rfl (gS rfl (gS rfl (gS rfl g0))))))))) (gS rfl (gS rfl (gS rfl (gS rfl (gS rfl (gS rfl (gS rfl (gS rfl g0)))))))) (gS rfl (gS rfl (gS rfl (gS rfl (gS rfl (gS rfl (gS rfl g0))))))) (gS rfl (gS rfl (gS rfl (gS rfl (gS rfl (gS rfl g0)))))) (gS rfl (gS rfl (gS rfl (gS rfl (gS rfl g0))))) g0 (fun g => ?_)
            refine c_cond (et g0 rfl) (fun cB3 => ?_) (fun cB3 => ?_)
            · skip
              
              have hsm : (xs[i].addr == A.addr) = false := by have := of_decide_eq_true cB3; simpa using this
              refine c_region ?_
              refine l_step (y_moveV (et (gS rfl (gS rfl (gS rfl (gS rfl (gS rfl (gS rfl g0)))))) rfl)) ?_
              refine l_step (y_loadB agg_107 sz_107 (et (gS rfl (gS rfl (gS rfl g0))) rfl) (by rw [List.size_toArray, hrl]) (at1B k17)) ?_
              refine l_eff (e_slice1 Hvaa.underlying92 sz_107 zr_107 rfl (by decide) (et g0 rfl) (by rw [show (Value.agg (r).toArray).cells = (r).toArray from rfl, List.size_toArray, hrl])) (fun v29 w29 h29 => ?_)
              obtain ⟨b29, rfl, n29⟩ := h29
              replace k2 := k2.up n29.up
              replace k17 := k17.up n29.up
              replace hF := hF.up n29.up
              replace kS := kS.up n29.up
              replace hO := hO.up n29.up
              replace U := U.tr n29.up
              replace V10 := V10.tr n29.up
              have kq29 : Blk w29 b29 (r).toArray := n29.blk
              have hbz : base ≤ w29.heap.size := by have := k17.lt; omega
              refine l_eff (e_appL Hvaa.underlying92 sz_107 zr_107 by_107 rfl (by decide) (et (gS rfl (gS rfl g0)) rfl) hO (et g0 rfl) hrl kq29 hPo hP (by decide) (by first | omega | (simp; omega)) hbz) (fun v30 w30 h30 => ?_)
              obtain ⟨hO30, c30, hown30⟩ := h30
              have hOo := hO
              replace k2 := k2.ch c30 (by first | omega | exact hOo.ne (by omega) | assumption | (intro q hq; exact hOo.ne (by have := hF0.lt hq; omega)))
              replace k17 := k17.ch c30 (by first | omega | exact hOo.ne (by omega) | assumption | (intro q hq; exact hOo.ne (by have := hF0.lt hq; omega)))
              replace hF := hF.ch c30 (by first | omega | (intro q hq e; have := hF0.lt hq; omega) | (intro q hq e; exact hOo.ne (by have := hF0.lt hq; omega) e) | (intro q hq e; exact nbS (e ▸ hq)))
              replace kS := kS.ch c30 (by first | omega | exact hOo.ne (by omega))
              replace hO := hO30
              replace V10 := V10.cc c30 (by intro b hb; first | omega | (simp at hb ⊢; omega) | (have := hOo.lim b hb.symm; omega))
              replace U := U.cc c30 (by intro b hb; first | (have := hOo.lim b hb.symm; omega) | omega | exact .inl hb | exact .inr (hb ▸ U))
              refine l_step (y_assignV (et g0 rfl)) ?_
              refine l_nil ?_
              refine hQ15 _ _ _ (in_normal ?_)
              refine hK14 _ _ ?_
              refine fg7 0 3 4 18 19 20 5 (gS rfl (gS rfl (gS rfl (gS rfl (gS rfl (gS rfl (gS rfl (gS rfl (gS rfl (gS rfl (gS rfl (gS rfl (gS rfl g0))))))))))))) (gS rfl (gS rfl (gS rfl (gS rfl (gS rfl (gS rfl (gS rfl (gS rfl (gS rfl (gS rfl (gS rfl (gS rfl g0)))))))))))) g0 (gS rfl (gS rfl (gS rfl (gS rfl (gS rfl (gS rfl (gS rfl (gS rfl (gS rfl (gS rfl g0)))))))))) (gS rfl (gS rfl (gS rfl (gS rfl (gS rfl (gS rfl (gS rfl (gS rfl (gS rfl g0))))))))) (gS rfl (gS rfl (gS rfl (gS rfl (gS rfl (gS rfl (gS rfl (gS rfl g0)))))))) (gS rfl (gS rfl (gS rfl (gS rfl (gS rfl (gS rfl g0)))))) (fun g => ?_)
              refine c_region ?_
              refine l_step (y_add (et (gS rfl g0) rfl) rfl (addIN (y := 1) ?_)) ?_
              omega
              refine l_step (y_moveV (et g0 rfl)) ?_
              refine l_nil ?_
              refine fK7 0 3 4 5 18 19 20 (gS rfl (gS rfl (gS rfl (gS rfl (gS rfl (gS rfl (gS rfl (gS rfl g0)))))))) (gS rfl (gS rfl (gS rfl (gS rfl (gS rfl (gS rfl (gS rfl g0))))))) (gS rfl (gS rfl (gS rfl (gS rfl (gS rfl (gS rfl g0)))))) (gS rfl (gS rfl g0)) (gS rfl (gS rfl (gS rfl (gS rfl (gS rfl g0))))) (gS rfl (gS rfl (gS rfl (gS rfl g0)))) g0 (fun g => ?_)
              exact hK10 (xs.length - ((i + 1))) _ _ (by omega) ⟨g, _, true, (O ++ [A] ++ [xs[i]]), (i + 1), rfl, rfl, by omega, hO, by rw [hlb] at hOl; simp at hOl ⊢; omega, put_keep (put_lay (by rw [hlb] at hfin; exact hfin) (by rw [lay_cond]; exact hcd)) hsm, V10⟩
            · skip
              
              have hsm : (xs[i].addr == A.addr) = true := by have := of_decide_eq_false cB3; simpa using this
              refine c_skip ?_
              refine hQ15 _ _ _ (in_normal ?_)
              refine hK14 _ _ ?_
              refine fg7 0 3 4 18 19 20 5 (gS rfl (gS rfl (gS rfl (gS rfl (gS rfl (gS rfl (gS rfl (gS rfl g0)))))))) (gS rfl (gS rfl (gS rfl (gS rfl (gS rfl (gS rfl (gS rfl g0))))))) (gS rfl (gS rfl (gS rfl (gS rfl (gS rfl (gS rfl g0)))))) (gS rfl (gS rfl (gS rfl (gS rfl (gS rfl g0))))) (gS rfl (gS rfl (gS rfl (gS rfl g0)))) (gS rfl (gS rfl (gS rfl g0))) (gS rfl g0) (fun g => ?_)
              refine c_region ?_
              refine l_step (y_add (et (gS rfl g0) rfl) rfl (addIN (y := 1) ?_)) ?_
              omega
              refine l_step (y_moveV (et g0 rfl)) ?_
              refine l_nil ?_
              refine fK7 0 3 4 5 18 19 20 (gS rfl (gS rfl (gS rfl (gS rfl (gS rfl (gS rfl (gS rfl (gS rfl g0)))))))) (gS rfl (gS rfl (gS rfl (gS rfl (gS rfl (gS rfl (gS rfl g0))))))) (gS rfl (gS rfl (gS rfl (gS rfl (gS rfl (gS rfl g0)))))) (gS rfl (gS rfl g0)) (gS rfl (gS rfl (gS rfl (gS rfl (gS rfl g0))))) (gS rfl (gS rfl (gS rfl (gS rfl g0)))) g0 (fun g => ?_)
              exact hK10 (xs.length - ((i + 1))) _ _ (by omega) ⟨g, _, true, (O ++ [A]), (i + 1), rfl, rfl, by omega, hO, by rw [hlb] at hOl; simp at hOl ⊢; omega, put_same (put_lay (by rw [hlb] at hfin; exact hfin) (by rw [lay_cond]; exact hcd)) hsm, V10⟩
          · skip
            
            have hcd : (!decide (xs[i].addr < A.addr)) = false := cB2
            have hlb0 : lb = true ∨ ((xs[i].addr == A.addr) || decide (A.addr < xs[i].addr)) = false := .inr (by rw [lay_cond]; exact hcd)
            refine c_skip ?_
            refine hK19 _ _ ?_
            refine fg8 0 3 4 5 18 19 20 7 (gS rfl (gS rfl (gS rfl (gS rfl (gS rfl (gS rfl (gS rfl (gS rfl g0)))))))) (gS rfl (gS rfl (gS rfl (gS rfl (gS rfl (gS rfl (gS rfl g0))))))) (gS rfl (gS rfl (gS rfl (gS rfl (gS rfl (gS rfl g0)))))) (gS rfl (gS rfl (gS rfl (gS rfl (gS rfl g0))))) (gS rfl (gS rfl (gS rfl (gS rfl g0)))) (gS rfl (gS rfl (gS rfl g0))) (gS rfl (gS rfl g0)) (gS rfl g0) (fun g => ?_)
            refine c_seq (fun K31 hK31 => ?_)
            refine c_region ?_
            refine l_step (y_fld fld_107_0 (et g0 rfl)) ?_
            refine l_step (y_loadR agg_25 sz_25 (et g0 rfl) (by rw [length_bL, length_be]) (at1R (k17.row hPa.1))) ?_
            refine l_step (y_fld fld_107_0 (et (gS rfl (gS rfl (gS rfl (gS rfl (gS rfl (gS rfl (gS rfl (gS rfl g0)))))))) rfl)) ?_
            refine l_step (y_loadR agg_25 sz_25 (et g0 rfl) (by rw [length_bL, length_be]) (at1R (k2.row hAa.1))) ?_
            refine l_step (y_neqAddr hPa.2 hAa.2 (et (gS rfl (gS rfl g0)) rfl) (et g0 rfl)) ?_
            refine l_nil ?_
            refine hK31 _ _ ?_
            refine fg9 0 3 4 5 18 19 20 7 42 (gS rfl (gS rfl (gS rfl (gS rfl (gS rfl (gS rfl (gS rfl (gS rfl (gS rfl (gS rfl (gS rfl (gS rfl g0)))))))))))) (gS rfl (gS rfl (gS rfl (gS rfl (gS rfl (gS rfl (gS rfl (gS rfl (gS rfl (gS rfl (gS rfl g0))))))))))) (gS rfl (gS rfl (gS rfl (gS rfl (gS rfl (gS rfl (gS rfl (gS rfl (gS rfl (gS rfl g0)))))))))) (gS rfl (gS rfl (gS rfl (gS rfl (gS rfl (gS rfl (gS rfl (gS rfl (gS rfl g0))))))))) (gS rfl (gS rfl (gS rfl (gS rfl (gS rfl (gS rfl (gS rfl (gS rfl g0)))))))) (gS rfl (gS rfl (gS rfl (gS rfl (gS rfl (gS rfl (gS rfl g0))))))) (gS rfl (gS rfl (gS rfl (gS rfl (gS rfl (gS rfl g0)))))) (gS rfl (gS rfl (gS rfl (gS rfl (gS rfl g0))))) g0 (fun g => ?_)
            refine c_cond (et g0 rfl) (fun cB3 => ?_) (fun cB3 => ?_)
            · skip
              
              have hsm : (xs[i].addr == A.addr) = false := by have := of_decide_eq_true cB3; simpa using this
              refine c_region ?_
              refine l_step (y_moveV (et (gS rfl (gS rfl (gS rfl (gS rfl (gS rfl (gS rfl g0)))))) rfl)) ?_
              refine l_step (y_loadB agg_107 sz_107 (et (gS rfl (gS rfl g0)) rfl) (by rw [List.size_toArray, hrl]) (at1B k17)) ?_
              refine l_eff (e_slice1 Hvaa.underlying92 sz_107 zr_107 rfl (by decide) (et g0 rfl) (by rw [show (Value.agg (r).toArray).cells = (r).toArray from rfl, List.size_toArray, hrl])) (fun v33 w33 h33 => ?_)
              obtain ⟨b33, rfl, n33⟩ := h33
              replace k2 := k2.up n33.up
              replace k17 := k17.up n33.up
              replace hF := hF.up n33.up
              replace kS := kS.up n33.up
              replace hO := hO.up n33.up
              replace U := U.tr n33.up
              replace V10 := V10.tr n33.up
              have kq33 : Blk w33 b33 (r).toArray := n33.blk
              have hbz : base ≤ w33.heap.size := by have := k17.lt; omega
              refine l_eff (e_appL Hvaa.underlying92 sz_107 zr_107 by_107 rfl (by decide) (et (gS rfl (gS rfl g0)) rfl) hO (et g0 rfl) hrl kq33 hPo hP (by decide) (by first | omega | (simp; omega)) hbz) (fun v34 w34 h34 => ?_)
              obtain ⟨hO34, c34, hown34⟩ := h34
              have hOo := hO
              replace k2 := k2.ch c34 (by first | omega | exact hOo.ne (by omega) | assumption | (intro q hq; exact hOo.ne (by have := hF0.lt hq; omega)))
              replace k17 := k17.ch c34 (by first | omega | exact hOo.ne (by omega) | assumption | (intro q hq; exact hOo.ne (by have := hF0.lt hq; omega)))
              replace hF := hF.ch c34 (by first | omega | (intro q hq e; have := hF0.lt hq; omega) | (intro q hq e; exact hOo.ne (by have := hF0.lt hq; omega) e) | (intro q hq e; exact nbS (e ▸ hq)))
              replace kS := kS.ch c34 (by first | omega | exact hOo.ne (by omega))
              replace hO := hO34
              replace V10 := V10.cc c34 (by intro b hb; first | omega | (simp at hb ⊢; omega) | (have := hOo.lim b hb.symm; omega))
              replace U := U.cc c34 (by intro b hb; first | (have := hOo.lim b hb.symm; omega) | omega | exact .inl hb | exact .inr (hb ▸ U))
              refine l_step (y_assignV (et g0 rfl)) ?_
              refine l_nil ?_
              refine hQ15 _ _ _ (in_normal ?_)
              refine hK14 _ _ ?_
              refine fg7 0 3 4 5 18 19 20 (gS rfl (gS rfl (gS rfl (gS rfl (gS rfl (gS rfl (gS rfl (gS rfl (gS rfl (gS rfl (gS rfl (gS rfl (gS rfl g0))))))))))))) (gS rfl (gS rfl (gS rfl (gS rfl (gS rfl (gS rfl (gS rfl (gS rfl (gS rfl (gS rfl (gS rfl (gS rfl g0)))))))))))) g0 (gS rfl (gS rfl (gS rfl (gS rfl (gS rfl (gS rfl (gS rfl (gS rfl (gS rfl (gS rfl g0)))))))))) (gS rfl (gS rfl (gS rfl (gS rfl (gS rfl (gS rfl (gS rfl (gS rfl (gS rfl g0))))))))) (gS rfl (gS rfl (gS rfl (gS rfl (gS rfl (gS rfl (gS rfl (gS rfl g0)))))))) (gS rfl (gS rfl (gS rfl (gS rfl (gS rfl (gS rfl (gS rfl g0))))))) (fun g => ?_)
              refine c_region ?_
              refine l_step (y_add (et g0 rfl) rfl (addIN (y := 1) ?_)) ?_
              omega
              refine l_step (y_moveV (et g0 rfl)) ?_
              refine l_nil ?_
              refine fK7 0 3 4 5 18 19 20 (gS rfl (gS rfl (gS rfl (gS rfl (gS rfl (gS rfl (gS rfl (gS rfl g0)))))))) (gS rfl (gS rfl (gS rfl (gS rfl (gS rfl (gS rfl (gS rfl g0))))))) (gS rfl (gS rfl (gS rfl (gS rfl (gS rfl (gS rfl g0)))))) (gS rfl (gS rfl (gS rfl (gS rfl (gS rfl g0))))) (gS rfl (gS rfl (gS rfl (gS rfl g0)))) (gS rfl (gS rfl (gS rfl g0))) g0 (fun g => ?_)
              exact hK10 (xs.length - ((i + 1))) _ _ (by omega) ⟨g, _, lb, (O ++ [xs[i]]), (i + 1), rfl, rfl, by omega, hO, by simp; omega, pass_step hfin hlb0 hsm, V10⟩
            · skip
              
              have hsm : (xs[i].addr == A.addr) = true := by have := of_decide_eq_false cB3; simpa using this
              have hlb1 : lb = true := by
                rcases hlb0 with h | h
                · exact h
                · rw [hsm] at h; cases h
              refine c_skip ?_
              refine hQ15 _ _ _ (in_normal ?_)
              refine hK14 _ _ ?_
              refine fg7 0 3 4 5 18 19 20 (gS rfl (gS rfl (gS rfl (gS rfl (gS rfl (gS rfl (gS rfl (gS rfl g0)))))))) (gS rfl (gS rfl (gS rfl (gS rfl (gS rfl (gS rfl (gS rfl g0))))))) (gS rfl (gS rfl (gS rfl (gS rfl (gS rfl (gS rfl g0)))))) (gS rfl (gS rfl (gS rfl (gS rfl (gS rfl g0))))) (gS rfl (gS rfl (gS rfl (gS rfl g0)))) (gS rfl (gS rfl (gS rfl g0))) (gS rfl (gS rfl g0)) (fun g => ?_)
              refine c_region ?_
              refine l_step (y_add (et g0 rfl) rfl (addIN (y := 1) ?_)) ?_
              omega
              refine l_step (y_moveV (et g0 rfl)) ?_
              refine l_nil ?_
              refine fK7 0 3 4 5 18 19 20 (gS rfl (gS rfl (gS rfl (gS rfl (gS rfl (gS rfl (gS rfl (gS rfl g0)))))))) (gS rfl (gS rfl (gS rfl (gS rfl (gS rfl (gS rfl (gS rfl g0))))))) (gS rfl (gS rfl (gS rfl (gS rfl (gS rfl (gS rfl g0)))))) (gS rfl (gS rfl (gS rfl (gS rfl (gS rfl g0))))) (gS rfl (gS rfl (gS rfl (gS rfl g0)))) (gS rfl (gS rfl (gS rfl g0))) g0 (fun g => ?_)
              exact hK10 (xs.length - ((i + 1))) _ _ (by omega) ⟨g, _, lb, O, (i + 1), rfl, rfl, by omega, hO.mono (by have := k17.lt; omega), by omega, skip_step hfin hlb1 hsm, V10⟩
        · skip
          have hlb : lb = true := by simpa using q21
          have hlb0 : lb = true ∨ ((xs[i].addr == A.addr) || decide (A.addr < xs[i].addr)) = false := .inl hlb
          have hlb1 : lb = true := hlb
          refine l_gskip (j := 2) (t := 26) (by exact rfl) (by exact rfl) (et g0 rfl) (by decide) (by decide) ?_
          refine l_gskip (j := 2) (t := 26) (by exact rfl) (by exact rfl) (et (gS rfl g0) rfl) (by decide) (by decide) ?_
          refine l_gskip (j := 2) (t := 26) (by exact rfl) (by exact rfl) (et (gS rfl (gS rfl g0)) rfl) (by decide) (by decide) ?_
          refine l_gskip (j := 2) (t := 26) (by exact rfl) (by exact rfl) (et (gS rfl (gS rfl (gS rfl g0))) rfl) (by decide) (by decide) ?_
          refine l_gskip (j := 2) (t := 26) (by exact rfl) (by exact rfl) (et (gS rfl (gS rfl (gS rfl (gS rfl g0)))) rfl) (by decide) (by decide) ?_
          refine l_gskip (j := 2) (t := 26) (by exact rfl) (by exact rfl) (et (gS rfl (gS rfl (gS rfl (gS rfl (gS rfl g0))))) rfl) (by decide) (by decide) ?_
          refine l_step (y_pickF (et (gS rfl (gS rfl (gS rfl (gS rfl (gS rfl (gS rfl g0)))))) rfl) rfl) ?_
          refine l_nil ?_
          refine hK20 _ _ ?_
          refine fg9 0 3 4 5 18 19 20 7 33 (gS rfl (gS rfl (gS rfl (gS rfl (gS rfl (gS rfl (gS rfl (gS rfl (gS rfl (gS rfl (gS rfl (gS rfl (gS rfl (gS rfl (gS rfl (gS rfl (gS rfl (gS rfl g0)))))))))))))))))) (gS rfl (gS rfl (gS rfl (gS rfl (gS rfl (gS rfl (gS rfl (gS rfl (gS rfl (gS rfl (gS rfl (gS rfl (gS rfl (gS rfl (gS rfl (gS rfl (gS rfl g0))))))))))))))))) (gS rfl (gS rfl (gS rfl (gS rfl (gS rfl (gS rfl (gS rfl (gS rfl (gS rfl (gS rfl (gS rfl (gS rfl (gS rfl (gS rfl (gS rfl (gS rfl g0)))))))))))))))) (gS rfl (gS rfl (gS rfl (gS rfl (gS rfl (gS rfl (gS rfl (gS rfl (gS rfl (gS rfl (gS rfl (gS rfl (gS rfl (gS rfl (gS rfl g0))))))))))))))) (gS rfl (gS rfl (gS rfl (gS rfl (gS rfl (gS rfl (gS rfl (gS rfl (gS rfl (gS rfl (gS rfl (gS rfl (gS rfl (gS rfl g0)))))))))))))) (gS rfl (gS rfl (gS rfl (gS rfl (gS rfl (gS rfl (gS rfl (gS rfl (gS rfl (gS rfl (gS rfl (gS rfl (gS rfl g0))))))))))))) (gS rfl (gS rfl (gS rfl (gS rfl (gS rfl (gS rfl (gS rfl (gS rfl (gS rfl (gS rfl (gS rfl (gS rfl g0)))))))))))) (gS rfl (gS rfl (gS rfl (gS rfl (gS rfl (gS rfl (gS rfl (gS rfl (gS rfl (gS rfl (gS rfl g0))))))))))) g0 (fun g => ?_)
          refine c_false (et g0 rfl) rfl ?_
          refine c_skip ?_
          refine hK19 _ _ ?_
          refine fg8 0 3 4 5 18 19 20 7 (gS rfl (gS rfl (gS rfl (gS rfl (gS rfl (gS rfl (gS rfl (gS rfl g0)))))))) (gS rfl (gS rfl (gS rfl (gS rfl (gS rfl (gS rfl (gS rfl g0))))))) (gS rfl (gS rfl (gS rfl (gS rfl (gS rfl (gS rfl g0)))))) (gS rfl (gS rfl (gS rfl (gS rfl (gS rfl g0))))) (gS rfl (gS rfl (gS rfl (gS rfl g0)))) (gS rfl (gS rfl (gS rfl g0))) (gS rfl (gS rfl g0)) (gS rfl g0) (fun g => ?_)
          refine c_seq (fun K36 hK36 => ?_)
          refine c_region ?_
          refine l_step (y_fld fld_107_0 (et g0 rfl)) ?_
          refine l_step (y_loadR agg_25 sz_25 (et g0 rfl) (by rw [length_bL, length_be]) (at1R (k17.row hPa.1))) ?_
          refine l_step (y_fld fld_107_0 (et (gS rfl (gS rfl (gS rfl (gS rfl (gS rfl (gS rfl (gS rfl (gS rfl g0)))))))) rfl)) ?_
          refine l_step (y_loadR agg_25 sz_25 (et g0 rfl) (by rw [length_bL, length_be]) (at1R (k2.row hAa.1))) ?_
          refine l_step (y_neqAddr hPa.2 hAa.2 (et (gS rfl (gS rfl g0)) rfl) (et g0 rfl)) ?_
          refine l_nil ?_
          refine hK36 _ _ ?_
          refine fg9 0 3 4 5 18 19 20 7 42 (gS rfl (gS rfl (gS rfl (gS rfl (gS rfl (gS rfl (gS rfl (gS rfl (gS rfl (gS rfl (gS rfl (gS rfl g0)))))))))))) (gS rfl (gS rfl (gS rfl (gS rfl (gS rfl (gS rfl (gS rfl (gS rfl (gS rfl (gS rfl (gS rfl g0))))))))))) (gS rfl (gS rfl (gS rfl (gS rfl (gS rfl (gS rfl (gS rfl (gS rfl (gS rfl (gS rfl g0)))))))))) (gS rfl (gS rfl (gS rfl (gS rfl (gS rfl (gS rfl (gS rfl (gS rfl (gS rfl g0))))))))) (gS rfl (gS rfl (gS rfl (gS rfl (gS rfl (gS rfl (gS rfl (gS rfl g0)))))))) (gS rfl (gS rfl (gS rfl (gS rfl (gS rfl (gS rfl (gS rfl g0))))))) (gS rfl (gS rfl (gS rfl (gS rfl (gS rfl (gS rfl g0)))))) (gS rfl (gS rfl (gS rfl (gS rfl (gS rfl g0))))) g0 (fun g => ?_)
          refine c_cond (et g0 rfl) (fun cB3 => ?_) (fun cB3 => ?_)
          · skip
            
            have hsm : (xs[i].addr == A.addr) = false := by have := of_decide_eq_true cB3; simpa using this
            refine c_region ?_
            refine l_step (y_moveV (et (gS rfl (gS rfl (gS rfl (gS rfl (gS rfl (gS rfl g0)))))) rfl)) ?_
            refine l_step (y_loadB agg_107 sz_107 (et (gS rfl (gS rfl g0)) rfl) (by rw [List.size_toArray, hrl]) (at1B k17)) ?_
            refine l_eff (e_slice1 Hvaa.underlying92 sz_107 zr_107 rfl (by decide) (et g0 rfl) (by rw [show (Value.agg (r).toArray).cells = (r).toArray from rfl, List.size_toArray, hrl])) (fun v38 w38 h38 => ?_)
            obtain ⟨b38, rfl, n38⟩ := h38
            replace k2 := k2.up n38.up
            replace k17 := k17.up n38.up
            replace hF := hF.up n38.up
            replace kS := kS.up n38.up
            replace hO := hO.up n38.up
            replace U := U.tr n38.up
            replace V10 := V10.tr n38.up
            have kq38 : Blk w38 b38 (r).toArray := n38.blk
            have hbz : base ≤ w38.heap.size := by have := k17.lt; omega
            refine l_eff (e_appL Hvaa.underlying92 sz_107 zr_107 by_107 rfl (by decide) (et (gS rfl (gS rfl g0)) rfl) hO (et g0 rfl) hrl kq38 hPo hP (by decide) (by first | omega | (simp; omega)) hbz) (fun v39 w39 h39 => ?_)
            obtain ⟨hO39, c39, hown39⟩ := h39
            have hOo := hO
            replace k2 := k2.ch c39 (by first | omega | exact hOo.ne (by omega) | assumption | (intro q hq; exact hOo.ne (by have := hF0.lt hq; omega)))
            replace k17 := k17.ch c39 (by first | omega | exact hOo.ne (by omega) | assumption | (intro q hq; exact hOo.ne (by have := hF0.lt hq; omega)))
            replace hF := hF.ch c39 (by first | omega | (intro q hq e; have := hF0.lt hq; omega) | (intro q hq e; exact hOo.ne (by have := hF0.lt hq; omega) e) | (intro q hq e; exact nbS (e ▸ hq)))
            replace kS := kS.ch c39 (by first | omega | exact hOo.ne (by omega))
            replace hO := hO39
            replace V10 := V10.cc c39 (by intro b hb; first | omega | (simp at hb ⊢; omega) | (have := hOo.lim b hb.symm; omega))
            replace U := U.cc c39 (by intro b hb; first | (have := hOo.lim b hb.symm; omega) | omega | exact .inl hb | exact .inr (hb ▸ U))
            refine l_step (y_assignV (et g0 rfl)) ?_
            refine l_nil ?_
            refine hQ15 _ _ _ (in_normal ?_)
            refine hK14 _ _ ?_
            refine fg7 0 3 4 5 18 19 20 (gS rfl (gS rfl (gS rfl (gS rfl (gS rfl (gS rfl (gS rfl (gS rfl (gS rfl (gS rfl (gS rfl (gS rfl (gS rfl g0))))))))))))) (gS rfl (gS rfl (gS rfl (gS rfl (gS rfl (gS rfl (gS rfl (gS rfl (gS rfl (gS rfl (gS rfl (gS rfl g0)))))))))))) g0 (gS rfl (gS rfl (gS rfl (gS rfl (gS rfl (gS rfl (gS rfl (gS rfl (gS rfl (gS rfl g0)))))))))) (gS rfl (gS rfl (gS rfl (gS rfl (gS rfl (gS rfl (gS rfl (gS rfl (gS rfl g0))))))))) (gS rfl (gS rfl (gS rfl (gS rfl (gS rfl (gS rfl (gS rfl (gS rfl g0)))))))) (gS rfl (gS rfl (gS rfl (gS rfl (gS rfl (gS rfl (gS rfl g0))))))) (fun g => ?_)
            refine c_region ?_
            refine l_step (y_add (et g0 rfl) rfl (addIN (y := 1) ?_)) ?_
            omega
            refine l_step (y_moveV (et g0 rfl)) ?_
            refine l_nil ?_
            refine fK7 0 3 4 5 18 19 20 (gS rfl (gS rfl (gS rfl (gS rfl (gS rfl (gS rfl (gS rfl (gS rfl g0)))))))) (gS rfl (gS rfl (gS rfl (gS rfl (gS rfl (gS rfl (gS rfl g0))))))) (gS rfl (gS rfl (gS rfl (gS rfl (gS rfl (gS rfl g0)))))) (gS rfl (gS rfl (gS rfl (gS rfl (gS rfl g0))))) (gS rfl (gS rfl (gS rfl (gS rfl g0)))) (gS rfl (gS rfl (gS rfl g0))) g0 (fun g => ?_)
            exact hK10 (xs.length - ((i + 1))) _ _ (by omega) ⟨g, _, lb, (O ++ [xs[i]]), (i + 1), rfl, rfl, by omega, hO, by simp; omega, pass_step hfin hlb0 hsm, V10⟩
          · skip
            
            have hsm : (xs[i].addr == A.addr) = true := by have := of_decide_eq_false cB3; simpa using this
            have hlb1 : lb = true := by
              rcases hlb0 with h | h
              · exact h
              · rw [hsm] at h; cases h
            refine c_skip ?_
            refine hQ15 _ _ _ (in_normal ?_)
            refine hK14 _ _ ?_
            refine fg7 0 3 4 5 18 19 20 (gS rfl (gS rfl (gS rfl (gS rfl (gS rfl (gS rfl (gS rfl (gS rfl g0)))))))) (gS rfl (gS rfl (gS rfl (gS rfl (gS rfl (gS rfl (gS rfl g0))))))) (gS rfl (gS rfl (gS rfl (gS rfl (gS rfl (gS rfl g0)))))) (gS rfl (gS rfl (gS rfl (gS rfl (gS rfl g0))))) (gS rfl (gS rfl (gS rfl (gS rfl g0)))) (gS rfl (gS rfl (gS rfl g0))) (gS rfl (gS rfl g0)) (fun g => ?_)
            refine c_region ?_
            refine l_step (y_add (et g0 rfl) rfl (addIN (y := 1) ?_)) ?_
            omega
            refine l_step (y_moveV (et g0 rfl)) ?_
            refine l_nil ?_
            refine fK7 0 3 4 5 18 19 20 (gS rfl (gS rfl (gS rfl (gS rfl (gS rfl (gS rfl (gS rfl (gS rfl g0)))))))) (gS rfl (gS rfl (gS rfl (gS rfl (gS rfl (gS rfl (gS rfl g0))))))) (gS rfl (gS rfl (gS rfl (gS rfl (gS rfl (gS rfl g0)))))) (gS rfl (gS rfl (gS rfl (gS rfl (gS rfl g0))))) (gS rfl (gS rfl (gS rfl (gS rfl g0)))) (gS rfl (gS rfl (gS rfl g0))) g0 (fun g => ?_)
            exact hK10 (xs.length - ((i + 1))) _ _ (by omega) ⟨g, _, lb, O, (i + 1), rfl, rfl, by omega, hO.mono (by have := k17.lt; omega), by omega, skip_step hfin hlb1 hsm, V10⟩
      · skip
        simp only [decide_eq_true_eq, decide_eq_false_iff_not, Int.not_lt, Int.not_le, Bool.not_eq_true', Bool.not_eq_false', Bool.not_eq_eq_eq_not, Bool.not_true, Bool.not_false] at cB1
        refine c_exit ?_
        refine hQ9 _ _ _ (in_exit ?_)
        refine hK7 _ _ ?_
        refine fg4 0 3 4 5 (gS rfl (gS rfl (gS rfl (gS rfl (gS rfl (gS rfl (gS rfl g0))))))) (gS rfl (gS rfl (gS rfl (gS rfl (gS rfl (gS rfl g0)))))) (gS rfl (gS rfl (gS rfl (gS rfl (gS rfl g0))))) (gS rfl (gS rfl (gS rfl (gS rfl g0)))) (fun g => ?_)
        refine c_seq (fun K40 hK40 => ?_)
        refine c_seq (fun K41 hK41 => ?_)
        refine c_region ?_
        refine l_step (y_moveV (et g0 rfl)) ?_
        refine l_step (y_not (et g0 rfl)) ?_
        refine l_nil ?_
        refine hK41 _ _ ?_
        refine fg4 0 3 4 49 (gS rfl (gS rfl (gS rfl (gS rfl (gS rfl g0))))) (gS rfl (gS rfl (gS rfl (gS rfl g0)))) (gS rfl (gS rfl (gS rfl g0))) g0 (fun g => ?_)
        refine c_cond (et g0 rfl) (fun cB4 => ?_) (fun cB4 => ?_)
        · skip
          
          refine c_region ?_
          refine l_step (y_moveV (et (gS rfl g0) rfl)) ?_
          refine l_step (y_loadB agg_107 sz_107 (et (gS rfl (gS rfl (gS rfl g0))) rfl) (by rw [List.size_toArray, hAl]) (at1B k2)) ?_
          refine l_eff (e_slice1 Hvaa.underlying92 sz_107 zr_107 rfl (by decide) (et g0 rfl) (by rw [show (Value.agg (ca).toArray).cells = (ca).toArray from rfl, List.size_toArray, hAl])) (fun v43 w43 h43 => ?_)
          obtain ⟨b43, rfl, n43⟩ := h43
          replace k2 := k2.up n43.up
          replace hF := hF.up n43.up
          replace kS := kS.up n43.up
          replace hO := hO.up n43.up
          replace U := U.tr n43.up
          have kq43 : Blk w43 b43 (ca).toArray := n43.blk
          have hbz : base ≤ w43.heap.size := Nat.le_trans hbW n43.up.size
          refine l_eff (e_appL Hvaa.underlying92 sz_107 zr_107 by_107 rfl (by decide) (et (gS rfl (gS rfl g0)) rfl) hO (et g0 rfl) hAl kq43 hAo hA (by decide) (by first | omega | (simp; omega)) hbz) (fun v44 w44 h44 => ?_)
          obtain ⟨hO44, c44, hown44⟩ := h44
          have hOo := hO
          replace k2 := k2.ch c44 (by first | omega | exact hOo.ne (by omega) | assumption | (intro q hq; exact hOo.ne (by have := hF0.lt hq; omega)))
          replace hF := hF.ch c44 (by first | omega | (intro q hq e; have := hF0.lt hq; omega) | (intro q hq e; exact hOo.ne (by have := hF0.lt hq; omega) e) | (intro q hq e; exact nbS (e ▸ hq)))
          replace kS := kS.ch c44 (by first | omega | exact hOo.ne (by omega))
          replace hO := hO44
          replace U := U.cc c44 (by intro b hb; first | (have := hOo.lim b hb.symm; omega) | omega | exact .inl hb | exact .inr (hb ▸ U))
          refine l_step (y_assignV (et g0 rfl)) ?_
          refine l_nil ?_
          refine hK40 _ _ ?_
          refine fg2 0 4 (gS rfl (gS rfl (gS rfl (gS rfl (gS rfl (gS rfl (gS rfl (gS rfl g0)))))))) g0 (fun g => ?_)
          refine c_region ?_
          refine l_step (y_moveV (et (gS rfl g0) rfl)) ?_
          refine l_step (y_moveV (et (gS rfl g0) rfl)) ?_
          refine l_step (y_nil (et (gS rfl g0) rfl)) ?_
          refine l_step (y_fld fld_98_0 (et g0 rfl)) ?_
          refine l_effN (e_store sz_92 (et g0 rfl) (cellsV (et (gS rfl (gS rfl g0)) rfl) (cells_one hO.one1)) rfl (by exact one_sgl hO.one1) kS (by (have := (Array.getElem?_eq_some_iff.1 hva).1; omega))) (fun v45 w45 h45 => ?_)
          obtain ⟨rfl, x45⟩ := h45
          replace k2 := k2.ch x45.ch (by omega)
          replace hF := hF.ch x45.ch (by first | omega | (intro q hq e; have := hF0.lt hq; omega) | (intro q hq e; exact hOo.ne (by have := hF0.lt hq; omega) e) | (intro q hq e; exact nbS (e ▸ hq)))
          replace kS := x45.blk
          replace hO := hO.wr x45 (by omega)
          replace U := U.st x45 (.inl (by first | rfl | (simp; done)))
          refine l_nil ?_
          refine end0 rfl ?_
          have hD : xs.drop i = [] := List.drop_of_length_le (by omega)
          rw [hD] at hfin
          obtain ⟨H2, g2, l2, lv⟩ := hO.keep mono_acct (⟨U, hF, Le.refl _, fun _ h => .inl h⟩ : Go (fun k => k = bs) w H _ H) (Le.refl _) hbw
          refine ⟨rfl, _, H2, g2, ?_, kS⟩
          rw [← hfin]
          first | (have hlb : lb = false := by simpa using cB4
                   subst hlb
                   exact lv) | (have hlb : lb = true := by simpa using cB4
                                subst hlb
                                simpa [putP] using lv)
        · skip
          
          refine c_skip ?_
          refine hK40 _ _ ?_
          refine fg2 0 4 (gS rfl (gS rfl (gS rfl g0))) (gS rfl g0) (fun g => ?_)
          refine c_region ?_
          refine l_step (y_moveV (et (gS rfl g0) rfl)) ?_
          refine l_step (y_moveV (et (gS rfl g0) rfl)) ?_
          refine l_step (y_nil (et (gS rfl g0) rfl)) ?_
          refine l_step (y_fld fld_98_0 (et g0 rfl)) ?_
          refine l_effN (e_store sz_92 (et g0 rfl) (cellsV (et (gS rfl (gS rfl g0)) rfl) (cells_one hO.one1)) rfl (by exact one_sgl hO.one1) kS (by (have := (Array.getElem?_eq_some_iff.1 hva).1; omega))) (fun v46 w46 h46 => ?_)
          obtain ⟨rfl, x46⟩ := h46
          replace k2 := k2.ch x46.ch (by omega)
          replace hF := hF.ch x46.ch (by first | omega | (intro q hq e; have := hF0.lt hq; omega) | (intro q hq e; exact hOo.ne (by have := hF0.lt hq; omega) e) | (intro q hq e; exact nbS (e ▸ hq)))
          replace kS := x46.blk
          replace hO := hO.wr x46 (by omega)
          replace U := U.st x46 (.inl (by first | rfl | (simp; done)))
          refine l_nil ?_
          refine end0 rfl ?_
          have hD : xs.drop i = [] := List.drop_of_length_le (by omega)
          rw [hD] at hfin
          obtain ⟨H2, g2, l2, lv⟩ := hO.keep mono_acct (⟨U, hF, Le.refl _, fun _ h => .inl h⟩ : Go (fun k => k = bs) w H _ H) (Le.refl _) hbw
          refine ⟨rfl, _, H2, g2, ?_, kS⟩
          rw [← hfin]
          first | (have hlb : lb = false := by simpa using cB4
                   subst hlb
                   exact lv) | (have hlb : lb = true := by simpa using cB4
                                subst hlb
                                simpa [putP] using lv)
  · skip
    have e9 : emptyB A = false := q6
    refine l_gskip (j := 1) (t := 9) (by exact rfl) (by exact rfl) (et g0 rfl) (by decide) (by decide) ?_
    refine l_gskip (j := 1) (t := 9) (by exact rfl) (by exact rfl) (et (gS rfl g0) rfl) (by decide) (by decide) ?_
    refine l_gskip (j := 1) (t := 9) (by exact rfl) (by exact rfl) (et (gS rfl (gS rfl g0)) rfl) (by decide) (by decide) ?_
    refine l_gskip (j := 1) (t := 9) (by exact rfl) (by exact rfl) (et (gS rfl (gS rfl (gS rfl g0))) rfl) (by decide) (by decide) ?_
    refine l_step (y_pickF (et (gS rfl (gS rfl (gS rfl (gS rfl g0)))) rfl) rfl) ?_
    refine l_step (y_assignV (et g0 rfl)) ?_
    refine l_nil ?_
    refine hK4 _ _ ?_
    refine fg4 0 3 4 5 (gS rfl (gS rfl (gS rfl (gS rfl (gS rfl (gS rfl (gS rfl (gS rfl (gS rfl (gS rfl (gS rfl g0))))))))))) (gS rfl (gS rfl (gS rfl (gS rfl (gS rfl (gS rfl (gS rfl (gS rfl (gS rfl (gS rfl g0)))))))))) (gS rfl (gS rfl (gS rfl (gS rfl (gS rfl (gS rfl (gS rfl (gS rfl (gS rfl g0))))))))) g0 (fun g => ?_)
    refine c_seq (fun K47 hK47 => ?_)
    refine c_seq (fun K48 hK48 => ?_)
    refine c_region ?_
    refine l_step (y_moveV (et (gS rfl (gS rfl (gS rfl g0))) rfl)) ?_
    refine l_step (y_nil (et g0 rfl)) ?_
    refine l_step (y_fld fld_98_0 (et g0 rfl)) ?_
    refine l_step (y_load1 one_92 (et g0 rfl) (at1 (kS.cell (by simpa using hva)))) ?_
    refine l_step (y_len Hvaa.underlying92 (et g0 rfl)) ?_
    refine l_step y_moveC ?_
    refine l_nil ?_
    refine hK48 _ _ ?_
    refine fg7 0 3 4 5 18 19 20 (gS rfl (gS rfl (gS rfl (gS rfl (gS rfl (gS rfl (gS rfl (gS rfl (gS rfl g0))))))))) (gS rfl (gS rfl (gS rfl (gS rfl (gS rfl (gS rfl (gS rfl (gS rfl g0)))))))) (gS rfl (gS rfl (gS rfl (gS rfl (gS rfl (gS rfl (gS rfl g0))))))) (gS rfl (gS rfl (gS rfl (gS rfl (gS rfl (gS rfl g0)))))) (gS rfl (gS rfl g0)) (gS rfl g0) g0 (fun g => ?_)
    refine c_block (fun Q49 hQ49 => ?_)
    refine fg7 0 3 4 5 18 19 20 (gS rfl (gS rfl (gS rfl (gS rfl (gS rfl (gS rfl g0)))))) (gS rfl (gS rfl (gS rfl (gS rfl (gS rfl g0))))) (gS rfl (gS rfl (gS rfl (gS rfl g0)))) (gS rfl (gS rfl (gS rfl g0))) (gS rfl (gS rfl g0)) (gS rfl g0) g0 (fun g => ?_)
    obtain ⟨base, hbs⟩ : ∃ base, base = w5.heap.size := ⟨_, rfl⟩
    have hbw : w.heap.size ≤ base := by rw [hbs]; exact U.size
    have hb3 : b2 < base := by rw [hbs]; exact k2.lt
    have hbS : bs < base := by omega
    have hini : ([] : List YAcct) ++ putP (fun y => y.addr == A.addr) (fun y => decide (A.addr < y.addr)) (if false then none else some A) (xs.drop 0) = putA xs A := by rw [putA, show emptyS A = false by unfold emptyS; rw [e9]; first | rfl | exact (by simp) | (rw [Bool.eq_iff_iff]; simp; done)]; rfl
    refine c_loop (fun k_ s_ W50 => ∃ (g : Nat → Value) (ov : Value) (lb : Bool) (O : List YAcct) (i : Nat), s_ = (upd (upd (upd (upd (upd (upd (upd g 0 (.pointer (some ⟨bs, o, none⟩))) 3 (.pointer (some ⟨b2, 0, none⟩))) 4 ov) 5 (.bool lb)) 18 (.slice sa xs.length sc)) 19 (.int .i64 (xs.length : Nat))) 20 (.int .i64 (i : Nat))) ∧ xs.length - i = k_ ∧ (i ≤ xs.length) ∧ (GL P_acct H base 107 24 W50.heap.size W50 ov O) ∧ (O.length ≤ i + lb.toNat) ∧ (O ++ putP (fun y => y.addr == A.addr) (fun y => decide (A.addr < y.addr)) (if lb then none else some A) (xs.drop i) = putA xs A) ∧ Ch (fun k => base ≤ k) w5 W50) (xs.length - (0)) ?_ ?_
    · exact ⟨g, (.slice none 0 0), _, ([] : List YAcct), 0, rfl, rfl, Nat.zero_le _, GL.nil, by simp, hini, Ch.refl _ _⟩
    · skip
      intro k_ s_ W50 hI K50 hK50
      obtain ⟨g, ov, lb, O, i, rfl, rfl, hi, hO, hOl, hfin, V50⟩ := hI
      replace k2 := k2.ch V50 (by omega)
      replace hF := hF.ch V50 (by first | omega | (intro q hq e; have := hF0.lt hq; omega) | (intro q hq e; exact hOo.ne (by have := hF0.lt hq; omega) e) | (intro q hq e; exact nbS (e ▸ hq)))
      replace kS := kS.ch V50 (by first | omega | exact hOo.ne (by omega))
      replace U := U.cc V50 (by intro b hb; first | exact hb.elim | omega | (simp at hb ⊢; omega))
      have hlbn := Bool.toNat_le lb
      have hbW : base ≤ W50.heap.size := by rw [hbs]; exact V50.size
      refine c_seq (fun K51 hK51 => ?_)
      refine c_region ?_
      refine l_step (y_lss (et g0 rfl) (et (gS rfl g0) rfl)) ?_
      refine l_nil ?_
      refine hK51 _ _ ?_
      refine c_seq (fun K52 hK52 => ?_)
      refine c_cond (et g0 rfl) (fun cB1 => ?_) (fun cB1 => ?_)
      · skip
        simp only [decide_eq_true_eq, decide_eq_false_iff_not, Int.not_lt, Int.not_le, Bool.not_eq_true', Bool.not_eq_false', Bool.not_eq_eq_eq_not, Bool.not_true, Bool.not_false] at cB1
        refine c_skip ?_
        refine hK52 _ _ ?_
        refine fg7 0 3 4 5 18 19 20 (gS rfl (gS rfl (gS rfl (gS rfl (gS rfl (gS rfl (gS rfl g0))))))) (gS rfl (gS rfl (gS rfl (gS rfl (gS rfl (gS rfl g0)))))) (gS rfl (gS rfl (gS rfl (gS rfl (gS rfl g0))))) (gS rfl (gS rfl (gS rfl (gS rfl g0)))) (gS rfl (gS rfl (gS rfl g0))) (gS rfl (gS rfl g0)) (gS rfl g0) (fun g => ?_)
        refine c_seq (fun K54 hK54 => ?_)
        refine c_block (fun Q55 hQ55 => ?_)
        refine c_seq (fun K56 hK56 => ?_)
        refine c_region ?_
        obtain ⟨bq, oq, r, ha0, hrow, hrl, hP⟩ := hL.row hF (i := i) (by omega)
        have hPo := acct_one hP
        have hPa := acct_addr hP
        rw [List.drop_eq_getElem_cons (show i < xs.length by omega)] at hfin
        refine l_step (y_idxSa ha0 Hvaa.underlying92 sz_107 (et (gS rfl (gS rfl g0)) rfl) (et g0 rfl) ?_) ?_
        omega
        refine l_step (y_loadR agg_107 sz_107 (et g0 rfl) hrl (at1R hrow)) ?_
        refine l_eff (e_alloc zr_107) (fun v57 w57 h57 => ?_)
        obtain ⟨b57, rfl, n57⟩ := h57
        have d2_57 : b2 < b57 := Nat.lt_of_lt_of_le k2.lt n57.fresh
        have f57 : w.heap.size ≤ b57 := Nat.le_trans U.size n57.fresh
        have fV50_57 := Nat.le_trans V50.size n57.fresh
        replace k2 := k2.up n57.up
        replace hF := hF.up n57.up
        replace kS := kS.up n57.up
        replace hO := hO.up n57.up
        replace U := U.tr n57.up
        replace V50 := V50.tr n57.up
        have k57 := n57.blk
        have hb7 := n57.fresh
        refine l_effN (e_store sz_107 (et g0 rfl) (cellsV (et (gS rfl g0) rfl) rfl) hrl (by exact hPo) k57 (by exact Nat.le_of_ble_eq_true rfl)) (fun v58 w58 h58 => ?_)
        obtain ⟨rfl, x58⟩ := h58
        replace k2 := k2.ch x58.ch (by omega)
        replace hF := hF.ch x58.ch (by first | omega | (first | omega | (intro q hq e; have := hF0.lt hq; omega) | (intro q hq e; exact hOo.ne (by have := hF0.lt hq; omega) e) | (intro q hq e; exact nbS (e ▸ hq))))
        replace kS := kS.ch x58.ch (by first | omega | (first | omega | exact hOo.ne (by omega)))
        replace k57 := x58.blk.full (by rw [hrl]; rfl)
        replace hO := hO.wr x58 (by first | omega | (right; omega))
        replace U := U.st x58 (.inr f57)
        replace V50 := V50.st x58 (by omega)
        refine l_nil ?_
        refine hK56 _ _ ?_
        refine fg8 0 3 4 5 18 19 20 7 (gS rfl (gS rfl (gS rfl (gS rfl (gS rfl (gS rfl (gS rfl (gS rfl (gS rfl g0))))))))) (gS rfl (gS rfl (gS rfl (gS rfl (gS rfl (gS rfl (gS rfl (gS rfl g0)))))))) (gS rfl (gS rfl (gS rfl (gS rfl (gS rfl (gS rfl (gS rfl g0))))))) (gS rfl (gS rfl (gS rfl (gS rfl (gS rfl (gS rfl g0)))))) (gS rfl (gS rfl (gS rfl (gS rfl (gS rfl g0))))) (gS rfl (gS rfl (gS rfl (gS rfl g0)))) (gS rfl (gS rfl (gS rfl g0))) g0 (fun g => ?_)
        refine c_seq (fun K59 hK59 => ?_)
        refine c_seq (fun K60 hK60 => ?_)
        refine c_region ?_
        refine l_step (y_moveV (et (gS rfl (gS rfl (gS rfl (gS rfl g0)))) rfl)) ?_
        refine l_step (y_not (et g0 rfl)) ?_
        refine l_step (y_moveV (et g0 rfl)) ?_
        refine gsplitL (i := 26) g0 (fun q61 => ?_) (fun q61 => ?_)
        · skip
          have hlb : lb = false := by simpa using q61
          refine l_gstep (j := 2) (t := 26) (by exact rfl) (by exact rfl) (et g0 rfl) (by decide) (y_fld fld_107_0 (et (gS rfl (gS rfl (gS rfl (gS rfl g0)))) rfl)) ?_
          refine l_gstep (j := 2) (t := 26) (by exact rfl) (by exact rfl) (et (gS rfl g0) rfl) (by decide) (y_loadR agg_25 sz_25 (et g0 rfl) (by rw [length_bL, length_be]) (at1R (k57.row hPa.1))) ?_
          refine l_gstep (j := 2) (t := 26) (by exact rfl) (by exact rfl) (et (gS rfl (gS rfl g0)) rfl) (by decide) (y_fld fld_107_0 (et (gS rfl (gS rfl (gS rfl (gS rfl (gS rfl (gS rfl (gS rfl (gS rfl (gS rfl (gS rfl (gS rfl (gS rfl g0)))))))))))) rfl)) ?_
          refine l_gstep (j := 2) (t := 26) (by exact rfl) (by exact rfl) (et (gS rfl (gS rfl (gS rfl g0))) rfl) (by decide) (y_loadR agg_25 sz_25 (et g0 rfl) (by rw [length_bL, length_be]) (at1R (k2.row hAa.1))) ?_
          refine l_geff (j := 2) (t := 26) (by exact rfl) (by exact rfl) (et (gS rfl (gS rfl (gS rfl (gS rfl g0)))) rfl) rfl (e_callV cal_130 (aC (et (gS rfl (gS rfl g0)) rfl) (aC (et g0 rfl) aN)) (yp_before _ _ _ hPa.2 hAa.2)) (fun v62 w62 h62 => ?_)
          obtain ⟨rfl, u62⟩ := h62
          replace k2 := k2.up u62
          replace k57 := k57.up u62
          replace hF := hF.up u62
          replace kS := kS.up u62
          replace hO := hO.up u62
          replace U := U.tr u62
          replace V50 := V50.tr u62
          refine l_gstep (j := 2) (t := 26) (by exact rfl) (by exact rfl) (et (gS rfl (gS rfl (gS rfl (gS rfl (gS rfl g0))))) rfl) (by decide) (y_not (et g0 rfl)) ?_
          refine l_step (y_pickT (et (gS rfl (gS rfl (gS rfl (gS rfl (gS rfl (gS rfl g0)))))) rfl) (et g0 rfl)) ?_
          refine l_nil ?_
          refine hK60 _ _ ?_
          refine fg9 0 3 4 5 18 19 20 7 33 (gS rfl (gS rfl (gS rfl (gS rfl (gS rfl (gS rfl (gS rfl (gS rfl (gS rfl (gS rfl (gS rfl (gS rfl (gS rfl (gS rfl (gS rfl (gS rfl (gS rfl (gS rfl g0)))))))))))))))))) (gS rfl (gS rfl (gS rfl (gS rfl (gS rfl (gS rfl (gS rfl (gS rfl (gS rfl (gS rfl (gS rfl (gS rfl (gS rfl (gS rfl (gS rfl (gS rfl (gS rfl g0))))))))))))))))) (gS rfl (gS rfl (gS rfl (gS rfl (gS rfl (gS rfl (gS rfl (gS rfl (gS rfl (gS rfl (gS rfl (gS rfl (gS rfl (gS rfl (gS rfl (gS rfl g0)))))))))))))))) (gS rfl (gS rfl (gS rfl (gS rfl (gS rfl (gS rfl (gS rfl (gS rfl (gS rfl (gS rfl (gS rfl (gS rfl (gS rfl (gS rfl (gS rfl g0))))))))))))))) (gS rfl (gS rfl (gS rfl (gS rfl (gS rfl (gS rfl (gS rfl (gS rfl (gS rfl (gS rfl (gS rfl (gS rfl (gS rfl (gS rfl g0)))))))))))))) (gS rfl (gS rfl (gS rfl (gS rfl (gS rfl (gS rfl (gS rfl (gS rfl (gS rfl (gS rfl (gS rfl (gS rfl (gS rfl g0))))))))))))) (gS rfl (gS rfl (gS rfl (gS rfl (gS rfl (gS rfl (gS rfl (gS rfl (gS rfl (gS rfl (gS rfl (gS rfl g0)))))))))))) (gS rfl (gS rfl (gS rfl (gS rfl (gS rfl (gS rfl (gS rfl (gS rfl (gS rfl (gS rfl (gS rfl g0))))))))))) g0 (fun g => ?_)
          refine c_cond (et g0 rfl) (fun cB2 => ?_) (fun cB2 => ?_)
          · skip
            
            have hcd : (!decide (xs[i].addr < A.addr)) = true := cB2
            refine c_seq (fun K64 hK64 => ?_)
            refine c_region ?_
            refine l_step (y_moveV (et (gS rfl (gS rfl (gS rfl (gS rfl (gS rfl (gS rfl g0)))))) rfl)) ?_
            refine l_step (y_loadB agg_107 sz_107 (et (gS rfl (gS rfl (gS rfl (gS rfl (gS rfl (gS rfl (gS rfl (gS rfl g0)))))))) rfl) (by rw [List.size_toArray, hAl]) (at1B k2)) ?_
            refine l_eff (e_slice1 Hvaa.underlying92 sz_107 zr_107 rfl (by decide) (et g0 rfl) (by rw [show (Value.agg (ca).toArray).cells = (ca).toArray from rfl, List.size_toArray, hAl])) (fun v65 w65 h65 => ?_)
            obtain ⟨b65, rfl, n65⟩ := h65
            replace k2 := k2.up n65.up
            replace k57 := k57.up n65.up
            replace hF := hF.up n65.up
            replace kS := kS.up n65.up
            replace hO := hO.up n65.up
            replace U := U.tr n65.up
            replace V50 := V50.tr n65.up
            have kq65 : Blk w65 b65 (ca).toArray := n65.blk
            have hbz : base ≤ w65.heap.size := by have := k57.lt; omega
            refine l_eff (e_appL Hvaa.underlying92 sz_107 zr_107 by_107 rfl (by decide) (et (gS rfl (gS rfl g0)) rfl) hO (et g0 rfl) hAl kq65 hAo hA (by decide) (by first | omega | (simp; omega)) hbz) (fun v66 w66 h66 => ?_)
            obtain ⟨hO66, c66, hown66⟩ := h66
            have hOo := hO
            have nO8 := hown66 _ k57.lt (hO.ne (by omega))
            replace k2 := k2.ch c66 (by first | omega | exact hOo.ne (by omega) | assumption | (intro q hq; exact hOo.ne (by have := hF0.lt hq; omega)))
            replace k57 := k57.ch c66 (by first | omega | exact hOo.ne (by omega) | assumption | (intro q hq; exact hOo.ne (by have := hF0.lt hq; omega)))
            replace hF := hF.ch c66 (by first | omega | (intro q hq e; have := hF0.lt hq; omega) | (intro q hq e; exact hOo.ne (by have := hF0.lt hq; omega) e) | (intro q hq e; exact nbS (e ▸ hq)))
            replace kS := kS.ch c66 (by first | omega | exact hOo.ne (by omega))
            replace hO := hO66
            replace V50 := V50.cc c66 (by intro b hb; first | omega | (simp at hb ⊢; omega) | (have := hOo.lim b hb.symm; omega))
            replace U := U.cc c66 (by intro b hb; first | (have := hOo.lim b hb.symm; omega) | omega | exact .inl hb | exact .inr (hb ▸ U))
            refine l_step (y_assignV (et g0 rfl)) ?_
            refine l_nil ?_
            refine hK64 _ _ ?_
            refine fg7 0 3 4 18 19 20 7 (gS rfl (gS rfl (gS rfl (gS rfl (gS rfl (gS rfl (gS rfl (gS rfl (gS rfl (gS rfl (gS rfl (gS rfl (gS rfl g0))))))))))))) (gS rfl (gS rfl (gS rfl (gS rfl (gS rfl (gS rfl (gS rfl (gS rfl (gS rfl (gS rfl (gS rfl (gS rfl g0)))))))))))) g0 (gS rfl (gS rfl (gS rfl (gS rfl (gS rfl (gS rfl (gS rfl (gS rfl (gS rfl g0))))))))) (gS rfl (gS rfl (gS rfl (gS rfl (gS rfl (gS rfl (gS rfl (gS rfl g0)))))))) (gS rfl (gS rfl (gS rfl (gS rfl (gS rfl (gS rfl (gS rfl g0))))))) (gS rfl (gS rfl (gS rfl (gS rfl (gS rfl (gS rfl g0)))))) (fun g => ?_)
            refine c_region ?_
            refine l_step y_assignC ?_
            refine l_nil ?_
            refine hK59 _ _ ?_
            refine c_seq (fun K67 hK67 => ?_)
            refine c_region ?_
            refine l_step (y_fld fld_107_0 (et (gS rfl g0) rfl)) ?_
            refine l_step (y_loadR agg_25 sz_25 (et g0 rfl) (by rw [length_bL, length_be]) (at1R (k57.row hPa.1))) ?_
            refine l_step (y_fld fld_107_0 (et (gS rfl (gS rfl (gS rfl (gS rfl (gS rfl (gS rfl (gS rfl (gS rfl g0)))))))) rfl)) ?_
            refine l_step (y_loadR agg_25 sz_25 (et g0 rfl) (by rw [length_bL, length_be]) (at1R (k2.row hAa.1))) ?_
            refine l_step (y_neqAddr hPa.2 hAa.2 (et (gS rfl (gS rfl g0)) rfl) (et g0 rfl)) ?_
            refine l_nil ?_
            refine hK67 _ _ ?_
            refine fg9 0 3 4 18 19 20 7 5 42 (gS rfl (gS rfl (gS rfl (gS rfl (gS rfl (gS rfl (gS rfl (gS rfl (gS rfl (gS rfl (gS rfl (gS rfl g0)))))))))))) (gS rfl (gS rfl (gS rfl (gS rfl (gS rfl (gS rfl (gS rfl (gS rfl (gS rfl (gS rfl (gS rfl g0))))))))))) (gS rfl (gS rfl (gS rfl (gS rfl (gS rfl (gS rfl (gS rfl (gS rfl (gS rfl (gS rfl g0)))))))))) (gS rfl (gS rfl (gS rfl (gS rfl (gS rfl (gS rfl (gS rfl (gS rfl (gS rfl g0))))))))) (gS rfl (gS rfl (gS rfl (gS rfl (gS rfl (gS rfl (gS rfl (gS rfl g0)))))))) (gS rfl (gS rfl (gS rfl (gS rfl (gS rfl (gS rfl (gS rfl g0))))))) (gS rfl (gS rfl (gS rfl (gS rfl (gS rfl (gS rfl g0)))))) (gS rfl (gS rfl (gS rfl (gS rfl (gS rfl g0))))) g0 (fun g => ?_)
            refine c_cond (et g0 rfl) (fun cB3 => ?_) (fun cB3 => ?_)
            · skip
              
              have hsm : (xs[i].addr == A.addr) = false := by have := of_decide_eq_true cB3; simpa using this
              refine c_region ?_
              refine l_step (y_moveV (et (gS rfl (gS rfl (gS rfl (gS rfl (gS rfl (gS rfl g0)))))) rfl)) ?_
              refine l_step (y_loadB agg_107 sz_107 (et (gS rfl (gS rfl (gS rfl g0))) rfl) (by rw [List.size_toArray, hrl]) (at1B k57)) ?_
              refine l_eff (e_slice1 Hvaa.underlying92 sz_107 zr_107 rfl (by decide) (et g0 rfl) (by rw [show (Value.agg (r).toArray).cells = (r).toArray from rfl, List.size_toArray, hrl])) (fun v69 w69 h69 => ?_)
              obtain ⟨b69, rfl, n69⟩ := h69
              replace k2 := k2.up n69.up
              replace k57 := k57.up n69.up
              replace hF := hF.up n69.up
              replace kS := kS.up n69.up
              replace hO := hO.up n69.up
              replace U := U.tr n69.up
              replace V50 := V50.tr n69.up
              have kq69 : Blk w69 b69 (r).toArray := n69.blk
              have hbz : base ≤ w69.heap.size := by have := k57.lt; omega
              refine l_eff (e_appL Hvaa.underlying92 sz_107 zr_107 by_107 rfl (by decide) (et (gS rfl (gS rfl g0)) rfl) hO (et g0 rfl) hrl kq69 hPo hP (by decide) (by first | omega | (simp; omega)) hbz) (fun v70 w70 h70 => ?_)
              obtain ⟨hO70, c70, hown70⟩ := h70
              have hOo := hO
              replace k2 := k2.ch c70 (by first | omega | exact hOo.ne (by omega) | assumption | (intro q hq; exact hOo.ne (by have := hF0.lt hq; omega)))
              replace k57 := k57.ch c70 (by first | omega | exact hOo.ne (by omega) | assumption | (intro q hq; exact hOo.ne (by have := hF0.lt hq; omega)))
              replace hF := hF.ch c70 (by first | omega | (intro q hq e; have := hF0.lt hq; omega) | (intro q hq e; exact hOo.ne (by have := hF0.lt hq; omega) e) | (intro q hq e; exact nbS (e ▸ hq)))
              replace kS := kS.ch c70 (by first | omega | exact hOo.ne (by omega))
              replace hO := hO70
              replace V50 := V50.cc c70 (by intro b hb; first | omega | (simp at hb ⊢; omega) | (have := hOo.lim b hb.symm; omega))
              replace U := U.cc c70 (by intro b hb; first | (have := hOo.lim b hb.symm; omega) | omega | exact .inl hb | exact .inr (hb ▸ U))
              refine l_step (y_assignV (et g0 rfl)) ?_
              refine l_nil ?_
              refine hQ55 _ _ _ (in_normal ?_)
              refine hK54 _ _ ?_
              refine fg7 0 3 4 18 19 20 5 (gS rfl (gS rfl (gS rfl (gS rfl (gS rfl (gS rfl (gS rfl (gS rfl (gS rfl (gS rfl (gS rfl (gS rfl (gS rfl g0))))))))))))) (gS rfl (gS rfl (gS rfl (gS rfl (gS rfl (gS rfl (gS rfl (gS rfl (gS rfl (gS rfl (gS rfl (gS rfl g0)))))))))))) g0 (gS rfl (gS rfl (gS rfl (gS rfl (gS rfl (gS rfl (gS rfl (gS rfl (gS rfl (gS rfl g0)))))))))) (gS rfl (gS rfl (gS rfl (gS rfl (gS rfl (gS rfl (gS rfl (gS rfl (gS rfl g0))))))))) (gS rfl (gS rfl (gS rfl (gS rfl (gS rfl (gS rfl (gS rfl (gS rfl g0)))))))) (gS rfl (gS rfl (gS rfl (gS rfl (gS rfl (gS rfl g0)))))) (fun g => ?_)
              refine c_region ?_
              refine l_step (y_add (et (gS rfl g0) rfl) rfl (addIN (y := 1) ?_)) ?_
              omega
              refine l_step (y_moveV (et g0 rfl)) ?_
              refine l_nil ?_
              refine fK7 0 3 4 5 18 19 20 (gS rfl (gS rfl (gS rfl (gS rfl (gS rfl (gS rfl (gS rfl (gS rfl g0)))))))) (gS rfl (gS rfl (gS rfl (gS rfl (gS rfl (gS rfl (gS rfl g0))))))) (gS rfl (gS rfl (gS rfl (gS rfl (gS rfl (gS rfl g0)))))) (gS rfl (gS rfl g0)) (gS rfl (gS rfl (gS rfl (gS rfl (gS rfl g0))))) (gS rfl (gS rfl (gS rfl (gS rfl g0)))) g0 (fun g => ?_)
              exact hK50 (xs.length - ((i + 1))) _ _ (by omega) ⟨g, _, true, (O ++ [A] ++ [xs[i]]), (i + 1), rfl, rfl, by omega, hO, by rw [hlb] at hOl; simp at hOl ⊢; omega, put_keep (put_lay (by rw [hlb] at hfin; exact hfin) (by rw [lay_cond]; exact hcd)) hsm, V50⟩
            · skip
              
              have hsm : (xs[i].addr == A.addr) = true := by have := of_decide_eq_false cB3; simpa using this
              refine c_skip ?_
              refine hQ55 _ _ _ (in_normal ?_)
              refine hK54 _ _ ?_
              refine fg7 0 3 4 18 19 20 5 (gS rfl (gS rfl (gS rfl (gS rfl (gS rfl (gS rfl (gS rfl (gS rfl g0)))))))) (gS rfl (gS rfl (gS rfl (gS rfl (gS rfl (gS rfl (gS rfl g0))))))) (gS rfl (gS rfl (gS rfl (gS rfl (gS rfl (gS rfl g0)))))) (gS rfl (gS rfl (gS rfl (gS rfl (gS rfl g0))))) (gS rfl (gS rfl (gS rfl (gS rfl g0)))) (gS rfl (gS rfl (gS rfl g0))) (gS rfl g0) (fun g => ?_)
              refine c_region ?_
              refine l_step (y_add (et (gS rfl g0) rfl) rfl (addIN (y := 1) ?_)) ?_
              omega
              refine l_step (y_moveV (et g0 rfl)) ?_
              refine l_nil ?_
              refine fK7 0 3 4 5 18 19 20 (gS rfl (gS rfl (gS rfl (gS rfl (gS rfl (gS rfl (gS rfl (gS rfl g0)))))))) (gS rfl (gS rfl (gS rfl (gS rfl (gS rfl (gS rfl (gS rfl g0))))))) (gS rfl (gS rfl (gS rfl (gS rfl (gS rfl (gS rfl g0)))))) (gS rfl (gS rfl g0)) (gS rfl (gS rfl (gS rfl (gS rfl (gS rfl g0))))) (gS rfl (gS rfl (gS rfl (gS rfl g0)))) g0 (fun g => ?_)
              exact hK50 (xs.length - ((i + 1))) _ _ (by omega) ⟨g, _, true, (O ++ [A]), (i + 1), rfl, rfl, by omega, hO, by rw [hlb] at hOl; simp at hOl ⊢; omega, put_same (put_lay (by rw [hlb] at hfin; exact hfin) (by rw [lay_cond]; exact hcd)) hsm, V50⟩
          · skip
            
            have hcd : (!decide (xs[i].addr < A.addr)) = false := cB2
            have hlb0 : lb = true ∨ ((xs[i].addr == A.addr) || decide (A.addr < xs[i].addr)) = false := .inr (by rw [lay_cond]; exact hcd)
            refine c_skip ?_
            refine hK59 _ _ ?_
            refine fg8 0 3 4 5 18 19 20 7 (gS rfl (gS rfl (gS rfl (gS rfl (gS rfl (gS rfl (gS rfl (gS rfl g0)))))))) (gS rfl (gS rfl (gS rfl (gS rfl (gS rfl (gS rfl (gS rfl g0))))))) (gS rfl (gS rfl (gS rfl (gS rfl (gS rfl (gS rfl g0)))))) (gS rfl (gS rfl (gS rfl (gS rfl (gS rfl g0))))) (gS rfl (gS rfl (gS rfl (gS rfl g0)))) (gS rfl (gS rfl (gS rfl g0))) (gS rfl (gS rfl g0)) (gS rfl g0) (fun g => ?_)
            refine c_seq (fun K71 hK71 => ?_)
            refine c_region ?_
            refine l_step (y_fld fld_107_0 (et g0 rfl)) ?_
            refine l_step (y_loadR agg_25 sz_25 (et g0 rfl) (by rw [length_bL, length_be]) (at1R (k57.row hPa.1))) ?_
            refine l_step (y_fld fld_107_0 (et (gS rfl (gS rfl (gS rfl (gS rfl (gS rfl (gS rfl (gS rfl (gS rfl g0)))))))) rfl)) ?_
            refine l_step (y_loadR agg_25 sz_25 (et g0 rfl) (by rw [length_bL, length_be]) (at1R (k2.row hAa.1))) ?_
            refine l_step (y_neqAddr hPa.2 hAa.2 (et (gS rfl (gS rfl g0)) rfl) (et g0 rfl)) ?_
            refine l_nil ?_
            refine hK71 _ _ ?_
            refine fg9 0 3 4 5 18 19 20 7 42 (gS rfl (gS rfl (gS rfl (gS rfl (gS rfl (gS rfl (gS rfl (gS rfl (gS rfl (gS rfl (gS rfl (gS rfl g0)))))))))))) (gS rfl (gS rfl (gS rfl (gS rfl (gS rfl (gS rfl (gS rfl (gS rfl (gS rfl (gS rfl (gS rfl g0))))))))))) (gS rfl (gS rfl (gS rfl (gS rfl (gS rfl (gS rfl (gS rfl (gS rfl (gS rfl (gS rfl g0)))))))))) (gS rfl (gS rfl (gS rfl (gS rfl (gS rfl (gS rfl (gS rfl (gS rfl (gS rfl g0))))))))) (gS rfl (gS rfl (gS rfl (gS rfl (gS rfl (gS rfl (gS rfl (gS rfl g0)))))))) (gS rfl (gS rfl (gS rfl (gS rfl (gS rfl (gS rfl (gS rfl g0))))))) (gS rfl (gS rfl (gS rfl (gS rfl (gS rfl (gS rfl g0)))))) (gS rfl (gS rfl (gS rfl (gS rfl (gS rfl g0))))) g0 (fun g => ?_)
            refine c_cond (et g0 rfl) (fun cB3 => ?_) (fun cB3 => ?_)
            · skip
              
              have hsm : (xs[i].addr == A.addr) = false := by have := of_decide_eq_true cB3; simpa using this
              refine c_region ?_
              refine l_step (y_moveV (et (gS rfl (gS rfl (gS rfl (gS rfl (gS rfl (gS rfl g0)))))) rfl)) ?_
              refine l_step (y_loadB agg_107 sz_107 (et (gS rfl (gS rfl g0)) rfl) (by rw [List.size_toArray, hrl]) (at1B k57)) ?_
              refine l_eff (e_slice1 Hvaa.underlying92 sz_107 zr_107 rfl (by decide) (et g0 rfl) (by rw [show (Value.agg (r).toArray).cells = (r).toArray from rfl, List.size_toArray, hrl])) (fun v73 w73 h73 => ?_)
              obtain ⟨b73, rfl, n73⟩ := h73
              replace k2 := k2.up n73.up
              replace k57 := k57.up n73.up
              replace hF := hF.up n73.up
              replace kS := kS.up n73.up
              replace hO := hO.up n73.up
              replace U := U.tr n73.up
              replace V50 := V50.tr n73.up
              have kq73 : Blk w73 b73 (r).toArray := n73.blk
              have hbz : base ≤ w73.heap.size := by have := k57.lt; omega
              refine l_eff (e_appL Hvaa.underlying92 sz_107 zr_107 by_107 rfl (by decide) (et (gS rfl (gS rfl g0)) rfl) hO (et g0 rfl) hrl kq73 hPo hP (by decide) (by first | omega | (simp; omega)) hbz) (fun v74 w74 h74 => ?_)
              obtain ⟨hO74, c74, hown74⟩ := h74
              have hOo := hO
              replace k2 := k2.ch c74 (by first | omega | exact hOo.ne (by omega) | assumption | (intro q hq; exact hOo.ne (by have := hF0.lt hq; omega)))
              replace k57 := k57.ch c74 (by first | omega | exact hOo.ne (by omega) | assumption | (intro q hq; exact hOo.ne (by have := hF0.lt hq; omega)))
              replace hF := hF.ch c74 (by first | omega | (intro q hq e; have := hF0.lt hq; omega) | (intro q hq e; exact hOo.ne (by have := hF0.lt hq; omega) e) | (intro q hq e; exact nbS (e ▸ hq)))
              replace kS := kS.ch c74 (by first | omega | exact hOo.ne (by omega))
              replace hO := hO74
              replace V50 := V50.cc c74 (by intro b hb; first | omega | (simp at hb ⊢; omega) | (have := hOo.lim b hb.symm; omega))
              replace U := U.cc c74 (by intro b hb; first | (have := hOo.lim b hb.symm; omega) | omega | exact .inl hb | exact .inr (hb ▸ U))
              refine l_step (y_assignV (et g0 rfl)) ?_
              refine l_nil ?_
              refine hQ55 _ _ _ (in_normal ?_)
              refine hK54 _ _ ?_
              refine fg7 0 3 4 5 18 19 20 (gS rfl (gS rfl (gS rfl (gS rfl (gS rfl (gS rfl (gS rfl (gS rfl (gS rfl (gS rfl (gS rfl (gS rfl (gS rfl g0))))))))))))) (gS rfl (gS rfl (gS rfl (gS rfl (gS rfl (gS rfl (gS rfl (gS rfl (gS rfl (gS rfl (gS rfl (gS rfl g0)))))))))))) g0 (gS rfl (gS rfl (gS rfl (gS rfl (gS rfl (gS rfl (gS rfl (gS rfl (gS rfl (gS rfl g0)))))))))) (gS rfl (gS rfl (gS rfl (gS rfl (gS rfl (gS rfl (gS rfl (gS rfl (gS rfl g0))))))))) (gS rfl (gS rfl (gS rfl (gS rfl (gS rfl (gS rfl (gS rfl (gS rfl g0)))))))) (gS rfl (gS rfl (gS rfl (gS rfl (gS rfl (gS rfl (gS rfl g0))))))) (fun g => ?_)
              refine c_region ?_
              refine l_step (y_add (et g0 rfl) rfl (addIN (y := 1) ?_)) ?_
              omega
              refine l_step (y_moveV (et g0 rfl)) ?_
              refine l_nil ?_
              refine fK7 0 3 4 5 18 19 20 (gS rfl (gS rfl (gS rfl (gS rfl (gS rfl (gS rfl (gS rfl (gS rfl g0)))))))) (gS rfl (gS rfl (gS rfl (gS rfl (gS rfl (gS rfl (gS rfl g0))))))) (gS rfl (gS rfl (gS rfl (gS rfl (gS rfl (gS rfl g0)))))) (gS rfl (gS rfl (gS rfl (gS rfl (gS rfl g0))))) (gS rfl (gS rfl (gS rfl (gS rfl g0)))) (gS rfl (gS rfl (gS rfl g0))) g0 (fun g => ?_)
              exact hK50 (xs.length - ((i + 1))) _ _ (by omega) ⟨g, _, lb, (O ++ [xs[i]]), (i + 1), rfl, rfl, by omega, hO, by simp; omega, pass_step hfin hlb0 hsm, V50⟩
            · skip
              
              have hsm : (xs[i].addr == A.addr) = true := by have := of_decide_eq_false cB3; simpa using this
              have hlb1 : lb = true := by
                rcases hlb0 with h | h
                · exact h
                · rw [hsm] at h; cases h
              refine c_skip ?_
              refine hQ55 _ _ _ (in_normal ?_)
              refine hK54 _ _ ?_
              refine fg7 0 3 4 5 18 19 20 (gS rfl (gS rfl (gS rfl (gS rfl (gS rfl (gS rfl (gS rfl (gS rfl g0)))))))) (gS rfl (gS rfl (gS rfl (gS rfl (gS rfl (gS rfl (gS rfl g0))))))) (gS rfl (gS rfl (gS rfl (gS rfl (gS rfl (gS rfl g0)))))) (gS rfl (gS rfl (gS rfl (gS rfl (gS rfl g0))))) (gS rfl (gS rfl (gS rfl (gS rfl g0)))) (gS rfl (gS rfl (gS rfl g0))) (gS rfl (gS rfl g0)) (fun g => ?_)
              refine c_region ?_
              refine l_step (y_add (et g0 rfl) rfl (addIN (y := 1) ?_)) ?_
              omega
              refine l_step (y_moveV (et g0 rfl)) ?_
              refine l_nil ?_
              refine fK7 0 3 4 5 18 19 20 (gS rfl (gS rfl (gS rfl (gS rfl (gS rfl (gS rfl (gS rfl (gS rfl g0)))))))) (gS rfl (gS rfl (gS rfl (gS rfl (gS rfl (gS rfl (gS rfl g0))))))) (gS rfl (gS rfl (gS rfl (gS rfl (gS rfl (gS rfl g0)))))) (gS rfl (gS rfl (gS rfl (gS rfl (gS rfl g0))))) (gS rfl (gS rfl (gS rfl (gS rfl g0)))) (gS rfl (gS rfl (gS rfl g0))) g0 (fun g => ?_)
              exact hK50 (xs.length - ((i + 1))) _ _ (by omega) ⟨g, _, lb, O, (i + 1), rfl, rfl, by omega, hO.mono (by have := k57.lt; omega), by omega, skip_step hfin hlb1 hsm, V50⟩
        · skip
          have hlb : lb = true := by simpa using q61
          have hlb0 : lb = true ∨ ((xs[i].addr == A.addr) || decide (A.addr < xs[i].addr)) = false := .inl hlb
          have hlb1 : lb = true := hlb
          refine l_gskip (j := 2) (t := 26) (by exact rfl) (by exact rfl) (et g0 rfl) (by decide) (by decide) ?_
          refine l_gskip (j := 2) (t := 26) (by exact rfl) (by exact rfl) (et (gS rfl g0) rfl) (by decide) (by decide) ?_
          refine l_gskip (j := 2) (t := 26) (by exact rfl) (by exact rfl) (et (gS rfl (gS rfl g0)) rfl) (by decide) (by decide) ?_
          refine l_gskip (j := 2) (t := 26) (by exact rfl) (by exact rfl) (et (gS rfl (gS rfl (gS rfl g0))) rfl) (by decide) (by decide) ?_
          refine l_gskip (j := 2) (t := 26) (by exact rfl) (by exact rfl) (et (gS rfl (gS rfl (gS rfl (gS rfl g0)))) rfl) (by decide) (by decide) ?_
          refine l_gskip (j := 2) (t := 26) (by exact rfl) (by exact rfl) (et (gS rfl (gS rfl (gS rfl (gS rfl (gS rfl g0))))) rfl) (by decide) (by decide) ?_
          refine l_step (y_pickF (et (gS rfl (gS rfl (gS rfl (gS rfl (gS rfl (gS rfl g0)))))) rfl) rfl) ?_
          refine l_nil ?_
          refine hK60 _ _ ?_
          refine fg9 0 3 4 5 18 19 20 7 33 (gS rfl (gS rfl (gS rfl (gS rfl (gS rfl (gS rfl (gS rfl (gS rfl (gS rfl (gS rfl (gS rfl (gS rfl (gS rfl (gS rfl (gS rfl (gS rfl (gS rfl (gS rfl g0)))))))))))))))))) (gS rfl (gS rfl (gS rfl (gS rfl (gS rfl (gS rfl (gS rfl (gS rfl (gS rfl (gS rfl (gS rfl (gS rfl (gS rfl (gS rfl (gS rfl (gS rfl (gS rfl g0))))))))))))))))) (gS rfl (gS rfl (gS rfl (gS rfl (gS rfl (gS rfl (gS rfl (gS rfl (gS rfl (gS rfl (gS rfl (gS rfl (gS rfl (gS rfl (gS rfl (gS rfl g0)))))))))))))))) (gS rfl (gS rfl (gS rfl (gS rfl (gS rfl (gS rfl (gS rfl (gS rfl (gS rfl (gS rfl (gS rfl (gS rfl (gS rfl (gS rfl (gS rfl g0))))))))))))))) (gS rfl (gS rfl (gS rfl (gS rfl (gS rfl (gS rfl (gS rfl (gS rfl (gS rfl (gS rfl (gS rfl (gS rfl (gS rfl (gS rfl g0)))))))))))))) (gS rfl (gS rfl (gS rfl (gS rfl (gS rfl (gS rfl (gS rfl (gS rfl (gS rfl (gS rfl (gS rfl (gS rfl (gS rfl g0))))))))))))) (gS rfl (gS rfl (gS rfl (gS rfl (gS rfl (gS rfl (gS rfl (gS rfl (gS rfl (gS rfl (gS rfl (gS rfl g0)))))))))))) (gS rfl (gS rfl (gS rfl (gS rfl (gS rfl (gS rfl (gS rfl (gS rfl (gS rfl (gS rfl (gS rfl g0))))))))))) g0 (fun g => ?_)
          refine c_false (et g0 rfl) rfl ?_
          refine c_skip ?_
          refine hK59 _ _ ?_
          refine fg8 0 3 4 5 18 19 20 7 (gS rfl (gS rfl (gS rfl (gS rfl (gS rfl (gS rfl (gS rfl (gS rfl g0)))))))) (gS rfl (gS rfl (gS rfl (gS rfl (gS rfl (gS rfl (gS rfl g0))))))) (gS rfl (gS rfl (gS rfl (gS rfl (gS rfl (gS rfl g0)))))) (gS rfl (gS rfl (gS rfl (gS rfl (gS rfl g0))))) (gS rfl (gS rfl (gS rfl (gS rfl g0)))) (gS rfl (gS rfl (gS rfl g0))) (gS rfl (gS rfl g0)) (gS rfl g0) (fun g => ?_)
          refine c_seq (fun K76 hK76 => ?_)
          refine c_region ?_
          refine l_step (y_fld fld_107_0 (et g0 rfl)) ?_
          refine l_step (y_loadR agg_25 sz_25 (et g0 rfl) (by rw [length_bL, length_be]) (at1R (k57.row hPa.1))) ?_
          refine l_step (y_fld fld_107_0 (et (gS rfl (gS rfl (gS rfl (gS rfl (gS rfl (gS rfl (gS rfl (gS rfl g0)))))))) rfl)) ?_
          refine l_step (y_loadR agg_25 sz_25 (et g0 rfl) (by rw [length_bL, length_be]) (at1R (k2.row hAa.1))) ?_
          refine l_step (y_neqAddr hPa.2 hAa.2 (et (gS rfl (gS rfl g0)) rfl) (et g0 rfl)) ?_
          refine l_nil ?_
          refine hK76 _ _ ?_
          refine fg9 0 3 4 5 18 19 20 7 42 (gS rfl (gS rfl (gS rfl (gS rfl (gS rfl (gS rfl (gS rfl (gS rfl (gS rfl (gS rfl (gS rfl (gS rfl g0)))))))))))) (gS rfl (gS rfl (gS rfl (gS rfl (gS rfl (gS rfl (gS rfl (gS rfl (gS rfl (gS rfl (gS rfl g0))))))))))) (gS rfl (gS rfl (gS rfl (gS rfl (gS rfl (gS rfl (gS rfl (gS rfl (gS rfl (gS rfl g0)))))))))) (gS rfl (gS rfl (gS rfl (gS rfl (gS rfl (gS rfl (gS rfl (gS rfl (gS rfl g0))))))))) (gS rfl (gS rfl (gS rfl (gS rfl (gS rfl (gS rfl (gS rfl (gS rfl g0)))))))) (gS rfl (gS rfl (gS rfl (gS rfl (gS rfl (gS rfl (gS rfl g0))))))) (gS rfl (gS rfl (gS rfl (gS rfl (gS rfl (gS rfl g0)))))) (gS rfl (gS rfl (gS rfl (gS rfl (gS rfl g0))))) g0 (fun g => ?_)
          refine c_cond (et g0 rfl) (fun cB3 => ?_) (fun cB3 => ?_)
          · skip
            
            have hsm : (xs[i].addr == A.addr) = false := by have := of_decide_eq_true cB3; simpa using this
            refine c_region ?_
            refine l_step (y_moveV (et (gS rfl (gS rfl (gS rfl (gS rfl (gS rfl (gS rfl g0)))))) rfl)) ?_
            refine l_step (y_loadB agg_107 sz_107 (et (gS rfl (gS rfl g0)) rfl) (by rw [List.size_toArray, hrl]) (at1B k57)) ?_
            refine l_eff (e_slice1 Hvaa.underlying92 sz_107 zr_107 rfl (by decide) (et g0 rfl) (by rw [show (Value.agg (r).toArray).cells = (r).toArray from rfl, List.size_toArray, hrl])) (fun v78 w78 h78 => ?_)
            obtain ⟨b78, rfl, n78⟩ := h78
            replace k2 := k2.up n78.up
            replace k57 := k57.up n78.up
            replace hF := hF.up n78.up
            replace kS := kS.up n78.up
            replace hO := hO.up n78.up
            replace U := U.tr n78.up
            replace V50 := V50.tr n78.up
            have kq78 : Blk w78 b78 (r).toArray := n78.blk
            have hbz : base ≤ w78.heap.size := by have := k57.lt; omega
            refine l_eff (e_appL Hvaa.underlying92 sz_107 zr_107 by_107 rfl (by decide) (et (gS rfl (gS rfl g0)) rfl) hO (et g0 rfl) hrl kq78 hPo hP (by decide) (by first | omega | (simp; omega)) hbz) (fun v79 w79 h79 => ?_)
            obtain ⟨hO79, c79, hown79⟩ := h79
            have hOo := hO
            replace k2 := k2.ch c79 (by first | omega | exact hOo.ne (by omega) | assumption | (intro q hq; exact hOo.ne (by have := hF0.lt hq; omega)))
            replace k57 := k57.ch c79 (by first | omega | exact hOo.ne (by omega) | assumption | (intro q hq; exact hOo.ne (by have := hF0.lt hq; omega)))
            replace hF := hF.ch c79 (by first | omega | (intro q hq e; have := hF0.lt hq; omega) | (intro q hq e; exact hOo.ne (by have := hF0.lt hq; omega) e) | (intro q hq e; exact nbS (e ▸ hq)))
            replace kS := kS.ch c79 (by first | omega | exact hOo.ne (by omega))
            replace hO := hO79
            replace V50 := V50.cc c79 (by intro b hb; first | omega | (simp at hb ⊢; omega) | (have := hOo.lim b hb.symm; omega))
            replace U := U.cc c79 (by intro b hb; first | (have := hOo.lim b hb.symm; omega) | omega | exact .inl hb | exact .inr (hb ▸ U))
            refine l_step (y_assignV (et g0 rfl)) ?_
            refine l_nil ?_
            refine hQ55 _ _ _ (in_normal ?_)
            refine hK54 _ _ ?_
            refine fg7 0 3 4 5 18 19 20 (gS rfl (gS rfl (gS rfl (gS rfl (gS rfl (gS rfl (gS rfl (gS rfl (gS rfl (gS rfl (gS rfl (gS rfl (gS rfl g0))))))))))))) (gS rfl (gS rfl (gS rfl (gS rfl (gS rfl (gS rfl (gS rfl (gS rfl (gS rfl (gS rfl (gS rfl (gS rfl g0)))))))))))) g0 (gS rfl (gS rfl (gS rfl (gS rfl (gS rfl (gS rfl (gS rfl (gS rfl (gS rfl (gS rfl g0)))))))))) (gS rfl (gS rfl (gS rfl (gS rfl (gS rfl (gS rfl (gS rfl (gS rfl (gS rfl g0))))))))) (gS rfl (gS rfl (gS rfl (gS rfl (gS rfl (gS rfl (gS rfl (gS rfl g0)))))))) (gS rfl (gS rfl (gS rfl (gS rfl (gS rfl (gS rfl (gS rfl g0))))))) (fun g => ?_)
            refine c_region ?_
            refine l_step (y_add (et g0 rfl) rfl (addIN (y := 1) ?_)) ?_
            omega
            refine l_step (y_moveV (et g0 rfl)) ?_
            refine l_nil ?_
            refine fK7 0 3 4 5 18 19 20 (gS rfl (gS rfl (gS rfl (gS rfl (gS rfl (gS rfl (gS rfl (gS rfl g0)))))))) (gS rfl (gS rfl (gS rfl (gS rfl (gS rfl (gS rfl (gS rfl g0))))))) (gS rfl (gS rfl (gS rfl (gS rfl (gS rfl (gS rfl g0)))))) (gS rfl (gS rfl (gS rfl (gS rfl (gS rfl g0))))) (gS rfl (gS rfl (gS rfl (gS rfl g0)))) (gS rfl (gS rfl (gS rfl g0))) g0 (fun g => ?_)
            exact hK50 (xs.length - ((i + 1))) _ _ (by omega) ⟨g, _, lb, (O ++ [xs[i]]), (i + 1), rfl, rfl, by omega, hO, by simp; omega, pass_step hfin hlb0 hsm, V50⟩
          · skip
            
            have hsm : (xs[i].addr == A.addr) = true := by have := of_decide_eq_false cB3; simpa using this
            have hlb1 : lb = true := by
              rcases hlb0 with h | h
              · exact h
              · rw [hsm] at h; cases h
            refine c_skip ?_
            refine hQ55 _ _ _ (in_normal ?_)
            refine hK54 _ _ ?_
            refine fg7 0 3 4 5 18 19 20 (gS rfl (gS rfl (gS rfl (gS rfl (gS rfl (gS rfl (gS rfl (gS rfl g0)))))))) (gS rfl (gS rfl (gS rfl (gS rfl (gS rfl (gS rfl (gS rfl g0))))))) (gS rfl (gS rfl (gS rfl (gS rfl (gS rfl (gS rfl g0)))))) (gS rfl (gS rfl (gS rfl (gS rfl (gS rfl g0))))) (gS rfl (gS rfl (gS rfl (gS rfl g0)))) (gS rfl (gS rfl (gS rfl g0))) (gS rfl (gS rfl g0)) (fun g => ?_)
            refine c_region ?_
            refine l_step (y_add (et g0 rfl) rfl (addIN (y := 1) ?_)) ?_
            omega
            refine l_step (y_moveV (et g0 rfl)) ?_
            refine l_nil ?_
            refine fK7 0 3 4 5 18 19 20 (gS rfl (gS rfl (gS rfl (gS rfl (gS rfl (gS rfl (gS rfl (gS rfl g0)))))))) (gS rfl (gS rfl (gS rfl (gS rfl (gS rfl (gS rfl (gS rfl g0))))))) (gS rfl (gS rfl (gS rfl (gS rfl (gS rfl (gS rfl g0)))))) (gS rfl (gS rfl (gS rfl (gS rfl (gS rfl g0))))) (gS rfl (gS rfl (gS rfl (gS rfl g0)))) (gS rfl (gS rfl (gS rfl g0))) g0 (fun g => ?_)
            exact hK50 (xs.length - ((i + 1))) _ _ (by omega) ⟨g, _, lb, O, (i + 1), rfl, rfl, by omega, hO.mono (by have := k57.lt; omega), by omega, skip_step hfin hlb1 hsm, V50⟩
      · skip
        simp only [decide_eq_true_eq, decide_eq_false_iff_not, Int.not_lt, Int.not_le, Bool.not_eq_true', Bool.not_eq_false', Bool.not_eq_eq_eq_not, Bool.not_true, Bool.not_false] at cB1
        refine c_exit ?_
        refine hQ49 _ _ _ (in_exit ?_)
        refine hK47 _ _ ?_
        refine fg4 0 3 4 5 (gS rfl (gS rfl (gS rfl (gS rfl (gS rfl (gS rfl (gS rfl g0))))))) (gS rfl (gS rfl (gS rfl (gS rfl (gS rfl (gS rfl g0)))))) (gS rfl (gS rfl (gS rfl (gS rfl (gS rfl g0))))) (gS rfl (gS rfl (gS rfl (gS rfl g0)))) (fun g => ?_)
        refine c_seq (fun K80 hK80 => ?_)
        refine c_seq (fun K81 hK81 => ?_)
        refine c_region ?_
        refine l_step (y_moveV (et g0 rfl)) ?_
        refine l_step (y_not (et g0 rfl)) ?_
        refine l_nil ?_
        refine hK81 _ _ ?_
        refine fg4 0 3 4 49 (gS rfl (gS rfl (gS rfl (gS rfl (gS rfl g0))))) (gS rfl (gS rfl (gS rfl (gS rfl g0)))) (gS rfl (gS rfl (gS rfl g0))) g0 (fun g => ?_)
        refine c_cond (et g0 rfl) (fun cB4 => ?_) (fun cB4 => ?_)
        · skip
          
          refine c_region ?_
          refine l_step (y_moveV (et (gS rfl g0) rfl)) ?_
          refine l_step (y_loadB agg_107 sz_107 (et (gS rfl (gS rfl (gS rfl g0))) rfl) (by rw [List.size_toArray, hAl]) (at1B k2)) ?_
          refine l_eff (e_slice1 Hvaa.underlying92 sz_107 zr_107 rfl (by decide) (et g0 rfl) (by rw [show (Value.agg (ca).toArray).cells = (ca).toArray from rfl, List.size_toArray, hAl])) (fun v83 w83 h83 => ?_)
          obtain ⟨b83, rfl, n83⟩ := h83
          replace k2 := k2.up n83.up
          replace hF := hF.up n83.up
          replace kS := kS.up n83.up
          replace hO := hO.up n83.up
          replace U := U.tr n83.up
          have kq83 : Blk w83 b83 (ca).toArray := n83.blk
          have hbz : base ≤ w83.heap.size := Nat.le_trans hbW n83.up.size
          refine l_eff (e_appL Hvaa.underlying92 sz_107 zr_107 by_107 rfl (by decide) (et (gS rfl (gS rfl g0)) rfl) hO (et g0 rfl) hAl kq83 hAo hA (by decide) (by first | omega | (simp; omega)) hbz) (fun v84 w84 h84 => ?_)
          obtain ⟨hO84, c84, hown84⟩ := h84
          have hOo := hO
          replace k2 := k2.ch c84 (by first | omega | exact hOo.ne (by omega) | assumption | (intro q hq; exact hOo.ne (by have := hF0.lt hq; omega)))
          replace hF := hF.ch c84 (by first | omega | (intro q hq e; have := hF0.lt hq; omega) | (intro q hq e; exact hOo.ne (by have := hF0.lt hq; omega) e) | (intro q hq e; exact nbS (e ▸ hq)))
          replace kS := kS.ch c84 (by first | omega | exact hOo.ne (by omega))
          replace hO := hO84
          replace U := U.cc c84 (by intro b hb; first | (have := hOo.lim b hb.symm; omega) | omega | exact .inl hb | exact .inr (hb ▸ U))
          refine l_step (y_assignV (et g0 rfl)) ?_
          refine l_nil ?_
          refine hK80 _ _ ?_
          refine fg2 0 4 (gS rfl (gS rfl (gS rfl (gS rfl (gS rfl (gS rfl (gS rfl (gS rfl g0)))))))) g0 (fun g => ?_)
          refine c_region ?_
          refine l_step (y_moveV (et (gS rfl g0) rfl)) ?_
          refine l_step (y_moveV (et (gS rfl g0) rfl)) ?_
          refine l_step (y_nil (et (gS rfl g0) rfl)) ?_
          refine l_step (y_fld fld_98_0 (et g0 rfl)) ?_
          refine l_effN (e_store sz_92 (et g0 rfl) (cellsV (et (gS rfl (gS rfl g0)) rfl) (cells_one hO.one1)) rfl (by exact one_sgl hO.one1) kS (by (have := (Array.getElem?_eq_some_iff.1 hva).1; omega))) (fun v85 w85 h85 => ?_)
          obtain ⟨rfl, x85⟩ := h85
          replace k2 := k2.ch x85.ch (by omega)
          replace hF := hF.ch x85.ch (by first | omega | (intro q hq e; have := hF0.lt hq; omega) | (intro q hq e; exact hOo.ne (by have := hF0.lt hq; omega) e) | (intro q hq e; exact nbS (e ▸ hq)))
          replace kS := x85.blk
          replace hO := hO.wr x85 (by omega)
          replace U := U.st x85 (.inl (by first | rfl | (simp; done)))
          refine l_nil ?_
          refine end0 rfl ?_
          have hD : xs.drop i = [] := List.drop_of_length_le (by omega)
          rw [hD] at hfin
          obtain ⟨H2, g2, l2, lv⟩ := hO.keep mono_acct (⟨U, hF, Le.refl _, fun _ h => .inl h⟩ : Go (fun k => k = bs) w H _ H) (Le.refl _) hbw
          refine ⟨rfl, _, H2, g2, ?_, kS⟩
          rw [← hfin]
          first | (have hlb : lb = false := by simpa using cB4
                   subst hlb
                   exact lv) | (have hlb : lb = true := by simpa using cB4
                                subst hlb
                                simpa [putP] using lv)
        · skip
          
          refine c_skip ?_
          refine hK80 _ _ ?_
          refine fg2 0 4 (gS rfl (gS rfl (gS rfl g0))) (gS rfl g0) (fun g => ?_)
          refine c_region ?_
          refine l_step (y_moveV (et (gS rfl g0) rfl)) ?_
          refine l_step (y_moveV (et (gS rfl g0) rfl)) ?_
          refine l_step (y_nil (et (gS rfl g0) rfl)) ?_
          refine l_step (y_fld fld_98_0 (et g0 rfl)) ?_
          refine l_effN (e_store sz_92 (et g0 rfl) (cellsV (et (gS rfl (gS rfl g0)) rfl) (cells_one hO.one1)) rfl (by exact one_sgl hO.one1) kS (by (have := (Array.getElem?_eq_some_iff.1 hva).1; omega))) (fun v86 w86 h86 => ?_)
          obtain ⟨rfl, x86⟩ := h86
          replace k2 := k2.ch x86.ch (by omega)
          replace hF := hF.ch x86.ch (by first | omega | (intro q hq e; have := hF0.lt hq; omega) | (intro q hq e; exact hOo.ne (by have := hF0.lt hq; omega) e) | (intro q hq e; exact nbS (e ▸ hq)))
          replace kS := x86.blk
          replace hO := hO.wr x86 (by omega)
          replace U := U.st x86 (.inl (by first | rfl | (simp; done)))
          refine l_nil ?_
          refine end0 rfl ?_
          have hD : xs.drop i = [] := List.drop_of_length_le (by omega)
          rw [hD] at hfin
          obtain ⟨H2, g2, l2, lv⟩ := hO.keep mono_acct (⟨U, hF, Le.refl _, fun _ h => .inl h⟩ : Go (fun k => k = bs) w H _ H) (Le.refl _) hbw
          refine ⟨rfl, _, H2, g2, ?_, kS⟩
          rw [← hfin]
          first | (have hlb : lb = false := by simpa using cB4
                   subst hlb
                   exact lv) | (have hlb : lb = true := by simpa using cB4
                                subst hlb
                                simpa [putP] using lv)
end Go.Proofs.YgvaawGreat
