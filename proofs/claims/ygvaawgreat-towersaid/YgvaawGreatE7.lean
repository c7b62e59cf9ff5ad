import Derived.Test.YgvaawGreatE6
import Derived.Test.YgvaawGreatM3
set_option maxRecDepth 100000
set_option maxHeartbeats 4000000
set_option linter.unusedSimpArgs false
set_option linter.unusedVariables false
namespace Go.Proofs.YgvaawGreat
open Go
theorem AAt.cd {w : World} {H : Store} {col : Nat → Nat} {cs : Array Value} {V : EV} {i : Nat} {x : EAcct} {b : Nat} {c : Array Value} {cap : Nat} {vc : Value} (h : AAt w H col cs V i x b c cap vc) : ∃ a d, vc = .slice a x.code.length d := by
  obtain ⟨a, d, h1, _⟩ := h.code.sv.val
  exact ⟨a, d, h1⟩
def emA (x : EAcct) : Bool := decide (x.nonce = 0) && decide (x.bal = 0) && decide (x.code.length = 0)
theorem v_empty {w : World} {H : Store} {col : Nat → Nat} {cs : Array Value} {V : EV} {i : Nat} {x : EAcct} {b : Nat} {c : Array Value} {cap : Nat} {vc : Value} (hA : AAt w H col cs V i x b c cap vc) {o : Nat} (hoo : o = i * 29) :
    Ret 73 [.pointer (some ⟨b, o, none⟩)] w (fun v w' => v = .bool (emA x) ∧ Up w w') := by
  obtain ⟨ca9, cd9, rfl⟩ := hA.cd
  refine enter (n := 23) Hvaa.func73 rfl rfl (Nat.le_of_ble_eq_true rfl) ?_
  have U := Up.refl w
  refine c_seq (fun K1 hK1 => ?_)
  exact (by
    refine c_region ?_
    refine l_step y_assignC ?_
    refine l_nil ?_
    refine hK1 _ _ ?_
    refine fg1 0 (gS rfl g0) (fun g => ?_)
    refine c_seq (fun K2 hK2 => ?_)
    exact (by
      refine c_region ?_
      refine l_step (y_moveV (et g0 rfl)) ?_
      refine l_step (y_nil (et g0 rfl)) ?_
      refine l_step (y_fld fld_167_1 (et g0 rfl)) ?_
      refine l_step (y_load1 one_26 (et g0 rfl) (at1 (hA.cNonce (by omega)))) ?_
      refine l_step (y_eql (et g0 rfl) rfl) ?_
      refine l_step (y_moveV (et g0 rfl)) ?_
      refine gsplitL (i := 8) g0 (fun q3 => ?_) (fun q3 => ?_)
      · skip
        have e1 : x.nonce = 0 := by have := of_decide_eq_true q3; omega
        refine l_gstep (j := 5) (t := 8) (by exact rfl) (by exact rfl) (et g0 rfl) (by decide) (y_moveV (et (gS rfl (gS rfl (gS rfl (gS rfl (gS rfl (gS rfl (gS rfl g0))))))) rfl)) ?_
        refine l_gstep (j := 5) (t := 8) (by exact rfl) (by exact rfl) (et (gS rfl g0) rfl) (by decide) (y_nil (et g0 rfl)) ?_
        refine l_gstep (j := 5) (t := 8) (by exact rfl) (by exact rfl) (et (gS rfl (gS rfl g0)) rfl) (by decide) (y_fld fld_167_2 (et g0 rfl)) ?_
        refine l_gstep (j := 5) (t := 8) (by exact rfl) (by exact rfl) (et (gS rfl (gS rfl (gS rfl g0))) rfl) (by decide) (y_loadR agg_65 sz_65 (et g0 rfl) rfl (at1R (hA.rBal (by omega)))) ?_
        refine l_geff (j := 5) (t := 8) (by exact rfl) (by exact rfl) (et (gS rfl (gS rfl (gS rfl (gS rfl g0)))) rfl) rfl (e_callV cal_78 (aC (et g0 rfl) aN) (isZero_spec _ _ hA.ok.bal)) (fun v4 w4 h4 => ?_)
        obtain ⟨rfl, u4⟩ := h4
        replace hA := hA.up u4
        replace U := U.tr u4
        refine l_step (y_pickT (et (gS rfl (gS rfl (gS rfl (gS rfl (gS rfl g0))))) rfl) (et g0 rfl)) ?_
        refine l_step (y_moveV (et g0 rfl)) ?_
        refine gsplitL (i := 15) g0 (fun q5 => ?_) (fun q5 => ?_)
        · skip
          have e2 : x.bal = 0 := of_decide_eq_true q5
          refine l_gstep (j := 12) (t := 15) (by exact rfl) (by exact rfl) (et g0 rfl) (by decide) (y_moveV (et (gS rfl (gS rfl (gS rfl (gS rfl (gS rfl (gS rfl (gS rfl (gS rfl (gS rfl (gS rfl (gS rfl (gS rfl (gS rfl (gS rfl (gS rfl g0))))))))))))))) rfl)) ?_
          refine l_gstep (j := 12) (t := 15) (by exact rfl) (by exact rfl) (et (gS rfl g0) rfl) (by decide) (y_nil (et g0 rfl)) ?_
          refine l_gstep (j := 12) (t := 15) (by exact rfl) (by exact rfl) (et (gS rfl (gS rfl g0)) rfl) (by decide) (y_fld fld_167_3 (et g0 rfl)) ?_
          refine l_gstep (j := 12) (t := 15) (by exact rfl) (by exact rfl) (et (gS rfl (gS rfl (gS rfl g0))) rfl) (by decide) (y_load1 one_38 (et g0 rfl) (at1 (hA.cCode (by omega)))) ?_
          refine l_gstep (j := 12) (t := 15) (by exact rfl) (by exact rfl) (et (gS rfl (gS rfl (gS rfl (gS rfl g0)))) rfl) (by decide) (y_len Hvaa.underlying38 (et g0 rfl)) ?_
          refine l_gstep (j := 12) (t := 15) (by exact rfl) (by exact rfl) (et (gS rfl (gS rfl (gS rfl (gS rfl (gS rfl g0))))) rfl) (by decide) (y_eql (et g0 rfl) rfl) ?_
          refine l_step (y_pickT (et (gS rfl (gS rfl (gS rfl (gS rfl (gS rfl (gS rfl g0)))))) rfl) (et g0 rfl)) ?_
          refine l_step (y_assignV (et g0 rfl)) ?_
          refine l_nil ?_
          refine hK2 _ _ ?_
          refine fg1 2 g0 (fun g => ?_)
          refine c_ret ?_
          repeat with_reducible refine then_ret ?_
          refine ret1 rfl (res_tmp (et g0 rfl)) ?_
          refine ⟨?_, U⟩
          unfold emA
          rw [decide_eq_true e1, decide_eq_true e2, Bool.true_and, Bool.true_and]
          exact congrArg Value.bool (decide_eq_decide.2 (by omega))
        · skip
          have e2 : ¬ x.bal = 0 := of_decide_eq_false q5
          refine l_gskip (j := 12) (t := 15) (by exact rfl) (by exact rfl) (et g0 rfl) (by decide) (by decide) ?_
          refine l_gskip (j := 12) (t := 15) (by exact rfl) (by exact rfl) (et (gS rfl g0) rfl) (by decide) (by decide) ?_
          refine l_gskip (j := 12) (t := 15) (by exact rfl) (by exact rfl) (et (gS rfl (gS rfl g0)) rfl) (by decide) (by decide) ?_
          refine l_gskip (j := 12) (t := 15) (by exact rfl) (by exact rfl) (et (gS rfl (gS rfl (gS rfl g0))) rfl) (by decide) (by decide) ?_
          refine l_gskip (j := 12) (t := 15) (by exact rfl) (by exact rfl) (et (gS rfl (gS rfl (gS rfl (gS rfl g0)))) rfl) (by decide) (by decide) ?_
          refine l_gskip (j := 12) (t := 15) (by exact rfl) (by exact rfl) (et (gS rfl (gS rfl (gS rfl (gS rfl (gS rfl g0))))) rfl) (by decide) (by decide) ?_
          refine l_step (y_pickF (et (gS rfl (gS rfl (gS rfl (gS rfl (gS rfl (gS rfl g0)))))) rfl) rfl) ?_
          refine l_step (y_assignV (et g0 rfl)) ?_
          refine l_nil ?_
          refine hK2 _ _ ?_
          refine fg1 2 g0 (fun g => ?_)
          refine c_ret ?_
          repeat with_reducible refine then_ret ?_
          refine ret1 rfl (res_tmp (et g0 rfl)) ?_
          exact ⟨congrArg Value.bool (show false = emA x by unfold emA; rw [decide_eq_false e2, Bool.and_false, Bool.false_and]), U⟩
      · skip
        have e1 : ¬ x.nonce = 0 := by have := of_decide_eq_false q3; omega
        refine l_gskip (j := 5) (t := 8) (by exact rfl) (by exact rfl) (et g0 rfl) (by decide) (by decide) ?_
        refine l_gskip (j := 5) (t := 8) (by exact rfl) (by exact rfl) (et (gS rfl g0) rfl) (by decide) (by decide) ?_
        refine l_gskip (j := 5) (t := 8) (by exact rfl) (by exact rfl) (et (gS rfl (gS rfl g0)) rfl) (by decide) (by decide) ?_
        refine l_gskip (j := 5) (t := 8) (by exact rfl) (by exact rfl) (et (gS rfl (gS rfl (gS rfl g0))) rfl) (by decide) (by decide) ?_
        refine l_gskip (j := 5) (t := 8) (by exact rfl) (by exact rfl) (et (gS rfl (gS rfl (gS rfl (gS rfl g0)))) rfl) (by decide) (by decide) ?_
        refine l_step (y_pickF (et (gS rfl (gS rfl (gS rfl (gS rfl (gS rfl g0))))) rfl) rfl) ?_
        refine l_step (y_moveV (et g0 rfl)) ?_
        refine l_gskip (j := 12) (t := 15) (by exact rfl) (by exact rfl) (et g0 rfl) (by decide) (by decide) ?_
        refine l_gskip (j := 12) (t := 15) (by exact rfl) (by exact rfl) (et (gS rfl g0) rfl) (by decide) (by decide) ?_
        refine l_gskip (j := 12) (t := 15) (by exact rfl) (by exact rfl) (et (gS rfl (gS rfl g0)) rfl) (by decide) (by decide) ?_
        refine l_gskip (j := 12) (t := 15) (by exact rfl) (by exact rfl) (et (gS rfl (gS rfl (gS rfl g0))) rfl) (by decide) (by decide) ?_
        refine l_gskip (j := 12) (t := 15) (by exact rfl) (by exact rfl) (et (gS rfl (gS rfl (gS rfl (gS rfl g0)))) rfl) (by decide) (by decide) ?_
        refine l_gskip (j := 12) (t := 15) (by exact rfl) (by exact rfl) (et (gS rfl (gS rfl (gS rfl (gS rfl (gS rfl g0))))) rfl) (by decide) (by decide) ?_
        refine l_step (y_pickF (et (gS rfl (gS rfl (gS rfl (gS rfl (gS rfl (gS rfl g0)))))) rfl) rfl) ?_
        refine l_step (y_assignV (et g0 rfl)) ?_
        refine l_nil ?_
        refine hK2 _ _ ?_
        refine fg1 2 g0 (fun g => ?_)
        refine c_ret ?_
        repeat with_reducible refine then_ret ?_
        refine ret1 rfl (res_tmp (et g0 rfl)) ?_
        exact ⟨congrArg Value.bool (show false = emA x by unfold emA; rw [decide_eq_false e1, Bool.false_and, Bool.false_and]), U⟩))
theorem v_isEmpty {w : World} {H : Store} {col : Nat → Nat} {bc : Nat} {cs : Array Value} {V : EV} (hV : VL w H col bc cs V) (ho : VOk V) (a : Nat) (ha : a < A160) :
    Ret 295 [.pointer (some ⟨bc, 2435, none⟩), aV a] w (fun v w' => v = .bool (emA (ax V a)) ∧ Up w w') := by
  have hnw := hV.new
  have hfz := hV.fz
  refine enter (n := 24) Hvaa.func295 rfl rfl (Nat.le_of_ble_eq_true rfl) ?_
  have U := Up.refl w
  refine c_seq (fun K1 hK1 => ?_)
  exact (by
    refine c_region ?_
    refine l_eff (e_boxV (et (gS rfl g0) rfl)) (fun v2 w2 h2 => ?_)
    obtain ⟨b2, rfl, n2⟩ := h2
    have f2 : w.heap.size ≤ b2 := Nat.le_trans U.size n2.fresh
    replace hV := hV.up n2.up
    replace U := U.tr n2.up
    have k2 := n2.blk
    replace k2 : Blk w2 b2 (bL (be 20 a)).toArray := k2
    refine l_step y_assignC ?_
    refine l_nil ?_
    refine hK1 _ _ ?_
    refine fg2 0 3 (gS rfl (gS rfl g0)) (gS rfl g0) (fun g => ?_)
    refine c_seq (fun K3 hK3 => ?_)
    exact (by
      refine c_region ?_
      refine l_step (y_moveV (et (gS rfl g0) rfl)) ?_
      refine l_step (y_loadB agg_25 sz_25 (et (gS rfl g0) rfl) (by rw [List.size_toArray, length_bL, length_be]) (at1B k2)) ?_
      refine l_eff (e_callV cal_159 (aC (et (gS rfl g0) rfl) (aC (et g0 rfl) aN)) (v_findAcct hV ho a ha)) (fun v4 w4 h4 => ?_)
      obtain ⟨i4, f4, rfl, hfd, u4⟩ := h4
      replace k2 := k2.up u4
      replace hV := hV.up u4
      replace U := U.tr u4
      refine l_step (y_moveV (et g0 rfl)) ?_
      refine l_step (y_ext (et g0 rfl) rfl) ?_
      refine l_step (y_ext (et (gS rfl g0) rfl) rfl) ?_
      refine l_step (y_assignV (et (gS rfl g0) rfl)) ?_
      refine l_step (y_assignV (et (gS rfl g0) rfl)) ?_
      refine l_nil ?_
      refine hK3 _ _ ?_
      refine fg2 0 5 (gS rfl (gS rfl (gS rfl (gS rfl (gS rfl (gS rfl (gS rfl (gS rfl (gS rfl g0))))))))) (gS rfl g0) (fun g => ?_)
      refine c_seq (fun K5 hK5 => ?_)
      exact (by
        refine c_region ?_
        refine l_step (y_moveV (et g0 rfl)) ?_
        refine l_step (y_lss (et g0 rfl) rfl) ?_
        refine l_step (y_moveV (et g0 rfl)) ?_
        refine gsplitL (i := 15) g0 (fun q6 => ?_) (fun q6 => ?_)
        · skip
          obtain ⟨hno, rfl, p9, rfl, hfr⟩ := hfd.neg (by have := of_decide_eq_true q6; omega)
          have hax := ax_no (mA_no hno)
          refine l_gskip (j := 2) (t := 15) (by exact rfl) (by exact rfl) (et g0 rfl) (by decide) (by decide) ?_
          refine l_gskip (j := 2) (t := 15) (by exact rfl) (by exact rfl) (et (gS rfl g0) rfl) (by decide) (by decide) ?_
          refine l_gskip (j := 2) (t := 15) (by exact rfl) (by exact rfl) (et (gS rfl (gS rfl g0)) rfl) (by decide) (by decide) ?_
          refine l_gskip (j := 2) (t := 15) (by exact rfl) (by exact rfl) (et (gS rfl (gS rfl (gS rfl g0))) rfl) (by decide) (by decide) ?_
          refine l_gskip (j := 2) (t := 15) (by exact rfl) (by exact rfl) (et (gS rfl (gS rfl (gS rfl (gS rfl g0)))) rfl) (by decide) (by decide) ?_
          refine l_gskip (j := 2) (t := 15) (by exact rfl) (by exact rfl) (et (gS rfl (gS rfl (gS rfl (gS rfl (gS rfl g0))))) rfl) (by decide) (by decide) ?_
          refine l_gskip (j := 2) (t := 15) (by exact rfl) (by exact rfl) (et (gS rfl (gS rfl (gS rfl (gS rfl (gS rfl (gS rfl g0)))))) rfl) (by decide) (by decide) ?_
          refine l_step (y_pickT (et (gS rfl (gS rfl (gS rfl (gS rfl (gS rfl (gS rfl (gS rfl g0))))))) rfl) rfl) ?_
          refine l_step (y_assignV (et g0 rfl)) ?_
          refine l_nil ?_
          refine hK5 _ _ ?_
          refine fg1 4 g0 (fun g => ?_)
          refine c_ret ?_
          repeat with_reducible refine then_ret ?_
          refine ret1 rfl (res_tmp (et g0 rfl)) ?_
          exact ⟨by show _ = Value.bool (emA (ax V a)); rw [hax]; rfl, U⟩
        · skip
          obtain ⟨k9, ⟨x9, hx9, hxa⟩, hk9, rfl, rfl⟩ := hfd.pos (by have := of_decide_eq_false q6; omega)
          obtain ⟨ba, ca, cap9, vc9, hAA⟩ := hV.acct hx9
          have hax := ax_eq ho hx9 hxa
          refine l_gstep (j := 2) (t := 15) (by exact rfl) (by exact rfl) (et g0 rfl) (by decide) (y_moveV (et (gS rfl (gS rfl (gS rfl (gS rfl (gS rfl g0))))) rfl)) ?_
          refine l_gstep (j := 2) (t := 15) (by exact rfl) (by exact rfl) (et (gS rfl g0) rfl) (by decide) (y_nil (et g0 rfl)) ?_
          refine l_gstep (j := 2) (t := 15) (by exact rfl) (by exact rfl) (et (gS rfl (gS rfl g0)) rfl) (by decide) (y_fld fld_84_0 (et g0 rfl)) ?_
          refine l_gstep (j := 2) (t := 15) (by exact rfl) (by exact rfl) (et (gS rfl (gS rfl (gS rfl g0))) rfl) (by decide) (y_load1 one_76 (et g0 rfl) (at1 (hV.c1 hAA.sl rfl))) ?_
          refine l_gstep (j := 2) (t := 15) (by exact rfl) (by exact rfl) (et (gS rfl (gS rfl (gS rfl (gS rfl g0)))) rfl) (by decide) (y_moveV (et (gS rfl (gS rfl (gS rfl (gS rfl (gS rfl (gS rfl (gS rfl (gS rfl g0)))))))) rfl)) ?_
          refine l_gstep (j := 2) (t := 15) (by exact rfl) (by exact rfl) (et (gS rfl (gS rfl (gS rfl (gS rfl (gS rfl g0))))) rfl) (by decide) (y_idxS Hvaa.underlying76 sz_167 (et (gS rfl g0) rfl) (et g0 rfl) ?_ ?_) ?_
          omega
          omega
          refine l_geff (j := 2) (t := 15) (by exact rfl) (by exact rfl) (et (gS rfl (gS rfl (gS rfl (gS rfl (gS rfl (gS rfl g0)))))) rfl) rfl (e_callV cal_73 (aC (et g0 rfl) aN) (v_empty hAA (by omega))) (fun v7 w7 h7 => ?_)
          obtain ⟨rfl, u7⟩ := h7
          replace k2 := k2.up u7
          replace hV := hV.up u7
          replace hAA := hAA.up u7
          replace U := U.tr u7
          refine l_step (y_pickF (et (gS rfl (gS rfl (gS rfl (gS rfl (gS rfl (gS rfl (gS rfl g0))))))) rfl) (et g0 rfl)) ?_
          refine l_step (y_assignV (et g0 rfl)) ?_
          refine l_nil ?_
          refine hK5 _ _ ?_
          refine fg1 4 g0 (fun g => ?_)
          refine c_ret ?_
          repeat with_reducible refine then_ret ?_
          refine ret1 rfl (res_tmp (et g0 rfl)) ?_
          exact ⟨by show _ = Value.bool (emA (ax V a)); rw [hax], U⟩)))
theorem v_code {w : World} {H : Store} {col : Nat → Nat} {bc : Nat} {cs : Array Value} {V : EV} (hV : VL w H col bc cs V) (ho : VOk V) (a : Nat) (ha : a < A160) :
    Ret 103 [.pointer (some ⟨bc, 2435, none⟩), aV a] w (fun v w' => ∃ H', Go No w H w' H' ∧ BV H' v ((absV V).code a)) := by
  have hnw := hV.new
  have hfz := hV.fz
  refine enter (n := 24) Hvaa.func103 rfl rfl (Nat.le_of_ble_eq_true rfl) ?_
  have U := Up.refl w
  refine c_seq (fun K1 hK1 => ?_)
  exact (by
    refine c_region ?_
    refine l_eff (e_boxV (et (gS rfl g0) rfl)) (fun v2 w2 h2 => ?_)
    obtain ⟨b2, rfl, n2⟩ := h2
    have f2 : w.heap.size ≤ b2 := Nat.le_trans U.size n2.fresh
    replace hV := hV.up n2.up
    replace U := U.tr n2.up
    have k2 := n2.blk
    replace k2 : Blk w2 b2 (bL (be 20 a)).toArray := k2
    refine l_step y_assignC ?_
    refine l_nil ?_
    refine hK1 _ _ ?_
    refine fg2 0 3 (gS rfl (gS rfl g0)) (gS rfl g0) (fun g => ?_)
    refine c_seq (fun K3 hK3 => ?_)
    refine c_seq (fun K4 hK4 => ?_)
    exact (by
      refine c_region ?_
      refine l_step (y_moveV (et (gS rfl g0) rfl)) ?_
      refine l_step (y_loadB agg_25 sz_25 (et (gS rfl g0) rfl) (by rw [List.size_toArray, length_bL, length_be]) (at1B k2)) ?_
      refine l_eff (e_callV cal_159 (aC (et (gS rfl g0) rfl) (aC (et g0 rfl) aN)) (v_findAcct hV ho a ha)) (fun v5 w5 h5 => ?_)
      obtain ⟨i5, f5, rfl, hfd, u5⟩ := h5
      replace k2 := k2.up u5
      replace hV := hV.up u5
      replace U := U.tr u5
      refine l_step (y_moveV (et g0 rfl)) ?_
      refine l_step (y_ext (et g0 rfl) rfl) ?_
      refine l_step (y_ext (et (gS rfl g0) rfl) rfl) ?_
      refine l_step (y_assignV (et (gS rfl g0) rfl)) ?_
      refine l_step (y_assignV (et (gS rfl g0) rfl)) ?_
      refine l_nil ?_
      refine hK4 _ _ ?_
      refine fg2 0 5 (gS rfl (gS rfl (gS rfl (gS rfl (gS rfl (gS rfl (gS rfl (gS rfl (gS rfl g0))))))))) (gS rfl g0) (fun g => ?_)
      refine c_seq (fun K6 hK6 => ?_)
      exact (by
        refine c_region ?_
        refine l_step (y_moveV (et g0 rfl)) ?_
        refine l_step (y_geq (et g0 rfl) rfl) ?_
        refine l_nil ?_
        refine hK6 _ _ ?_
        refine fg3 0 5 14 (gS rfl (gS rfl (gS rfl g0))) (gS rfl (gS rfl g0)) g0 (fun g => ?_)
        refine c_cond (et g0 rfl) (fun cB1 => ?_) (fun cB1 => ?_)
        · skip
          
          obtain ⟨k9, ⟨x9, hx9, hxa⟩, hk9, rfl, rfl⟩ := hfd.pos (by have := of_decide_eq_true cB1; omega)
          obtain ⟨ba, ca, cap9, vc9, hAA⟩ := hV.acct hx9
          have hax := ax_eq ho hx9 hxa
          obtain ⟨ca9, cd9, rfl⟩ := hAA.cd
          have hc9 := hAA.ok.code
          refine c_seq (fun K8 hK8 => ?_)
          exact (by
            refine c_region ?_
            refine l_step (y_moveV (et (gS rfl (gS rfl g0)) rfl)) ?_
            refine l_step (y_nil (et g0 rfl)) ?_
            refine l_step (y_fld fld_84_0 (et g0 rfl)) ?_
            refine l_step (y_load1 one_76 (et g0 rfl) (at1 (hV.c1 hAA.sl rfl))) ?_
            refine l_step (y_moveV (et (gS rfl (gS rfl (gS rfl (gS rfl (gS rfl g0))))) rfl)) ?_
            refine l_step (y_idxS Hvaa.underlying76 sz_167 (et (gS rfl g0) rfl) (et g0 rfl) ?_ ?_) ?_
            omega
            omega
            refine l_step (y_fld fld_167_3 (et g0 rfl)) ?_
            refine l_step (y_load1 one_38 (et g0 rfl) (at1 (hAA.cCode (by omega)))) ?_
            have uB := U
            refine l_eff (e_callV cal_77 (aC (et g0 rfl) aN) (vault_copied _ _ _ _ _ H hV.fz (hAA.code.wv hV.fz) (Nat.le_refl _) (by omega))) (fun v9 w9 h9 => ?_)
            obtain ⟨H9, g9, b9⟩ := h9
            replace k2 := k2.up g9.up
            replace hV := hV.up g9.up
            replace hAA := hAA.up g9.up
            replace U := U.tr g9.up
            refine l_step (y_assignV (et g0 rfl)) ?_
            refine l_nil ?_
            refine hK8 _ _ ?_
            refine fg1 4 g0 (fun g => ?_)
            refine c_ret ?_
            repeat with_reducible refine then_ret ?_
            refine ret1 rfl (res_tmp (et g0 rfl)) ?_
            refine ⟨_, (Go.ofUp hfz uB).tr g9, ?_⟩
            show BV _ _ (ax V a).code
            rw [hax]
            exact b9)
        · skip
          
          obtain ⟨hno, rfl, p9, rfl, hfr⟩ := hfd.neg (by have := of_decide_eq_false cB1; omega)
          have hax := ax_no (mA_no hno)
          refine c_skip ?_
          refine hK3 _ _ ?_
          refine fg0 (fun g => ?_)
          refine c_seq (fun K10 hK10 => ?_)
          exact (by
            refine c_region ?_
            refine l_step y_assignC ?_
            refine l_nil ?_
            refine hK10 _ _ ?_
            refine c_ret ?_
            repeat with_reducible refine then_ret ?_
            refine ret1 rfl (res_tmp (et g0 rfl)) ?_
            refine ⟨H, Go.ofUp hfz U, ?_⟩
            show BV _ _ (ax V a).code
            rw [hax]
            exact BV.nil _))))
theorem v_store {w : World} {H : Store} {col : Nat → Nat} {bc : Nat} {cs : Array Value} {V : EV} (hV : VL w H col bc cs V) (ho : VOk V) (a k : Nat) (ha : a < A160) (hk : k < W256) (u : Nat) (hub : u < W256) (na ns : Nat) (hr : (hasA V a ∧ na = 0) ∨ (V.accts.length < 2560 ∧ na = 1)) (hrs : (hasS V a k ∧ ns = 0) ∨ (V.slots.length < 2560 ∧ ns = 1)) (hjr : V.journal.length < 65536) :
    Ret 306 [.pointer (some ⟨bc, 2435, none⟩), aV a, wV k, wV u] w (fun v w' => v = .bool true ∧ ∃ (col' : Nat → Nat) (cs' : Array Value) (V' : EV), VT w H col bc cs w' H col' cs' V' ∧ VOk V' ∧ JS V V' (fun A => { A with slot := fset2 A.slot a k u }) na ns 0 1 0) := by
  have hT := VT.refl hV
  have hnw := hV.new
  have hcC := hV.colC
  have hml := ho.bd.marks
  refine enter (n := 50) Hvaa.func306 rfl rfl (Nat.le_of_ble_eq_true rfl) ?_
  have U : Ch (fun _ => True) w w := Ch.refl _ w
  refine c_seq (fun K1 hK1 => ?_)
  exact (by
    refine c_region ?_
    refine l_eff (e_boxV (et (gS rfl g0) rfl)) (fun v2 w2 h2 => ?_)
    obtain ⟨b2, rfl, n2⟩ := h2
    have f2 : w.heap.size ≤ b2 := Nat.le_trans U.size n2.fresh
    replace hT := hT.up n2.up
    replace U := U.tr n2.up
    have k2 := n2.blk
    replace k2 : Blk w2 b2 (bL (be 20 a)).toArray := k2
    have nc2 : col b2 = 0 := hnw _ f2
    refine l_eff (e_boxV (et (gS rfl (gS rfl (gS rfl g0))) rfl)) (fun v3 w3 h3 => ?_)
    obtain ⟨b3, rfl, n3⟩ := h3
    have d2_3 : b2 < b3 := Nat.lt_of_lt_of_le k2.lt n3.fresh
    have f3 : w.heap.size ≤ b3 := Nat.le_trans U.size n3.fresh
    replace k2 := k2.up n3.up
    replace hT := hT.up n3.up
    replace U := U.tr n3.up
    have k3 := n3.blk
    have nc3 : col b3 = 0 := hnw _ f3
    refine l_eff (e_boxV (et (gS rfl (gS rfl (gS rfl (gS rfl (gS rfl g0))))) rfl)) (fun v4 w4 h4 => ?_)
    obtain ⟨b4, rfl, n4⟩ := h4
    have d2_4 : b2 < b4 := Nat.lt_of_lt_of_le k2.lt n4.fresh
    have d3_4 : b3 < b4 := Nat.lt_of_lt_of_le k3.lt n4.fresh
    have f4 : w.heap.size ≤ b4 := Nat.le_trans U.size n4.fresh
    replace k2 := k2.up n4.up
    replace k3 := k3.up n4.up
    replace hT := hT.up n4.up
    replace U := U.tr n4.up
    have k4 := n4.blk
    have nc4 : col b4 = 0 := hnw _ f4
    refine l_step y_assignC ?_
    refine l_nil ?_
    refine hK1 _ _ ?_
    refine fg4 0 5 6 7 (gS rfl (gS rfl (gS rfl (gS rfl g0)))) (gS rfl (gS rfl (gS rfl g0))) (gS rfl (gS rfl g0)) (gS rfl g0) (fun g => ?_)
    refine c_seq (fun K5 hK5 => ?_)
    refine c_seq (fun K6 hK6 => ?_)
    exact (by
      refine c_region ?_
      refine l_step (y_moveV (et (gS rfl (gS rfl (gS rfl g0))) rfl)) ?_
      refine l_eff (e_callV cal_170 (aC (et g0 rfl) aN) (v_room hT.vl)) (fun v7 w7 h7 => ?_)
      obtain ⟨rfl, u7⟩ := h7
      replace k2 := k2.up u7
      replace k3 := k3.up u7
      replace k4 := k4.up u7
      replace hT := hT.up u7
      replace U := U.tr u7
      refine l_step (y_not (et g0 rfl)) ?_
      refine l_nil ?_
      refine hK6 _ _ ?_
      refine fg5 0 5 6 7 13 (gS rfl (gS rfl (gS rfl (gS rfl (gS rfl (gS rfl g0)))))) (gS rfl (gS rfl (gS rfl (gS rfl (gS rfl g0))))) (gS rfl (gS rfl (gS rfl (gS rfl g0)))) (gS rfl (gS rfl (gS rfl g0))) g0 (fun g => ?_)
      refine c_false (et g0 rfl) (by (simp; omega)) ?_
      refine c_skip ?_
      refine hK5 _ _ ?_
      refine fg4 0 5 6 7 (gS rfl (gS rfl (gS rfl (gS rfl g0)))) (gS rfl (gS rfl (gS rfl g0))) (gS rfl (gS rfl g0)) (gS rfl g0) (fun g => ?_)
      refine c_seq (fun K9 hK9 => ?_)
      exact (by
        refine c_region ?_
        refine l_step (y_moveV (et (gS rfl (gS rfl (gS rfl g0))) rfl)) ?_
        refine l_step (y_loadB agg_25 sz_25 (et (gS rfl (gS rfl (gS rfl g0))) rfl) (by rw [List.size_toArray, length_bL, length_be]) (at1B k2)) ?_
        refine l_step (y_loadB agg_65 sz_65 (et (gS rfl (gS rfl (gS rfl g0))) rfl) (by first | (simp only [Value.cells, hV, aV, bV, wV, wL, List.size_toArray, length_bL, length_uL, length_be, size_spl, List.length_cons, List.length_nil, List.length_replicate, Nat.zero_add, Nat.reduceAdd, Nat.reduceLeDiff, Nat.le_refl]; done) | rfl) (at1B k3)) ?_
        have lt2 := k2.lt
        have lt3 := k3.lt
        have lt4 := k4.lt
        refine l_eff (e_callV cal_248 (aC (et (gS rfl (gS rfl g0)) rfl) (aC (et (gS rfl g0) rfl) (aC (et g0 rfl) aN))) (v_slotOf hT.vl ho a k ha hk na ns hr hrs)) (fun v10 w10 h10 => ?_)
        obtain ⟨i9, x9, col2, cs2, V2, rfl, hT2, hLy, hA2, hx9, hxa, hxk⟩ := h10
        replace k2 := k2.ch hT2.go.ch (by intro hm; omega)
        replace k3 := k3.ch hT2.go.ch (by intro hm; omega)
        replace k4 := k4.ch hT2.go.ch (by intro hm; omega)
        replace hT := hT.trans hT2
        replace U := U.cc hT2.go.ch (by intro b hb; exact .inl trivial)
        have hq2 := hT2.col
        replace nc2 := (hq2 b2 lt2).trans nc2
        replace nc3 := (hq2 b3 lt3).trans nc3
        replace nc4 := (hq2 b4 lt4).trans nc4
        replace hcC := hT2.vl.colC
        replace hml := hLy.ok.bd.marks
        obtain ⟨ba, ca, cap9, hAA⟩ := hT2.vl.slot hx9
        have hi9 := hAA.lt
        have hac := hAA.col
        have hb9 := hLy.ok.bd.slots
        have hpl : i9 < 12288 := by omega
        have hok := hAA.ok
        have hew := hok.val
        obtain ⟨lj9, lk9, hlJ⟩ := hT.vl.lenJ
        have hjl := hLy.j
        refine l_step (y_moveV (et g0 rfl)) ?_
        refine l_step (y_ext (et g0 rfl) rfl) ?_
        exact (by
          refine l_step (y_ext (et (gS rfl g0) rfl) rfl) ?_
          refine l_step (y_assignV (et (gS rfl g0) rfl)) ?_
          refine l_step (y_assignV (et (gS rfl g0) rfl)) ?_
          refine l_nil ?_
          refine hK9 _ _ ?_
          refine fg4 0 7 9 10 (gS rfl (gS rfl (gS rfl (gS rfl (gS rfl (gS rfl (gS rfl (gS rfl (gS rfl (gS rfl (gS rfl (gS rfl g0)))))))))))) (gS rfl (gS rfl (gS rfl (gS rfl (gS rfl (gS rfl (gS rfl (gS rfl (gS rfl g0))))))))) (gS rfl g0) g0 (fun g => ?_)
          refine c_seq (fun K11 hK11 => ?_)
          refine c_seq (fun K12 hK12 => ?_)
          exact (by
            refine c_region ?_
            refine l_step (y_moveV (et g0 rfl)) ?_
            refine l_step (y_not (et g0 rfl)) ?_
            refine l_nil ?_
            refine hK12 _ _ ?_
            refine fg4 0 7 9 22 (gS rfl (gS rfl (gS rfl (gS rfl (gS rfl g0))))) (gS rfl (gS rfl (gS rfl (gS rfl g0)))) (gS rfl (gS rfl (gS rfl g0))) g0 (fun g => ?_)
            refine c_false (et g0 rfl) (by rfl) ?_
            refine c_skip ?_
            refine hK11 _ _ ?_
            refine fg3 0 7 9 (gS rfl (gS rfl (gS rfl g0))) (gS rfl (gS rfl g0)) (gS rfl g0) (fun g => ?_)
            refine c_seq (fun K14 hK14 => ?_)
            exact (by
              refine c_draw (Ch (fun k => col2 k = 4)) 19 [(0, true), (1, true), (2, true), (3, true), (4, true), (5, true), (6, true), (7, true), (8, true), (9, true), (10, true), (11, true), (12, true), (13, true), (14, true), (15, false), (16, false), (17, true), (18, true), (19, false)] (by kernel_rfl) (fun w15 hu => ⟨Ch.refl _ _, ?_⟩)
              replace k2 := k2.up hu
              replace k3 := k3.up hu
              replace k4 := k4.up hu
              replace hT := hT.up hu
              replace hAA := hAA.up hu
              replace U := U.tr hu
              have SU : (Ch (fun k => col2 k = 4)) w15 w15 := Ch.refl _ _
              refine p_step (by exact rfl) (y_moveV (et (gS rfl (gS rfl g0)) rfl)) ?_
              refine p_step (by exact rfl) (y_moveV (et (gS rfl (gS rfl (gS rfl g0))) rfl)) ?_
              refine p_step (by exact rfl) (y_nil (et g0 rfl)) ?_
              refine p_step (by exact rfl) (y_fld fld_84_4 (et g0 rfl)) ?_
              refine p_step (by exact rfl) (y_load1 one_79 (et g0 rfl) (atC (hT.vl.c1 hlJ rfl) (by intro hm; omega))) ?_
              refine p_step (by exact rfl) (y_moveV (et (gS rfl (gS rfl (gS rfl (gS rfl (gS rfl g0))))) rfl)) ?_
              refine p_step (by exact rfl) (y_moveV (et (gS rfl (gS rfl (gS rfl (gS rfl (gS rfl (gS rfl (gS rfl (gS rfl g0)))))))) rfl)) ?_
              refine p_step (by exact rfl) (y_nil (et g0 rfl)) ?_
              refine p_step (by exact rfl) (y_fld fld_84_1 (et g0 rfl)) ?_
              refine p_step (by exact rfl) (y_load1 one_77 (et g0 rfl) (atC (hT.vl.c1 hAA.sl rfl) (by intro hm; omega))) ?_
              refine p_step (by exact rfl) (y_moveV (et (gS rfl (gS rfl (gS rfl (gS rfl (gS rfl (gS rfl (gS rfl (gS rfl (gS rfl (gS rfl g0)))))))))) rfl)) ?_
              refine p_step (by exact rfl) (y_idxS Hvaa.underlying77 sz_176 (et (gS rfl g0) rfl) (et g0 rfl) ?_ ?_) ?_
              omega
              omega
              refine p_step (by exact rfl) (y_fld fld_176_2 (et g0 rfl)) ?_
              refine p_step (by exact rfl) (y_loadR agg_65 sz_65 (et g0 rfl) rfl (atCR (hAA.rVal (by omega)) (by intro hm; omega))) ?_
              refine p_step (by exact rfl) (y_bldEw (kd := 3) rfl (et (gS rfl (gS rfl (gS rfl (gS rfl (gS rfl (gS rfl (gS rfl (gS rfl g0)))))))) rfl) (et g0 rfl)) ?_
              refine p_eff (by exact rfl) (e_slice1 (k := 8) Hvaa.underlying79 sz_218 zr_218 rfl (by decide) (et g0 rfl) (show (eeC (⟨3, i9, 0, x9.val, [], false⟩ : EEnt) (.slice none 0 0)).toArray.size = 9 by rw [List.size_toArray, eeC_len _ _])) (fun v16 w16 h16 => ?_)
              obtain ⟨bb16, rfl, nn16⟩ := h16
              replace k2 := k2.up nn16.up
              replace k3 := k3.up nn16.up
              replace k4 := k4.up nn16.up
              replace hT := hT.up nn16.up
              replace hAA := hAA.up nn16.up
              replace U := U.tr nn16.up
              have kk16 : Blk w16 bb16 (eeC (⟨3, i9, 0, x9.val, [], false⟩ : EEnt) (.slice none 0 0)).toArray := nn16.blk
              refine ⟨.inr (SU.tr nn16.up), ?_⟩
              replace SU := SU.tr nn16.up
              exact (by
                have lt2 := k2.lt
                have lt3 := k3.lt
                have lt4 := k4.lt
                refine p_eff (by exact rfl) (e_appT (y := (⟨3, i9, 0, x9.val, [], false⟩ : EEnt)) (news := eeC (⟨3, i9, 0, x9.val, [], false⟩ : EEnt) (.slice none 0 0)) Hvaa.underlying79 sz_218 zr_218 by_218 rfl (by decide) (et (gS rfl (gS rfl (gS rfl (gS rfl (gS rfl (gS rfl (gS rfl (gS rfl (gS rfl (gS rfl (gS rfl g0))))))))))) rfl) hT hT.vl.jou hlJ (by decide) (by decide) (et g0 rfl) kk16 (eeC_len _ _) one_eeC ⟨_, rfl, BV.nil _, ⟨Nat.le_of_ble_eq_true rfl, by first | exact hpl | exact Nat.le_of_ble_eq_true rfl, by first | exact hen | exact Nat.le_of_ble_eq_true rfl, by first | exact hew | exact Nat.le_of_ble_eq_true rfl, by first | exact heb | exact Nat.le_of_ble_eq_true rfl⟩⟩ (by decide) (by rw [hjl]; omega)) (fun v17 w17 h17 => ?_)
                obtain ⟨hm17, ch17⟩ := h17
                replace k2 := k2.ch ch17 (by intro hm; first | omega | (subst hm; omega))
                replace k3 := k3.ch ch17 (by intro hm; first | omega | (subst hm; omega))
                replace k4 := k4.ch ch17 (by intro hm; first | omega | (subst hm; omega))
                replace hAA := hAA.ch ch17 (by intro hm; first | omega | (subst hm; omega))
                replace hT := hm17
                replace U := U.cc ch17 (by intro b hb; exact .inl trivial)
                replace SU := SU.cc ch17 (by intro b hb; first | exact .inl hb | exact hb.elim | omega | (have h9 := hOo.lim b hb.symm; first | exact .inl (by omega) | omega))
                obtain ⟨pa17, pc17, rfl⟩ := hm17.pd.len
                refine ⟨.inr SU, ?_⟩
                refine p_step (by exact rfl) (y_nil (et (gS rfl (gS rfl (gS rfl (gS rfl (gS rfl (gS rfl (gS rfl (gS rfl (gS rfl (gS rfl (gS rfl (gS rfl (gS rfl (gS rfl (gS rfl (gS rfl g0)))))))))))))))) rfl)) ?_
                refine p_step (by exact rfl) (y_fld fld_84_4 (et g0 rfl)) ?_
                refine p_effN (by exact rfl) (e_store sz_79 (et g0 rfl) (cellsV (et (gS rfl (gS rfl g0)) rfl) rfl) rfl (by intro v hv; simp at hv; subst hv; rfl) hT.m.kC (by rw [hT.m.size]; exact Nat.le_of_ble_eq_true rfl)) (fun v18 w18 h18 => ?_)
                obtain ⟨rfl, x18⟩ := h18
                obtain ⟨col4, hv18, hq18⟩ := hT.layJ hml x18
                replace k2 := k2.ch x18.ch (by intro hm; first | omega | (subst hm; omega))
                replace k3 := k3.ch x18.ch (by intro hm; first | omega | (subst hm; omega))
                replace k4 := k4.ch x18.ch (by intro hm; first | omega | (subst hm; omega))
                replace hT := hv18
                replace U := U.cc x18.ch (by intro b hb; exact .inl trivial)
                replace nc2 := (hq18 b2 lt2).trans nc2
                replace nc3 := (hq18 b3 lt3).trans nc3
                replace nc4 := (hq18 b4 lt4).trans nc4
                replace hcC := hT.vl.colC
                obtain ⟨bA, cA, capA, hAB⟩ := hT.vl.slot (x := x9) hx9
                have hab := hAB.col
                have hfit := hAB.fit
                have hi9b : i9 < V2.slots.length := hAB.lt
                refine ⟨.inl rfl, ?_⟩
                refine p_nil ?_
                refine hK14 _ _ ?_
                refine fg3 0 7 9 (gS rfl (gS rfl (gS rfl (gS rfl (gS rfl (gS rfl (gS rfl (gS rfl (gS rfl (gS rfl (gS rfl (gS rfl (gS rfl (gS rfl (gS rfl (gS rfl (gS rfl (gS rfl (gS rfl (gS rfl (gS rfl g0))))))))))))))))))))) (gS rfl (gS rfl (gS rfl (gS rfl (gS rfl (gS rfl (gS rfl (gS rfl (gS rfl (gS rfl (gS rfl (gS rfl (gS rfl (gS rfl (gS rfl (gS rfl (gS rfl (gS rfl (gS rfl (gS rfl g0)))))))))))))))))))) (gS rfl (gS rfl (gS rfl (gS rfl (gS rfl (gS rfl (gS rfl (gS rfl (gS rfl (gS rfl (gS rfl (gS rfl (gS rfl (gS rfl (gS rfl (gS rfl (gS rfl (gS rfl (gS rfl g0))))))))))))))))))) (fun g => ?_)
                refine c_seq (fun K19 hK19 => ?_)
                exact (by
                  refine c_draw Up 8 [(0, true), (1, true), (2, true), (3, true), (4, true), (5, true), (6, true), (7, true), (8, false)] (by kernel_rfl) (fun w20 hu => ⟨Up.refl _, ?_⟩)
                  replace k2 := k2.up hu
                  replace k3 := k3.up hu
                  replace k4 := k4.up hu
                  replace hT := hT.up hu
                  replace hAB := hAB.up hu
                  replace U := U.tr hu
                  have SU := Up.refl w20
                  refine p_step (by exact rfl) (y_moveV (et (gS rfl (gS rfl g0)) rfl)) ?_
                  refine p_step (by exact rfl) (y_nil (et g0 rfl)) ?_
                  refine p_step (by exact rfl) (y_fld fld_84_1 (et g0 rfl)) ?_
                  refine p_step (by exact rfl) (y_load1 one_77 (et g0 rfl) (atS (hT.vl.c1 hAB.sl rfl))) ?_
                  refine p_step (by exact rfl) (y_moveV (et (gS rfl (gS rfl (gS rfl (gS rfl g0)))) rfl)) ?_
                  refine p_step (by exact rfl) (y_loadB agg_65 sz_65 (et (gS rfl (gS rfl (gS rfl (gS rfl (gS rfl (gS rfl g0)))))) rfl) (by first | (simp only [Value.cells, hV, aV, bV, wV, wL, List.size_toArray, length_bL, length_uL, length_be, size_spl, List.length_cons, List.length_nil, List.length_replicate, Nat.zero_add, Nat.reduceAdd, Nat.reduceLeDiff, Nat.le_refl]; done) | rfl) (atSB k4)) ?_
                  refine p_step (by exact rfl) (y_idxS Hvaa.underlying77 sz_176 (et (gS rfl (gS rfl g0)) rfl) (et (gS rfl g0) rfl) ?_ ?_) ?_
                  omega
                  exact Int.ofNat_lt.2 hi9b
                  refine p_step (by exact rfl) (y_fld fld_176_2 (et g0 rfl)) ?_
                  refine p_effN (by exact rfl) (e_store sz_65 (et g0 rfl) (cellsV (et (gS rfl (gS rfl g0)) rfl) rfl) rfl (by exact one_uL _) hAB.kA (by have h9 := hfit; omega)) (fun v21 w21 h21 => ?_)
                  obtain ⟨rfl, x21⟩ := h21
                  have hv21 := hT.setS hAB (j := 5) (y := { x9 with val := u }) (by omega) x21 rfl (Nat.le_of_ble_eq_true rfl) ⟨hok.acct, hok.key, hub, hok.orig⟩
                  replace k2 := k2.ch x21.ch (by intro hm; first | omega | (subst hm; omega))
                  replace k3 := k3.ch x21.ch (by intro hm; first | omega | (subst hm; omega))
                  replace k4 := k4.ch x21.ch (by intro hm; first | omega | (subst hm; omega))
                  replace hT := hv21
                  replace U := U.cc x21.ch (by intro b hb; exact .inl trivial)
                  refine ⟨.inl rfl, ?_⟩
                  refine p_nil ?_
                  refine hK19 _ _ ?_
                  refine fg0 (fun g => ?_)
                  refine c_seq (fun K22 hK22 => ?_)
                  exact (by
                    refine c_region ?_
                    refine l_step y_assignC ?_
                    refine l_nil ?_
                    refine hK22 _ _ ?_
                    refine c_ret ?_
                    repeat with_reducible refine then_ret ?_
                    refine ret1 rfl (res_tmp (et g0 rfl)) ?_
                    subst hxk
                    have h9 := put_store (v := u) hLy ho hA2 hxa hx9 hjr
                    exact ⟨rfl, _, _, _, hT, h9.1, h9.2⟩)))))))))
theorem v_warmSlot {w : World} {H : Store} {col : Nat → Nat} {bc : Nat} {cs : Array Value} {V : EV} (hV : VL w H col bc cs V) (ho : VOk V) (a k : Nat) (ha : a < A160) (hk : k < W256) (na ns : Nat) (hr : (hasA V a ∧ na = 0) ∨ (V.accts.length < 2560 ∧ na = 1)) (hrs : (hasS V a k ∧ ns = 0) ∨ (V.slots.length < 2560 ∧ ns = 1)) (hjr : V.journal.length < 65536) :
    Ret 175 [.pointer (some ⟨bc, 2435, none⟩), aV a, wV k] w (fun v w' => v = .bool true ∧ ∃ (col' : Nat → Nat) (cs' : Array Value) (V' : EV), VT w H col bc cs w' H col' cs' V' ∧ VOk V' ∧ JS V V' (fun A => { A with warmS := fset2 A.warmS a k true }) na ns 0 1 0) := by
  have hT := VT.refl hV
  have hnw := hV.new
  have hcC := hV.colC
  have hml := ho.bd.marks
  refine enter (n := 47) Hvaa.func175 rfl rfl (Nat.le_of_ble_eq_true rfl) ?_
  have U : Ch (fun _ => True) w w := Ch.refl _ w
  refine c_seq (fun K1 hK1 => ?_)
  exact (by
    refine c_region ?_
    refine l_eff (e_boxV (et (gS rfl g0) rfl)) (fun v2 w2 h2 => ?_)
    obtain ⟨b2, rfl, n2⟩ := h2
    have f2 : w.heap.size ≤ b2 := Nat.le_trans U.size n2.fresh
    replace hT := hT.up n2.up
    replace U := U.tr n2.up
    have k2 := n2.blk
    replace k2 : Blk w2 b2 (bL (be 20 a)).toArray := k2
    have nc2 : col b2 = 0 := hnw _ f2
    refine l_eff (e_boxV (et (gS rfl (gS rfl (gS rfl g0))) rfl)) (fun v3 w3 h3 => ?_)
    obtain ⟨b3, rfl, n3⟩ := h3
    have d2_3 : b2 < b3 := Nat.lt_of_lt_of_le k2.lt n3.fresh
    have f3 : w.heap.size ≤ b3 := Nat.le_trans U.size n3.fresh
    replace k2 := k2.up n3.up
    replace hT := hT.up n3.up
    replace U := U.tr n3.up
    have k3 := n3.blk
    have nc3 : col b3 = 0 := hnw _ f3
    refine l_step y_assignC ?_
    refine l_nil ?_
    refine hK1 _ _ ?_
    refine fg3 0 4 5 (gS rfl (gS rfl (gS rfl g0))) (gS rfl (gS rfl g0)) (gS rfl g0) (fun g => ?_)
    refine c_seq (fun K4 hK4 => ?_)
    refine c_seq (fun K5 hK5 => ?_)
    exact (by
      refine c_region ?_
      refine l_step (y_moveV (et (gS rfl (gS rfl g0)) rfl)) ?_
      refine l_eff (e_callV cal_170 (aC (et g0 rfl) aN) (v_room hT.vl)) (fun v6 w6 h6 => ?_)
      obtain ⟨rfl, u6⟩ := h6
      replace k2 := k2.up u6
      replace k3 := k3.up u6
      replace hT := hT.up u6
      replace U := U.tr u6
      refine l_step (y_not (et g0 rfl)) ?_
      refine l_nil ?_
      refine hK5 _ _ ?_
      refine fg4 0 4 5 11 (gS rfl (gS rfl (gS rfl (gS rfl (gS rfl g0))))) (gS rfl (gS rfl (gS rfl (gS rfl g0)))) (gS rfl (gS rfl (gS rfl g0))) g0 (fun g => ?_)
      refine c_false (et g0 rfl) (by (simp; omega)) ?_
      refine c_skip ?_
      refine hK4 _ _ ?_
      refine fg3 0 4 5 (gS rfl (gS rfl (gS rfl g0))) (gS rfl (gS rfl g0)) (gS rfl g0) (fun g => ?_)
      refine c_seq (fun K8 hK8 => ?_)
      exact (by
        refine c_region ?_
        refine l_step (y_moveV (et (gS rfl (gS rfl g0)) rfl)) ?_
        refine l_step (y_loadB agg_25 sz_25 (et (gS rfl (gS rfl g0)) rfl) (by rw [List.size_toArray, length_bL, length_be]) (at1B k2)) ?_
        refine l_step (y_loadB agg_65 sz_65 (et (gS rfl (gS rfl g0)) rfl) (by first | (simp only [Value.cells, hV, aV, bV, wV, wL, List.size_toArray, length_bL, length_uL, length_be, size_spl, List.length_cons, List.length_nil, List.length_replicate, Nat.zero_add, Nat.reduceAdd, Nat.reduceLeDiff, Nat.le_refl]; done) | rfl) (at1B k3)) ?_
        have lt2 := k2.lt
        have lt3 := k3.lt
        refine l_eff (e_callV cal_248 (aC (et (gS rfl (gS rfl g0)) rfl) (aC (et (gS rfl g0) rfl) (aC (et g0 rfl) aN))) (v_slotOf hT.vl ho a k ha hk na ns hr hrs)) (fun v9 w9 h9 => ?_)
        obtain ⟨i9, x9, col2, cs2, V2, rfl, hT2, hLy, hA2, hx9, hxa, hxk⟩ := h9
        replace k2 := k2.ch hT2.go.ch (by intro hm; omega)
        replace k3 := k3.ch hT2.go.ch (by intro hm; omega)
        replace hT := hT.trans hT2
        replace U := U.cc hT2.go.ch (by intro b hb; exact .inl trivial)
        have hq2 := hT2.col
        replace nc2 := (hq2 b2 lt2).trans nc2
        replace nc3 := (hq2 b3 lt3).trans nc3
        replace hcC := hT2.vl.colC
        replace hml := hLy.ok.bd.marks
        obtain ⟨ba, ca, cap9, hAA⟩ := hT2.vl.slot hx9
        have hi9 := hAA.lt
        have hac := hAA.col
        have hb9 := hLy.ok.bd.slots
        have hpl : i9 < 12288 := by omega
        have hok := hAA.ok
        have hew := hok.val
        obtain ⟨lj9, lk9, hlJ⟩ := hT.vl.lenJ
        have hjl := hLy.j
        refine l_step (y_moveV (et g0 rfl)) ?_
        refine l_step (y_ext (et g0 rfl) rfl) ?_
        refine l_step (y_ext (et (gS rfl g0) rfl) rfl) ?_
        refine l_step (y_assignV (et (gS rfl g0) rfl)) ?_
        refine l_step (y_assignV (et (gS rfl g0) rfl)) ?_
        refine l_nil ?_
        refine hK8 _ _ ?_
        refine fg3 0 7 8 (gS rfl (gS rfl (gS rfl (gS rfl (gS rfl (gS rfl (gS rfl (gS rfl (gS rfl (gS rfl (gS rfl g0))))))))))) (gS rfl g0) g0 (fun g => ?_)
        refine c_seq (fun K10 hK10 => ?_)
        refine c_seq (fun K11 hK11 => ?_)
        exact (by
          refine c_region ?_
          refine l_step (y_moveV (et g0 rfl)) ?_
          refine l_step (y_not (et g0 rfl)) ?_
          refine l_nil ?_
          refine hK11 _ _ ?_
          refine fg3 0 7 20 (gS rfl (gS rfl (gS rfl (gS rfl g0)))) (gS rfl (gS rfl (gS rfl g0))) g0 (fun g => ?_)
          refine c_false (et g0 rfl) (by rfl) ?_
          refine c_skip ?_
          refine hK10 _ _ ?_
          refine fg2 0 7 (gS rfl (gS rfl g0)) (gS rfl g0) (fun g => ?_)
          refine c_seq (fun K13 hK13 => ?_)
          exact (by
            refine c_draw (Ch (fun k => col2 k = 4)) 19 [(0, true), (1, true), (2, true), (3, true), (4, true), (5, true), (6, true), (7, true), (8, true), (9, true), (10, true), (11, true), (12, true), (13, true), (14, true), (15, false), (16, false), (17, true), (18, true), (19, false)] (by kernel_rfl) (fun w14 hu => ⟨Ch.refl _ _, ?_⟩)
            replace k2 := k2.up hu
            replace k3 := k3.up hu
            replace hT := hT.up hu
            replace hAA := hAA.up hu
            replace U := U.tr hu
            have SU : (Ch (fun k => col2 k = 4)) w14 w14 := Ch.refl _ _
            refine p_step (by exact rfl) (y_moveV (et (gS rfl g0) rfl)) ?_
            refine p_step (by exact rfl) (y_moveV (et (gS rfl (gS rfl g0)) rfl)) ?_
            refine p_step (by exact rfl) (y_nil (et g0 rfl)) ?_
            refine p_step (by exact rfl) (y_fld fld_84_4 (et g0 rfl)) ?_
            refine p_step (by exact rfl) (y_load1 one_79 (et g0 rfl) (atC (hT.vl.c1 hlJ rfl) (by intro hm; omega))) ?_
            refine p_step (by exact rfl) (y_moveV (et (gS rfl (gS rfl (gS rfl (gS rfl (gS rfl g0))))) rfl)) ?_
            refine p_step (by exact rfl) (y_moveV (et (gS rfl (gS rfl (gS rfl (gS rfl (gS rfl (gS rfl (gS rfl g0))))))) rfl)) ?_
            refine p_step (by exact rfl) (y_nil (et g0 rfl)) ?_
            refine p_step (by exact rfl) (y_fld fld_84_1 (et g0 rfl)) ?_
            refine p_step (by exact rfl) (y_load1 one_77 (et g0 rfl) (atC (hT.vl.c1 hAA.sl rfl) (by intro hm; omega))) ?_
            refine p_step (by exact rfl) (y_moveV (et (gS rfl (gS rfl (gS rfl (gS rfl (gS rfl (gS rfl (gS rfl (gS rfl (gS rfl (gS rfl g0)))))))))) rfl)) ?_
            refine p_step (by exact rfl) (y_idxS Hvaa.underlying77 sz_176 (et (gS rfl g0) rfl) (et g0 rfl) ?_ ?_) ?_
            omega
            omega
            refine p_step (by exact rfl) (y_fld fld_176_4 (et g0 rfl)) ?_
            refine p_step (by exact rfl) (y_load1 one_4 (et g0 rfl) (atC (hAA.cWarm (by omega)) (by intro hm; omega))) ?_
            refine p_step (by exact rfl) (y_bldEf (kd := 5) rfl (et (gS rfl (gS rfl (gS rfl (gS rfl (gS rfl (gS rfl (gS rfl (gS rfl g0)))))))) rfl) (et g0 rfl)) ?_
            refine p_eff (by exact rfl) (e_slice1 (k := 8) Hvaa.underlying79 sz_218 zr_218 rfl (by decide) (et g0 rfl) (show (eeC (⟨5, i9, 0, 0, [], x9.warm⟩ : EEnt) (.slice none 0 0)).toArray.size = 9 by rw [List.size_toArray, eeC_len _ _])) (fun v15 w15 h15 => ?_)
            obtain ⟨bb15, rfl, nn15⟩ := h15
            replace k2 := k2.up nn15.up
            replace k3 := k3.up nn15.up
            replace hT := hT.up nn15.up
            replace hAA := hAA.up nn15.up
            replace U := U.tr nn15.up
            have kk15 : Blk w15 bb15 (eeC (⟨5, i9, 0, 0, [], x9.warm⟩ : EEnt) (.slice none 0 0)).toArray := nn15.blk
            refine ⟨.inr (SU.tr nn15.up), ?_⟩
            replace SU := SU.tr nn15.up
            exact (by
              have lt2 := k2.lt
              have lt3 := k3.lt
              refine p_eff (by exact rfl) (e_appT (y := (⟨5, i9, 0, 0, [], x9.warm⟩ : EEnt)) (news := eeC (⟨5, i9, 0, 0, [], x9.warm⟩ : EEnt) (.slice none 0 0)) Hvaa.underlying79 sz_218 zr_218 by_218 rfl (by decide) (et (gS rfl (gS rfl (gS rfl (gS rfl (gS rfl (gS rfl (gS rfl (gS rfl (gS rfl (gS rfl (gS rfl g0))))))))))) rfl) hT hT.vl.jou hlJ (by decide) (by decide) (et g0 rfl) kk15 (eeC_len _ _) one_eeC ⟨_, rfl, BV.nil _, ⟨Nat.le_of_ble_eq_true rfl, by first | exact hpl | exact Nat.le_of_ble_eq_true rfl, by first | exact hen | exact Nat.le_of_ble_eq_true rfl, by first | exact hew | exact Nat.le_of_ble_eq_true rfl, by first | exact heb | exact Nat.le_of_ble_eq_true rfl⟩⟩ (by decide) (by rw [hjl]; omega)) (fun v16 w16 h16 => ?_)
              obtain ⟨hm16, ch16⟩ := h16
              replace k2 := k2.ch ch16 (by intro hm; first | omega | (subst hm; omega))
              replace k3 := k3.ch ch16 (by intro hm; first | omega | (subst hm; omega))
              replace hAA := hAA.ch ch16 (by intro hm; first | omega | (subst hm; omega))
              replace hT := hm16
              replace U := U.cc ch16 (by intro b hb; exact .inl trivial)
              replace SU := SU.cc ch16 (by intro b hb; first | exact .inl hb | exact hb.elim | omega | (have h9 := hOo.lim b hb.symm; first | exact .inl (by omega) | omega))
              obtain ⟨pa16, pc16, rfl⟩ := hm16.pd.len
              refine ⟨.inr SU, ?_⟩
              refine p_step (by exact rfl) (y_nil (et (gS rfl (gS rfl (gS rfl (gS rfl (gS rfl (gS rfl (gS rfl (gS rfl (gS rfl (gS rfl (gS rfl (gS rfl (gS rfl (gS rfl (gS rfl (gS rfl g0)))))))))))))))) rfl)) ?_
              refine p_step (by exact rfl) (y_fld fld_84_4 (et g0 rfl)) ?_
              refine p_effN (by exact rfl) (e_store sz_79 (et g0 rfl) (cellsV (et (gS rfl (gS rfl g0)) rfl) rfl) rfl (by intro v hv; simp at hv; subst hv; rfl) hT.m.kC (by rw [hT.m.size]; exact Nat.le_of_ble_eq_true rfl)) (fun v17 w17 h17 => ?_)
              obtain ⟨rfl, x17⟩ := h17
              obtain ⟨col4, hv17, hq17⟩ := hT.layJ hml x17
              replace k2 := k2.ch x17.ch (by intro hm; first | omega | (subst hm; omega))
              replace k3 := k3.ch x17.ch (by intro hm; first | omega | (subst hm; omega))
              replace hT := hv17
              replace U := U.cc x17.ch (by intro b hb; exact .inl trivial)
              replace nc2 := (hq17 b2 lt2).trans nc2
              replace nc3 := (hq17 b3 lt3).trans nc3
              replace hcC := hT.vl.colC
              obtain ⟨bA, cA, capA, hAB⟩ := hT.vl.slot (x := x9) hx9
              have hab := hAB.col
              have hfit := hAB.fit
              have hi9b : i9 < V2.slots.length := hAB.lt
              refine ⟨.inl rfl, ?_⟩
              refine p_nil ?_
              refine hK13 _ _ ?_
              refine fg2 0 7 (gS rfl (gS rfl (gS rfl (gS rfl (gS rfl (gS rfl (gS rfl (gS rfl (gS rfl (gS rfl (gS rfl (gS rfl (gS rfl (gS rfl (gS rfl (gS rfl (gS rfl (gS rfl (gS rfl (gS rfl g0)))))))))))))))))))) (gS rfl (gS rfl (gS rfl (gS rfl (gS rfl (gS rfl (gS rfl (gS rfl (gS rfl (gS rfl (gS rfl (gS rfl (gS rfl (gS rfl (gS rfl (gS rfl (gS rfl (gS rfl (gS rfl g0))))))))))))))))))) (fun g => ?_)
              refine c_seq (fun K18 hK18 => ?_)
              exact (by
                refine c_region ?_
                refine l_step (y_moveV (et (gS rfl g0) rfl)) ?_
                refine l_step (y_nil (et g0 rfl)) ?_
                refine l_step (y_fld fld_84_1 (et g0 rfl)) ?_
                refine l_step (y_load1 one_77 (et g0 rfl) (at1 (hT.vl.c1 hAB.sl rfl))) ?_
                refine l_step (y_moveV (et (gS rfl (gS rfl (gS rfl (gS rfl g0)))) rfl)) ?_
                refine l_step (y_idxS Hvaa.underlying77 sz_176 (et (gS rfl g0) rfl) (et g0 rfl) ?_ ?_) ?_
                omega
                exact Int.ofNat_lt.2 hi9b
                refine l_step (y_fld fld_176_4 (et g0 rfl)) ?_
                refine l_effN (e_store sz_4 (et g0 rfl) (cellsV rfl rfl) rfl (by intro v hv; simp at hv; subst hv; rfl) hAB.kA (by have h9 := hfit; omega)) (fun v19 w19 h19 => ?_)
                obtain ⟨rfl, x19⟩ := h19
                have hv19 := hT.setS hAB (j := 13) (y := { x9 with warm := true }) (by omega) x19 rfl (Nat.le_of_ble_eq_true rfl) ⟨hok.acct, hok.key, hok.val, hok.orig⟩
                replace k2 := k2.ch x19.ch (by intro hm; first | omega | (subst hm; omega))
                replace k3 := k3.ch x19.ch (by intro hm; first | omega | (subst hm; omega))
                replace hT := hv19
                replace U := U.cc x19.ch (by intro b hb; exact .inl trivial)
                refine l_nil ?_
                refine hK18 _ _ ?_
                refine fg0 (fun g => ?_)
                refine c_seq (fun K20 hK20 => ?_)
                exact (by
                  refine c_region ?_
                  refine l_step y_assignC ?_
                  refine l_nil ?_
                  refine hK20 _ _ ?_
                  refine c_ret ?_
                  repeat with_reducible refine then_ret ?_
                  refine ret1 rfl (res_tmp (et g0 rfl)) ?_
                  subst hxk
                  have h9 := put_warmS (v := true) hLy ho hA2 hxa hx9 hjr
                  exact ⟨rfl, _, _, _, hT, h9.1, h9.2⟩))))))))
theorem v_refundUp {w : World} {H : Store} {col : Nat → Nat} {bc : Nat} {cs : Array Value} {V : EV} (hV : VL w H col bc cs V) (ho : VOk V) (m : Nat) (hm9 : V.ref + m ≤ 209715200) (hjr : V.journal.length < 65536) :
    Ret 308 [.pointer (some ⟨bc, 2435, none⟩), .int .u64 (m : Nat)] w (fun v w' => v = .bool true ∧ ∃ (col' : Nat → Nat) (cs' : Array Value) (V' : EV), VT w H col bc cs w' H col' cs' V' ∧ VOk V' ∧ JS V V' (fun A => { A with refund := V.ref + m }) 0 0 0 1 0) := by
  have hT := VT.refl hV
  have hnw := hV.new
  have hcC := hV.colC
  have hml := ho.bd.marks
  obtain ⟨lj9, lk9, hlJ⟩ := hT.vl.lenJ
  have hjl : V.journal = V.journal := rfl
  have hen := ho.bd.ref
  have hrc := hV.ref
  refine enter (n := 46) Hvaa.func308 rfl rfl (Nat.le_of_ble_eq_true rfl) ?_
  have U : Ch (fun _ => True) w w := Ch.refl _ w
  refine c_seq (fun K1 hK1 => ?_)
  exact (by
    refine c_region ?_
    refine l_step y_assignC ?_
    refine l_nil ?_
    refine hK1 _ _ ?_
    refine fg2 1 0 (gS rfl (gS rfl g0)) (gS rfl g0) (fun g => ?_)
    refine c_seq (fun K2 hK2 => ?_)
    refine c_seq (fun K3 hK3 => ?_)
    exact (by
      refine c_region ?_
      refine l_step (y_moveV (et g0 rfl)) ?_
      refine l_eff (e_callV cal_170 (aC (et g0 rfl) aN) (v_room hT.vl)) (fun v4 w4 h4 => ?_)
      obtain ⟨rfl, u4⟩ := h4
      replace hT := hT.up u4
      replace U := U.tr u4
      refine l_step (y_not (et g0 rfl)) ?_
      refine l_step (y_moveV (et g0 rfl)) ?_
      refine gsplitL (i := 8) g0 (fun q5 => ?_) (fun q5 => ?_)
      · skip
        simp at q5; omega
      · skip
        refine l_gstep (j := 3) (t := 8) (by exact rfl) (by exact rfl) (et g0 rfl) (by decide) (y_moveV (et (gS rfl (gS rfl (gS rfl (gS rfl (gS rfl g0))))) rfl)) ?_
        refine l_gstep (j := 3) (t := 8) (by exact rfl) (by exact rfl) (et (gS rfl g0) rfl) (by decide) (y_nil (et g0 rfl)) ?_
        refine l_gstep (j := 3) (t := 8) (by exact rfl) (by exact rfl) (et (gS rfl (gS rfl g0)) rfl) (by decide) (y_fld fld_84_7 (et g0 rfl)) ?_
        refine l_gstep (j := 3) (t := 8) (by exact rfl) (by exact rfl) (et (gS rfl (gS rfl (gS rfl g0))) rfl) (by decide) (y_load1 one_26 (et g0 rfl) (at1 (hT.vl.c1 hrc rfl))) ?_
        refine l_gstep (j := 3) (t := 8) (by exact rfl) (by exact rfl) (et (gS rfl (gS rfl (gS rfl (gS rfl g0)))) rfl) (by decide) (y_gtr (et g0 rfl) rfl) ?_
        refine l_step (y_pickF (et (gS rfl (gS rfl (gS rfl (gS rfl (gS rfl g0))))) rfl) (et g0 rfl)) ?_
        refine l_step (y_moveV (et g0 rfl)) ?_
        refine gsplitL (i := 15) g0 (fun q6 => ?_) (fun q6 => ?_)
        · skip
          exact absurd (of_decide_eq_true q6) (by omega)
        · skip
          refine l_gstep (j := 10) (t := 15) (by exact rfl) (by exact rfl) (et g0 rfl) (by decide) (y_moveV (et (gS rfl (gS rfl (gS rfl (gS rfl (gS rfl (gS rfl (gS rfl (gS rfl (gS rfl (gS rfl (gS rfl (gS rfl (gS rfl (gS rfl g0)))))))))))))) rfl)) ?_
          refine l_gstep (j := 10) (t := 15) (by exact rfl) (by exact rfl) (et (gS rfl g0) rfl) (by decide) (y_moveV (et (gS rfl (gS rfl (gS rfl (gS rfl (gS rfl (gS rfl (gS rfl (gS rfl (gS rfl (gS rfl (gS rfl (gS rfl (gS rfl (gS rfl g0)))))))))))))) rfl)) ?_
          refine l_gstep (j := 10) (t := 15) (by exact rfl) (by exact rfl) (et (gS rfl (gS rfl g0)) rfl) (by decide) (y_nil (et g0 rfl)) ?_
          refine l_gstep (j := 10) (t := 15) (by exact rfl) (by exact rfl) (et (gS rfl (gS rfl (gS rfl g0))) rfl) (by decide) (y_fld fld_84_7 (et g0 rfl)) ?_
          refine l_gstep (j := 10) (t := 15) (by exact rfl) (by exact rfl) (et (gS rfl (gS rfl (gS rfl (gS rfl g0)))) rfl) (by decide) (y_load1 one_26 (et g0 rfl) (at1 (hT.vl.c1 hrc rfl))) ?_
          refine l_gstep (j := 10) (t := 15) (by exact rfl) (by exact rfl) (et (gS rfl (gS rfl (gS rfl (gS rfl (gS rfl g0))))) rfl) (by decide) (y_sub rfl (et g0 rfl) (wrapU_subN (a := 209715200) uk64 ?_ ?_)) ?_
          omega
          omega
          refine l_gstep (j := 10) (t := 15) (by exact rfl) (by exact rfl) (et (gS rfl (gS rfl (gS rfl (gS rfl (gS rfl (gS rfl g0)))))) rfl) (by decide) (y_gtr (et (gS rfl (gS rfl (gS rfl (gS rfl (gS rfl g0))))) rfl) (et g0 rfl)) ?_
          refine l_step (y_pickF (et (gS rfl (gS rfl (gS rfl (gS rfl (gS rfl (gS rfl (gS rfl g0))))))) rfl) (et g0 rfl)) ?_
          refine l_nil ?_
          refine hK3 _ _ ?_
          refine fg3 1 0 23 (gS rfl (gS rfl (gS rfl (gS rfl (gS rfl (gS rfl (gS rfl (gS rfl (gS rfl (gS rfl (gS rfl (gS rfl (gS rfl (gS rfl (gS rfl (gS rfl (gS rfl (gS rfl (gS rfl (gS rfl (gS rfl (gS rfl g0)))))))))))))))))))))) (gS rfl (gS rfl (gS rfl (gS rfl (gS rfl (gS rfl (gS rfl (gS rfl (gS rfl (gS rfl (gS rfl (gS rfl (gS rfl (gS rfl (gS rfl (gS rfl (gS rfl (gS rfl (gS rfl (gS rfl (gS rfl g0))))))))))))))))))))) g0 (fun g => ?_)
          refine c_cond (et g0 rfl) (fun cB1 => ?_) (fun cB1 => ?_)
          · skip
            
            exact absurd (of_decide_eq_true cB1) (by omega)
          · skip
            
            refine c_skip ?_
            refine hK2 _ _ ?_
            refine fg2 1 0 (gS rfl (gS rfl g0)) (gS rfl g0) (fun g => ?_)
            refine c_seq (fun K8 hK8 => ?_)
            exact (by
              refine c_draw (Ch (fun k => col k = 4)) 14 [(0, true), (1, true), (2, true), (3, true), (4, true), (5, true), (6, true), (7, true), (8, true), (9, true), (10, false), (11, false), (12, true), (13, true), (14, false)] (by kernel_rfl) (fun w9 hu => ⟨Ch.refl _ _, ?_⟩)
              replace hT := hT.up hu
              replace U := U.tr hu
              have SU : (Ch (fun k => col k = 4)) w9 w9 := Ch.refl _ _
              refine p_step (by exact rfl) (y_moveV (et g0 rfl)) ?_
              refine p_step (by exact rfl) (y_moveV (et (gS rfl g0) rfl)) ?_
              refine p_step (by exact rfl) (y_nil (et g0 rfl)) ?_
              refine p_step (by exact rfl) (y_fld fld_84_4 (et g0 rfl)) ?_
              refine p_step (by exact rfl) (y_load1 one_79 (et g0 rfl) (atC (hT.vl.c1 hlJ rfl) (by intro hm; omega))) ?_
              refine p_step (by exact rfl) (y_moveV (et (gS rfl (gS rfl (gS rfl (gS rfl (gS rfl g0))))) rfl)) ?_
              refine p_step (by exact rfl) (y_nil (et g0 rfl)) ?_
              refine p_step (by exact rfl) (y_fld fld_84_7 (et g0 rfl)) ?_
              refine p_step (by exact rfl) (y_load1 one_26 (et g0 rfl) (atC (hT.vl.c1 hrc rfl) (by intro hm; omega))) ?_
              refine p_step (by exact rfl) (y_bldEr (kd := 6) rfl (et g0 rfl)) ?_
              refine p_eff (by exact rfl) (e_slice1 (k := 8) Hvaa.underlying79 sz_218 zr_218 rfl (by decide) (et g0 rfl) (show (eeC (⟨6, 0, V.ref, 0, [], false⟩ : EEnt) (.slice none 0 0)).toArray.size = 9 by rw [List.size_toArray, eeC_len _ _])) (fun v10 w10 h10 => ?_)
              obtain ⟨bb10, rfl, nn10⟩ := h10
              replace hT := hT.up nn10.up
              replace U := U.tr nn10.up
              have kk10 : Blk w10 bb10 (eeC (⟨6, 0, V.ref, 0, [], false⟩ : EEnt) (.slice none 0 0)).toArray := nn10.blk
              refine ⟨.inr (SU.tr nn10.up), ?_⟩
              replace SU := SU.tr nn10.up
              refine p_eff (by exact rfl) (e_appT (y := (⟨6, 0, V.ref, 0, [], false⟩ : EEnt)) (news := eeC (⟨6, 0, V.ref, 0, [], false⟩ : EEnt) (.slice none 0 0)) Hvaa.underlying79 sz_218 zr_218 by_218 rfl (by decide) (et (gS rfl (gS rfl (gS rfl (gS rfl (gS rfl (gS rfl g0)))))) rfl) hT hT.vl.jou hlJ (by decide) (by decide) (et g0 rfl) kk10 (eeC_len _ _) one_eeC ⟨_, rfl, BV.nil _, ⟨Nat.le_of_ble_eq_true rfl, by first | exact hpl | exact Nat.le_of_ble_eq_true rfl, by first | exact hen | exact Nat.le_of_ble_eq_true rfl, by first | exact hew | exact Nat.le_of_ble_eq_true rfl, by first | exact heb | exact Nat.le_of_ble_eq_true rfl⟩⟩ (by decide) (by rw [hjl]; omega)) (fun v11 w11 h11 => ?_)
              obtain ⟨hm11, ch11⟩ := h11
              replace hT := hm11
              replace U := U.cc ch11 (by intro b hb; exact .inl trivial)
              replace SU := SU.cc ch11 (by intro b hb; first | exact .inl hb | exact hb.elim | omega | (have h9 := hOo.lim b hb.symm; first | exact .inl (by omega) | omega))
              obtain ⟨pa11, pc11, rfl⟩ := hm11.pd.len
              refine ⟨.inr SU, ?_⟩
              refine p_step (by exact rfl) (y_nil (et (gS rfl (gS rfl (gS rfl (gS rfl (gS rfl (gS rfl (gS rfl (gS rfl (gS rfl (gS rfl (gS rfl g0))))))))))) rfl)) ?_
              refine p_step (by exact rfl) (y_fld fld_84_4 (et g0 rfl)) ?_
              refine p_effN (by exact rfl) (e_store sz_79 (et g0 rfl) (cellsV (et (gS rfl (gS rfl g0)) rfl) rfl) rfl (by intro v hv; simp at hv; subst hv; rfl) hT.m.kC (by rw [hT.m.size]; exact Nat.le_of_ble_eq_true rfl)) (fun v12 w12 h12 => ?_)
              obtain ⟨rfl, x12⟩ := h12
              obtain ⟨col4, hv12, hq12⟩ := hT.layJ hml x12
              replace hT := hv12
              replace U := U.cc x12.ch (by intro b hb; exact .inl trivial)
              replace hcC := hT.vl.colC
              refine ⟨.inl rfl, ?_⟩
              refine p_nil ?_
              refine hK8 _ _ ?_
              refine fg2 1 0 (gS rfl (gS rfl (gS rfl (gS rfl (gS rfl (gS rfl (gS rfl (gS rfl (gS rfl (gS rfl (gS rfl (gS rfl (gS rfl (gS rfl (gS rfl g0))))))))))))))) (gS rfl (gS rfl (gS rfl (gS rfl (gS rfl (gS rfl (gS rfl (gS rfl (gS rfl (gS rfl (gS rfl (gS rfl (gS rfl (gS rfl g0)))))))))))))) (fun g => ?_)
              refine c_seq (fun K13 hK13 => ?_)
              exact (by
                refine c_region ?_
                refine l_step (y_moveV (et g0 rfl)) ?_
                refine l_step (y_nil (et g0 rfl)) ?_
                refine l_step (y_fld fld_84_7 (et g0 rfl)) ?_
                refine l_step (y_load1 one_26 (et g0 rfl) (at1 (hT.vl.c1 hT.vl.ref rfl))) ?_
                refine l_step (y_moveV (et (gS rfl (gS rfl (gS rfl (gS rfl (gS rfl g0))))) rfl)) ?_
                refine l_step (y_add (et (gS rfl g0) rfl) (et g0 rfl) (wrapU_addN uk64 ?_)) ?_
                (show (V.ref : Nat) + m < 18446744073709551616; omega)
                refine l_step (y_nil (et (gS rfl (gS rfl (gS rfl (gS rfl (gS rfl g0))))) rfl)) ?_
                refine l_step (y_fld fld_84_7 (et g0 rfl)) ?_
                refine l_effN (e_store sz_26 (et g0 rfl) (cellsV (et (gS rfl (gS rfl g0)) rfl) rfl) rfl (by intro v hv; simp at hv; subst hv; rfl) hT.vl.kC (by rw [hT.vl.size]; exact Nat.le_of_ble_eq_true rfl)) (fun v14 w14 h14 => ?_)
                obtain ⟨rfl, x14⟩ := h14
                have hv14 := hT.stRef hml x14
                replace hT := hv14
                replace U := U.cc x14.ch (by intro b hb; exact .inl trivial)
                refine l_nil ?_
                refine hK13 _ _ ?_
                refine fg0 (fun g => ?_)
                refine c_seq (fun K15 hK15 => ?_)
                exact (by
                  refine c_region ?_
                  refine l_step y_assignC ?_
                  refine l_nil ?_
                  refine hK15 _ _ ?_
                  refine c_ret ?_
                  repeat with_reducible refine then_ret ?_
                  refine ret1 rfl (res_tmp (et g0 rfl)) ?_
                  have h9 := put_ref (n := V.ref + m) ho (by have := ho.bd.ref; omega) hjr
                  exact ⟨rfl, _, _, _, hT, h9.1, h9.2⟩)))))
theorem v_refundDown {w : World} {H : Store} {col : Nat → Nat} {bc : Nat} {cs : Array Value} {V : EV} (hV : VL w H col bc cs V) (ho : VOk V) (m : Nat) (hm9 : m ≤ V.ref) (hjr : V.journal.length < 65536) :
    Ret 307 [.pointer (some ⟨bc, 2435, none⟩), .int .u64 (m : Nat)] w (fun v w' => v = .bool true ∧ ∃ (col' : Nat → Nat) (cs' : Array Value) (V' : EV), VT w H col bc cs w' H col' cs' V' ∧ VOk V' ∧ JS V V' (fun A => { A with refund := V.ref - m }) 0 0 0 1 0) := by
  have hT := VT.refl hV
  have hnw := hV.new
  have hcC := hV.colC
  have hml := ho.bd.marks
  obtain ⟨lj9, lk9, hlJ⟩ := hT.vl.lenJ
  have hjl : V.journal = V.journal := rfl
  have hen := ho.bd.ref
  have hrc := hV.ref
  refine enter (n := 38) Hvaa.func307 rfl rfl (Nat.le_of_ble_eq_true rfl) ?_
  have U : Ch (fun _ => True) w w := Ch.refl _ w
  refine c_seq (fun K1 hK1 => ?_)
  exact (by
    refine c_region ?_
    refine l_step y_assignC ?_
    refine l_nil ?_
    refine hK1 _ _ ?_
    refine fg2 1 0 (gS rfl (gS rfl g0)) (gS rfl g0) (fun g => ?_)
    refine c_seq (fun K2 hK2 => ?_)
    refine c_seq (fun K3 hK3 => ?_)
    exact (by
      refine c_region ?_
      refine l_step (y_moveV (et g0 rfl)) ?_
      refine l_eff (e_callV cal_170 (aC (et g0 rfl) aN) (v_room hT.vl)) (fun v4 w4 h4 => ?_)
      obtain ⟨rfl, u4⟩ := h4
      replace hT := hT.up u4
      replace U := U.tr u4
      refine l_step (y_not (et g0 rfl)) ?_
      refine l_step (y_moveV (et g0 rfl)) ?_
      refine gsplitL (i := 8) g0 (fun q5 => ?_) (fun q5 => ?_)
      · skip
        simp at q5; omega
      · skip
        refine l_gstep (j := 3) (t := 8) (by exact rfl) (by exact rfl) (et g0 rfl) (by decide) (y_moveV (et (gS rfl (gS rfl (gS rfl (gS rfl (gS rfl (gS rfl g0)))))) rfl)) ?_
        refine l_gstep (j := 3) (t := 8) (by exact rfl) (by exact rfl) (et (gS rfl g0) rfl) (by decide) (y_moveV (et (gS rfl (gS rfl (gS rfl (gS rfl (gS rfl (gS rfl g0)))))) rfl)) ?_
        refine l_gstep (j := 3) (t := 8) (by exact rfl) (by exact rfl) (et (gS rfl (gS rfl g0)) rfl) (by decide) (y_nil (et g0 rfl)) ?_
        refine l_gstep (j := 3) (t := 8) (by exact rfl) (by exact rfl) (et (gS rfl (gS rfl (gS rfl g0))) rfl) (by decide) (y_fld fld_84_7 (et g0 rfl)) ?_
        refine l_gstep (j := 3) (t := 8) (by exact rfl) (by exact rfl) (et (gS rfl (gS rfl (gS rfl (gS rfl g0)))) rfl) (by decide) (y_load1 one_26 (et g0 rfl) (at1 (hT.vl.c1 hrc rfl))) ?_
        refine l_gstep (j := 3) (t := 8) (by exact rfl) (by exact rfl) (et (gS rfl (gS rfl (gS rfl (gS rfl (gS rfl g0))))) rfl) (by decide) (y_gtr (et (gS rfl (gS rfl (gS rfl (gS rfl g0)))) rfl) (et g0 rfl)) ?_
        refine l_step (y_pickF (et (gS rfl (gS rfl (gS rfl (gS rfl (gS rfl (gS rfl g0)))))) rfl) (et g0 rfl)) ?_
        refine l_nil ?_
        refine hK3 _ _ ?_
        refine fg3 1 0 15 (gS rfl (gS rfl (gS rfl (gS rfl (gS rfl (gS rfl (gS rfl (gS rfl (gS rfl (gS rfl (gS rfl (gS rfl (gS rfl g0))))))))))))) (gS rfl (gS rfl (gS rfl (gS rfl (gS rfl (gS rfl (gS rfl (gS rfl (gS rfl (gS rfl (gS rfl (gS rfl g0)))))))))))) g0 (fun g => ?_)
        refine c_cond (et g0 rfl) (fun cB1 => ?_) (fun cB1 => ?_)
        · skip
          
          exact absurd (of_decide_eq_true cB1) (by omega)
        · skip
          
          refine c_skip ?_
          refine hK2 _ _ ?_
          refine fg2 1 0 (gS rfl (gS rfl g0)) (gS rfl g0) (fun g => ?_)
          refine c_seq (fun K7 hK7 => ?_)
          exact (by
            refine c_draw (Ch (fun k => col k = 4)) 14 [(0, true), (1, true), (2, true), (3, true), (4, true), (5, true), (6, true), (7, true), (8, true), (9, true), (10, false), (11, false), (12, true), (13, true), (14, false)] (by kernel_rfl) (fun w8 hu => ⟨Ch.refl _ _, ?_⟩)
            replace hT := hT.up hu
            replace U := U.tr hu
            have SU : (Ch (fun k => col k = 4)) w8 w8 := Ch.refl _ _
            refine p_step (by exact rfl) (y_moveV (et g0 rfl)) ?_
            refine p_step (by exact rfl) (y_moveV (et (gS rfl g0) rfl)) ?_
            refine p_step (by exact rfl) (y_nil (et g0 rfl)) ?_
            refine p_step (by exact rfl) (y_fld fld_84_4 (et g0 rfl)) ?_
            refine p_step (by exact rfl) (y_load1 one_79 (et g0 rfl) (atC (hT.vl.c1 hlJ rfl) (by intro hm; omega))) ?_
            refine p_step (by exact rfl) (y_moveV (et (gS rfl (gS rfl (gS rfl (gS rfl (gS rfl g0))))) rfl)) ?_
            refine p_step (by exact rfl) (y_nil (et g0 rfl)) ?_
            refine p_step (by exact rfl) (y_fld fld_84_7 (et g0 rfl)) ?_
            refine p_step (by exact rfl) (y_load1 one_26 (et g0 rfl) (atC (hT.vl.c1 hrc rfl) (by intro hm; omega))) ?_
            refine p_step (by exact rfl) (y_bldEr (kd := 6) rfl (et g0 rfl)) ?_
            refine p_eff (by exact rfl) (e_slice1 (k := 8) Hvaa.underlying79 sz_218 zr_218 rfl (by decide) (et g0 rfl) (show (eeC (⟨6, 0, V.ref, 0, [], false⟩ : EEnt) (.slice none 0 0)).toArray.size = 9 by rw [List.size_toArray, eeC_len _ _])) (fun v9 w9 h9 => ?_)
            obtain ⟨bb9, rfl, nn9⟩ := h9
            replace hT := hT.up nn9.up
            replace U := U.tr nn9.up
            have kk9 : Blk w9 bb9 (eeC (⟨6, 0, V.ref, 0, [], false⟩ : EEnt) (.slice none 0 0)).toArray := nn9.blk
            refine ⟨.inr (SU.tr nn9.up), ?_⟩
            replace SU := SU.tr nn9.up
            refine p_eff (by exact rfl) (e_appT (y := (⟨6, 0, V.ref, 0, [], false⟩ : EEnt)) (news := eeC (⟨6, 0, V.ref, 0, [], false⟩ : EEnt) (.slice none 0 0)) Hvaa.underlying79 sz_218 zr_218 by_218 rfl (by decide) (et (gS rfl (gS rfl (gS rfl (gS rfl (gS rfl (gS rfl g0)))))) rfl) hT hT.vl.jou hlJ (by decide) (by decide) (et g0 rfl) kk9 (eeC_len _ _) one_eeC ⟨_, rfl, BV.nil _, ⟨Nat.le_of_ble_eq_true rfl, by first | exact hpl | exact Nat.le_of_ble_eq_true rfl, by first | exact hen | exact Nat.le_of_ble_eq_true rfl, by first | exact hew | exact Nat.le_of_ble_eq_true rfl, by first | exact heb | exact Nat.le_of_ble_eq_true rfl⟩⟩ (by decide) (by rw [hjl]; omega)) (fun v10 w10 h10 => ?_)
            obtain ⟨hm10, ch10⟩ := h10
            replace hT := hm10
            replace U := U.cc ch10 (by intro b hb; exact .inl trivial)
            replace SU := SU.cc ch10 (by intro b hb; first | exact .inl hb | exact hb.elim | omega | (have h9 := hOo.lim b hb.symm; first | exact .inl (by omega) | omega))
            obtain ⟨pa10, pc10, rfl⟩ := hm10.pd.len
            refine ⟨.inr SU, ?_⟩
            refine p_step (by exact rfl) (y_nil (et (gS rfl (gS rfl (gS rfl (gS rfl (gS rfl (gS rfl (gS rfl (gS rfl (gS rfl (gS rfl (gS rfl g0))))))))))) rfl)) ?_
            refine p_step (by exact rfl) (y_fld fld_84_4 (et g0 rfl)) ?_
            refine p_effN (by exact rfl) (e_store sz_79 (et g0 rfl) (cellsV (et (gS rfl (gS rfl g0)) rfl) rfl) rfl (by intro v hv; simp at hv; subst hv; rfl) hT.m.kC (by rw [hT.m.size]; exact Nat.le_of_ble_eq_true rfl)) (fun v11 w11 h11 => ?_)
            obtain ⟨rfl, x11⟩ := h11
            obtain ⟨col4, hv11, hq11⟩ := hT.layJ hml x11
            replace hT := hv11
            replace U := U.cc x11.ch (by intro b hb; exact .inl trivial)
            replace hcC := hT.vl.colC
            refine ⟨.inl rfl, ?_⟩
            refine p_nil ?_
            refine hK7 _ _ ?_
            refine fg2 1 0 (gS rfl (gS rfl (gS rfl (gS rfl (gS rfl (gS rfl (gS rfl (gS rfl (gS rfl (gS rfl (gS rfl (gS rfl (gS rfl (gS rfl (gS rfl g0))))))))))))))) (gS rfl (gS rfl (gS rfl (gS rfl (gS rfl (gS rfl (gS rfl (gS rfl (gS rfl (gS rfl (gS rfl (gS rfl (gS rfl (gS rfl g0)))))))))))))) (fun g => ?_)
            refine c_seq (fun K12 hK12 => ?_)
            exact (by
              refine c_region ?_
              refine l_step (y_moveV (et g0 rfl)) ?_
              refine l_step (y_nil (et g0 rfl)) ?_
              refine l_step (y_fld fld_84_7 (et g0 rfl)) ?_
              refine l_step (y_load1 one_26 (et g0 rfl) (at1 (hT.vl.c1 hT.vl.ref rfl))) ?_
              refine l_step (y_moveV (et (gS rfl (gS rfl (gS rfl (gS rfl (gS rfl g0))))) rfl)) ?_
              refine l_step (y_sub (et (gS rfl g0) rfl) (et g0 rfl) (wrapU_subN uk64 ?_ ?_)) ?_
              (show m ≤ V.ref; omega)
              (show V.ref < 18446744073709551616; omega)
              refine l_step (y_nil (et (gS rfl (gS rfl (gS rfl (gS rfl (gS rfl g0))))) rfl)) ?_
              refine l_step (y_fld fld_84_7 (et g0 rfl)) ?_
              refine l_effN (e_store sz_26 (et g0 rfl) (cellsV (et (gS rfl (gS rfl g0)) rfl) rfl) rfl (by intro v hv; simp at hv; subst hv; rfl) hT.vl.kC (by rw [hT.vl.size]; exact Nat.le_of_ble_eq_true rfl)) (fun v13 w13 h13 => ?_)
              obtain ⟨rfl, x13⟩ := h13
              have hv13 := hT.stRef hml x13
              replace hT := hv13
              replace U := U.cc x13.ch (by intro b hb; exact .inl trivial)
              refine l_nil ?_
              refine hK12 _ _ ?_
              refine fg0 (fun g => ?_)
              refine c_seq (fun K14 hK14 => ?_)
              exact (by
                refine c_region ?_
                refine l_step y_assignC ?_
                refine l_nil ?_
                refine hK14 _ _ ?_
                refine c_ret ?_
                repeat with_reducible refine then_ret ?_
                refine ret1 rfl (res_tmp (et g0 rfl)) ?_
                have h9 := put_ref (n := V.ref - m) ho (by have := ho.bd.ref; omega) hjr
                exact ⟨rfl, _, _, _, hT, h9.1, h9.2⟩)))))
end Go.Proofs.YgvaawGreat
