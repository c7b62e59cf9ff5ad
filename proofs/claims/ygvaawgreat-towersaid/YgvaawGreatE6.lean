import Derived.Test.YgvaawGreatE5
set_option maxRecDepth 100000
set_option maxHeartbeats 4000000
set_option linter.unusedSimpArgs false
set_option linter.unusedVariables false
namespace Go.Proofs.YgvaawGreat
open Go
theorem v_balance {w : World} {H : Store} {col : Nat → Nat} {bc : Nat} {cs : Array Value} {V : EV} (hV : VL w H col bc cs V) (ho : VOk V) (a : Nat) (ha : a < A160) :
    Ret 99 [.pointer (some ⟨bc, 2435, none⟩), aV a] w (fun v w' => v = wV ((absV V).bal a) ∧ Up w w') := by
  have hnw := hV.new
  have hfz := hV.fz
  refine enter (n := 24) Hvaa.func99 rfl rfl (Nat.le_of_ble_eq_true rfl) ?_
  have U := Up.refl w
  refine c_seq (fun K1 hK1 => ?_)
  exact (by
    refine c_region ?_
    refine l_eff (e_boxV (et (gS rfl g0) rfl)) (fun v2 w2 h2 => ?_)
    obtain ⟨b2, rfl, n2⟩ := h2
    have f2 : w.heap.size ≤ b2 := Nat.le_trans U.size n2.fresh
    replace hV := hV.up n2.up
    replace U := U.tr n2.up
    have k2 := n2.blk
    replace k2 : Blk w2 b2 (bL (be 20 a)).toArray := k2
    refine l_eff (e_alloc zr_65) (fun v3 w3 h3 => ?_)
    obtain ⟨b3, rfl, n3⟩ := h3
    have d2_3 : b2 < b3 := Nat.lt_of_lt_of_le k2.lt n3.fresh
    have f3 : w.heap.size ≤ b3 := Nat.le_trans U.size n3.fresh
    replace k2 := k2.up n3.up
    replace hV := hV.up n3.up
    replace U := U.tr n3.up
    have k3 := n3.blk
    refine l_nil ?_
    refine hK1 _ _ ?_
    refine fg3 0 3 4 (gS rfl (gS rfl g0)) (gS rfl g0) g0 (fun g => ?_)
    refine c_seq (fun K4 hK4 => ?_)
    refine c_seq (fun K5 hK5 => ?_)
    exact (by
      refine c_region ?_
      refine l_step (y_moveV (et (gS rfl (gS rfl g0)) rfl)) ?_
      refine l_step (y_loadB agg_25 sz_25 (et (gS rfl (gS rfl g0)) rfl) (by rw [List.size_toArray, length_bL, length_be]) (at1B k2)) ?_
      refine l_eff (e_callV cal_159 (aC (et (gS rfl g0) rfl) (aC (et g0 rfl) aN)) (v_findAcct hV ho a ha)) (fun v6 w6 h6 => ?_)
      obtain ⟨i6, f6, rfl, hfd, u6⟩ := h6
      replace k2 := k2.up u6
      replace k3 := k3.up u6
      replace hV := hV.up u6
      replace U := U.tr u6
      refine l_step (y_moveV (et g0 rfl)) ?_
      refine l_step (y_ext (et g0 rfl) rfl) ?_
      refine l_step (y_ext (et (gS rfl g0) rfl) rfl) ?_
      refine l_step (y_assignV (et (gS rfl g0) rfl)) ?_
      refine l_step (y_assignV (et (gS rfl g0) rfl)) ?_
      refine l_nil ?_
      refine hK5 _ _ ?_
      refine fg3 0 4 5 (gS rfl (gS rfl (gS rfl (gS rfl (gS rfl (gS rfl (gS rfl (gS rfl (gS rfl (gS rfl g0)))))))))) (gS rfl (gS rfl (gS rfl (gS rfl (gS rfl (gS rfl (gS rfl (gS rfl g0)))))))) (gS rfl g0) (fun g => ?_)
      refine c_seq (fun K7 hK7 => ?_)
      exact (by
        refine c_region ?_
        refine l_step (y_moveV (et g0 rfl)) ?_
        refine l_step (y_geq (et g0 rfl) rfl) ?_
        refine l_nil ?_
        refine hK7 _ _ ?_
        refine fg4 0 4 5 14 (gS rfl (gS rfl (gS rfl (gS rfl g0)))) (gS rfl (gS rfl (gS rfl g0))) (gS rfl (gS rfl g0)) g0 (fun g => ?_)
        refine c_cond (et g0 rfl) (fun cB1 => ?_) (fun cB1 => ?_)
        · skip
          
          obtain ⟨k9, ⟨x9, hx9, hxa⟩, hk9, rfl, rfl⟩ := hfd.pos (by have := of_decide_eq_true cB1; omega)
          obtain ⟨ba, ca, cap9, vc9, hAA⟩ := hV.acct hx9
          have hax := ax_eq ho hx9 hxa
          refine c_seq (fun K9 hK9 => ?_)
          exact (by
            refine c_region ?_
            refine l_step (y_moveV (et (gS rfl (gS rfl (gS rfl g0))) rfl)) ?_
            refine l_step (y_nil (et g0 rfl)) ?_
            refine l_step (y_fld fld_84_0 (et g0 rfl)) ?_
            refine l_step (y_load1 one_76 (et g0 rfl) (at1 (hV.c1 hAA.sl rfl))) ?_
            refine l_step (y_moveV (et (gS rfl (gS rfl (gS rfl (gS rfl (gS rfl g0))))) rfl)) ?_
            refine l_step (y_idxS Hvaa.underlying76 sz_167 (et (gS rfl g0) rfl) (et g0 rfl) ?_ ?_) ?_
            omega
            omega
            refine l_step (y_fld fld_167_2 (et g0 rfl)) ?_
            refine l_step (y_loadR agg_65 sz_65 (et g0 rfl) rfl (at1R (hAA.rBal (by omega)))) ?_
            refine l_effN (e_store sz_65 (et (gS rfl (gS rfl (gS rfl (gS rfl (gS rfl (gS rfl (gS rfl (gS rfl (gS rfl (gS rfl g0)))))))))) rfl) (cellsV (et g0 rfl) rfl) (by first | (simp only [Value.cells, hV, aV, bV, wV, wL, List.size_toArray, length_bL, length_uL, length_be, size_spl, List.length_cons, List.length_nil, List.length_replicate, Nat.zero_add, Nat.reduceAdd, Nat.reduceLeDiff, Nat.le_refl]; done) | rfl) (by first | exact one_bL _ | exact one_uL _ | (intro v hv; simp at hv; subst hv; rfl)) k3 (by first | (simp only [Value.cells, hV, aV, bV, wV, wL, List.size_toArray, length_bL, length_uL, length_be, size_spl, List.length_cons, List.length_nil, List.length_replicate, Nat.zero_add, Nat.reduceAdd, Nat.reduceLeDiff, Nat.le_refl]; done) | exact Nat.le_of_ble_eq_true rfl | simp | omega)) (fun v10 w10 h10 => ?_)
            obtain ⟨rfl, x10⟩ := h10
            replace k2 := k2.ch x10.ch (by omega)
            replace hV := hV.ch x10.ch (by first | omega | (intro b hb; first | (subst hb; exact ⟨hnw _ (by omega), fun hh => by have := hfz.lt hh; omega⟩) | (rcases hb with hb | hb <;> (subst hb; exact ⟨hnw _ (by omega), fun hh => by have := hfz.lt hh; omega⟩))))
            replace k3 := x10.blk.full (by first | (simp only [Value.cells, hV, aV, bV, wV, wL, List.size_toArray, length_bL, length_uL, length_be, size_spl, List.length_cons, List.length_nil, List.length_replicate, Nat.zero_add, Nat.reduceAdd, Nat.reduceLeDiff, Nat.le_refl]; done) | rfl)
            replace U := U.st x10 f3
            refine l_nil ?_
            refine hK9 _ _ ?_
            refine fg1 4 (gS rfl (gS rfl (gS rfl (gS rfl (gS rfl (gS rfl (gS rfl (gS rfl (gS rfl (gS rfl g0)))))))))) (fun g => ?_)
            refine c_ret ?_
            repeat with_reducible refine then_ret ?_
            refine ret1 rfl (res_blk agg_65 sz_65 (et g0 rfl) (by first | (simp only [Value.cells, hV, aV, bV, wV, wL, List.size_toArray, length_bL, length_uL, length_be, size_spl, List.length_cons, List.length_nil, List.length_replicate, Nat.zero_add, Nat.reduceAdd, Nat.reduceLeDiff, Nat.le_refl]; done) | rfl) k3) ?_
            exact ⟨by show _ = wV (ax V a).bal; rw [hax]; rfl, U⟩)
        · skip
          
          obtain ⟨hno, rfl, p9, rfl, hfr⟩ := hfd.neg (by have := of_decide_eq_false cB1; omega)
          have hax := ax_no (mA_no hno)
          refine c_skip ?_
          refine hK4 _ _ ?_
          refine fg1 4 (gS rfl (gS rfl g0)) (fun g => ?_)
          refine c_seq (fun K11 hK11 => ?_)
          exact (by
            refine c_region ?_
            refine l_step (y_bld bN bld65_z) ?_
            refine l_effN (e_store sz_65 (et (gS rfl g0) rfl) (cellsV (et g0 rfl) rfl) (by first | (simp only [Value.cells, hV, aV, bV, wV, wL, List.size_toArray, length_bL, length_uL, length_be, size_spl, List.length_cons, List.length_nil, List.length_replicate, Nat.zero_add, Nat.reduceAdd, Nat.reduceLeDiff, Nat.le_refl]; done) | rfl) (by first | exact one_bL _ | exact one_uL _ | (intro v hv; simp at hv; subst hv; rfl)) k3 (by first | (simp only [Value.cells, hV, aV, bV, wV, wL, List.size_toArray, length_bL, length_uL, length_be, size_spl, List.length_cons, List.length_nil, List.length_replicate, Nat.zero_add, Nat.reduceAdd, Nat.reduceLeDiff, Nat.le_refl]; done) | exact Nat.le_of_ble_eq_true rfl | simp | omega)) (fun v12 w12 h12 => ?_)
            obtain ⟨rfl, x12⟩ := h12
            replace k2 := k2.ch x12.ch (by omega)
            replace hV := hV.ch x12.ch (by first | omega | (intro b hb; first | (subst hb; exact ⟨hnw _ (by omega), fun hh => by have := hfz.lt hh; omega⟩) | (rcases hb with hb | hb <;> (subst hb; exact ⟨hnw _ (by omega), fun hh => by have := hfz.lt hh; omega⟩))))
            replace k3 := x12.blk.full (by first | (simp only [Value.cells, hV, aV, bV, wV, wL, List.size_toArray, length_bL, length_uL, length_be, size_spl, List.length_cons, List.length_nil, List.length_replicate, Nat.zero_add, Nat.reduceAdd, Nat.reduceLeDiff, Nat.le_refl]; done) | rfl)
            replace U := U.st x12 f3
            refine l_nil ?_
            refine hK11 _ _ ?_
            refine fg1 4 (gS rfl g0) (fun g => ?_)
            refine c_ret ?_
            repeat with_reducible refine then_ret ?_
            refine ret1 rfl (res_blk agg_65 sz_65 (et g0 rfl) (by first | (simp only [Value.cells, hV, aV, bV, wV, wL, List.size_toArray, length_bL, length_uL, length_be, size_spl, List.length_cons, List.length_nil, List.length_replicate, Nat.zero_add, Nat.reduceAdd, Nat.reduceLeDiff, Nat.le_refl]; done) | rfl) k3) ?_
            exact ⟨by show _ = wV (ax V a).bal; rw [hax]; rfl, U⟩))))
theorem v_nonce {w : World} {H : Store} {col : Nat → Nat} {bc : Nat} {cs : Array Value} {V : EV} (hV : VL w H col bc cs V) (ho : VOk V) (a : Nat) (ha : a < A160) :
    Ret 161 [.pointer (some ⟨bc, 2435, none⟩), aV a] w (fun v w' => v = .int .u64 ((absV V).nonce a : Nat) ∧ Up w w') := by
  have hnw := hV.new
  have hfz := hV.fz
  refine enter (n := 23) Hvaa.func161 rfl rfl (Nat.le_of_ble_eq_true rfl) ?_
  have U := Up.refl w
  refine c_seq (fun K1 hK1 => ?_)
  exact (by
    refine c_region ?_
    refine l_eff (e_boxV (et (gS rfl g0) rfl)) (fun v2 w2 h2 => ?_)
    obtain ⟨b2, rfl, n2⟩ := h2
    have f2 : w.heap.size ≤ b2 := Nat.le_trans U.size n2.fresh
    replace hV := hV.up n2.up
    replace U := U.tr n2.up
    have k2 := n2.blk
    replace k2 : Blk w2 b2 (bL (be 20 a)).toArray := k2
    refine l_step y_assignC ?_
    refine l_nil ?_
    refine hK1 _ _ ?_
    refine fg2 0 3 (gS rfl (gS rfl g0)) (gS rfl g0) (fun g => ?_)
    refine c_seq (fun K3 hK3 => ?_)
    refine c_seq (fun K4 hK4 => ?_)
    exact (by
      refine c_region ?_
      refine l_step (y_moveV (et (gS rfl g0) rfl)) ?_
      refine l_step (y_loadB agg_25 sz_25 (et (gS rfl g0) rfl) (by rw [List.size_toArray, length_bL, length_be]) (at1B k2)) ?_
      refine l_eff (e_callV cal_159 (aC (et (gS rfl g0) rfl) (aC (et g0 rfl) aN)) (v_findAcct hV ho a ha)) (fun v5 w5 h5 => ?_)
      obtain ⟨i5, f5, rfl, hfd, u5⟩ := h5
      replace k2 := k2.up u5
      replace hV := hV.up u5
      replace U := U.tr u5
      refine l_step (y_moveV (et g0 rfl)) ?_
      refine l_step (y_ext (et g0 rfl) rfl) ?_
      refine l_step (y_ext (et (gS rfl g0) rfl) rfl) ?_
      refine l_step (y_assignV (et (gS rfl g0) rfl)) ?_
      refine l_step (y_assignV (et (gS rfl g0) rfl)) ?_
      refine l_nil ?_
      refine hK4 _ _ ?_
      refine fg2 0 5 (gS rfl (gS rfl (gS rfl (gS rfl (gS rfl (gS rfl (gS rfl (gS rfl (gS rfl g0))))))))) (gS rfl g0) (fun g => ?_)
      refine c_seq (fun K6 hK6 => ?_)
      exact (by
        refine c_region ?_
        refine l_step (y_moveV (et g0 rfl)) ?_
        refine l_step (y_geq (et g0 rfl) rfl) ?_
        refine l_nil ?_
        refine hK6 _ _ ?_
        refine fg3 0 5 14 (gS rfl (gS rfl (gS rfl g0))) (gS rfl (gS rfl g0)) g0 (fun g => ?_)
        refine c_cond (et g0 rfl) (fun cB1 => ?_) (fun cB1 => ?_)
        · skip
          
          obtain ⟨k9, ⟨x9, hx9, hxa⟩, hk9, rfl, rfl⟩ := hfd.pos (by have := of_decide_eq_true cB1; omega)
          obtain ⟨ba, ca, cap9, vc9, hAA⟩ := hV.acct hx9
          have hax := ax_eq ho hx9 hxa
          refine c_seq (fun K8 hK8 => ?_)
          exact (by
            refine c_region ?_
            refine l_step (y_moveV (et (gS rfl (gS rfl g0)) rfl)) ?_
            refine l_step (y_nil (et g0 rfl)) ?_
            refine l_step (y_fld fld_84_0 (et g0 rfl)) ?_
            refine l_step (y_load1 one_76 (et g0 rfl) (at1 (hV.c1 hAA.sl rfl))) ?_
            refine l_step (y_moveV (et (gS rfl (gS rfl (gS rfl (gS rfl (gS rfl g0))))) rfl)) ?_
            refine l_step (y_idxS Hvaa.underlying76 sz_167 (et (gS rfl g0) rfl) (et g0 rfl) ?_ ?_) ?_
            omega
            omega
            refine l_step (y_fld fld_167_1 (et g0 rfl)) ?_
            refine l_step (y_load1 one_26 (et g0 rfl) (at1 (hAA.cNonce (by omega)))) ?_
            refine l_step (y_assignV (et g0 rfl)) ?_
            refine l_nil ?_
            refine hK8 _ _ ?_
            refine fg1 4 g0 (fun g => ?_)
            refine c_ret ?_
            repeat with_reducible refine then_ret ?_
            refine ret1 rfl (res_tmp (et g0 rfl)) ?_
            exact ⟨by show _ = Value.int .u64 ((ax V a).nonce : Nat); rw [hax], U⟩)
        · skip
          
          obtain ⟨hno, rfl, p9, rfl, hfr⟩ := hfd.neg (by have := of_decide_eq_false cB1; omega)
          have hax := ax_no (mA_no hno)
          refine c_skip ?_
          refine hK3 _ _ ?_
          refine fg0 (fun g => ?_)
          refine c_seq (fun K9 hK9 => ?_)
          exact (by
            refine c_region ?_
            refine l_step y_assignC ?_
            refine l_nil ?_
            refine hK9 _ _ ?_
            refine c_ret ?_
            repeat with_reducible refine then_ret ?_
            refine ret1 rfl (res_tmp (et g0 rfl)) ?_
            exact ⟨by show _ = Value.int .u64 ((ax V a).nonce : Nat); rw [hax]; rfl, U⟩))))
theorem v_isWarmAcct {w : World} {H : Store} {col : Nat → Nat} {bc : Nat} {cs : Array Value} {V : EV} (hV : VL w H col bc cs V) (ho : VOk V) (a : Nat) (ha : a < A160) :
    Ret 172 [.pointer (some ⟨bc, 2435, none⟩), aV a] w (fun v w' => v = .bool ((absV V).warmA a) ∧ Up w w') := by
  have hnw := hV.new
  have hfz := hV.fz
  refine enter (n := 25) Hvaa.func172 rfl rfl (Nat.le_of_ble_eq_true rfl) ?_
  have U := Up.refl w
  refine c_seq (fun K1 hK1 => ?_)
  exact (by
    refine c_region ?_
    refine l_eff (e_boxV (et (gS rfl g0) rfl)) (fun v2 w2 h2 => ?_)
    obtain ⟨b2, rfl, n2⟩ := h2
    have f2 : w.heap.size ≤ b2 := Nat.le_trans U.size n2.fresh
    replace hV := hV.up n2.up
    replace U := U.tr n2.up
    have k2 := n2.blk
    replace k2 : Blk w2 b2 (bL (be 20 a)).toArray := k2
    refine l_step y_assignC ?_
    refine l_nil ?_
    refine hK1 _ _ ?_
    refine fg2 0 3 (gS rfl (gS rfl g0)) (gS rfl g0) (fun g => ?_)
    refine c_seq (fun K3 hK3 => ?_)
    exact (by
      refine c_region ?_
      refine l_step (y_moveV (et (gS rfl g0) rfl)) ?_
      refine l_step (y_loadB agg_25 sz_25 (et (gS rfl g0) rfl) (by rw [List.size_toArray, length_bL, length_be]) (at1B k2)) ?_
      refine l_eff (e_callV cal_159 (aC (et (gS rfl g0) rfl) (aC (et g0 rfl) aN)) (v_findAcct hV ho a ha)) (fun v4 w4 h4 => ?_)
      obtain ⟨i4, f4, rfl, hfd, u4⟩ := h4
      replace k2 := k2.up u4
      replace hV := hV.up u4
      replace U := U.tr u4
      refine l_step (y_moveV (et g0 rfl)) ?_
      refine l_step (y_ext (et g0 rfl) rfl) ?_
      refine l_step (y_ext (et (gS rfl g0) rfl) rfl) ?_
      refine l_step (y_assignV (et (gS rfl g0) rfl)) ?_
      refine l_step (y_assignV (et (gS rfl g0) rfl)) ?_
      refine l_nil ?_
      refine hK3 _ _ ?_
      refine fg2 0 5 (gS rfl (gS rfl (gS rfl (gS rfl (gS rfl (gS rfl (gS rfl (gS rfl (gS rfl g0))))))))) (gS rfl g0) (fun g => ?_)
      refine c_seq (fun K5 hK5 => ?_)
      exact (by
        refine c_region ?_
        refine l_step (y_moveV (et g0 rfl)) ?_
        refine l_step (y_geq (et g0 rfl) rfl) ?_
        refine l_step (y_moveV (et g0 rfl)) ?_
        refine gsplitL (i := 15) g0 (fun q6 => ?_) (fun q6 => ?_)
        · skip
          obtain ⟨k9, ⟨x9, hx9, hxa⟩, hk9, rfl, rfl⟩ := hfd.pos (by have := of_decide_eq_true q6; omega)
          obtain ⟨ba, ca, cap9, vc9, hAA⟩ := hV.acct hx9
          have hax := ax_eq ho hx9 hxa
          refine l_gstep (j := 2) (t := 15) (by exact rfl) (by exact rfl) (et g0 rfl) (by decide) (y_moveV (et (gS rfl (gS rfl (gS rfl (gS rfl (gS rfl g0))))) rfl)) ?_
          refine l_gstep (j := 2) (t := 15) (by exact rfl) (by exact rfl) (et (gS rfl g0) rfl) (by decide) (y_nil (et g0 rfl)) ?_
          refine l_gstep (j := 2) (t := 15) (by exact rfl) (by exact rfl) (et (gS rfl (gS rfl g0)) rfl) (by decide) (y_fld fld_84_0 (et g0 rfl)) ?_
          refine l_gstep (j := 2) (t := 15) (by exact rfl) (by exact rfl) (et (gS rfl (gS rfl (gS rfl g0))) rfl) (by decide) (y_load1 one_76 (et g0 rfl) (at1 (hV.c1 hAA.sl rfl))) ?_
          refine l_gstep (j := 2) (t := 15) (by exact rfl) (by exact rfl) (et (gS rfl (gS rfl (gS rfl (gS rfl g0)))) rfl) (by decide) (y_moveV (et (gS rfl (gS rfl (gS rfl (gS rfl (gS rfl (gS rfl (gS rfl (gS rfl g0)))))))) rfl)) ?_
          refine l_gstep (j := 2) (t := 15) (by exact rfl) (by exact rfl) (et (gS rfl (gS rfl (gS rfl (gS rfl (gS rfl g0))))) rfl) (by decide) (y_idxS Hvaa.underlying76 sz_167 (et (gS rfl g0) rfl) (et g0 rfl) ?_ ?_) ?_
          omega
          omega
          refine l_gstep (j := 2) (t := 15) (by exact rfl) (by exact rfl) (et (gS rfl (gS rfl (gS rfl (gS rfl (gS rfl (gS rfl g0)))))) rfl) (by decide) (y_fld fld_167_4 (et g0 rfl)) ?_
          refine l_gstep (j := 2) (t := 15) (by exact rfl) (by exact rfl) (et (gS rfl (gS rfl (gS rfl (gS rfl (gS rfl (gS rfl (gS rfl g0))))))) rfl) (by decide) (y_load1 one_4 (et g0 rfl) (at1 (hAA.cWarm (by omega)))) ?_
          refine l_step (y_pickT (et (gS rfl (gS rfl (gS rfl (gS rfl (gS rfl (gS rfl (gS rfl (gS rfl g0)))))))) rfl) (et g0 rfl)) ?_
          refine l_step (y_assignV (et g0 rfl)) ?_
          refine l_nil ?_
          refine hK5 _ _ ?_
          refine fg1 4 g0 (fun g => ?_)
          refine c_ret ?_
          repeat with_reducible refine then_ret ?_
          refine ret1 rfl (res_tmp (et g0 rfl)) ?_
          exact ⟨by show _ = Value.bool (ax V a).warm; rw [hax], U⟩
        · skip
          obtain ⟨hno, rfl, p9, rfl, hfr⟩ := hfd.neg (by have := of_decide_eq_false q6; omega)
          have hax := ax_no (mA_no hno)
          refine l_gskip (j := 2) (t := 15) (by exact rfl) (by exact rfl) (et g0 rfl) (by decide) (by decide) ?_
          refine l_gskip (j := 2) (t := 15) (by exact rfl) (by exact rfl) (et (gS rfl g0) rfl) (by decide) (by decide) ?_
          refine l_gskip (j := 2) (t := 15) (by exact rfl) (by exact rfl) (et (gS rfl (gS rfl g0)) rfl) (by decide) (by decide) ?_
          refine l_gskip (j := 2) (t := 15) (by exact rfl) (by exact rfl) (et (gS rfl (gS rfl (gS rfl g0))) rfl) (by decide) (by decide) ?_
          refine l_gskip (j := 2) (t := 15) (by exact rfl) (by exact rfl) (et (gS rfl (gS rfl (gS rfl (gS rfl g0)))) rfl) (by decide) (by decide) ?_
          refine l_gskip (j := 2) (t := 15) (by exact rfl) (by exact rfl) (et (gS rfl (gS rfl (gS rfl (gS rfl (gS rfl g0))))) rfl) (by decide) (by decide) ?_
          refine l_gskip (j := 2) (t := 15) (by exact rfl) (by exact rfl) (et (gS rfl (gS rfl (gS rfl (gS rfl (gS rfl (gS rfl g0)))))) rfl) (by decide) (by decide) ?_
          refine l_gskip (j := 2) (t := 15) (by exact rfl) (by exact rfl) (et (gS rfl (gS rfl (gS rfl (gS rfl (gS rfl (gS rfl (gS rfl g0))))))) rfl) (by decide) (by decide) ?_
          refine l_step (y_pickF (et (gS rfl (gS rfl (gS rfl (gS rfl (gS rfl (gS rfl (gS rfl (gS rfl g0)))))))) rfl) rfl) ?_
          refine l_step (y_assignV (et g0 rfl)) ?_
          refine l_nil ?_
          refine hK5 _ _ ?_
          refine fg1 4 g0 (fun g => ?_)
          refine c_ret ?_
          repeat with_reducible refine then_ret ?_
          refine ret1 rfl (res_tmp (et g0 rfl)) ?_
          exact ⟨by show _ = Value.bool (ax V a).warm; rw [hax]; rfl, U⟩)))
theorem v_isMade {w : World} {H : Store} {col : Nat → Nat} {bc : Nat} {cs : Array Value} {V : EV} (hV : VL w H col bc cs V) (ho : VOk V) (a : Nat) (ha : a < A160) :
    Ret 312 [.pointer (some ⟨bc, 2435, none⟩), aV a] w (fun v w' => v = .bool ((absV V).made a) ∧ Up w w') := by
  have hnw := hV.new
  have hfz := hV.fz
  refine enter (n := 25) Hvaa.func312 rfl rfl (Nat.le_of_ble_eq_true rfl) ?_
  have U := Up.refl w
  refine c_seq (fun K1 hK1 => ?_)
  exact (by
    refine c_region ?_
    refine l_eff (e_boxV (et (gS rfl g0) rfl)) (fun v2 w2 h2 => ?_)
    obtain ⟨b2, rfl, n2⟩ := h2
    have f2 : w.heap.size ≤ b2 := Nat.le_trans U.size n2.fresh
    replace hV := hV.up n2.up
    replace U := U.tr n2.up
    have k2 := n2.blk
    replace k2 : Blk w2 b2 (bL (be 20 a)).toArray := k2
    refine l_step y_assignC ?_
    refine l_nil ?_
    refine hK1 _ _ ?_
    refine fg2 0 3 (gS rfl (gS rfl g0)) (gS rfl g0) (fun g => ?_)
    refine c_seq (fun K3 hK3 => ?_)
    exact (by
      refine c_region ?_
      refine l_step (y_moveV (et (gS rfl g0) rfl)) ?_
      refine l_step (y_loadB agg_25 sz_25 (et (gS rfl g0) rfl) (by rw [List.size_toArray, length_bL, length_be]) (at1B k2)) ?_
      refine l_eff (e_callV cal_159 (aC (et (gS rfl g0) rfl) (aC (et g0 rfl) aN)) (v_findAcct hV ho a ha)) (fun v4 w4 h4 => ?_)
      obtain ⟨i4, f4, rfl, hfd, u4⟩ := h4
      replace k2 := k2.up u4
      replace hV := hV.up u4
      replace U := U.tr u4
      refine l_step (y_moveV (et g0 rfl)) ?_
      refine l_step (y_ext (et g0 rfl) rfl) ?_
      refine l_step (y_ext (et (gS rfl g0) rfl) rfl) ?_
      refine l_step (y_assignV (et (gS rfl g0) rfl)) ?_
      refine l_step (y_assignV (et (gS rfl g0) rfl)) ?_
      refine l_nil ?_
      refine hK3 _ _ ?_
      refine fg2 0 5 (gS rfl (gS rfl (gS rfl (gS rfl (gS rfl (gS rfl (gS rfl (gS rfl (gS rfl g0))))))))) (gS rfl g0) (fun g => ?_)
      refine c_seq (fun K5 hK5 => ?_)
      exact (by
        refine c_region ?_
        refine l_step (y_moveV (et g0 rfl)) ?_
        refine l_step (y_geq (et g0 rfl) rfl) ?_
        refine l_step (y_moveV (et g0 rfl)) ?_
        refine gsplitL (i := 15) g0 (fun q6 => ?_) (fun q6 => ?_)
        · skip
          obtain ⟨k9, ⟨x9, hx9, hxa⟩, hk9, rfl, rfl⟩ := hfd.pos (by have := of_decide_eq_true q6; omega)
          obtain ⟨ba, ca, cap9, vc9, hAA⟩ := hV.acct hx9
          have hax := ax_eq ho hx9 hxa
          refine l_gstep (j := 2) (t := 15) (by exact rfl) (by exact rfl) (et g0 rfl) (by decide) (y_moveV (et (gS rfl (gS rfl (gS rfl (gS rfl (gS rfl g0))))) rfl)) ?_
          refine l_gstep (j := 2) (t := 15) (by exact rfl) (by exact rfl) (et (gS rfl g0) rfl) (by decide) (y_nil (et g0 rfl)) ?_
          refine l_gstep (j := 2) (t := 15) (by exact rfl) (by exact rfl) (et (gS rfl (gS rfl g0)) rfl) (by decide) (y_fld fld_84_0 (et g0 rfl)) ?_
          refine l_gstep (j := 2) (t := 15) (by exact rfl) (by exact rfl) (et (gS rfl (gS rfl (gS rfl g0))) rfl) (by decide) (y_load1 one_76 (et g0 rfl) (at1 (hV.c1 hAA.sl rfl))) ?_
          refine l_gstep (j := 2) (t := 15) (by exact rfl) (by exact rfl) (et (gS rfl (gS rfl (gS rfl (gS rfl g0)))) rfl) (by decide) (y_moveV (et (gS rfl (gS rfl (gS rfl (gS rfl (gS rfl (gS rfl (gS rfl (gS rfl g0)))))))) rfl)) ?_
          refine l_gstep (j := 2) (t := 15) (by exact rfl) (by exact rfl) (et (gS rfl (gS rfl (gS rfl (gS rfl (gS rfl g0))))) rfl) (by decide) (y_idxS Hvaa.underlying76 sz_167 (et (gS rfl g0) rfl) (et g0 rfl) ?_ ?_) ?_
          omega
          omega
          refine l_gstep (j := 2) (t := 15) (by exact rfl) (by exact rfl) (et (gS rfl (gS rfl (gS rfl (gS rfl (gS rfl (gS rfl g0)))))) rfl) (by decide) (y_fld fld_167_5 (et g0 rfl)) ?_
          refine l_gstep (j := 2) (t := 15) (by exact rfl) (by exact rfl) (et (gS rfl (gS rfl (gS rfl (gS rfl (gS rfl (gS rfl (gS rfl g0))))))) rfl) (by decide) (y_load1 one_4 (et g0 rfl) (at1 (hAA.cMade (by omega)))) ?_
          refine l_step (y_pickT (et (gS rfl (gS rfl (gS rfl (gS rfl (gS rfl (gS rfl (gS rfl (gS rfl g0)))))))) rfl) (et g0 rfl)) ?_
          refine l_step (y_assignV (et g0 rfl)) ?_
          refine l_nil ?_
          refine hK5 _ _ ?_
          refine fg1 4 g0 (fun g => ?_)
          refine c_ret ?_
          repeat with_reducible refine then_ret ?_
          refine ret1 rfl (res_tmp (et g0 rfl)) ?_
          exact ⟨by show _ = Value.bool (ax V a).made; rw [hax], U⟩
        · skip
          obtain ⟨hno, rfl, p9, rfl, hfr⟩ := hfd.neg (by have := of_decide_eq_false q6; omega)
          have hax := ax_no (mA_no hno)
          refine l_gskip (j := 2) (t := 15) (by exact rfl) (by exact rfl) (et g0 rfl) (by decide) (by decide) ?_
          refine l_gskip (j := 2) (t := 15) (by exact rfl) (by exact rfl) (et (gS rfl g0) rfl) (by decide) (by decide) ?_
          refine l_gskip (j := 2) (t := 15) (by exact rfl) (by exact rfl) (et (gS rfl (gS rfl g0)) rfl) (by decide) (by decide) ?_
          refine l_gskip (j := 2) (t := 15) (by exact rfl) (by exact rfl) (et (gS rfl (gS rfl (gS rfl g0))) rfl) (by decide) (by decide) ?_
          refine l_gskip (j := 2) (t := 15) (by exact rfl) (by exact rfl) (et (gS rfl (gS rfl (gS rfl (gS rfl g0)))) rfl) (by decide) (by decide) ?_
          refine l_gskip (j := 2) (t := 15) (by exact rfl) (by exact rfl) (et (gS rfl (gS rfl (gS rfl (gS rfl (gS rfl g0))))) rfl) (by decide) (by decide) ?_
          refine l_gskip (j := 2) (t := 15) (by exact rfl) (by exact rfl) (et (gS rfl (gS rfl (gS rfl (gS rfl (gS rfl (gS rfl g0)))))) rfl) (by decide) (by decide) ?_
          refine l_gskip (j := 2) (t := 15) (by exact rfl) (by exact rfl) (et (gS rfl (gS rfl (gS rfl (gS rfl (gS rfl (gS rfl (gS rfl g0))))))) rfl) (by decide) (by decide) ?_
          refine l_step (y_pickF (et (gS rfl (gS rfl (gS rfl (gS rfl (gS rfl (gS rfl (gS rfl (gS rfl g0)))))))) rfl) rfl) ?_
          refine l_step (y_assignV (et g0 rfl)) ?_
          refine l_nil ?_
          refine hK5 _ _ ?_
          refine fg1 4 g0 (fun g => ?_)
          refine c_ret ?_
          repeat with_reducible refine then_ret ?_
          refine ret1 rfl (res_tmp (et g0 rfl)) ?_
          exact ⟨by show _ = Value.bool (ax V a).made; rw [hax]; rfl, U⟩)))
theorem v_isGone {w : World} {H : Store} {col : Nat → Nat} {bc : Nat} {cs : Array Value} {V : EV} (hV : VL w H col bc cs V) (ho : VOk V) (a : Nat) (ha : a < A160) :
    Ret 313 [.pointer (some ⟨bc, 2435, none⟩), aV a] w (fun v w' => v = .bool ((absV V).gone a) ∧ Up w w') := by
  have hnw := hV.new
  have hfz := hV.fz
  refine enter (n := 25) Hvaa.func313 rfl rfl (Nat.le_of_ble_eq_true rfl) ?_
  have U := Up.refl w
  refine c_seq (fun K1 hK1 => ?_)
  exact (by
    refine c_region ?_
    refine l_eff (e_boxV (et (gS rfl g0) rfl)) (fun v2 w2 h2 => ?_)
    obtain ⟨b2, rfl, n2⟩ := h2
    have f2 : w.heap.size ≤ b2 := Nat.le_trans U.size n2.fresh
    replace hV := hV.up n2.up
    replace U := U.tr n2.up
    have k2 := n2.blk
    replace k2 : Blk w2 b2 (bL (be 20 a)).toArray := k2
    refine l_step y_assignC ?_
    refine l_nil ?_
    refine hK1 _ _ ?_
    refine fg2 0 3 (gS rfl (gS rfl g0)) (gS rfl g0) (fun g => ?_)
    refine c_seq (fun K3 hK3 => ?_)
    exact (by
      refine c_region ?_
      refine l_step (y_moveV (et (gS rfl g0) rfl)) ?_
      refine l_step (y_loadB agg_25 sz_25 (et (gS rfl g0) rfl) (by rw [List.size_toArray, length_bL, length_be]) (at1B k2)) ?_
      refine l_eff (e_callV cal_159 (aC (et (gS rfl g0) rfl) (aC (et g0 rfl) aN)) (v_findAcct hV ho a ha)) (fun v4 w4 h4 => ?_)
      obtain ⟨i4, f4, rfl, hfd, u4⟩ := h4
      replace k2 := k2.up u4
      replace hV := hV.up u4
      replace U := U.tr u4
      refine l_step (y_moveV (et g0 rfl)) ?_
      refine l_step (y_ext (et g0 rfl) rfl) ?_
      refine l_step (y_ext (et (gS rfl g0) rfl) rfl) ?_
      refine l_step (y_assignV (et (gS rfl g0) rfl)) ?_
      refine l_step (y_assignV (et (gS rfl g0) rfl)) ?_
      refine l_nil ?_
      refine hK3 _ _ ?_
      refine fg2 0 5 (gS rfl (gS rfl (gS rfl (gS rfl (gS rfl (gS rfl (gS rfl (gS rfl (gS rfl g0))))))))) (gS rfl g0) (fun g => ?_)
      refine c_seq (fun K5 hK5 => ?_)
      exact (by
        refine c_region ?_
        refine l_step (y_moveV (et g0 rfl)) ?_
        refine l_step (y_geq (et g0 rfl) rfl) ?_
        refine l_step (y_moveV (et g0 rfl)) ?_
        refine gsplitL (i := 15) g0 (fun q6 => ?_) (fun q6 => ?_)
        · skip
          obtain ⟨k9, ⟨x9, hx9, hxa⟩, hk9, rfl, rfl⟩ := hfd.pos (by have := of_decide_eq_true q6; omega)
          obtain ⟨ba, ca, cap9, vc9, hAA⟩ := hV.acct hx9
          have hax := ax_eq ho hx9 hxa
          refine l_gstep (j := 2) (t := 15) (by exact rfl) (by exact rfl) (et g0 rfl) (by decide) (y_moveV (et (gS rfl (gS rfl (gS rfl (gS rfl (gS rfl g0))))) rfl)) ?_
          refine l_gstep (j := 2) (t := 15) (by exact rfl) (by exact rfl) (et (gS rfl g0) rfl) (by decide) (y_nil (et g0 rfl)) ?_
          refine l_gstep (j := 2) (t := 15) (by exact rfl) (by exact rfl) (et (gS rfl (gS rfl g0)) rfl) (by decide) (y_fld fld_84_0 (et g0 rfl)) ?_
          refine l_gstep (j := 2) (t := 15) (by exact rfl) (by exact rfl) (et (gS rfl (gS rfl (gS rfl g0))) rfl) (by decide) (y_load1 one_76 (et g0 rfl) (at1 (hV.c1 hAA.sl rfl))) ?_
          refine l_gstep (j := 2) (t := 15) (by exact rfl) (by exact rfl) (et (gS rfl (gS rfl (gS rfl (gS rfl g0)))) rfl) (by decide) (y_moveV (et (gS rfl (gS rfl (gS rfl (gS rfl (gS rfl (gS rfl (gS rfl (gS rfl g0)))))))) rfl)) ?_
          refine l_gstep (j := 2) (t := 15) (by exact rfl) (by exact rfl) (et (gS rfl (gS rfl (gS rfl (gS rfl (gS rfl g0))))) rfl) (by decide) (y_idxS Hvaa.underlying76 sz_167 (et (gS rfl g0) rfl) (et g0 rfl) ?_ ?_) ?_
          omega
          omega
          refine l_gstep (j := 2) (t := 15) (by exact rfl) (by exact rfl) (et (gS rfl (gS rfl (gS rfl (gS rfl (gS rfl (gS rfl g0)))))) rfl) (by decide) (y_fld fld_167_6 (et g0 rfl)) ?_
          refine l_gstep (j := 2) (t := 15) (by exact rfl) (by exact rfl) (et (gS rfl (gS rfl (gS rfl (gS rfl (gS rfl (gS rfl (gS rfl g0))))))) rfl) (by decide) (y_load1 one_4 (et g0 rfl) (at1 (hAA.cGone (by omega)))) ?_
          refine l_step (y_pickT (et (gS rfl (gS rfl (gS rfl (gS rfl (gS rfl (gS rfl (gS rfl (gS rfl g0)))))))) rfl) (et g0 rfl)) ?_
          refine l_step (y_assignV (et g0 rfl)) ?_
          refine l_nil ?_
          refine hK5 _ _ ?_
          refine fg1 4 g0 (fun g => ?_)
          refine c_ret ?_
          repeat with_reducible refine then_ret ?_
          refine ret1 rfl (res_tmp (et g0 rfl)) ?_
          exact ⟨by show _ = Value.bool (ax V a).gone; rw [hax], U⟩
        · skip
          obtain ⟨hno, rfl, p9, rfl, hfr⟩ := hfd.neg (by have := of_decide_eq_false q6; omega)
          have hax := ax_no (mA_no hno)
          refine l_gskip (j := 2) (t := 15) (by exact rfl) (by exact rfl) (et g0 rfl) (by decide) (by decide) ?_
          refine l_gskip (j := 2) (t := 15) (by exact rfl) (by exact rfl) (et (gS rfl g0) rfl) (by decide) (by decide) ?_
          refine l_gskip (j := 2) (t := 15) (by exact rfl) (by exact rfl) (et (gS rfl (gS rfl g0)) rfl) (by decide) (by decide) ?_
          refine l_gskip (j := 2) (t := 15) (by exact rfl) (by exact rfl) (et (gS rfl (gS rfl (gS rfl g0))) rfl) (by decide) (by decide) ?_
          refine l_gskip (j := 2) (t := 15) (by exact rfl) (by exact rfl) (et (gS rfl (gS rfl (gS rfl (gS rfl g0)))) rfl) (by decide) (by decide) ?_
          refine l_gskip (j := 2) (t := 15) (by exact rfl) (by exact rfl) (et (gS rfl (gS rfl (gS rfl (gS rfl (gS rfl g0))))) rfl) (by decide) (by decide) ?_
          refine l_gskip (j := 2) (t := 15) (by exact rfl) (by exact rfl) (et (gS rfl (gS rfl (gS rfl (gS rfl (gS rfl (gS rfl g0)))))) rfl) (by decide) (by decide) ?_
          refine l_gskip (j := 2) (t := 15) (by exact rfl) (by exact rfl) (et (gS rfl (gS rfl (gS rfl (gS rfl (gS rfl (gS rfl (gS rfl g0))))))) rfl) (by decide) (by decide) ?_
          refine l_step (y_pickF (et (gS rfl (gS rfl (gS rfl (gS rfl (gS rfl (gS rfl (gS rfl (gS rfl g0)))))))) rfl) rfl) ?_
          refine l_step (y_assignV (et g0 rfl)) ?_
          refine l_nil ?_
          refine hK5 _ _ ?_
          refine fg1 4 g0 (fun g => ?_)
          refine c_ret ?_
          repeat with_reducible refine then_ret ?_
          refine ret1 rfl (res_tmp (et g0 rfl)) ?_
          exact ⟨by show _ = Value.bool (ax V a).gone; rw [hax]; rfl, U⟩)))
theorem v_refund {w : World} {H : Store} {col : Nat → Nat} {bc : Nat} {cs : Array Value} {V : EV} (hV : VL w H col bc cs V) :
    Ret 113 [.pointer (some ⟨bc, 2435, none⟩)] w (fun v w' => v = .int .u64 (V.ref : Nat) ∧ Up w w') := by
  have hnw := hV.new
  have hfz := hV.fz
  refine enter (n := 7) Hvaa.func113 rfl rfl (Nat.le_of_ble_eq_true rfl) ?_
  have U := Up.refl w
  refine c_seq (fun K1 hK1 => ?_)
  exact (by
    refine c_region ?_
    refine l_step y_assignC ?_
    refine l_nil ?_
    refine hK1 _ _ ?_
    refine fg1 0 (gS rfl g0) (fun g => ?_)
    refine c_seq (fun K2 hK2 => ?_)
    exact (by
      refine c_region ?_
      refine l_step (y_moveV (et g0 rfl)) ?_
      refine l_step (y_nil (et g0 rfl)) ?_
      refine l_step (y_fld fld_84_7 (et g0 rfl)) ?_
      refine l_step (y_load1 one_26 (et g0 rfl) (at1 (hV.c1 hV.ref rfl))) ?_
      refine l_step (y_assignV (et g0 rfl)) ?_
      refine l_nil ?_
      refine hK2 _ _ ?_
      refine fg1 2 g0 (fun g => ?_)
      refine c_ret ?_
      repeat with_reducible refine then_ret ?_
      refine ret1 rfl (res_tmp (et g0 rfl)) ?_
      exact ⟨rfl, U⟩))
def PkS (V : EV) (a k : Nat) (i : Int) : Prop := (∃ (j : Nat) (x : ESlot), i = j ∧ V.slots[j]? = some x ∧ sx V a k = x) ∨ (i = -1 ∧ sx V a k = blankS 0 k)
theorem PkS.pos {V : EV} {a k : Nat} {i : Int} (h : PkS V a k i) (hi : 0 ≤ i) : ∃ (j : Nat) (x : ESlot), i = j ∧ V.slots[j]? = some x ∧ sx V a k = x := by
  rcases h with h | h
  · exact h
  · omega
theorem PkS.neg {V : EV} {a k : Nat} {i : Int} (h : PkS V a k i) (hi : ¬ 0 ≤ i) : i = -1 ∧ sx V a k = blankS 0 k := by
  rcases h with ⟨j, x, h, _⟩ | h
  · omega
  · exact h
theorem v_peekSlot {w : World} {H : Store} {col : Nat → Nat} {bc : Nat} {cs : Array Value} {V : EV} (hV : VL w H col bc cs V) (ho : VOk V) (a k : Nat) (ha : a < A160) (hk : k < W256) :
    Ret 247 [.pointer (some ⟨bc, 2435, none⟩), aV a, wV k] w (fun v w' => ∃ i : Int, v = .int .i32 i ∧ PkS V a k i ∧ Up w w') := by
  have hnw := hV.new
  have hfz := hV.fz
  refine enter (n := 27) Hvaa.func247 rfl rfl (Nat.le_of_ble_eq_true rfl) ?_
  have U := Up.refl w
  refine c_seq (fun K1 hK1 => ?_)
  exact (by
    refine c_region ?_
    refine l_eff (e_boxV (et (gS rfl g0) rfl)) (fun v2 w2 h2 => ?_)
    obtain ⟨b2, rfl, n2⟩ := h2
    have f2 : w.heap.size ≤ b2 := Nat.le_trans U.size n2.fresh
    replace hV := hV.up n2.up
    replace U := U.tr n2.up
    have k2 := n2.blk
    replace k2 : Blk w2 b2 (bL (be 20 a)).toArray := k2
    refine l_eff (e_boxV (et (gS rfl (gS rfl (gS rfl g0))) rfl)) (fun v3 w3 h3 => ?_)
    obtain ⟨b3, rfl, n3⟩ := h3
    have d2_3 : b2 < b3 := Nat.lt_of_lt_of_le k2.lt n3.fresh
    have f3 : w.heap.size ≤ b3 := Nat.le_trans U.size n3.fresh
    replace k2 := k2.up n3.up
    replace hV := hV.up n3.up
    replace U := U.tr n3.up
    have k3 := n3.blk
    refine l_step y_assignC ?_
    refine l_nil ?_
    refine hK1 _ _ ?_
    refine fg3 0 4 5 (gS rfl (gS rfl (gS rfl g0))) (gS rfl (gS rfl g0)) (gS rfl g0) (fun g => ?_)
    refine c_seq (fun K4 hK4 => ?_)
    exact (by
      refine c_region ?_
      refine l_step (y_moveV (et (gS rfl (gS rfl g0)) rfl)) ?_
      refine l_step (y_loadB agg_25 sz_25 (et (gS rfl (gS rfl g0)) rfl) (by rw [List.size_toArray, length_bL, length_be]) (at1B k2)) ?_
      refine l_eff (e_callV cal_159 (aC (et (gS rfl g0) rfl) (aC (et g0 rfl) aN)) (v_findAcct hV ho a ha)) (fun v5 w5 h5 => ?_)
      obtain ⟨i5, f5, rfl, hfd, u5⟩ := h5
      replace k2 := k2.up u5
      replace k3 := k3.up u5
      replace hV := hV.up u5
      replace U := U.tr u5
      refine l_step (y_moveV (et g0 rfl)) ?_
      refine l_step (y_ext (et g0 rfl) rfl) ?_
      refine l_step (y_ext (et (gS rfl g0) rfl) rfl) ?_
      refine l_step (y_assignV (et (gS rfl g0) rfl)) ?_
      refine l_step (y_assignV (et (gS rfl g0) rfl)) ?_
      refine l_nil ?_
      refine hK4 _ _ ?_
      refine fg3 0 5 7 (gS rfl (gS rfl (gS rfl (gS rfl (gS rfl (gS rfl (gS rfl (gS rfl (gS rfl (gS rfl g0)))))))))) (gS rfl (gS rfl (gS rfl (gS rfl (gS rfl (gS rfl (gS rfl (gS rfl g0)))))))) (gS rfl g0) (fun g => ?_)
      refine c_seq (fun K6 hK6 => ?_)
      refine c_seq (fun K7 hK7 => ?_)
      exact (by
        refine c_region ?_
        refine l_step (y_moveV (et g0 rfl)) ?_
        refine l_step (y_lss (et g0 rfl) rfl) ?_
        refine l_nil ?_
        refine hK7 _ _ ?_
        refine fg4 0 5 7 18 (gS rfl (gS rfl (gS rfl (gS rfl g0)))) (gS rfl (gS rfl (gS rfl g0))) (gS rfl (gS rfl g0)) g0 (fun g => ?_)
        refine c_cond (et g0 rfl) (fun cB1 => ?_) (fun cB1 => ?_)
        · skip
          
          obtain ⟨hno, rfl, p9, rfl, hfr⟩ := hfd.neg (by have := of_decide_eq_true cB1; omega)
          refine c_seq (fun K9 hK9 => ?_)
          exact (by
            refine c_region ?_
            refine l_step y_assignC ?_
            refine l_nil ?_
            refine hK9 _ _ ?_
            refine fg1 6 g0 (fun g => ?_)
            refine c_ret ?_
            repeat with_reducible refine then_ret ?_
            refine ret1 rfl (res_tmp (et g0 rfl)) ?_
            exact ⟨_, rfl, .inr ⟨rfl, sx_noA ho.sa (mA_no hno)⟩, U⟩)
        · skip
          
          obtain ⟨k9, ⟨x9, hx9, hxa⟩, hk9, rfl, rfl⟩ := hfd.pos (by have := of_decide_eq_false cB1; omega)
          have hb9 := ho.bd.accts
          have hai := ai_eq ho hx9 hxa
          refine c_skip ?_
          refine hK6 _ _ ?_
          refine fg3 0 5 7 (gS rfl (gS rfl (gS rfl g0))) (gS rfl (gS rfl g0)) (gS rfl g0) (fun g => ?_)
          refine c_seq (fun K10 hK10 => ?_)
          exact (by
            refine c_region ?_
            refine l_step (y_moveV (et (gS rfl (gS rfl g0)) rfl)) ?_
            refine l_step (y_moveV (et (gS rfl g0) rfl)) ?_
            refine l_step (y_loadB agg_65 sz_65 (et (gS rfl (gS rfl (gS rfl g0))) rfl) (by first | (simp only [Value.cells, hV, aV, bV, wV, wL, List.size_toArray, length_bL, length_uL, length_be, size_spl, List.length_cons, List.length_nil, List.length_replicate, Nat.zero_add, Nat.reduceAdd, Nat.reduceLeDiff, Nat.le_refl]; done) | rfl) (at1B k3)) ?_
            refine l_eff (e_callV cal_160 (aC (et (gS rfl (gS rfl g0)) rfl) (aC (et (gS rfl g0) rfl) (aC (et g0 rfl) aN))) (v_findSlot hV ho k9 k (by omega) hk)) (fun v11 w11 h11 => ?_)
            obtain ⟨j11, g11, rfl, hfe, u11⟩ := h11
            replace k2 := k2.up u11
            replace k3 := k3.up u11
            replace hV := hV.up u11
            replace U := U.tr u11
            refine l_step (y_moveV (et g0 rfl)) ?_
            refine l_step (y_ext (et g0 rfl) rfl) ?_
            refine l_step (y_ext (et (gS rfl g0) rfl) rfl) ?_
            refine l_step (y_assignV (et (gS rfl g0) rfl)) ?_
            refine l_step (y_assignV (et (gS rfl g0) rfl)) ?_
            refine l_nil ?_
            refine hK10 _ _ ?_
            refine fg1 9 (gS rfl g0) (fun g => ?_)
            refine c_seq (fun K12 hK12 => ?_)
            exact (by
              refine c_region ?_
              refine l_step (y_moveV (et g0 rfl)) ?_
              refine l_step (y_assignV (et g0 rfl)) ?_
              refine l_nil ?_
              refine hK12 _ _ ?_
              refine fg1 6 g0 (fun g => ?_)
              refine c_ret ?_
              repeat with_reducible refine then_ret ?_
              refine ret1 rfl (res_tmp (et g0 rfl)) ?_
              refine ⟨_, rfl, ?_, U⟩
              rcases hfe with ⟨q9, ⟨y9, hy9, hya, hyk⟩, hq9, hi9, _⟩ | ⟨hn9, hi9, _⟩
              · exact .inl ⟨q9, y9, hi9, hy9, sx_eq ho hy9 (by rw [hya, hai]) hyk⟩
              · exact .inr ⟨hi9, sx_no (by rw [hai]; exact mS_no hn9)⟩)))))
theorem v_peek {w : World} {H : Store} {col : Nat → Nat} {bc : Nat} {cs : Array Value} {V : EV} (hV : VL w H col bc cs V) (ho : VOk V) (a k : Nat) (ha : a < A160) (hk : k < W256) :
    Ret 304 [.pointer (some ⟨bc, 2435, none⟩), aV a, wV k] w (fun v w' => v = .tuple #[wV (sx V a k).val, wV (sx V a k).orig, .bool (sx V a k).warm] ∧ Up w w') := by
  have hnw := hV.new
  have hfz := hV.fz
  refine enter (n := 37) Hvaa.func304 rfl rfl (Nat.le_of_ble_eq_true rfl) ?_
  have U := Up.refl w
  refine c_seq (fun K1 hK1 => ?_)
  exact (by
    refine c_region ?_
    refine l_eff (e_boxV (et (gS rfl g0) rfl)) (fun v2 w2 h2 => ?_)
    obtain ⟨b2, rfl, n2⟩ := h2
    have f2 : w.heap.size ≤ b2 := Nat.le_trans U.size n2.fresh
    replace hV := hV.up n2.up
    replace U := U.tr n2.up
    have k2 := n2.blk
    replace k2 : Blk w2 b2 (bL (be 20 a)).toArray := k2
    refine l_eff (e_boxV (et (gS rfl (gS rfl (gS rfl g0))) rfl)) (fun v3 w3 h3 => ?_)
    obtain ⟨b3, rfl, n3⟩ := h3
    have d2_3 : b2 < b3 := Nat.lt_of_lt_of_le k2.lt n3.fresh
    have f3 : w.heap.size ≤ b3 := Nat.le_trans U.size n3.fresh
    replace k2 := k2.up n3.up
    replace hV := hV.up n3.up
    replace U := U.tr n3.up
    have k3 := n3.blk
    refine l_eff (e_alloc zr_65) (fun v4 w4 h4 => ?_)
    obtain ⟨b4, rfl, n4⟩ := h4
    have d2_4 : b2 < b4 := Nat.lt_of_lt_of_le k2.lt n4.fresh
    have d3_4 : b3 < b4 := Nat.lt_of_lt_of_le k3.lt n4.fresh
    have f4 : w.heap.size ≤ b4 := Nat.le_trans U.size n4.fresh
    replace k2 := k2.up n4.up
    replace k3 := k3.up n4.up
    replace hV := hV.up n4.up
    replace U := U.tr n4.up
    have k4 := n4.blk
    refine l_eff (e_alloc zr_65) (fun v5 w5 h5 => ?_)
    obtain ⟨b5, rfl, n5⟩ := h5
    have d2_5 : b2 < b5 := Nat.lt_of_lt_of_le k2.lt n5.fresh
    have d3_5 : b3 < b5 := Nat.lt_of_lt_of_le k3.lt n5.fresh
    have d4_5 : b4 < b5 := Nat.lt_of_lt_of_le k4.lt n5.fresh
    have f5 : w.heap.size ≤ b5 := Nat.le_trans U.size n5.fresh
    replace k2 := k2.up n5.up
    replace k3 := k3.up n5.up
    replace k4 := k4.up n5.up
    replace hV := hV.up n5.up
    replace U := U.tr n5.up
    have k5 := n5.blk
    exact (by
      refine l_step y_assignC ?_
      refine l_nil ?_
      refine hK1 _ _ ?_
      refine fg5 0 4 5 6 7 (gS rfl (gS rfl (gS rfl (gS rfl (gS rfl g0))))) (gS rfl (gS rfl (gS rfl (gS rfl g0)))) (gS rfl (gS rfl (gS rfl g0))) (gS rfl (gS rfl g0)) (gS rfl g0) (fun g => ?_)
      refine c_seq (fun K6 hK6 => ?_)
      refine c_seq (fun K7 hK7 => ?_)
      exact (by
        refine c_region ?_
        refine l_step (y_moveV (et (gS rfl (gS rfl (gS rfl (gS rfl g0)))) rfl)) ?_
        refine l_step (y_loadB agg_25 sz_25 (et (gS rfl (gS rfl (gS rfl (gS rfl g0)))) rfl) (by rw [List.size_toArray, length_bL, length_be]) (at1B k2)) ?_
        refine l_step (y_loadB agg_65 sz_65 (et (gS rfl (gS rfl (gS rfl (gS rfl g0)))) rfl) (by first | (simp only [Value.cells, hV, aV, bV, wV, wL, List.size_toArray, length_bL, length_uL, length_be, size_spl, List.length_cons, List.length_nil, List.length_replicate, Nat.zero_add, Nat.reduceAdd, Nat.reduceLeDiff, Nat.le_refl]; done) | rfl) (at1B k3)) ?_
        refine l_eff (e_callV cal_247 (aC (et (gS rfl (gS rfl g0)) rfl) (aC (et (gS rfl g0) rfl) (aC (et g0 rfl) aN))) (v_peekSlot hV ho a k ha hk)) (fun v8 w8 h8 => ?_)
        obtain ⟨i8, rfl, hpk, u8⟩ := h8
        replace k2 := k2.up u8
        replace k3 := k3.up u8
        replace k4 := k4.up u8
        replace k5 := k5.up u8
        replace hV := hV.up u8
        replace U := U.tr u8
        refine l_step (y_assignV (et g0 rfl)) ?_
        refine l_nil ?_
        refine hK7 _ _ ?_
        refine fg4 0 6 7 9 (gS rfl (gS rfl (gS rfl (gS rfl (gS rfl (gS rfl (gS rfl (gS rfl (gS rfl g0))))))))) (gS rfl (gS rfl (gS rfl (gS rfl (gS rfl (gS rfl g0)))))) (gS rfl (gS rfl (gS rfl (gS rfl (gS rfl g0))))) g0 (fun g => ?_)
        refine c_seq (fun K9 hK9 => ?_)
        exact (by
          refine c_region ?_
          refine l_step (y_moveV (et g0 rfl)) ?_
          refine l_step (y_geq (et g0 rfl) rfl) ?_
          refine l_nil ?_
          refine hK9 _ _ ?_
          refine fg5 0 6 7 9 16 (gS rfl (gS rfl (gS rfl (gS rfl (gS rfl g0))))) (gS rfl (gS rfl (gS rfl (gS rfl g0)))) (gS rfl (gS rfl (gS rfl g0))) (gS rfl (gS rfl g0)) g0 (fun g => ?_)
          refine c_cond (et g0 rfl) (fun cB1 => ?_) (fun cB1 => ?_)
          · skip
            
            obtain ⟨j9, x9, rfl, hx9, hsx⟩ := hpk.pos (by have := of_decide_eq_true cB1; omega)
            obtain ⟨ba, ca, cap9, hSS⟩ := hV.slot hx9
            have hj9 := hSS.lt
            refine c_seq (fun K11 hK11 => ?_)
            exact (by
              refine c_region ?_
              refine l_step (y_moveV (et (gS rfl (gS rfl (gS rfl (gS rfl g0)))) rfl)) ?_
              refine l_step (y_nil (et g0 rfl)) ?_
              refine l_step (y_fld fld_84_1 (et g0 rfl)) ?_
              refine l_step (y_load1 one_77 (et g0 rfl) (at1 (hV.c1 hSS.sl rfl))) ?_
              refine l_step (y_moveV (et (gS rfl (gS rfl (gS rfl (gS rfl (gS rfl g0))))) rfl)) ?_
              refine l_step (y_idxS Hvaa.underlying77 sz_176 (et (gS rfl g0) rfl) (et g0 rfl) ?_ ?_) ?_
              omega
              omega
              refine l_step (y_assignV (et g0 rfl)) ?_
              refine l_nil ?_
              refine hK11 _ _ ?_
              refine fg3 6 7 10 (gS rfl (gS rfl (gS rfl (gS rfl (gS rfl (gS rfl (gS rfl (gS rfl (gS rfl (gS rfl g0)))))))))) (gS rfl (gS rfl (gS rfl (gS rfl (gS rfl (gS rfl (gS rfl (gS rfl (gS rfl g0))))))))) g0 (fun g => ?_)
              refine c_seq (fun K12 hK12 => ?_)
              exact (by
                refine c_draw (Ch (fun k => k = b4 ∨ k = b5)) 15 [(0, true), (1, true), (2, true), (3, true), (4, true), (5, true), (6, true), (7, true), (8, true), (9, true), (10, true), (11, true), (12, false), (13, false), (14, true)] (by kernel_rfl) (fun w13 hu => ⟨Ch.refl _ _, ?_⟩)
                replace k2 := k2.up hu
                replace k3 := k3.up hu
                replace k4 := k4.up hu
                replace k5 := k5.up hu
                replace hV := hV.up hu
                replace hSS := hSS.up hu
                replace U := U.tr hu
                have SU : (Ch (fun k => k = b4 ∨ k = b5)) w13 w13 := Ch.refl _ _
                refine p_step (by exact rfl) (y_moveV (et g0 rfl)) ?_
                refine p_step (by exact rfl) (y_nil (et g0 rfl)) ?_
                refine p_step (by exact rfl) (y_fld fld_176_2 (et g0 rfl)) ?_
                refine p_step (by exact rfl) (y_loadR agg_65 sz_65 (et g0 rfl) rfl (atCR (hSS.rVal (by omega)) (by intro hm; have h9 := hSS.col; first | omega | (subst hm; have h8 := hnw _ (by assumption); omega) | (rcases hm with hm | hm <;> (subst hm; have h8 := hnw _ (by assumption); omega))))) ?_
                refine p_step (by exact rfl) (y_moveV (et (gS rfl (gS rfl (gS rfl (gS rfl g0)))) rfl)) ?_
                refine p_step (by exact rfl) (y_nil (et g0 rfl)) ?_
                refine p_step (by exact rfl) (y_fld fld_176_3 (et g0 rfl)) ?_
                refine p_step (by exact rfl) (y_loadR agg_65 sz_65 (et g0 rfl) rfl (atCR (hSS.rOrig (by omega)) (by intro hm; have h9 := hSS.col; first | omega | (subst hm; have h8 := hnw _ (by assumption); omega) | (rcases hm with hm | hm <;> (subst hm; have h8 := hnw _ (by assumption); omega))))) ?_
                refine p_step (by exact rfl) (y_moveV (et (gS rfl (gS rfl (gS rfl (gS rfl (gS rfl (gS rfl (gS rfl (gS rfl g0)))))))) rfl)) ?_
                refine p_step (by exact rfl) (y_nil (et g0 rfl)) ?_
                refine p_step (by exact rfl) (y_fld fld_176_4 (et g0 rfl)) ?_
                refine p_step (by exact rfl) (y_load1 one_4 (et g0 rfl) (atC (hSS.cWarm (by omega)) (by intro hm; have h9 := hSS.col; first | omega | (subst hm; have h8 := hnw _ (by assumption); omega) | (rcases hm with hm | hm <;> (subst hm; have h8 := hnw _ (by assumption); omega))))) ?_
                refine p_effN (by exact rfl) (e_store sz_65 (et (gS rfl (gS rfl (gS rfl (gS rfl (gS rfl (gS rfl (gS rfl (gS rfl (gS rfl (gS rfl (gS rfl (gS rfl (gS rfl (gS rfl g0)))))))))))))) rfl) (cellsV (et (gS rfl (gS rfl (gS rfl (gS rfl (gS rfl (gS rfl (gS rfl (gS rfl g0)))))))) rfl) rfl) (by first | (simp only [Value.cells, hV, aV, bV, wV, wL, List.size_toArray, length_bL, length_uL, length_be, size_spl, List.length_cons, List.length_nil, List.length_replicate, Nat.zero_add, Nat.reduceAdd, Nat.reduceLeDiff, Nat.le_refl]; done) | rfl) (by first | exact one_bL _ | exact one_uL _ | (intro v hv; simp at hv; subst hv; rfl)) k4 (by first | (simp only [Value.cells, hV, aV, bV, wV, wL, List.size_toArray, length_bL, length_uL, length_be, size_spl, List.length_cons, List.length_nil, List.length_replicate, Nat.zero_add, Nat.reduceAdd, Nat.reduceLeDiff, Nat.le_refl]; done) | exact Nat.le_of_ble_eq_true rfl | simp | omega)) (fun v14 w14 h14 => ?_)
                obtain ⟨rfl, x14⟩ := h14
                replace k2 := k2.ch x14.ch (by omega)
                replace k3 := k3.ch x14.ch (by omega)
                replace k5 := k5.ch x14.ch (by omega)
                replace hV := hV.ch x14.ch (by first | omega | (intro b hb; first | (subst hb; exact ⟨hnw _ (by omega), fun hh => by have := hfz.lt hh; omega⟩) | (rcases hb with hb | hb <;> (subst hb; exact ⟨hnw _ (by omega), fun hh => by have := hfz.lt hh; omega⟩))))
                replace k4 := x14.blk.full (by first | (simp only [Value.cells, hV, aV, bV, wV, wL, List.size_toArray, length_bL, length_uL, length_be, size_spl, List.length_cons, List.length_nil, List.length_replicate, Nat.zero_add, Nat.reduceAdd, Nat.reduceLeDiff, Nat.le_refl]; done) | rfl)
                replace U := U.st x14 f4
                refine ⟨.inr (SU.st x14 (by omega)), ?_⟩
                replace SU := SU.st x14 (by omega)
                exact (by
                  refine p_effN (by exact rfl) (e_store sz_65 (et (gS rfl (gS rfl (gS rfl (gS rfl (gS rfl (gS rfl (gS rfl (gS rfl (gS rfl (gS rfl (gS rfl (gS rfl (gS rfl g0))))))))))))) rfl) (cellsV (et (gS rfl (gS rfl (gS rfl (gS rfl g0)))) rfl) rfl) (by first | (simp only [Value.cells, hV, aV, bV, wV, wL, List.size_toArray, length_bL, length_uL, length_be, size_spl, List.length_cons, List.length_nil, List.length_replicate, Nat.zero_add, Nat.reduceAdd, Nat.reduceLeDiff, Nat.le_refl]; done) | rfl) (by first | exact one_bL _ | exact one_uL _ | (intro v hv; simp at hv; subst hv; rfl)) k5 (by first | (simp only [Value.cells, hV, aV, bV, wV, wL, List.size_toArray, length_bL, length_uL, length_be, size_spl, List.length_cons, List.length_nil, List.length_replicate, Nat.zero_add, Nat.reduceAdd, Nat.reduceLeDiff, Nat.le_refl]; done) | exact Nat.le_of_ble_eq_true rfl | simp | omega)) (fun v15 w15 h15 => ?_)
                  obtain ⟨rfl, x15⟩ := h15
                  replace k2 := k2.ch x15.ch (by omega)
                  replace k3 := k3.ch x15.ch (by omega)
                  replace k4 := k4.ch x15.ch (by omega)
                  replace hV := hV.ch x15.ch (by first | omega | (intro b hb; first | (subst hb; exact ⟨hnw _ (by omega), fun hh => by have := hfz.lt hh; omega⟩) | (rcases hb with hb | hb <;> (subst hb; exact ⟨hnw _ (by omega), fun hh => by have := hfz.lt hh; omega⟩))))
                  replace k5 := x15.blk.full (by first | (simp only [Value.cells, hV, aV, bV, wV, wL, List.size_toArray, length_bL, length_uL, length_be, size_spl, List.length_cons, List.length_nil, List.length_replicate, Nat.zero_add, Nat.reduceAdd, Nat.reduceLeDiff, Nat.le_refl]; done) | rfl)
                  replace U := U.st x15 f5
                  refine ⟨.inr (SU.st x15 (by omega)), ?_⟩
                  replace SU := SU.st x15 (by omega)
                  refine p_step (by exact rfl) (y_assignV (et g0 rfl)) ?_
                  refine p_nil ?_
                  refine hK12 _ _ ?_
                  refine fg3 6 7 8 (gS rfl (gS rfl (gS rfl (gS rfl (gS rfl (gS rfl (gS rfl (gS rfl (gS rfl (gS rfl (gS rfl (gS rfl (gS rfl (gS rfl (gS rfl g0))))))))))))))) (gS rfl (gS rfl (gS rfl (gS rfl (gS rfl (gS rfl (gS rfl (gS rfl (gS rfl (gS rfl (gS rfl (gS rfl (gS rfl (gS rfl g0)))))))))))))) g0 (fun g => ?_)
                  refine c_ret ?_
                  repeat with_reducible refine then_ret ?_
                  refine ret3 rfl (res_blk agg_65 sz_65 (et (gS rfl (gS rfl g0)) rfl) (by first | (simp only [Value.cells, hV, aV, bV, wV, wL, List.size_toArray, length_bL, length_uL, length_be, size_spl, List.length_cons, List.length_nil, List.length_replicate, Nat.zero_add, Nat.reduceAdd, Nat.reduceLeDiff, Nat.le_refl]; done) | rfl) k4) (res_blk agg_65 sz_65 (et (gS rfl g0) rfl) (by first | (simp only [Value.cells, hV, aV, bV, wV, wL, List.size_toArray, length_bL, length_uL, length_be, size_spl, List.length_cons, List.length_nil, List.length_replicate, Nat.zero_add, Nat.reduceAdd, Nat.reduceLeDiff, Nat.le_refl]; done) | rfl) k5) (res_tmp (et g0 rfl)) ?_
                  exact ⟨by rw [hsx]; rfl, U⟩)))
          · skip
            
            obtain ⟨rfl, hsx⟩ := hpk.neg (by have := of_decide_eq_false cB1; omega)
            refine c_skip ?_
            refine hK6 _ _ ?_
            refine fg2 6 7 (gS rfl (gS rfl (gS rfl g0))) (gS rfl (gS rfl g0)) (fun g => ?_)
            refine c_seq (fun K16 hK16 => ?_)
            exact (by
              refine c_region ?_
              refine l_step (y_bld bN bld65_z) ?_
              refine l_step (y_bld bN bld65_z) ?_
              refine l_effN (e_store sz_65 (et (gS rfl (gS rfl (gS rfl g0))) rfl) (cellsV (et (gS rfl g0) rfl) rfl) (by first | (simp only [Value.cells, hV, aV, bV, wV, wL, List.size_toArray, length_bL, length_uL, length_be, size_spl, List.length_cons, List.length_nil, List.length_replicate, Nat.zero_add, Nat.reduceAdd, Nat.reduceLeDiff, Nat.le_refl]; done) | rfl) (by first | exact one_bL _ | exact one_uL _ | (intro v hv; simp at hv; subst hv; rfl)) k4 (by first | (simp only [Value.cells, hV, aV, bV, wV, wL, List.size_toArray, length_bL, length_uL, length_be, size_spl, List.length_cons, List.length_nil, List.length_replicate, Nat.zero_add, Nat.reduceAdd, Nat.reduceLeDiff, Nat.le_refl]; done) | exact Nat.le_of_ble_eq_true rfl | simp | omega)) (fun v17 w17 h17 => ?_)
              obtain ⟨rfl, x17⟩ := h17
              replace k2 := k2.ch x17.ch (by omega)
              replace k3 := k3.ch x17.ch (by omega)
              replace k5 := k5.ch x17.ch (by omega)
              replace hV := hV.ch x17.ch (by first | omega | (intro b hb; first | (subst hb; exact ⟨hnw _ (by omega), fun hh => by have := hfz.lt hh; omega⟩) | (rcases hb with hb | hb <;> (subst hb; exact ⟨hnw _ (by omega), fun hh => by have := hfz.lt hh; omega⟩))))
              replace k4 := x17.blk.full (by first | (simp only [Value.cells, hV, aV, bV, wV, wL, List.size_toArray, length_bL, length_uL, length_be, size_spl, List.length_cons, List.length_nil, List.length_replicate, Nat.zero_add, Nat.reduceAdd, Nat.reduceLeDiff, Nat.le_refl]; done) | rfl)
              replace U := U.st x17 f4
              refine l_effN (e_store sz_65 (et (gS rfl (gS rfl g0)) rfl) (cellsV (et g0 rfl) rfl) (by first | (simp only [Value.cells, hV, aV, bV, wV, wL, List.size_toArray, length_bL, length_uL, length_be, size_spl, List.length_cons, List.length_nil, List.length_replicate, Nat.zero_add, Nat.reduceAdd, Nat.reduceLeDiff, Nat.le_refl]; done) | rfl) (by first | exact one_bL _ | exact one_uL _ | (intro v hv; simp at hv; subst hv; rfl)) k5 (by first | (simp only [Value.cells, hV, aV, bV, wV, wL, List.size_toArray, length_bL, length_uL, length_be, size_spl, List.length_cons, List.length_nil, List.length_replicate, Nat.zero_add, Nat.reduceAdd, Nat.reduceLeDiff, Nat.le_refl]; done) | exact Nat.le_of_ble_eq_true rfl | simp | omega)) (fun v18 w18 h18 => ?_)
              obtain ⟨rfl, x18⟩ := h18
              replace k2 := k2.ch x18.ch (by omega)
              replace k3 := k3.ch x18.ch (by omega)
              replace k4 := k4.ch x18.ch (by omega)
              replace hV := hV.ch x18.ch (by first | omega | (intro b hb; first | (subst hb; exact ⟨hnw _ (by omega), fun hh => by have := hfz.lt hh; omega⟩) | (rcases hb with hb | hb <;> (subst hb; exact ⟨hnw _ (by omega), fun hh => by have := hfz.lt hh; omega⟩))))
              replace k5 := x18.blk.full (by first | (simp only [Value.cells, hV, aV, bV, wV, wL, List.size_toArray, length_bL, length_uL, length_be, size_spl, List.length_cons, List.length_nil, List.length_replicate, Nat.zero_add, Nat.reduceAdd, Nat.reduceLeDiff, Nat.le_refl]; done) | rfl)
              replace U := U.st x18 f5
              refine l_step y_assignC ?_
              refine l_nil ?_
              refine hK16 _ _ ?_
              refine fg3 6 7 8 (gS rfl (gS rfl (gS rfl (gS rfl g0)))) (gS rfl (gS rfl (gS rfl g0))) g0 (fun g => ?_)
              refine c_ret ?_
              repeat with_reducible refine then_ret ?_
              refine ret3 rfl (res_blk agg_65 sz_65 (et (gS rfl (gS rfl g0)) rfl) (by first | (simp only [Value.cells, hV, aV, bV, wV, wL, List.size_toArray, length_bL, length_uL, length_be, size_spl, List.length_cons, List.length_nil, List.length_replicate, Nat.zero_add, Nat.reduceAdd, Nat.reduceLeDiff, Nat.le_refl]; done) | rfl) k4) (res_blk agg_65 sz_65 (et (gS rfl g0) rfl) (by first | (simp only [Value.cells, hV, aV, bV, wV, wL, List.size_toArray, length_bL, length_uL, length_be, size_spl, List.length_cons, List.length_nil, List.length_replicate, Nat.zero_add, Nat.reduceAdd, Nat.reduceLeDiff, Nat.le_refl]; done) | rfl) k5) (res_tmp (et g0 rfl)) ?_
              exact ⟨by rw [hsx]; rfl, U⟩)))))
theorem v_isWarmSlot {w : World} {H : Store} {col : Nat → Nat} {bc : Nat} {cs : Array Value} {V : EV} (hV : VL w H col bc cs V) (ho : VOk V) (a k : Nat) (ha : a < A160) (hk : k < W256) :
    Ret 174 [.pointer (some ⟨bc, 2435, none⟩), aV a, wV k] w (fun v w' => v = .bool ((absV V).warmS a k) ∧ Up w w') := by
  have hnw := hV.new
  have hfz := hV.fz
  refine enter (n := 24) Hvaa.func174 rfl rfl (Nat.le_of_ble_eq_true rfl) ?_
  have U := Up.refl w
  refine c_seq (fun K1 hK1 => ?_)
  exact (by
    refine c_region ?_
    refine l_eff (e_boxV (et (gS rfl g0) rfl)) (fun v2 w2 h2 => ?_)
    obtain ⟨b2, rfl, n2⟩ := h2
    have f2 : w.heap.size ≤ b2 := Nat.le_trans U.size n2.fresh
    replace hV := hV.up n2.up
    replace U := U.tr n2.up
    have k2 := n2.blk
    replace k2 : Blk w2 b2 (bL (be 20 a)).toArray := k2
    refine l_eff (e_boxV (et (gS rfl (gS rfl (gS rfl g0))) rfl)) (fun v3 w3 h3 => ?_)
    obtain ⟨b3, rfl, n3⟩ := h3
    have d2_3 : b2 < b3 := Nat.lt_of_lt_of_le k2.lt n3.fresh
    have f3 : w.heap.size ≤ b3 := Nat.le_trans U.size n3.fresh
    replace k2 := k2.up n3.up
    replace hV := hV.up n3.up
    replace U := U.tr n3.up
    have k3 := n3.blk
    refine l_step y_assignC ?_
    refine l_nil ?_
    refine hK1 _ _ ?_
    refine fg3 0 4 5 (gS rfl (gS rfl (gS rfl g0))) (gS rfl (gS rfl g0)) (gS rfl g0) (fun g => ?_)
    refine c_seq (fun K4 hK4 => ?_)
    exact (by
      refine c_region ?_
      refine l_step (y_moveV (et (gS rfl (gS rfl g0)) rfl)) ?_
      refine l_step (y_loadB agg_25 sz_25 (et (gS rfl (gS rfl g0)) rfl) (by rw [List.size_toArray, length_bL, length_be]) (at1B k2)) ?_
      refine l_step (y_loadB agg_65 sz_65 (et (gS rfl (gS rfl g0)) rfl) (by first | (simp only [Value.cells, hV, aV, bV, wV, wL, List.size_toArray, length_bL, length_uL, length_be, size_spl, List.length_cons, List.length_nil, List.length_replicate, Nat.zero_add, Nat.reduceAdd, Nat.reduceLeDiff, Nat.le_refl]; done) | rfl) (at1B k3)) ?_
      refine l_eff (e_callV cal_247 (aC (et (gS rfl (gS rfl g0)) rfl) (aC (et (gS rfl g0) rfl) (aC (et g0 rfl) aN))) (v_peekSlot hV ho a k ha hk)) (fun v5 w5 h5 => ?_)
      obtain ⟨i5, rfl, hpk, u5⟩ := h5
      replace k2 := k2.up u5
      replace k3 := k3.up u5
      replace hV := hV.up u5
      replace U := U.tr u5
      refine l_step (y_assignV (et g0 rfl)) ?_
      refine l_nil ?_
      refine hK4 _ _ ?_
      refine fg2 0 7 (gS rfl (gS rfl (gS rfl (gS rfl (gS rfl (gS rfl (gS rfl g0))))))) g0 (fun g => ?_)
      refine c_seq (fun K6 hK6 => ?_)
      exact (by
        refine c_region ?_
        refine l_step (y_moveV (et g0 rfl)) ?_
        refine l_step (y_geq (et g0 rfl) rfl) ?_
        refine l_step (y_moveV (et g0 rfl)) ?_
        refine gsplitL (i := 14) g0 (fun q7 => ?_) (fun q7 => ?_)
        · skip
          obtain ⟨j9, x9, rfl, hx9, hsx⟩ := hpk.pos (by have := of_decide_eq_true q7; omega)
          obtain ⟨ba, ca, cap9, hSS⟩ := hV.slot hx9
          have hj9 := hSS.lt
          refine l_gstep (j := 2) (t := 14) (by exact rfl) (by exact rfl) (et g0 rfl) (by decide) (y_moveV (et (gS rfl (gS rfl (gS rfl (gS rfl (gS rfl g0))))) rfl)) ?_
          refine l_gstep (j := 2) (t := 14) (by exact rfl) (by exact rfl) (et (gS rfl g0) rfl) (by decide) (y_nil (et g0 rfl)) ?_
          refine l_gstep (j := 2) (t := 14) (by exact rfl) (by exact rfl) (et (gS rfl (gS rfl g0)) rfl) (by decide) (y_fld fld_84_1 (et g0 rfl)) ?_
          refine l_gstep (j := 2) (t := 14) (by exact rfl) (by exact rfl) (et (gS rfl (gS rfl (gS rfl g0))) rfl) (by decide) (y_load1 one_77 (et g0 rfl) (at1 (hV.c1 hSS.sl rfl))) ?_
          refine l_gstep (j := 2) (t := 14) (by exact rfl) (by exact rfl) (et (gS rfl (gS rfl (gS rfl (gS rfl g0)))) rfl) (by decide) (y_moveV (et (gS rfl (gS rfl (gS rfl (gS rfl (gS rfl (gS rfl (gS rfl (gS rfl g0)))))))) rfl)) ?_
          refine l_gstep (j := 2) (t := 14) (by exact rfl) (by exact rfl) (et (gS rfl (gS rfl (gS rfl (gS rfl (gS rfl g0))))) rfl) (by decide) (y_idxS Hvaa.underlying77 sz_176 (et (gS rfl g0) rfl) (et g0 rfl) ?_ ?_) ?_
          omega
          omega
          refine l_gstep (j := 2) (t := 14) (by exact rfl) (by exact rfl) (et (gS rfl (gS rfl (gS rfl (gS rfl (gS rfl (gS rfl g0)))))) rfl) (by decide) (y_fld fld_176_4 (et g0 rfl)) ?_
          refine l_gstep (j := 2) (t := 14) (by exact rfl) (by exact rfl) (et (gS rfl (gS rfl (gS rfl (gS rfl (gS rfl (gS rfl (gS rfl g0))))))) rfl) (by decide) (y_load1 one_4 (et g0 rfl) (at1 (hSS.cWarm (by omega)))) ?_
          refine l_step (y_pickT (et (gS rfl (gS rfl (gS rfl (gS rfl (gS rfl (gS rfl (gS rfl (gS rfl g0)))))))) rfl) (et g0 rfl)) ?_
          refine l_step (y_assignV (et g0 rfl)) ?_
          refine l_nil ?_
          refine hK6 _ _ ?_
          refine fg1 6 g0 (fun g => ?_)
          refine c_ret ?_
          repeat with_reducible refine then_ret ?_
          refine ret1 rfl (res_tmp (et g0 rfl)) ?_
          exact ⟨by show _ = Value.bool (sx V a k).warm; rw [hsx], U⟩
        · skip
          obtain ⟨rfl, hsx⟩ := hpk.neg (by have := of_decide_eq_false q7; omega)
          refine l_gskip (j := 2) (t := 14) (by exact rfl) (by exact rfl) (et g0 rfl) (by decide) (by decide) ?_
          refine l_gskip (j := 2) (t := 14) (by exact rfl) (by exact rfl) (et (gS rfl g0) rfl) (by decide) (by decide) ?_
          refine l_gskip (j := 2) (t := 14) (by exact rfl) (by exact rfl) (et (gS rfl (gS rfl g0)) rfl) (by decide) (by decide) ?_
          refine l_gskip (j := 2) (t := 14) (by exact rfl) (by exact rfl) (et (gS rfl (gS rfl (gS rfl g0))) rfl) (by decide) (by decide) ?_
          refine l_gskip (j := 2) (t := 14) (by exact rfl) (by exact rfl) (et (gS rfl (gS rfl (gS rfl (gS rfl g0)))) rfl) (by decide) (by decide) ?_
          refine l_gskip (j := 2) (t := 14) (by exact rfl) (by exact rfl) (et (gS rfl (gS rfl (gS rfl (gS rfl (gS rfl g0))))) rfl) (by decide) (by decide) ?_
          refine l_gskip (j := 2) (t := 14) (by exact rfl) (by exact rfl) (et (gS rfl (gS rfl (gS rfl (gS rfl (gS rfl (gS rfl g0)))))) rfl) (by decide) (by decide) ?_
          refine l_gskip (j := 2) (t := 14) (by exact rfl) (by exact rfl) (et (gS rfl (gS rfl (gS rfl (gS rfl (gS rfl (gS rfl (gS rfl g0))))))) rfl) (by decide) (by decide) ?_
          refine l_step (y_pickF (et (gS rfl (gS rfl (gS rfl (gS rfl (gS rfl (gS rfl (gS rfl (gS rfl g0)))))))) rfl) rfl) ?_
          refine l_step (y_assignV (et g0 rfl)) ?_
          refine l_nil ?_
          refine hK6 _ _ ?_
          refine fg1 6 g0 (fun g => ?_)
          refine c_ret ?_
          repeat with_reducible refine then_ret ?_
          refine ret1 rfl (res_tmp (et g0 rfl)) ?_
          exact ⟨by show _ = Value.bool (sx V a k).warm; rw [hsx]; rfl, U⟩)))
def FdT (V : EV) (q k : Nat) (i : Int) : Prop := (∃ (j : Nat) (x : ETemp), i = j ∧ V.temps[j]? = some x ∧ x.acct = q ∧ x.key = k) ∨ (i = -1 ∧ (q, k) ∉ tKs V.temps)
theorem FdT.pos {V : EV} {q k : Nat} {i : Int} (h : FdT V q k i) (hi : 0 ≤ i) : ∃ (j : Nat) (x : ETemp), i = j ∧ V.temps[j]? = some x ∧ x.acct = q ∧ x.key = k := by
  rcases h with h | h
  · exact h
  · omega
theorem FdT.neg {V : EV} {q k : Nat} {i : Int} (h : FdT V q k i) (hi : ¬ 0 ≤ i) : (q, k) ∉ tKs V.temps := by
  rcases h with ⟨j, x, h, _⟩ | h
  · omega
  · exact h.2
theorem v_findTemp {w : World} {H : Store} {col : Nat → Nat} {bc : Nat} {cs : Array Value} {V : EV} (hV : VL w H col bc cs V) (ho : VOk V) (q k : Nat) (hq0 : q < 2560) (hk : k < W256) : Ret 382 [.pointer (some ⟨bc, 2435, none⟩), .int .i32 (q : Nat), wV k] w (fun v w' => ∃ i : Int × Int, v = .tuple #[.int .i32 i.1, .int .i32 i.2] ∧ FdT V q k i.1 ∧ Up w w') := by
  cases h : V.tm with
  | false =>
    refine (v_findTemp0 hV ho q k h).mono fun v w' ⟨h1, h2⟩ => ⟨(-1, -1), h1, .inr ⟨rfl, by rw [ho.t0 h]; simp [tKs]⟩, h2⟩
  | true =>
    refine (v_findTemp1 hV ho q k hq0 hk h).mono fun v w' ⟨i, f, h1, h2, h3⟩ => ⟨(i, f), h1, ?_, h3⟩
    rcases h2 with ⟨j, ⟨x, a1, a2, a3⟩, b1, b2, _⟩ | ⟨h2, h4, _⟩
    · exact .inl ⟨j, x, b2, a1, a2, a3⟩
    · exact .inr ⟨h4, mT_no h2⟩
theorem v_tload {w : World} {H : Store} {col : Nat → Nat} {bc : Nat} {cs : Array Value} {V : EV} (hV : VL w H col bc cs V) (ho : VOk V) (a k : Nat) (ha : a < A160) (hk : k < W256) :
    Ret 310 [.pointer (some ⟨bc, 2435, none⟩), aV a, wV k] w (fun v w' => v = wV ((absV V).temp a k) ∧ Up w w') := by
  have hnw := hV.new
  have hfz := hV.fz
  refine enter (n := 38) Hvaa.func310 rfl rfl (Nat.le_of_ble_eq_true rfl) ?_
  have U := Up.refl w
  refine c_seq (fun K1 hK1 => ?_)
  exact (by
    refine c_region ?_
    refine l_eff (e_boxV (et (gS rfl g0) rfl)) (fun v2 w2 h2 => ?_)
    obtain ⟨b2, rfl, n2⟩ := h2
    have f2 : w.heap.size ≤ b2 := Nat.le_trans U.size n2.fresh
    replace hV := hV.up n2.up
    replace U := U.tr n2.up
    have k2 := n2.blk
    replace k2 : Blk w2 b2 (bL (be 20 a)).toArray := k2
    refine l_eff (e_boxV (et (gS rfl (gS rfl (gS rfl g0))) rfl)) (fun v3 w3 h3 => ?_)
    obtain ⟨b3, rfl, n3⟩ := h3
    have d2_3 : b2 < b3 := Nat.lt_of_lt_of_le k2.lt n3.fresh
    have f3 : w.heap.size ≤ b3 := Nat.le_trans U.size n3.fresh
    replace k2 := k2.up n3.up
    replace hV := hV.up n3.up
    replace U := U.tr n3.up
    have k3 := n3.blk
    refine l_eff (e_alloc zr_65) (fun v4 w4 h4 => ?_)
    obtain ⟨b4, rfl, n4⟩ := h4
    have d2_4 : b2 < b4 := Nat.lt_of_lt_of_le k2.lt n4.fresh
    have d3_4 : b3 < b4 := Nat.lt_of_lt_of_le k3.lt n4.fresh
    have f4 : w.heap.size ≤ b4 := Nat.le_trans U.size n4.fresh
    replace k2 := k2.up n4.up
    replace k3 := k3.up n4.up
    replace hV := hV.up n4.up
    replace U := U.tr n4.up
    have k4 := n4.blk
    refine l_nil ?_
    refine hK1 _ _ ?_
    refine fg4 0 4 5 6 (gS rfl (gS rfl (gS rfl g0))) (gS rfl (gS rfl g0)) (gS rfl g0) g0 (fun g => ?_)
    refine c_seq (fun K5 hK5 => ?_)
    exact (by
      refine c_region ?_
      refine l_step (y_moveV (et (gS rfl (gS rfl (gS rfl g0))) rfl)) ?_
      refine l_step (y_loadB agg_25 sz_25 (et (gS rfl (gS rfl (gS rfl g0))) rfl) (by rw [List.size_toArray, length_bL, length_be]) (at1B k2)) ?_
      refine l_eff (e_callV cal_159 (aC (et (gS rfl g0) rfl) (aC (et g0 rfl) aN)) (v_findAcct hV ho a ha)) (fun v6 w6 h6 => ?_)
      obtain ⟨i6, f6, rfl, hfd, u6⟩ := h6
      replace k2 := k2.up u6
      replace k3 := k3.up u6
      replace k4 := k4.up u6
      replace hV := hV.up u6
      replace U := U.tr u6
      refine l_step (y_moveV (et g0 rfl)) ?_
      refine l_step (y_ext (et g0 rfl) rfl) ?_
      refine l_step (y_ext (et (gS rfl g0) rfl) rfl) ?_
      refine l_step (y_assignV (et (gS rfl g0) rfl)) ?_
      refine l_step (y_assignV (et (gS rfl g0) rfl)) ?_
      refine l_nil ?_
      refine hK5 _ _ ?_
      refine fg4 0 5 6 7 (gS rfl (gS rfl (gS rfl (gS rfl (gS rfl (gS rfl (gS rfl (gS rfl (gS rfl (gS rfl (gS rfl g0))))))))))) (gS rfl (gS rfl (gS rfl (gS rfl (gS rfl (gS rfl (gS rfl (gS rfl (gS rfl g0))))))))) (gS rfl (gS rfl (gS rfl (gS rfl (gS rfl (gS rfl (gS rfl (gS rfl g0)))))))) (gS rfl g0) (fun g => ?_)
      refine c_seq (fun K7 hK7 => ?_)
      refine c_seq (fun K8 hK8 => ?_)
      exact (by
        refine c_region ?_
        refine l_step (y_moveV (et g0 rfl)) ?_
        refine l_step (y_lss (et g0 rfl) rfl) ?_
        refine l_nil ?_
        refine hK8 _ _ ?_
        refine fg5 0 5 6 7 18 (gS rfl (gS rfl (gS rfl (gS rfl (gS rfl g0))))) (gS rfl (gS rfl (gS rfl (gS rfl g0)))) (gS rfl (gS rfl (gS rfl g0))) (gS rfl (gS rfl g0)) g0 (fun g => ?_)
        refine c_cond (et g0 rfl) (fun cB1 => ?_) (fun cB1 => ?_)
        · skip
          
          obtain ⟨hno, rfl, p9, rfl, hfr⟩ := hfd.neg (by have := of_decide_eq_true cB1; omega)
          refine c_seq (fun K10 hK10 => ?_)
          exact (by
            refine c_region ?_
            refine l_step (y_bld bN bld65_z) ?_
            refine l_effN (e_store sz_65 (et (gS rfl (gS rfl (gS rfl g0))) rfl) (cellsV (et g0 rfl) rfl) (by first | (simp only [Value.cells, hV, aV, bV, wV, wL, List.size_toArray, length_bL, length_uL, length_be, size_spl, List.length_cons, List.length_nil, List.length_replicate, Nat.zero_add, Nat.reduceAdd, Nat.reduceLeDiff, Nat.le_refl]; done) | rfl) (by first | exact one_bL _ | exact one_uL _ | (intro v hv; simp at hv; subst hv; rfl)) k4 (by first | (simp only [Value.cells, hV, aV, bV, wV, wL, List.size_toArray, length_bL, length_uL, length_be, size_spl, List.length_cons, List.length_nil, List.length_replicate, Nat.zero_add, Nat.reduceAdd, Nat.reduceLeDiff, Nat.le_refl]; done) | exact Nat.le_of_ble_eq_true rfl | simp | omega)) (fun v11 w11 h11 => ?_)
            obtain ⟨rfl, x11⟩ := h11
            replace k2 := k2.ch x11.ch (by omega)
            replace k3 := k3.ch x11.ch (by omega)
            replace hV := hV.ch x11.ch (by first | omega | (intro b hb; first | (subst hb; exact ⟨hnw _ (by omega), fun hh => by have := hfz.lt hh; omega⟩) | (rcases hb with hb | hb <;> (subst hb; exact ⟨hnw _ (by omega), fun hh => by have := hfz.lt hh; omega⟩))))
            replace k4 := x11.blk.full (by first | (simp only [Value.cells, hV, aV, bV, wV, wL, List.size_toArray, length_bL, length_uL, length_be, size_spl, List.length_cons, List.length_nil, List.length_replicate, Nat.zero_add, Nat.reduceAdd, Nat.reduceLeDiff, Nat.le_refl]; done) | rfl)
            replace U := U.st x11 f4
            refine l_nil ?_
            refine hK10 _ _ ?_
            refine fg1 6 (gS rfl (gS rfl (gS rfl g0))) (fun g => ?_)
            refine c_ret ?_
            repeat with_reducible refine then_ret ?_
            refine ret1 rfl (res_blk agg_65 sz_65 (et g0 rfl) (by first | (simp only [Value.cells, hV, aV, bV, wV, wL, List.size_toArray, length_bL, length_uL, length_be, size_spl, List.length_cons, List.length_nil, List.length_replicate, Nat.zero_add, Nat.reduceAdd, Nat.reduceLeDiff, Nat.le_refl]; done) | rfl) k4) ?_
            exact ⟨by show _ = wV (tx V a k).val; rw [tx_noA ho.ta (mA_no hno)]; rfl, U⟩)
        · skip
          
          obtain ⟨k9, ⟨x9, hx9, hxa⟩, hk9, rfl, rfl⟩ := hfd.pos (by have := of_decide_eq_false cB1; omega)
          have hb9 := ho.bd.accts
          have hai := ai_eq ho hx9 hxa
          refine c_skip ?_
          refine hK7 _ _ ?_
          refine fg4 0 5 6 7 (gS rfl (gS rfl (gS rfl (gS rfl g0)))) (gS rfl (gS rfl (gS rfl g0))) (gS rfl (gS rfl g0)) (gS rfl g0) (fun g => ?_)
          refine c_seq (fun K12 hK12 => ?_)
          refine c_seq (fun K13 hK13 => ?_)
          exact (by
            refine c_region ?_
            refine l_step (y_moveV (et (gS rfl (gS rfl (gS rfl g0))) rfl)) ?_
            refine l_step (y_moveV (et (gS rfl g0) rfl)) ?_
            refine l_step (y_loadB agg_65 sz_65 (et (gS rfl (gS rfl (gS rfl (gS rfl g0)))) rfl) (by first | (simp only [Value.cells, hV, aV, bV, wV, wL, List.size_toArray, length_bL, length_uL, length_be, size_spl, List.length_cons, List.length_nil, List.length_replicate, Nat.zero_add, Nat.reduceAdd, Nat.reduceLeDiff, Nat.le_refl]; done) | rfl) (at1B k3)) ?_
            refine l_eff (e_callV cal_382 (aC (et (gS rfl (gS rfl g0)) rfl) (aC (et (gS rfl g0) rfl) (aC (et g0 rfl) aN))) (v_findTemp hV ho k9 k (by omega) hk)) (fun v14 w14 h14 => ?_)
            obtain ⟨⟨j14, g14⟩, rfl, hfe, u14⟩ := h14
            replace k2 := k2.up u14
            replace k3 := k3.up u14
            replace k4 := k4.up u14
            replace hV := hV.up u14
            replace U := U.tr u14
            refine l_step (y_moveV (et g0 rfl)) ?_
            refine l_step (y_ext (et g0 rfl) rfl) ?_
            refine l_step (y_ext (et (gS rfl g0) rfl) rfl) ?_
            refine l_step (y_assignV (et (gS rfl g0) rfl)) ?_
            refine l_step (y_assignV (et (gS rfl g0) rfl)) ?_
            refine l_nil ?_
            refine hK13 _ _ ?_
            refine fg3 0 6 9 (gS rfl (gS rfl (gS rfl (gS rfl (gS rfl (gS rfl (gS rfl (gS rfl (gS rfl (gS rfl (gS rfl (gS rfl g0)))))))))))) (gS rfl (gS rfl (gS rfl (gS rfl (gS rfl (gS rfl (gS rfl (gS rfl (gS rfl (gS rfl g0)))))))))) (gS rfl g0) (fun g => ?_)
            refine c_seq (fun K15 hK15 => ?_)
            exact (by
              refine c_region ?_
              refine l_step (y_moveV (et g0 rfl)) ?_
              refine l_step (y_geq (et g0 rfl) rfl) ?_
              refine l_nil ?_
              refine hK15 _ _ ?_
              refine fg4 0 6 9 28 (gS rfl (gS rfl (gS rfl (gS rfl g0)))) (gS rfl (gS rfl (gS rfl g0))) (gS rfl (gS rfl g0)) g0 (fun g => ?_)
              refine c_cond (et g0 rfl) (fun cB2 => ?_) (fun cB2 => ?_)
              · skip
                
                obtain ⟨q9, y9, hi9, hy9, hya, hyk⟩ := FdT.pos hfe (by have := of_decide_eq_true cB2; omega)
                have hi9 : j14 = _ := hi9
                subst hi9
                obtain ⟨ba, ca, cap9, hTT⟩ := hV.temp hy9
                have hj9 := hTT.lt
                have htx := tx_eq ho hy9 (by rw [hya, hai]) hyk
                refine c_seq (fun K17 hK17 => ?_)
                exact (by
                  refine c_region ?_
                  refine l_step (y_moveV (et (gS rfl (gS rfl (gS rfl g0))) rfl)) ?_
                  refine l_step (y_nil (et g0 rfl)) ?_
                  refine l_step (y_fld fld_84_9 (et g0 rfl)) ?_
                  refine l_step (y_load1 one_81 (et g0 rfl) (at1 (hV.c1 hTT.sl rfl))) ?_
                  refine l_step (y_moveV (et (gS rfl (gS rfl (gS rfl (gS rfl (gS rfl g0))))) rfl)) ?_
                  refine l_step (y_idxS Hvaa.underlying81 sz_430 (et (gS rfl g0) rfl) (et g0 rfl) ?_ ?_) ?_
                  omega
                  omega
                  refine l_step (y_fld fld_430_2 (et g0 rfl)) ?_
                  refine l_step (y_loadR agg_65 sz_65 (et g0 rfl) rfl (at1R (hTT.rVal (by omega)))) ?_
                  refine l_effN (e_store sz_65 (et (gS rfl (gS rfl (gS rfl (gS rfl (gS rfl (gS rfl (gS rfl (gS rfl (gS rfl (gS rfl g0)))))))))) rfl) (cellsV (et g0 rfl) rfl) (by first | (simp only [Value.cells, hV, aV, bV, wV, wL, List.size_toArray, length_bL, length_uL, length_be, size_spl, List.length_cons, List.length_nil, List.length_replicate, Nat.zero_add, Nat.reduceAdd, Nat.reduceLeDiff, Nat.le_refl]; done) | rfl) (by first | exact one_bL _ | exact one_uL _ | (intro v hv; simp at hv; subst hv; rfl)) k4 (by first | (simp only [Value.cells, hV, aV, bV, wV, wL, List.size_toArray, length_bL, length_uL, length_be, size_spl, List.length_cons, List.length_nil, List.length_replicate, Nat.zero_add, Nat.reduceAdd, Nat.reduceLeDiff, Nat.le_refl]; done) | exact Nat.le_of_ble_eq_true rfl | simp | omega)) (fun v18 w18 h18 => ?_)
                  obtain ⟨rfl, x18⟩ := h18
                  replace k2 := k2.ch x18.ch (by omega)
                  replace k3 := k3.ch x18.ch (by omega)
                  replace hV := hV.ch x18.ch (by first | omega | (intro b hb; first | (subst hb; exact ⟨hnw _ (by omega), fun hh => by have := hfz.lt hh; omega⟩) | (rcases hb with hb | hb <;> (subst hb; exact ⟨hnw _ (by omega), fun hh => by have := hfz.lt hh; omega⟩))))
                  replace k4 := x18.blk.full (by first | (simp only [Value.cells, hV, aV, bV, wV, wL, List.size_toArray, length_bL, length_uL, length_be, size_spl, List.length_cons, List.length_nil, List.length_replicate, Nat.zero_add, Nat.reduceAdd, Nat.reduceLeDiff, Nat.le_refl]; done) | rfl)
                  replace U := U.st x18 f4
                  refine l_nil ?_
                  refine hK17 _ _ ?_
                  refine fg1 6 (gS rfl (gS rfl (gS rfl (gS rfl (gS rfl (gS rfl (gS rfl (gS rfl (gS rfl (gS rfl g0)))))))))) (fun g => ?_)
                  refine c_ret ?_
                  repeat with_reducible refine then_ret ?_
                  refine ret1 rfl (res_blk agg_65 sz_65 (et g0 rfl) (by first | (simp only [Value.cells, hV, aV, bV, wV, wL, List.size_toArray, length_bL, length_uL, length_be, size_spl, List.length_cons, List.length_nil, List.length_replicate, Nat.zero_add, Nat.reduceAdd, Nat.reduceLeDiff, Nat.le_refl]; done) | rfl) k4) ?_
                  exact ⟨by show _ = wV (tx V a k).val; rw [htx]; rfl, U⟩)
              · skip
                
                have htx := tx_no (a := a) (k := k) (V := V) (by rw [hai]; exact FdT.neg hfe (by have := of_decide_eq_false cB2; omega))
                refine c_skip ?_
                refine hK12 _ _ ?_
                refine fg1 6 (gS rfl (gS rfl g0)) (fun g => ?_)
                refine c_seq (fun K19 hK19 => ?_)
                exact (by
                  refine c_region ?_
                  refine l_step (y_bld bN bld65_z) ?_
                  refine l_effN (e_store sz_65 (et (gS rfl g0) rfl) (cellsV (et g0 rfl) rfl) (by first | (simp only [Value.cells, hV, aV, bV, wV, wL, List.size_toArray, length_bL, length_uL, length_be, size_spl, List.length_cons, List.length_nil, List.length_replicate, Nat.zero_add, Nat.reduceAdd, Nat.reduceLeDiff, Nat.le_refl]; done) | rfl) (by first | exact one_bL _ | exact one_uL _ | (intro v hv; simp at hv; subst hv; rfl)) k4 (by first | (simp only [Value.cells, hV, aV, bV, wV, wL, List.size_toArray, length_bL, length_uL, length_be, size_spl, List.length_cons, List.length_nil, List.length_replicate, Nat.zero_add, Nat.reduceAdd, Nat.reduceLeDiff, Nat.le_refl]; done) | exact Nat.le_of_ble_eq_true rfl | simp | omega)) (fun v20 w20 h20 => ?_)
                  obtain ⟨rfl, x20⟩ := h20
                  replace k2 := k2.ch x20.ch (by omega)
                  replace k3 := k3.ch x20.ch (by omega)
                  replace hV := hV.ch x20.ch (by first | omega | (intro b hb; first | (subst hb; exact ⟨hnw _ (by omega), fun hh => by have := hfz.lt hh; omega⟩) | (rcases hb with hb | hb <;> (subst hb; exact ⟨hnw _ (by omega), fun hh => by have := hfz.lt hh; omega⟩))))
                  replace k4 := x20.blk.full (by first | (simp only [Value.cells, hV, aV, bV, wV, wL, List.size_toArray, length_bL, length_uL, length_be, size_spl, List.length_cons, List.length_nil, List.length_replicate, Nat.zero_add, Nat.reduceAdd, Nat.reduceLeDiff, Nat.le_refl]; done) | rfl)
                  replace U := U.st x20 f4
                  refine l_nil ?_
                  refine hK19 _ _ ?_
                  refine fg1 6 (gS rfl g0) (fun g => ?_)
                  refine c_ret ?_
                  repeat with_reducible refine then_ret ?_
                  refine ret1 rfl (res_blk agg_65 sz_65 (et g0 rfl) (by first | (simp only [Value.cells, hV, aV, bV, wV, wL, List.size_toArray, length_bL, length_uL, length_be, size_spl, List.length_cons, List.length_nil, List.length_replicate, Nat.zero_add, Nat.reduceAdd, Nat.reduceLeDiff, Nat.le_refl]; done) | rfl) k4) ?_
                  exact ⟨by show _ = wV (tx V a k).val; rw [htx]; rfl, U⟩))))))
theorem v_sizes {w : World} {H : Store} {col : Nat → Nat} {bc : Nat} {cs : Array Value} {V : EV} (hV : VL w H col bc cs V) (ho : VOk V) :
    Ret 92 [.pointer (some ⟨bc, 2435, none⟩)] w (fun v w' => v = .tuple #[.int .i32 (V.accts.length : Nat), .int .i32 (V.slots.length : Nat), .int .i32 (V.journal.length : Nat), .int .i32 (V.marks.length : Nat)] ∧ Up w w') := by
  have hnw := hV.new
  have hfz := hV.fz
  obtain ⟨s1, t1, hl1⟩ := hV.lenA
  obtain ⟨s2, t2, hl2⟩ := hV.lenS
  obtain ⟨s3, t3, hl3⟩ := hV.lenJ
  have e1 := ho.bd.accts
  have e2 := ho.bd.slots
  have e3 := ho.bd.journal
  refine enter (n := 28) Hvaa.func92 rfl rfl (Nat.le_of_ble_eq_true rfl) ?_
  have U := Up.refl w
  refine c_seq (fun K1 hK1 => ?_)
  exact (by
    refine c_region ?_
    refine l_step y_assignC ?_
    refine l_step y_assignC ?_
    refine l_step y_assignC ?_
    refine l_step y_assignC ?_
    refine l_nil ?_
    refine hK1 _ _ ?_
    refine fg1 0 (gS rfl (gS rfl (gS rfl (gS rfl g0)))) (fun g => ?_)
    refine c_seq (fun K2 hK2 => ?_)
    exact (by
      refine c_draw Up 26 [(0, true), (1, true), (2, true), (3, true), (4, true), (5, true), (6, true), (7, true), (8, true), (9, true), (10, true), (11, true), (12, true), (13, true), (14, true), (15, true), (16, true), (17, true), (18, true), (19, true), (20, true), (21, true), (22, true), (23, true), (24, true), (25, true)] (by kernel_rfl) (fun w3 hu => ⟨Up.refl _, ?_⟩)
      replace hV := hV.up hu
      replace U := U.tr hu
      have SU := Up.refl w3
      refine p_step (by exact rfl) (y_moveV (et g0 rfl)) ?_
      refine p_step (by exact rfl) (y_nil (et g0 rfl)) ?_
      refine p_step (by exact rfl) (y_fld fld_84_0 (et g0 rfl)) ?_
      refine p_step (by exact rfl) (y_load1 one_76 (et g0 rfl) (atS (hV.c1 hl1 rfl))) ?_
      refine p_step (by exact rfl) (y_len Hvaa.underlying76 (et g0 rfl)) ?_
      refine p_step (by exact rfl) (y_conv Hvaa.underlying3 Hvaa.underlying21 (et g0 rfl) (wrap_i32 ?_ ?_)) ?_
      omega
      omega
      refine p_step (by exact rfl) (y_moveV (et (gS rfl (gS rfl (gS rfl (gS rfl (gS rfl (gS rfl g0)))))) rfl)) ?_
      refine p_step (by exact rfl) (y_nil (et g0 rfl)) ?_
      refine p_step (by exact rfl) (y_fld fld_84_1 (et g0 rfl)) ?_
      refine p_step (by exact rfl) (y_load1 one_77 (et g0 rfl) (atS (hV.c1 hl2 rfl))) ?_
      refine p_step (by exact rfl) (y_len Hvaa.underlying77 (et g0 rfl)) ?_
      refine p_step (by exact rfl) (y_conv Hvaa.underlying3 Hvaa.underlying21 (et g0 rfl) (wrap_i32 ?_ ?_)) ?_
      omega
      omega
      refine p_step (by exact rfl) (y_moveV (et (gS rfl (gS rfl (gS rfl (gS rfl (gS rfl (gS rfl (gS rfl (gS rfl (gS rfl (gS rfl (gS rfl (gS rfl g0)))))))))))) rfl)) ?_
      refine p_step (by exact rfl) (y_nil (et g0 rfl)) ?_
      refine p_step (by exact rfl) (y_fld fld_84_4 (et g0 rfl)) ?_
      refine p_step (by exact rfl) (y_load1 one_79 (et g0 rfl) (atS (hV.c1 hl3 rfl))) ?_
      refine p_step (by exact rfl) (y_len Hvaa.underlying79 (et g0 rfl)) ?_
      refine p_step (by exact rfl) (y_conv Hvaa.underlying3 Hvaa.underlying21 (et g0 rfl) (wrap_i32 ?_ ?_)) ?_
      omega
      omega
      refine p_step (by exact rfl) (y_moveV (et (gS rfl (gS rfl (gS rfl (gS rfl (gS rfl (gS rfl (gS rfl (gS rfl (gS rfl (gS rfl (gS rfl (gS rfl (gS rfl (gS rfl (gS rfl (gS rfl (gS rfl (gS rfl g0)))))))))))))))))) rfl)) ?_
      refine p_step (by exact rfl) (y_nil (et g0 rfl)) ?_
      refine p_step (by exact rfl) (y_fld fld_84_6 (et g0 rfl)) ?_
      exact (by
        refine p_step (by exact rfl) (y_load1 one_21 (et g0 rfl) (atS (hV.c1 hV.nmk rfl))) ?_
        refine p_step (by exact rfl) (y_assignV (et (gS rfl (gS rfl (gS rfl (gS rfl (gS rfl (gS rfl (gS rfl (gS rfl (gS rfl (gS rfl (gS rfl (gS rfl (gS rfl (gS rfl (gS rfl (gS rfl g0)))))))))))))))) rfl)) ?_
        refine p_step (by exact rfl) (y_assignV (et (gS rfl (gS rfl (gS rfl (gS rfl (gS rfl (gS rfl (gS rfl (gS rfl (gS rfl (gS rfl (gS rfl g0))))))))))) rfl)) ?_
        refine p_step (by exact rfl) (y_assignV (et (gS rfl (gS rfl (gS rfl (gS rfl (gS rfl (gS rfl g0)))))) rfl)) ?_
        refine p_step (by exact rfl) (y_assignV (et (gS rfl (gS rfl (gS rfl g0))) rfl)) ?_
        refine p_nil ?_
        refine hK2 _ _ ?_
        refine fg4 2 3 4 5 (gS rfl (gS rfl (gS rfl g0))) (gS rfl (gS rfl g0)) (gS rfl g0) g0 (fun g => ?_)
        refine c_ret ?_
        repeat with_reducible refine then_ret ?_
        refine ret4 rfl (res_tmp (et (gS rfl (gS rfl (gS rfl g0))) rfl)) (res_tmp (et (gS rfl (gS rfl g0)) rfl)) (res_tmp (et (gS rfl g0) rfl)) (res_tmp (et g0 rfl)) ?_
        exact ⟨rfl, U⟩)))
end Go.Proofs.YgvaawGreat
