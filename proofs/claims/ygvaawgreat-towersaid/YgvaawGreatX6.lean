import Derived.Test.YgvaawGreatX3
set_option maxRecDepth 100000
set_option maxHeartbeats 4000000
set_option linter.unusedSimpArgs false
set_option linter.unusedVariables false
namespace Go.Proofs.YgvaawGreat
open Go
theorem engine_fees {w : World} {H : Store} (hF : Fz w H) {txc : List Value} {T : YTx} (ht : TC H txc.toArray T) :
    Ret 162 [.agg txc.toArray] w (fun v w' => v = .tuple #[wV (feeM T), wV (feeT T)] ∧ Up w w') := by
  obtain ⟨tda, tdc, taa, tac, rT1, rT2, rT3, rT4, rT5, rT6, rT7, rT8, rT9, hTd, hTa⟩ := ht.ex
  have tok := ht.ok
  have to1 := tok.data
  have to2 := tok.access
  refine enter (n := 14) Hvaa.func162 rfl rfl (Nat.le_of_ble_eq_true rfl) ?_
  have U := Up.refl w
  have G : Go (No) w H w H := Go.refl hF
  have hL0 : Le H H := Le.refl H
  refine c_seq (fun K1 hK1 => ?_)
  exact (by
    refine c_region ?_
    refine l_eff (e_boxV (et g0 rfl)) (fun v2 w2 h2 => ?_)
    obtain ⟨b2, rfl, n2⟩ := h2
    have f2 : w.heap.size ≤ b2 := Nat.le_trans U.size n2.fresh
    have nb2 := hF.nb n2.fresh
    replace G := G.tr (Go.ofUp hF n2.up)
    replace hF := hF.up n2.up
    replace U := U.tr n2.up
    have k2 := n2.blk
    replace k2 : Blk w2 b2 txc.toArray := k2
    refine l_eff (e_alloc zr_65) (fun v3 w3 h3 => ?_)
    obtain ⟨b3, rfl, n3⟩ := h3
    have d2_3 : b2 < b3 := Nat.lt_of_lt_of_le k2.lt n3.fresh
    have f3 : w.heap.size ≤ b3 := Nat.le_trans U.size n3.fresh
    have nb3 := hF.nb n3.fresh
    replace G := G.tr (Go.ofUp hF n3.up)
    replace hF := hF.up n3.up
    replace k2 := k2.up n3.up
    replace U := U.tr n3.up
    have k3 := n3.blk
    refine l_eff (e_alloc zr_65) (fun v4 w4 h4 => ?_)
    obtain ⟨b4, rfl, n4⟩ := h4
    have d2_4 : b2 < b4 := Nat.lt_of_lt_of_le k2.lt n4.fresh
    have d3_4 : b3 < b4 := Nat.lt_of_lt_of_le k3.lt n4.fresh
    have f4 : w.heap.size ≤ b4 := Nat.le_trans U.size n4.fresh
    have nb4 := hF.nb n4.fresh
    replace G := G.tr (Go.ofUp hF n4.up)
    replace hF := hF.up n4.up
    replace k2 := k2.up n4.up
    replace k3 := k3.up n4.up
    replace U := U.tr n4.up
    have k4 := n4.blk
    refine l_nil ?_
    refine hK1 _ _ ?_
    refine fg3 1 2 3 (gS rfl (gS rfl g0)) (gS rfl g0) g0 (fun g => ?_)
    refine c_seq (fun K5 hK5 => ?_)
    exact (by
      refine c_region ?_
      refine l_eff (e_callV cal_120 (aC (et (gS rfl (gS rfl g0)) rfl) aN) (obs_fees hF _ _ _ k2 (ht.mono hL0))) (fun v6 w6 h6 => ?_)
      obtain ⟨rfl, u6⟩ := h6
      replace G := G.tr (Go.ofUp hF u6)
      replace hF := hF.up u6
      replace k2 := k2.up u6
      replace k3 := k3.up u6
      replace k4 := k4.up u6
      replace U := U.tr u6
      refine l_step (y_moveV (et g0 rfl)) ?_
      refine l_step (y_ext (et g0 rfl) rfl) ?_
      refine l_step (y_ext (et (gS rfl g0) rfl) rfl) ?_
      refine l_eff (e_alloc zr_28) (fun v7 w7 h7 => ?_)
      obtain ⟨b7, rfl, n7⟩ := h7
      have d2_7 : b2 < b7 := Nat.lt_of_lt_of_le k2.lt n7.fresh
      have d3_7 : b3 < b7 := Nat.lt_of_lt_of_le k3.lt n7.fresh
      have d4_7 : b4 < b7 := Nat.lt_of_lt_of_le k4.lt n7.fresh
      have f7 : w.heap.size ≤ b7 := Nat.le_trans U.size n7.fresh
      have nb7 := hF.nb n7.fresh
      replace G := G.tr (Go.ofUp hF n7.up)
      replace hF := hF.up n7.up
      replace k2 := k2.up n7.up
      replace k3 := k3.up n7.up
      replace k4 := k4.up n7.up
      replace U := U.tr n7.up
      have k7 := n7.blk
      refine l_eff (e_alloc zr_28) (fun v8 w8 h8 => ?_)
      obtain ⟨b8, rfl, n8⟩ := h8
      have d2_8 : b2 < b8 := Nat.lt_of_lt_of_le k2.lt n8.fresh
      have d3_8 : b3 < b8 := Nat.lt_of_lt_of_le k3.lt n8.fresh
      have d4_8 : b4 < b8 := Nat.lt_of_lt_of_le k4.lt n8.fresh
      have d7_8 : b7 < b8 := Nat.lt_of_lt_of_le k7.lt n8.fresh
      have f8 : w.heap.size ≤ b8 := Nat.le_trans U.size n8.fresh
      have nb8 := hF.nb n8.fresh
      replace G := G.tr (Go.ofUp hF n8.up)
      replace hF := hF.up n8.up
      replace k2 := k2.up n8.up
      replace k3 := k3.up n8.up
      replace k4 := k4.up n8.up
      replace k7 := k7.up n8.up
      replace U := U.tr n8.up
      have k8 := n8.blk
      exact (by
        refine l_effN (e_store sz_28 (et (gS rfl g0) rfl) (cellsV (et (gS rfl (gS rfl (gS rfl g0))) rfl) rfl) (by rw [length_bL, length_be]) (by exact one_bL _) k7 (by exact Nat.le_of_ble_eq_true rfl)) (fun v9 w9 h9 => ?_)
        obtain ⟨rfl, x9⟩ := h9
        replace k2 := k2.ch x9.ch (by omega)
        replace k3 := k3.ch x9.ch (by omega)
        replace k4 := k4.ch x9.ch (by omega)
        replace k8 := k8.ch x9.ch (by omega)
        replace k7 := x9.blk.full (by rw [length_bL, length_be]; rfl)
        replace G := G.wr x9 (by first | exact .inr f7 | omega | (simp; omega)) nb7
        replace hF := G.fz
        replace U := U.st x9 f7
        refine l_effN (e_store sz_28 (et g0 rfl) (cellsV (et (gS rfl (gS rfl g0)) rfl) rfl) (by rw [length_bL, length_be]) (by exact one_bL _) k8 (by exact Nat.le_of_ble_eq_true rfl)) (fun v10 w10 h10 => ?_)
        obtain ⟨rfl, x10⟩ := h10
        replace k2 := k2.ch x10.ch (by omega)
        replace k3 := k3.ch x10.ch (by omega)
        replace k4 := k4.ch x10.ch (by omega)
        replace k7 := k7.ch x10.ch (by omega)
        replace k8 := x10.blk.full (by rw [length_bL, length_be]; rfl)
        replace G := G.wr x10 (by first | exact .inr f8 | omega | (simp; omega)) nb8
        replace hF := G.fz
        replace U := U.st x10 f8
        refine l_nil ?_
        refine hK5 _ _ ?_
        refine fg4 2 3 4 5 (gS rfl (gS rfl (gS rfl (gS rfl (gS rfl (gS rfl (gS rfl g0))))))) (gS rfl (gS rfl (gS rfl (gS rfl (gS rfl (gS rfl g0)))))) (gS rfl g0) g0 (fun g => ?_)
        refine c_seq (fun K11 hK11 => ?_)
        exact (by
          refine c_draw (Ch (fun k => k = b3)) 5 [(0, true), (2, true), (1, false), (3, false), (4, false), (5, false)] (by kernel_rfl) (fun w12 hu => ⟨Ch.refl _ _, ?_⟩)
          replace G := G.tr (Go.ofUp hF hu)
          replace hF := hF.up hu
          replace k2 := k2.up hu
          replace k3 := k3.up hu
          replace k4 := k4.up hu
          replace k7 := k7.up hu
          replace k8 := k8.up hu
          replace U := U.tr hu
          have SU : (Ch (fun k => k = b3)) w12 w12 := Ch.refl _ _
          refine p_step (by exact rfl) (y_loadB agg_28 sz_28 (et (gS rfl g0) rfl) (by rw [List.size_toArray, length_bL, length_be]) (atCB k7 (by omega))) ?_
          refine p_step (by exact rfl) (y_loadB agg_28 sz_28 (et (gS rfl g0) rfl) (by rw [List.size_toArray, length_bL, length_be]) (atCB k8 (by omega))) ?_
          refine p_eff (by exact rfl) (e_callV cal_83 (aC (et (gS rfl g0) rfl) aN) (fromBytes_spec (feeM T) _)) (fun v13 w13 h13 => ?_)
          obtain ⟨rfl, u13⟩ := h13
          replace G := G.tr (Go.ofUp hF u13)
          replace hF := hF.up u13
          replace k2 := k2.up u13
          replace k3 := k3.up u13
          replace k4 := k4.up u13
          replace k7 := k7.up u13
          replace k8 := k8.up u13
          replace U := U.tr u13
          refine ⟨.inr (SU.tr u13), ?_⟩
          replace SU := SU.tr u13
          refine p_eff (by exact rfl) (e_callV cal_83 (aC (et (gS rfl g0) rfl) aN) (fromBytes_spec (feeT T) _)) (fun v14 w14 h14 => ?_)
          obtain ⟨rfl, u14⟩ := h14
          replace G := G.tr (Go.ofUp hF u14)
          replace hF := hF.up u14
          replace k2 := k2.up u14
          replace k3 := k3.up u14
          replace k4 := k4.up u14
          replace k7 := k7.up u14
          replace k8 := k8.up u14
          replace U := U.tr u14
          refine ⟨.inr (SU.tr u14), ?_⟩
          replace SU := SU.tr u14
          exact (by
            refine p_effN (by exact rfl) (e_store sz_65 (et (gS rfl (gS rfl (gS rfl (gS rfl (gS rfl (gS rfl (gS rfl g0))))))) rfl) (cellsV (et (gS rfl g0) rfl) rfl) (by first | (simp only [Value.cells, hV, aV, bV, wV, wL, List.size_toArray, length_bL, length_uL, length_be, size_spl, List.length_cons, List.length_nil, List.length_replicate, Nat.zero_add, Nat.reduceAdd, Nat.reduceLeDiff, Nat.le_refl]; done) | rfl) (by first | exact one_bL _ | exact one_uL _ | (intro v hv; simp at hv; subst hv; rfl)) k3 (by first | (simp only [Value.cells, hV, aV, bV, wV, wL, List.size_toArray, length_bL, length_uL, length_be, size_spl, List.length_cons, List.length_nil, List.length_replicate, Nat.zero_add, Nat.reduceAdd, Nat.reduceLeDiff, Nat.le_refl]; done) | exact Nat.le_of_ble_eq_true rfl | simp | omega)) (fun v15 w15 h15 => ?_)
            obtain ⟨rfl, x15⟩ := h15
            replace k2 := k2.ch x15.ch (by omega)
            replace k4 := k4.ch x15.ch (by omega)
            replace k7 := k7.ch x15.ch (by omega)
            replace k8 := k8.ch x15.ch (by omega)
            replace k3 := x15.blk.full (by first | (simp only [Value.cells, hV, aV, bV, wV, wL, List.size_toArray, length_bL, length_uL, length_be, size_spl, List.length_cons, List.length_nil, List.length_replicate, Nat.zero_add, Nat.reduceAdd, Nat.reduceLeDiff, Nat.le_refl]; done) | rfl)
            replace G := G.wr x15 (by first | exact .inr f3 | omega | (simp; omega)) nb3
            replace hF := G.fz
            replace U := U.st x15 f3
            refine ⟨.inr (SU.st x15 (by omega)), ?_⟩
            replace SU := SU.st x15 (by omega)
            refine p_effN (by exact rfl) (e_store sz_65 (et (gS rfl (gS rfl (gS rfl (gS rfl (gS rfl (gS rfl g0)))))) rfl) (cellsV (et g0 rfl) rfl) (by first | (simp only [Value.cells, hV, aV, bV, wV, wL, List.size_toArray, length_bL, length_uL, length_be, size_spl, List.length_cons, List.length_nil, List.length_replicate, Nat.zero_add, Nat.reduceAdd, Nat.reduceLeDiff, Nat.le_refl]; done) | rfl) (by first | exact one_bL _ | exact one_uL _ | (intro v hv; simp at hv; subst hv; rfl)) k4 (by first | (simp only [Value.cells, hV, aV, bV, wV, wL, List.size_toArray, length_bL, length_uL, length_be, size_spl, List.length_cons, List.length_nil, List.length_replicate, Nat.zero_add, Nat.reduceAdd, Nat.reduceLeDiff, Nat.le_refl]; done) | exact Nat.le_of_ble_eq_true rfl | simp | omega)) (fun v16 w16 h16 => ?_)
            obtain ⟨rfl, x16⟩ := h16
            replace k2 := k2.ch x16.ch (by omega)
            replace k3 := k3.ch x16.ch (by omega)
            replace k7 := k7.ch x16.ch (by omega)
            replace k8 := k8.ch x16.ch (by omega)
            replace k4 := x16.blk.full (by first | (simp only [Value.cells, hV, aV, bV, wV, wL, List.size_toArray, length_bL, length_uL, length_be, size_spl, List.length_cons, List.length_nil, List.length_replicate, Nat.zero_add, Nat.reduceAdd, Nat.reduceLeDiff, Nat.le_refl]; done) | rfl)
            replace G := G.wr x16 (by first | exact .inr f4 | omega | (simp; omega)) nb4
            replace hF := G.fz
            replace U := U.st x16 f4
            refine ⟨.inl rfl, ?_⟩
            refine p_nil ?_
            refine hK11 _ _ ?_
            refine fg2 2 3 (gS rfl (gS rfl (gS rfl (gS rfl (gS rfl (gS rfl (gS rfl g0))))))) (gS rfl (gS rfl (gS rfl (gS rfl (gS rfl (gS rfl g0)))))) (fun g => ?_)
            refine c_ret ?_
            repeat with_reducible refine then_ret ?_
            refine ret2 rfl (res_blk agg_65 sz_65 (et (gS rfl g0) rfl) (by first | (simp only [Value.cells, hV, aV, bV, wV, wL, List.size_toArray, length_bL, length_uL, length_be, size_spl, List.length_cons, List.length_nil, List.length_replicate, Nat.zero_add, Nat.reduceAdd, Nat.reduceLeDiff, Nat.le_refl]; done) | rfl) k3) (res_blk agg_65 sz_65 (et g0 rfl) (by first | (simp only [Value.cells, hV, aV, bV, wV, wL, List.size_toArray, length_bL, length_uL, length_be, size_spl, List.length_cons, List.length_nil, List.length_replicate, Nat.zero_add, Nat.reduceAdd, Nat.reduceLeDiff, Nat.le_refl]; done) | rfl) k4) ?_
            exact ⟨rfl, U⟩)))))
end Go.Proofs.YgvaawGreat
