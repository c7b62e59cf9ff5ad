import Derived.Test.YgvaawGreatDraw2
set_option maxRecDepth 100000
set_option maxHeartbeats 4000000
set_option linter.unusedSimpArgs false
set_option linter.unusedVariables false
namespace Go.Proofs.YgvaawGreat
open Go
theorem qt_le (a b : Nat) (h : a < W256) : a / b < W256 := Nat.lt_of_le_of_lt (Nat.div_le_self _ _) h
theorem rm_lt (x b : Nat) (h : b < W256) : (if b = 0 then 0 else x % b) < W256 := by
  by_cases h0 : b = 0
  · rw [if_pos h0]; decide
  · rw [if_neg h0]; exact Nat.lt_trans (Nat.mod_lt _ (by omega)) h
theorem W256_limbs : W256 = 18446744073709551616 ^ 4 := by decide
theorem quo_row {w : World} {b n : Nat} {Q : List Nat} (h : Blk w b (uL Q).toArray) (hl : Q.length = 8) (hd : Dig 18446744073709551616 Q) (hv : val 18446744073709551616 Q = n) (hn : n < W256) : Row w b 0 (wL n) := by
  have h1 := h.limbs 0 4
  rw [List.drop_zero] at h1
  have e : uL (Q.take 4) = wL n := by
    have e1 := wV_val (l := Q.take 4) (by simp; omega) (hd.take 4)
    rw [take_val Q 4 (by omega) (by rw [hv]; exact W256_limbs ▸ hn), hv] at e1
    unfold wV at e1
    simpa using e1
  rw [e] at h1; exact h1
theorem val8 (a b c d e : Nat) : val 18446744073709551616 [a, b, c, d, e, 0, 0, 0] = ofL a b c d + e * W256 := by
  simp only [val_cons, val_nil]; unfold ofL W256; omega
theorem divRem_spec (a b : Nat) (w : World) (ha : a < W256) (hb : b < W256) :
    Ret 374 [wV a, wV b] w (fun v w' => ∃ p : List Nat, p.length = 3 ∧ v = .tuple #[wV (a / b), wV (if b = 0 then 0 else a % b), .agg (bL p).toArray] ∧ Up w w') := by
  refine enter (n := 27) Hvaa.func374 rfl rfl (Nat.le_of_ble_eq_true rfl) ?_
  have U := Up.refl w
  refine c_seq (fun K1 hK1 => ?_)
  refine c_region ?_
  refine l_eff (e_boxV (et g0 rfl)) (fun v2 w2 h2 => ?_)
  obtain ⟨b2, rfl, n2⟩ := h2
  have f2 : w.heap.size ≤ b2 := Nat.le_trans U.size n2.fresh
  replace U := U.tr n2.up
  have k2 := n2.blk
  refine l_eff (e_boxV (et (gS rfl (gS rfl g0)) rfl)) (fun v3 w3 h3 => ?_)
  obtain ⟨b3, rfl, n3⟩ := h3
  have d2_3 : b2 < b3 := Nat.lt_of_lt_of_le k2.lt n3.fresh
  have f3 : w.heap.size ≤ b3 := Nat.le_trans U.size n3.fresh
  replace k2 := k2.up n3.up
  replace U := U.tr n3.up
  have k3 := n3.blk
  refine l_eff (e_alloc zr_65) (fun v4 w4 h4 => ?_)
  obtain ⟨b4, rfl, n4⟩ := h4
  have d2_4 : b2 < b4 := Nat.lt_of_lt_of_le k2.lt n4.fresh
  have d3_4 : b3 < b4 := Nat.lt_of_lt_of_le k3.lt n4.fresh
  have f4 : w.heap.size ≤ b4 := Nat.le_trans U.size n4.fresh
  replace k2 := k2.up n4.up
  replace k3 := k3.up n4.up
  replace U := U.tr n4.up
  have k4 := n4.blk
  refine l_eff (e_alloc zr_65) (fun v5 w5 h5 => ?_)
  obtain ⟨b5, rfl, n5⟩ := h5
  have d2_5 : b2 < b5 := Nat.lt_of_lt_of_le k2.lt n5.fresh
  have d3_5 : b3 < b5 := Nat.lt_of_lt_of_le k3.lt n5.fresh
  have d4_5 : b4 < b5 := Nat.lt_of_lt_of_le k4.lt n5.fresh
  have f5 : w.heap.size ≤ b5 := Nat.le_trans U.size n5.fresh
  replace k2 := k2.up n5.up
  replace k3 := k3.up n5.up
  replace k4 := k4.up n5.up
  replace U := U.tr n5.up
  have k5 := n5.blk
  refine l_eff (e_alloc zr_407) (fun v6 w6 h6 => ?_)
  obtain ⟨b6, rfl, n6⟩ := h6
  have d2_6 : b2 < b6 := Nat.lt_of_lt_of_le k2.lt n6.fresh
  have d3_6 : b3 < b6 := Nat.lt_of_lt_of_le k3.lt n6.fresh
  have d4_6 : b4 < b6 := Nat.lt_of_lt_of_le k4.lt n6.fresh
  have d5_6 : b5 < b6 := Nat.lt_of_lt_of_le k5.lt n6.fresh
  have f6 : w.heap.size ≤ b6 := Nat.le_trans U.size n6.fresh
  replace k2 := k2.up n6.up
  replace k3 := k3.up n6.up
  replace k4 := k4.up n6.up
  replace k5 := k5.up n6.up
  replace U := U.tr n6.up
  have k6 := n6.blk
  refine l_nil ?_
  refine hK1 _ _ ?_
  refine fg5 2 3 4 5 6 (gS rfl (gS rfl (gS rfl (gS rfl g0)))) (gS rfl (gS rfl (gS rfl g0))) (gS rfl (gS rfl g0)) (gS rfl g0) g0 (fun g => ?_)
  refine c_seq (fun K7 hK7 => ?_)
  refine c_region ?_
  refine l_step (y_idxAC 0 0 Hvaa.underlying65 sz_26 (et (gS rfl (gS rfl (gS rfl (gS rfl g0)))) rfl) rfl rfl rfl) ?_
  refine l_step (y_load1 one_26 (et g0 rfl) (at1 (k2.cell (wL_get a 0 (by decide))))) ?_
  refine l_step (y_idxAC 1 1 Hvaa.underlying65 sz_26 (et (gS rfl (gS rfl (gS rfl (gS rfl (gS rfl (gS rfl g0)))))) rfl) rfl rfl rfl) ?_
  refine l_step (y_load1 one_26 (et g0 rfl) (at1 (k2.cell (wL_get a 1 (by decide))))) ?_
  refine l_step (y_idxAC 2 2 Hvaa.underlying65 sz_26 (et (gS rfl (gS rfl (gS rfl (gS rfl (gS rfl (gS rfl (gS rfl (gS rfl g0)))))))) rfl) rfl rfl rfl) ?_
  refine l_step (y_load1 one_26 (et g0 rfl) (at1 (k2.cell (wL_get a 2 (by decide))))) ?_
  refine l_step (y_idxAC 3 3 Hvaa.underlying65 sz_26 (et (gS rfl (gS rfl (gS rfl (gS rfl (gS rfl (gS rfl (gS rfl (gS rfl (gS rfl (gS rfl g0)))))))))) rfl) rfl rfl rfl) ?_
  refine l_step (y_load1 one_26 (et g0 rfl) (at1 (k2.cell (wL_get a 3 (by decide))))) ?_
  refine l_step (y_bld (bC (et (gS rfl (gS rfl (gS rfl (gS rfl (gS rfl (gS rfl g0)))))) rfl) (bC (et (gS rfl (gS rfl (gS rfl (gS rfl g0)))) rfl) (bC (et (gS rfl (gS rfl g0)) rfl) (bC (et g0 rfl) bN)))) (bld68_4 _ _ _ _)) ?_
  refine l_eff (e_alloc zr_68) (fun v8 w8 h8 => ?_)
  obtain ⟨b8, rfl, n8⟩ := h8
  have d2_8 : b2 < b8 := Nat.lt_of_lt_of_le k2.lt n8.fresh
  have d3_8 : b3 < b8 := Nat.lt_of_lt_of_le k3.lt n8.fresh
  have d4_8 : b4 < b8 := Nat.lt_of_lt_of_le k4.lt n8.fresh
  have d5_8 : b5 < b8 := Nat.lt_of_lt_of_le k5.lt n8.fresh
  have d6_8 : b6 < b8 := Nat.lt_of_lt_of_le k6.lt n8.fresh
  have f8 : w.heap.size ≤ b8 := Nat.le_trans U.size n8.fresh
  replace k2 := k2.up n8.up
  replace k3 := k3.up n8.up
  replace k4 := k4.up n8.up
  replace k5 := k5.up n8.up
  replace k6 := k6.up n8.up
  replace U := U.tr n8.up
  have k8 := n8.blk
  refine l_effN (e_store sz_68 (et g0 rfl) (cellsV (et (gS rfl g0) rfl) rfl) (by first | (simp only [Value.cells, hV, aV, bV, wV, wL, List.size_toArray, length_bL, length_uL, length_be, size_spl, List.length_cons, List.length_nil, List.length_replicate, Nat.zero_add, Nat.reduceAdd, Nat.reduceLeDiff, Nat.le_refl]; done) | rfl) (by first | exact one_bL _ | exact one_uL _ | (intro v hv; simp at hv; subst hv; rfl)) k8 (by first | (simp only [Value.cells, hV, aV, bV, wV, wL, List.size_toArray, length_bL, length_uL, length_be, size_spl, List.length_cons, List.length_nil, List.length_replicate, Nat.zero_add, Nat.reduceAdd, Nat.reduceLeDiff, Nat.le_refl]; done) | exact Nat.le_of_ble_eq_true rfl | simp | omega)) (fun v9 w9 h9 => ?_)
  obtain ⟨rfl, x9⟩ := h9
  replace k2 := k2.ch x9.ch (by omega)
  replace k3 := k3.ch x9.ch (by omega)
  replace k4 := k4.ch x9.ch (by omega)
  replace k5 := k5.ch x9.ch (by omega)
  replace k6 := k6.ch x9.ch (by omega)
  replace k8 := x9.blk.full (by first | (simp only [Value.cells, hV, aV, bV, wV, wL, List.size_toArray, length_bL, length_uL, length_be, size_spl, List.length_cons, List.length_nil, List.length_replicate, Nat.zero_add, Nat.reduceAdd, Nat.reduceLeDiff, Nat.le_refl]; done) | rfl)
  replace U := U.st x9 f8
  refine l_nil ?_
  refine hK7 _ _ ?_
  refine fg5 3 4 5 6 7 (gS rfl (gS rfl (gS rfl (gS rfl (gS rfl (gS rfl (gS rfl (gS rfl (gS rfl (gS rfl (gS rfl (gS rfl (gS rfl g0))))))))))))) (gS rfl (gS rfl (gS rfl (gS rfl (gS rfl (gS rfl (gS rfl (gS rfl (gS rfl (gS rfl (gS rfl (gS rfl g0)))))))))))) (gS rfl (gS rfl (gS rfl (gS rfl (gS rfl (gS rfl (gS rfl (gS rfl (gS rfl (gS rfl (gS rfl g0))))))))))) (gS rfl (gS rfl (gS rfl (gS rfl (gS rfl (gS rfl (gS rfl (gS rfl (gS rfl (gS rfl g0)))))))))) g0 (fun g => ?_)
  refine c_seq (fun K10 hK10 => ?_)
  refine c_region ?_
  refine l_step (y_loadB agg_65 sz_65 (et (gS rfl (gS rfl (gS rfl (gS rfl g0)))) rfl) (by first | (simp only [Value.cells, hV, aV, bV, wV, wL, List.size_toArray, length_bL, length_uL, length_be, size_spl, List.length_cons, List.length_nil, List.length_replicate, Nat.zero_add, Nat.reduceAdd, Nat.reduceLeDiff, Nat.le_refl]; done) | rfl) (at1B k3)) ?_
  have hdx : Dig 18446744073709551616 [limb a 0, limb a 1, limb a 2, limb a 3, 0, 0, 0, 0] := Dig.cons (limb_lt _ _) (Dig.cons (limb_lt _ _) (Dig.cons (limb_lt _ _) (Dig.cons (limb_lt _ _) (Dig.rep _ 4 (by decide)))))
  have hvx : val 18446744073709551616 [limb a 0, limb a 1, limb a 2, limb a 3, 0, 0, 0, 0] = a := by rw [val8, ofL_limb a ha]; omega
  refine l_eff (e_callV cal_408 (aC (et (gS rfl g0) rfl) (aC (et g0 rfl) aN)) (divide_spec _ b _ _ rfl hdx hb k8)) (fun v11 w11 h11 => ?_)
  obtain ⟨p, hp3, rfl, Q, hQ8, hQd, hQv, kQ, c11⟩ := h11
  replace k2 := k2.ch c11 (by omega)
  replace k3 := k3.ch c11 (by omega)
  replace k4 := k4.ch c11 (by omega)
  replace k5 := k5.ch c11 (by omega)
  replace k6 := k6.ch c11 (by omega)
  replace k8 := kQ
  replace U := U.cc c11 (by intro b hb; first | exact hb ▸ f8 | omega)
  rw [hvx] at hQv
  rw [hvx]
  have hqa := qt_le a b ha
  refine l_step (y_moveV (et g0 rfl)) ?_
  refine l_step (y_ext (et g0 rfl) rfl) ?_
  refine l_step (y_ext (et (gS rfl g0) rfl) rfl) ?_
  refine l_effN (e_store sz_65 (et (gS rfl (gS rfl (gS rfl (gS rfl (gS rfl (gS rfl (gS rfl g0))))))) rfl) (cellsV (et (gS rfl g0) rfl) rfl) (by first | (simp only [Value.cells, hV, aV, bV, wV, wL, List.size_toArray, length_bL, length_uL, length_be, size_spl, List.length_cons, List.length_nil, List.length_replicate, Nat.zero_add, Nat.reduceAdd, Nat.reduceLeDiff, Nat.le_refl]; done) | rfl) (by first | exact one_bL _ | exact one_uL _ | (intro v hv; simp at hv; subst hv; rfl)) k5 (by first | (simp only [Value.cells, hV, aV, bV, wV, wL, List.size_toArray, length_bL, length_uL, length_be, size_spl, List.length_cons, List.length_nil, List.length_replicate, Nat.zero_add, Nat.reduceAdd, Nat.reduceLeDiff, Nat.le_refl]; done) | exact Nat.le_of_ble_eq_true rfl | simp | omega)) (fun v12 w12 h12 => ?_)
  obtain ⟨rfl, x12⟩ := h12
  replace k2 := k2.ch x12.ch (by omega)
  replace k3 := k3.ch x12.ch (by omega)
  replace k4 := k4.ch x12.ch (by omega)
  replace k6 := k6.ch x12.ch (by omega)
  replace k8 := k8.ch x12.ch (by omega)
  replace k5 := x12.blk.full (by first | (simp only [Value.cells, hV, aV, bV, wV, wL, List.size_toArray, length_bL, length_uL, length_be, size_spl, List.length_cons, List.length_nil, List.length_replicate, Nat.zero_add, Nat.reduceAdd, Nat.reduceLeDiff, Nat.le_refl]; done) | rfl)
  replace U := U.st x12 f5
  refine l_effN (e_store sz_407 (et (gS rfl (gS rfl (gS rfl (gS rfl (gS rfl (gS rfl g0)))))) rfl) (cellsV (et g0 rfl) rfl) (by rw [length_bL, hp3]) (by exact one_bL _) k6 (by exact Nat.le_of_ble_eq_true rfl)) (fun v13 w13 h13 => ?_)
  obtain ⟨rfl, x13⟩ := h13
  replace k2 := k2.ch x13.ch (by omega)
  replace k3 := k3.ch x13.ch (by omega)
  replace k4 := k4.ch x13.ch (by omega)
  replace k5 := k5.ch x13.ch (by omega)
  replace k8 := k8.ch x13.ch (by omega)
  replace k6 := x13.blk.full (by rw [length_bL, hp3]; rfl)
  replace U := U.st x13 f6
  refine l_nil ?_
  refine hK10 _ _ ?_
  refine fg4 4 5 6 7 (gS rfl (gS rfl (gS rfl (gS rfl (gS rfl (gS rfl (gS rfl (gS rfl g0)))))))) (gS rfl (gS rfl (gS rfl (gS rfl (gS rfl (gS rfl (gS rfl g0))))))) (gS rfl (gS rfl (gS rfl (gS rfl (gS rfl (gS rfl g0)))))) (gS rfl (gS rfl (gS rfl (gS rfl (gS rfl g0))))) (fun g => ?_)
  refine c_seq (fun K14 hK14 => ?_)
  refine c_draw (Ch (fun k => k = b4)) 7 [(0, true), (1, true), (2, true), (3, true), (4, true), (5, false), (6, false), (7, false)] (by kernel_rfl) (fun w15 hu => ⟨Ch.refl _ _, ?_⟩)
  replace k2 := k2.up hu
  replace k3 := k3.up hu
  replace k4 := k4.up hu
  replace k5 := k5.up hu
  replace k6 := k6.up hu
  replace k8 := k8.up hu
  replace U := U.tr hu
  have SU : (Ch (fun k => k = b4)) w15 w15 := Ch.refl _ _
  refine p_step (by exact rfl) (y_slA010 Hvaa.underlying68 sz_26 (et g0 rfl) rfl ?_ ?_) ?_
  omega
  omega
  refine p_step (by exact rfl) (y_s2a Hvaa.underlying65 (et g0 rfl) ?_) ?_
  omega
  refine p_step (by exact rfl) (y_loadR agg_65 sz_65 (et g0 rfl) rfl (atCR (quo_row k8 hQ8 hQd hQv hqa) (by omega))) ?_
  refine p_step (by exact rfl) (y_loadB agg_65 sz_65 (et (gS rfl (gS rfl (gS rfl (gS rfl (gS rfl g0))))) rfl) (by first | (simp only [Value.cells, hV, aV, bV, wV, wL, List.size_toArray, length_bL, length_uL, length_be, size_spl, List.length_cons, List.length_nil, List.length_replicate, Nat.zero_add, Nat.reduceAdd, Nat.reduceLeDiff, Nat.le_refl]; done) | rfl) (atCB k5 (by omega))) ?_
  refine p_step (by exact rfl) (y_loadB agg_407 sz_407 (et (gS rfl (gS rfl (gS rfl (gS rfl (gS rfl g0))))) rfl) (by simp [length_bL, hp3]) (atCB k6 (by omega))) ?_
  refine p_effN (by exact rfl) (e_store sz_65 (et (gS rfl (gS rfl (gS rfl (gS rfl (gS rfl (gS rfl (gS rfl (gS rfl g0)))))))) rfl) (cellsV (et (gS rfl (gS rfl g0)) rfl) rfl) (by first | (simp only [Value.cells, hV, aV, bV, wV, wL, List.size_toArray, length_bL, length_uL, length_be, size_spl, List.length_cons, List.length_nil, List.length_replicate, Nat.zero_add, Nat.reduceAdd, Nat.reduceLeDiff, Nat.le_refl]; done) | rfl) (by first | exact one_bL _ | exact one_uL _ | (intro v hv; simp at hv; subst hv; rfl)) k4 (by first | (simp only [Value.cells, hV, aV, bV, wV, wL, List.size_toArray, length_bL, length_uL, length_be, size_spl, List.length_cons, List.length_nil, List.length_replicate, Nat.zero_add, Nat.reduceAdd, Nat.reduceLeDiff, Nat.le_refl]; done) | exact Nat.le_of_ble_eq_true rfl | simp | omega)) (fun v16 w16 h16 => ?_)
  obtain ⟨rfl, x16⟩ := h16
  replace k2 := k2.ch x16.ch (by omega)
  replace k3 := k3.ch x16.ch (by omega)
  replace k5 := k5.ch x16.ch (by omega)
  replace k6 := k6.ch x16.ch (by omega)
  replace k8 := k8.ch x16.ch (by omega)
  replace k4 := x16.blk.full (by first | (simp only [Value.cells, hV, aV, bV, wV, wL, List.size_toArray, length_bL, length_uL, length_be, size_spl, List.length_cons, List.length_nil, List.length_replicate, Nat.zero_add, Nat.reduceAdd, Nat.reduceLeDiff, Nat.le_refl]; done) | rfl)
  replace U := U.st x16 f4
  refine ⟨.inr (SU.st x16 (by omega)), ?_⟩
  replace SU := SU.st x16 (by omega)
  refine p_effN (by exact rfl) (e_storeS sz_65 (et (gS rfl (gS rfl (gS rfl (gS rfl (gS rfl (gS rfl (gS rfl g0))))))) rfl) (cellsV (et (gS rfl g0) rfl) rfl) (by first | (simp only [Value.cells, hV, aV, bV, wV, wL, List.size_toArray, length_bL, length_uL, length_be, size_spl, List.length_cons, List.length_nil, List.length_replicate, Nat.zero_add, Nat.reduceAdd, Nat.reduceLeDiff, Nat.le_refl]; done) | rfl) (by first | exact one_bL _ | exact one_uL _ | (intro v hv; simp at hv; subst hv; rfl)) k5) (fun v17 w17 h17 => ?_)
  obtain ⟨rfl, x17⟩ := h17
  replace k2 := k2.up x17
  replace k3 := k3.up x17
  replace k4 := k4.up x17
  replace k5 := k5.up x17
  replace k6 := k6.up x17
  replace k8 := k8.up x17
  replace U := U.tr x17
  refine ⟨.inr (SU.tr x17), ?_⟩
  replace SU := SU.tr x17
  refine p_effN (by exact rfl) (e_storeS sz_407 (et (gS rfl (gS rfl (gS rfl (gS rfl (gS rfl (gS rfl g0)))))) rfl) (cellsV (et g0 rfl) rfl) (by rw [length_bL, hp3]) (by first | exact one_bL _ | exact one_uL _ | (intro v hv; simp at hv; subst hv; rfl)) k6) (fun v18 w18 h18 => ?_)
  obtain ⟨rfl, x18⟩ := h18
  replace k2 := k2.up x18
  replace k3 := k3.up x18
  replace k4 := k4.up x18
  replace k5 := k5.up x18
  replace k6 := k6.up x18
  replace k8 := k8.up x18
  replace U := U.tr x18
  refine ⟨.inl rfl, ?_⟩
  refine p_nil ?_
  refine hK14 _ _ ?_
  refine fg3 4 5 6 (gS rfl (gS rfl (gS rfl (gS rfl (gS rfl (gS rfl (gS rfl (gS rfl g0)))))))) (gS rfl (gS rfl (gS rfl (gS rfl (gS rfl (gS rfl (gS rfl g0))))))) (gS rfl (gS rfl (gS rfl (gS rfl (gS rfl (gS rfl g0)))))) (fun g => ?_)
  refine c_ret ?_
  refine ret3 rfl (res_blk agg_65 sz_65 (et (gS rfl (gS rfl g0)) rfl) (by first | (rw [List.size_toArray, length_bL, hp3]; done) | rfl) k4) (res_blk agg_65 sz_65 (et (gS rfl g0) rfl) (by first | (rw [List.size_toArray, length_bL, hp3]; done) | rfl) k5) (res_blk agg_407 sz_407 (et g0 rfl) (by first | (rw [List.size_toArray, length_bL, hp3]; done) | rfl) k6) ?_
  exact ⟨p, hp3, rfl, U⟩
theorem rem512_spec (b : Nat) (l : List Nat) (w : World) (hl : l.length = 8) (hd : Dig 18446744073709551616 l) (hb : b < W256) :
    Ret 379 [.agg (uL l).toArray, wV b] w (fun v w' => ∃ p : List Nat, p.length = 3 ∧ v = .tuple #[wV (if b = 0 then 0 else val 18446744073709551616 l % b), .agg (bL p).toArray] ∧ Up w w') := by
  refine enter (n := 10) Hvaa.func379 rfl rfl (Nat.le_of_ble_eq_true rfl) ?_
  have U := Up.refl w
  refine c_seq (fun K1 hK1 => ?_)
  refine c_region ?_
  refine l_eff (e_boxV (et g0 rfl)) (fun v2 w2 h2 => ?_)
  obtain ⟨b2, rfl, n2⟩ := h2
  have f2 : w.heap.size ≤ b2 := Nat.le_trans U.size n2.fresh
  replace U := U.tr n2.up
  have k2 := n2.blk
  refine l_eff (e_boxV (et (gS rfl (gS rfl g0)) rfl)) (fun v3 w3 h3 => ?_)
  obtain ⟨b3, rfl, n3⟩ := h3
  have d2_3 : b2 < b3 := Nat.lt_of_lt_of_le k2.lt n3.fresh
  have f3 : w.heap.size ≤ b3 := Nat.le_trans U.size n3.fresh
  replace k2 := k2.up n3.up
  replace U := U.tr n3.up
  have k3 := n3.blk
  refine l_eff (e_alloc zr_65) (fun v4 w4 h4 => ?_)
  obtain ⟨b4, rfl, n4⟩ := h4
  have d2_4 : b2 < b4 := Nat.lt_of_lt_of_le k2.lt n4.fresh
  have d3_4 : b3 < b4 := Nat.lt_of_lt_of_le k3.lt n4.fresh
  have f4 : w.heap.size ≤ b4 := Nat.le_trans U.size n4.fresh
  replace k2 := k2.up n4.up
  replace k3 := k3.up n4.up
  replace U := U.tr n4.up
  have k4 := n4.blk
  refine l_eff (e_alloc zr_407) (fun v5 w5 h5 => ?_)
  obtain ⟨b5, rfl, n5⟩ := h5
  have d2_5 : b2 < b5 := Nat.lt_of_lt_of_le k2.lt n5.fresh
  have d3_5 : b3 < b5 := Nat.lt_of_lt_of_le k3.lt n5.fresh
  have d4_5 : b4 < b5 := Nat.lt_of_lt_of_le k4.lt n5.fresh
  have f5 : w.heap.size ≤ b5 := Nat.le_trans U.size n5.fresh
  replace k2 := k2.up n5.up
  replace k3 := k3.up n5.up
  replace k4 := k4.up n5.up
  replace U := U.tr n5.up
  have k5 := n5.blk
  refine l_nil ?_
  refine hK1 _ _ ?_
  refine fg4 2 3 4 5 (gS rfl (gS rfl (gS rfl g0))) (gS rfl (gS rfl g0)) (gS rfl g0) g0 (fun g => ?_)
  refine c_seq (fun K6 hK6 => ?_)
  refine c_region ?_
  refine l_step (y_loadB agg_65 sz_65 (et (gS rfl (gS rfl g0)) rfl) (by first | (simp only [Value.cells, hV, aV, bV, wV, wL, List.size_toArray, length_bL, length_uL, length_be, size_spl, List.length_cons, List.length_nil, List.length_replicate, Nat.zero_add, Nat.reduceAdd, Nat.reduceLeDiff, Nat.le_refl]; done) | rfl) (at1B k3)) ?_
  refine l_eff (e_callV cal_408 (aC (et (gS rfl (gS rfl (gS rfl (gS rfl g0)))) rfl) (aC (et g0 rfl) aN)) (divide_spec _ b _ _ hl hd hb k2)) (fun v7 w7 h7 => ?_)
  obtain ⟨p, hp3, rfl, Q, hQ8, hQd, hQv, kQ, c7⟩ := h7
  replace k3 := k3.ch c7 (by omega)
  replace k4 := k4.ch c7 (by omega)
  replace k5 := k5.ch c7 (by omega)
  replace k2 := kQ
  replace U := U.cc c7 (by intro b hb; first | exact hb ▸ f2 | omega)
  refine l_step (y_ext (et g0 rfl) rfl) ?_
  refine l_step (y_ext (et (gS rfl g0) rfl) rfl) ?_
  refine l_effN (e_store sz_65 (et (gS rfl (gS rfl (gS rfl (gS rfl (gS rfl g0))))) rfl) (cellsV (et (gS rfl g0) rfl) rfl) (by first | (simp only [Value.cells, hV, aV, bV, wV, wL, List.size_toArray, length_bL, length_uL, length_be, size_spl, List.length_cons, List.length_nil, List.length_replicate, Nat.zero_add, Nat.reduceAdd, Nat.reduceLeDiff, Nat.le_refl]; done) | rfl) (by first | exact one_bL _ | exact one_uL _ | (intro v hv; simp at hv; subst hv; rfl)) k4 (by first | (simp only [Value.cells, hV, aV, bV, wV, wL, List.size_toArray, length_bL, length_uL, length_be, size_spl, List.length_cons, List.length_nil, List.length_replicate, Nat.zero_add, Nat.reduceAdd, Nat.reduceLeDiff, Nat.le_refl]; done) | exact Nat.le_of_ble_eq_true rfl | simp | omega)) (fun v8 w8 h8 => ?_)
  obtain ⟨rfl, x8⟩ := h8
  replace k2 := k2.ch x8.ch (by omega)
  replace k3 := k3.ch x8.ch (by omega)
  replace k5 := k5.ch x8.ch (by omega)
  replace k4 := x8.blk.full (by first | (simp only [Value.cells, hV, aV, bV, wV, wL, List.size_toArray, length_bL, length_uL, length_be, size_spl, List.length_cons, List.length_nil, List.length_replicate, Nat.zero_add, Nat.reduceAdd, Nat.reduceLeDiff, Nat.le_refl]; done) | rfl)
  replace U := U.st x8 f4
  refine l_effN (e_store sz_407 (et (gS rfl (gS rfl (gS rfl (gS rfl g0)))) rfl) (cellsV (et g0 rfl) rfl) (by rw [length_bL, hp3]) (by exact one_bL _) k5 (by exact Nat.le_of_ble_eq_true rfl)) (fun v9 w9 h9 => ?_)
  obtain ⟨rfl, x9⟩ := h9
  replace k2 := k2.ch x9.ch (by omega)
  replace k3 := k3.ch x9.ch (by omega)
  replace k4 := k4.ch x9.ch (by omega)
  replace k5 := x9.blk.full (by rw [length_bL, hp3]; rfl)
  replace U := U.st x9 f5
  refine l_nil ?_
  refine hK6 _ _ ?_
  refine fg2 4 5 (gS rfl (gS rfl (gS rfl (gS rfl (gS rfl g0))))) (gS rfl (gS rfl (gS rfl (gS rfl g0)))) (fun g => ?_)
  refine c_ret ?_
  refine ret2 rfl (res_blk agg_65 sz_65 (et (gS rfl g0) rfl) (by first | (rw [List.size_toArray, length_bL, hp3]; done) | rfl) k4) (res_blk agg_407 sz_407 (et g0 rfl) (by first | (rw [List.size_toArray, length_bL, hp3]; done) | rfl) k5) ?_
  exact ⟨p, hp3, rfl, U⟩
theorem div_spec (a b : Nat) (w : World) (ha : a < W256) (hb : b < W256) :
    Ret 273 [wV a, wV b] w (fun v w' => v = wV (a / b) ∧ Up w w') := by
  refine enter (n := 16) Hvaa.func273 rfl rfl (Nat.le_of_ble_eq_true rfl) ?_
  have U := Up.refl w
  refine c_seq (fun K1 hK1 => ?_)
  refine c_region ?_
  refine l_eff (e_boxV (et g0 rfl)) (fun v2 w2 h2 => ?_)
  obtain ⟨b2, rfl, n2⟩ := h2
  have f2 : w.heap.size ≤ b2 := Nat.le_trans U.size n2.fresh
  replace U := U.tr n2.up
  have k2 := n2.blk
  refine l_eff (e_boxV (et (gS rfl (gS rfl g0)) rfl)) (fun v3 w3 h3 => ?_)
  obtain ⟨b3, rfl, n3⟩ := h3
  have d2_3 : b2 < b3 := Nat.lt_of_lt_of_le k2.lt n3.fresh
  have f3 : w.heap.size ≤ b3 := Nat.le_trans U.size n3.fresh
  replace k2 := k2.up n3.up
  replace U := U.tr n3.up
  have k3 := n3.blk
  refine l_eff (e_alloc zr_65) (fun v4 w4 h4 => ?_)
  obtain ⟨b4, rfl, n4⟩ := h4
  have d2_4 : b2 < b4 := Nat.lt_of_lt_of_le k2.lt n4.fresh
  have d3_4 : b3 < b4 := Nat.lt_of_lt_of_le k3.lt n4.fresh
  have f4 : w.heap.size ≤ b4 := Nat.le_trans U.size n4.fresh
  replace k2 := k2.up n4.up
  replace k3 := k3.up n4.up
  replace U := U.tr n4.up
  have k4 := n4.blk
  refine l_nil ?_
  refine hK1 _ _ ?_
  refine fg3 2 3 4 (gS rfl (gS rfl g0)) (gS rfl g0) g0 (fun g => ?_)
  refine c_seq (fun K5 hK5 => ?_)
  refine c_region ?_
  refine l_step (y_loadB agg_65 sz_65 (et (gS rfl (gS rfl g0)) rfl) (by first | (simp only [Value.cells, hV, aV, bV, wV, wL, List.size_toArray, length_bL, length_uL, length_be, size_spl, List.length_cons, List.length_nil, List.length_replicate, Nat.zero_add, Nat.reduceAdd, Nat.reduceLeDiff, Nat.le_refl]; done) | rfl) (at1B k2)) ?_
  refine l_step (y_loadB agg_65 sz_65 (et (gS rfl (gS rfl g0)) rfl) (by first | (simp only [Value.cells, hV, aV, bV, wV, wL, List.size_toArray, length_bL, length_uL, length_be, size_spl, List.length_cons, List.length_nil, List.length_replicate, Nat.zero_add, Nat.reduceAdd, Nat.reduceLeDiff, Nat.le_refl]; done) | rfl) (at1B k3)) ?_
  refine l_eff (e_callV cal_374 (aC (et (gS rfl g0) rfl) (aC (et g0 rfl) aN)) (divRem_spec a b _ ha hb)) (fun v6 w6 h6 => ?_)
  obtain ⟨p, hp3, rfl, u6⟩ := h6
  replace k2 := k2.up u6
  replace k3 := k3.up u6
  replace k4 := k4.up u6
  replace U := U.tr u6
  refine l_step (y_moveV (et g0 rfl)) ?_
  refine l_step (y_ext (et g0 rfl) rfl) ?_
  refine l_step (y_ext (et (gS rfl g0) rfl) rfl) ?_
  refine l_step (y_ext (et (gS rfl (gS rfl g0)) rfl) rfl) ?_
  refine l_eff (e_alloc zr_65) (fun v7 w7 h7 => ?_)
  obtain ⟨b7, rfl, n7⟩ := h7
  have d2_7 : b2 < b7 := Nat.lt_of_lt_of_le k2.lt n7.fresh
  have d3_7 : b3 < b7 := Nat.lt_of_lt_of_le k3.lt n7.fresh
  have d4_7 : b4 < b7 := Nat.lt_of_lt_of_le k4.lt n7.fresh
  have f7 : w.heap.size ≤ b7 := Nat.le_trans U.size n7.fresh
  replace k2 := k2.up n7.up
  replace k3 := k3.up n7.up
  replace k4 := k4.up n7.up
  replace U := U.tr n7.up
  have k7 := n7.blk
  refine l_eff (e_alloc zr_65) (fun v8 w8 h8 => ?_)
  obtain ⟨b8, rfl, n8⟩ := h8
  have d2_8 : b2 < b8 := Nat.lt_of_lt_of_le k2.lt n8.fresh
  have d3_8 : b3 < b8 := Nat.lt_of_lt_of_le k3.lt n8.fresh
  have d4_8 : b4 < b8 := Nat.lt_of_lt_of_le k4.lt n8.fresh
  have d7_8 : b7 < b8 := Nat.lt_of_lt_of_le k7.lt n8.fresh
  have f8 : w.heap.size ≤ b8 := Nat.le_trans U.size n8.fresh
  replace k2 := k2.up n8.up
  replace k3 := k3.up n8.up
  replace k4 := k4.up n8.up
  replace k7 := k7.up n8.up
  replace U := U.tr n8.up
  have k8 := n8.blk
  refine l_eff (e_alloc zr_407) (fun v9 w9 h9 => ?_)
  obtain ⟨b9, rfl, n9⟩ := h9
  have d2_9 : b2 < b9 := Nat.lt_of_lt_of_le k2.lt n9.fresh
  have d3_9 : b3 < b9 := Nat.lt_of_lt_of_le k3.lt n9.fresh
  have d4_9 : b4 < b9 := Nat.lt_of_lt_of_le k4.lt n9.fresh
  have d7_9 : b7 < b9 := Nat.lt_of_lt_of_le k7.lt n9.fresh
  have d8_9 : b8 < b9 := Nat.lt_of_lt_of_le k8.lt n9.fresh
  have f9 : w.heap.size ≤ b9 := Nat.le_trans U.size n9.fresh
  replace k2 := k2.up n9.up
  replace k3 := k3.up n9.up
  replace k4 := k4.up n9.up
  replace k7 := k7.up n9.up
  replace k8 := k8.up n9.up
  replace U := U.tr n9.up
  have k9 := n9.blk
  refine l_effN (e_store sz_65 (et (gS rfl (gS rfl g0)) rfl) (cellsV (et (gS rfl (gS rfl (gS rfl (gS rfl (gS rfl g0))))) rfl) rfl) (by first | (simp only [Value.cells, hV, aV, bV, wV, wL, List.size_toArray, length_bL, length_uL, length_be, size_spl, List.length_cons, List.length_nil, List.length_replicate, Nat.zero_add, Nat.reduceAdd, Nat.reduceLeDiff, Nat.le_refl]; done) | rfl) (by first | exact one_bL _ | exact one_uL _ | (intro v hv; simp at hv; subst hv; rfl)) k7 (by first | (simp only [Value.cells, hV, aV, bV, wV, wL, List.size_toArray, length_bL, length_uL, length_be, size_spl, List.length_cons, List.length_nil, List.length_replicate, Nat.zero_add, Nat.reduceAdd, Nat.reduceLeDiff, Nat.le_refl]; done) | exact Nat.le_of_ble_eq_true rfl | simp | omega)) (fun v10 w10 h10 => ?_)
  obtain ⟨rfl, x10⟩ := h10
  replace k2 := k2.ch x10.ch (by omega)
  replace k3 := k3.ch x10.ch (by omega)
  replace k4 := k4.ch x10.ch (by omega)
  replace k8 := k8.ch x10.ch (by omega)
  replace k9 := k9.ch x10.ch (by omega)
  replace k7 := x10.blk.full (by first | (simp only [Value.cells, hV, aV, bV, wV, wL, List.size_toArray, length_bL, length_uL, length_be, size_spl, List.length_cons, List.length_nil, List.length_replicate, Nat.zero_add, Nat.reduceAdd, Nat.reduceLeDiff, Nat.le_refl]; done) | rfl)
  replace U := U.st x10 f7
  refine l_effN (e_store sz_65 (et (gS rfl g0) rfl) (cellsV (et (gS rfl (gS rfl (gS rfl (gS rfl g0)))) rfl) rfl) (by first | (simp only [Value.cells, hV, aV, bV, wV, wL, List.size_toArray, length_bL, length_uL, length_be, size_spl, List.length_cons, List.length_nil, List.length_replicate, Nat.zero_add, Nat.reduceAdd, Nat.reduceLeDiff, Nat.le_refl]; done) | rfl) (by first | exact one_bL _ | exact one_uL _ | (intro v hv; simp at hv; subst hv; rfl)) k8 (by first | (simp only [Value.cells, hV, aV, bV, wV, wL, List.size_toArray, length_bL, length_uL, length_be, size_spl, List.length_cons, List.length_nil, List.length_replicate, Nat.zero_add, Nat.reduceAdd, Nat.reduceLeDiff, Nat.le_refl]; done) | exact Nat.le_of_ble_eq_true rfl | simp | omega)) (fun v11 w11 h11 => ?_)
  obtain ⟨rfl, x11⟩ := h11
  replace k2 := k2.ch x11.ch (by omega)
  replace k3 := k3.ch x11.ch (by omega)
  replace k4 := k4.ch x11.ch (by omega)
  replace k7 := k7.ch x11.ch (by omega)
  replace k9 := k9.ch x11.ch (by omega)
  replace k8 := x11.blk.full (by first | (simp only [Value.cells, hV, aV, bV, wV, wL, List.size_toArray, length_bL, length_uL, length_be, size_spl, List.length_cons, List.length_nil, List.length_replicate, Nat.zero_add, Nat.reduceAdd, Nat.reduceLeDiff, Nat.le_refl]; done) | rfl)
  replace U := U.st x11 f8
  refine l_effN (e_store sz_407 (et g0 rfl) (cellsV (et (gS rfl (gS rfl (gS rfl g0))) rfl) rfl) (by rw [length_bL, hp3]) (by exact one_bL _) k9 (by exact Nat.le_of_ble_eq_true rfl)) (fun v12 w12 h12 => ?_)
  obtain ⟨rfl, x12⟩ := h12
  replace k2 := k2.ch x12.ch (by omega)
  replace k3 := k3.ch x12.ch (by omega)
  replace k4 := k4.ch x12.ch (by omega)
  replace k7 := k7.ch x12.ch (by omega)
  replace k8 := k8.ch x12.ch (by omega)
  replace k9 := x12.blk.full (by rw [length_bL, hp3]; rfl)
  replace U := U.st x12 f9
  refine l_nil ?_
  refine hK5 _ _ ?_
  refine fg2 4 5 (gS rfl (gS rfl (gS rfl (gS rfl (gS rfl (gS rfl (gS rfl (gS rfl (gS rfl (gS rfl g0)))))))))) (gS rfl (gS rfl g0)) (fun g => ?_)
  refine c_seq (fun K13 hK13 => ?_)
  refine c_region ?_
  refine l_step (y_loadB agg_65 sz_65 (et g0 rfl) (by first | (simp only [Value.cells, hV, aV, bV, wV, wL, List.size_toArray, length_bL, length_uL, length_be, size_spl, List.length_cons, List.length_nil, List.length_replicate, Nat.zero_add, Nat.reduceAdd, Nat.reduceLeDiff, Nat.le_refl]; done) | rfl) (at1B k7)) ?_
  refine l_effN (e_store sz_65 (et (gS rfl (gS rfl g0)) rfl) (cellsV (et g0 rfl) rfl) (by first | (simp only [Value.cells, hV, aV, bV, wV, wL, List.size_toArray, length_bL, length_uL, length_be, size_spl, List.length_cons, List.length_nil, List.length_replicate, Nat.zero_add, Nat.reduceAdd, Nat.reduceLeDiff, Nat.le_refl]; done) | rfl) (by first | exact one_bL _ | exact one_uL _ | (intro v hv; simp at hv; subst hv; rfl)) k4 (by first | (simp only [Value.cells, hV, aV, bV, wV, wL, List.size_toArray, length_bL, length_uL, length_be, size_spl, List.length_cons, List.length_nil, List.length_replicate, Nat.zero_add, Nat.reduceAdd, Nat.reduceLeDiff, Nat.le_refl]; done) | exact Nat.le_of_ble_eq_true rfl | simp | omega)) (fun v14 w14 h14 => ?_)
  obtain ⟨rfl, x14⟩ := h14
  replace k2 := k2.ch x14.ch (by omega)
  replace k3 := k3.ch x14.ch (by omega)
  replace k7 := k7.ch x14.ch (by omega)
  replace k8 := k8.ch x14.ch (by omega)
  replace k9 := k9.ch x14.ch (by omega)
  replace k4 := x14.blk.full (by first | (simp only [Value.cells, hV, aV, bV, wV, wL, List.size_toArray, length_bL, length_uL, length_be, size_spl, List.length_cons, List.length_nil, List.length_replicate, Nat.zero_add, Nat.reduceAdd, Nat.reduceLeDiff, Nat.le_refl]; done) | rfl)
  replace U := U.st x14 f4
  refine l_nil ?_
  refine hK13 _ _ ?_
  refine fg1 4 (gS rfl (gS rfl g0)) (fun g => ?_)
  refine c_ret ?_
  refine ret1 rfl (res_blk agg_65 sz_65 (et g0 rfl) (by first | (simp only [Value.cells, hV, aV, bV, wV, wL, List.size_toArray, length_bL, length_uL, length_be, size_spl, List.length_cons, List.length_nil, List.length_replicate, Nat.zero_add, Nat.reduceAdd, Nat.reduceLeDiff, Nat.le_refl]; done) | rfl) k4) ?_
  exact ⟨rfl, U⟩
theorem mod_spec (a b : Nat) (w : World) (ha : a < W256) (hb : b < W256) :
    Ret 275 [wV a, wV b] w (fun v w' => v = wV (if b = 0 then 0 else a % b) ∧ Up w w') := by
  refine enter (n := 16) Hvaa.func275 rfl rfl (Nat.le_of_ble_eq_true rfl) ?_
  have U := Up.refl w
  refine c_seq (fun K1 hK1 => ?_)
  refine c_region ?_
  refine l_eff (e_boxV (et g0 rfl)) (fun v2 w2 h2 => ?_)
  obtain ⟨b2, rfl, n2⟩ := h2
  have f2 : w.heap.size ≤ b2 := Nat.le_trans U.size n2.fresh
  replace U := U.tr n2.up
  have k2 := n2.blk
  refine l_eff (e_boxV (et (gS rfl (gS rfl g0)) rfl)) (fun v3 w3 h3 => ?_)
  obtain ⟨b3, rfl, n3⟩ := h3
  have d2_3 : b2 < b3 := Nat.lt_of_lt_of_le k2.lt n3.fresh
  have f3 : w.heap.size ≤ b3 := Nat.le_trans U.size n3.fresh
  replace k2 := k2.up n3.up
  replace U := U.tr n3.up
  have k3 := n3.blk
  refine l_eff (e_alloc zr_65) (fun v4 w4 h4 => ?_)
  obtain ⟨b4, rfl, n4⟩ := h4
  have d2_4 : b2 < b4 := Nat.lt_of_lt_of_le k2.lt n4.fresh
  have d3_4 : b3 < b4 := Nat.lt_of_lt_of_le k3.lt n4.fresh
  have f4 : w.heap.size ≤ b4 := Nat.le_trans U.size n4.fresh
  replace k2 := k2.up n4.up
  replace k3 := k3.up n4.up
  replace U := U.tr n4.up
  have k4 := n4.blk
  refine l_nil ?_
  refine hK1 _ _ ?_
  refine fg3 2 3 4 (gS rfl (gS rfl g0)) (gS rfl g0) g0 (fun g => ?_)
  refine c_seq (fun K5 hK5 => ?_)
  refine c_region ?_
  refine l_step (y_loadB agg_65 sz_65 (et (gS rfl (gS rfl g0)) rfl) (by first | (simp only [Value.cells, hV, aV, bV, wV, wL, List.size_toArray, length_bL, length_uL, length_be, size_spl, List.length_cons, List.length_nil, List.length_replicate, Nat.zero_add, Nat.reduceAdd, Nat.reduceLeDiff, Nat.le_refl]; done) | rfl) (at1B k2)) ?_
  refine l_step (y_loadB agg_65 sz_65 (et (gS rfl (gS rfl g0)) rfl) (by first | (simp only [Value.cells, hV, aV, bV, wV, wL, List.size_toArray, length_bL, length_uL, length_be, size_spl, List.length_cons, List.length_nil, List.length_replicate, Nat.zero_add, Nat.reduceAdd, Nat.reduceLeDiff, Nat.le_refl]; done) | rfl) (at1B k3)) ?_
  refine l_eff (e_callV cal_374 (aC (et (gS rfl g0) rfl) (aC (et g0 rfl) aN)) (divRem_spec a b _ ha hb)) (fun v6 w6 h6 => ?_)
  obtain ⟨p, hp3, rfl, u6⟩ := h6
  replace k2 := k2.up u6
  replace k3 := k3.up u6
  replace k4 := k4.up u6
  replace U := U.tr u6
  refine l_step (y_moveV (et g0 rfl)) ?_
  refine l_step (y_ext (et g0 rfl) rfl) ?_
  refine l_step (y_ext (et (gS rfl g0) rfl) rfl) ?_
  refine l_step (y_ext (et (gS rfl (gS rfl g0)) rfl) rfl) ?_
  refine l_eff (e_alloc zr_65) (fun v7 w7 h7 => ?_)
  obtain ⟨b7, rfl, n7⟩ := h7
  have d2_7 : b2 < b7 := Nat.lt_of_lt_of_le k2.lt n7.fresh
  have d3_7 : b3 < b7 := Nat.lt_of_lt_of_le k3.lt n7.fresh
  have d4_7 : b4 < b7 := Nat.lt_of_lt_of_le k4.lt n7.fresh
  have f7 : w.heap.size ≤ b7 := Nat.le_trans U.size n7.fresh
  replace k2 := k2.up n7.up
  replace k3 := k3.up n7.up
  replace k4 := k4.up n7.up
  replace U := U.tr n7.up
  have k7 := n7.blk
  refine l_eff (e_alloc zr_65) (fun v8 w8 h8 => ?_)
  obtain ⟨b8, rfl, n8⟩ := h8
  have d2_8 : b2 < b8 := Nat.lt_of_lt_of_le k2.lt n8.fresh
  have d3_8 : b3 < b8 := Nat.lt_of_lt_of_le k3.lt n8.fresh
  have d4_8 : b4 < b8 := Nat.lt_of_lt_of_le k4.lt n8.fresh
  have d7_8 : b7 < b8 := Nat.lt_of_lt_of_le k7.lt n8.fresh
  have f8 : w.heap.size ≤ b8 := Nat.le_trans U.size n8.fresh
  replace k2 := k2.up n8.up
  replace k3 := k3.up n8.up
  replace k4 := k4.up n8.up
  replace k7 := k7.up n8.up
  replace U := U.tr n8.up
  have k8 := n8.blk
  refine l_eff (e_alloc zr_407) (fun v9 w9 h9 => ?_)
  obtain ⟨b9, rfl, n9⟩ := h9
  have d2_9 : b2 < b9 := Nat.lt_of_lt_of_le k2.lt n9.fresh
  have d3_9 : b3 < b9 := Nat.lt_of_lt_of_le k3.lt n9.fresh
  have d4_9 : b4 < b9 := Nat.lt_of_lt_of_le k4.lt n9.fresh
  have d7_9 : b7 < b9 := Nat.lt_of_lt_of_le k7.lt n9.fresh
  have d8_9 : b8 < b9 := Nat.lt_of_lt_of_le k8.lt n9.fresh
  have f9 : w.heap.size ≤ b9 := Nat.le_trans U.size n9.fresh
  replace k2 := k2.up n9.up
  replace k3 := k3.up n9.up
  replace k4 := k4.up n9.up
  replace k7 := k7.up n9.up
  replace k8 := k8.up n9.up
  replace U := U.tr n9.up
  have k9 := n9.blk
  refine l_effN (e_store sz_65 (et (gS rfl (gS rfl g0)) rfl) (cellsV (et (gS rfl (gS rfl (gS rfl (gS rfl (gS rfl g0))))) rfl) rfl) (by first | (simp only [Value.cells, hV, aV, bV, wV, wL, List.size_toArray, length_bL, length_uL, length_be, size_spl, List.length_cons, List.length_nil, List.length_replicate, Nat.zero_add, Nat.reduceAdd, Nat.reduceLeDiff, Nat.le_refl]; done) | rfl) (by first | exact one_bL _ | exact one_uL _ | (intro v hv; simp at hv; subst hv; rfl)) k7 (by first | (simp only [Value.cells, hV, aV, bV, wV, wL, List.size_toArray, length_bL, length_uL, length_be, size_spl, List.length_cons, List.length_nil, List.length_replicate, Nat.zero_add, Nat.reduceAdd, Nat.reduceLeDiff, Nat.le_refl]; done) | exact Nat.le_of_ble_eq_true rfl | simp | omega)) (fun v10 w10 h10 => ?_)
  obtain ⟨rfl, x10⟩ := h10
  replace k2 := k2.ch x10.ch (by omega)
  replace k3 := k3.ch x10.ch (by omega)
  replace k4 := k4.ch x10.ch (by omega)
  replace k8 := k8.ch x10.ch (by omega)
  replace k9 := k9.ch x10.ch (by omega)
  replace k7 := x10.blk.full (by first | (simp only [Value.cells, hV, aV, bV, wV, wL, List.size_toArray, length_bL, length_uL, length_be, size_spl, List.length_cons, List.length_nil, List.length_replicate, Nat.zero_add, Nat.reduceAdd, Nat.reduceLeDiff, Nat.le_refl]; done) | rfl)
  replace U := U.st x10 f7
  refine l_effN (e_store sz_65 (et (gS rfl g0) rfl) (cellsV (et (gS rfl (gS rfl (gS rfl (gS rfl g0)))) rfl) rfl) (by first | (simp only [Value.cells, hV, aV, bV, wV, wL, List.size_toArray, length_bL, length_uL, length_be, size_spl, List.length_cons, List.length_nil, List.length_replicate, Nat.zero_add, Nat.reduceAdd, Nat.reduceLeDiff, Nat.le_refl]; done) | rfl) (by first | exact one_bL _ | exact one_uL _ | (intro v hv; simp at hv; subst hv; rfl)) k8 (by first | (simp only [Value.cells, hV, aV, bV, wV, wL, List.size_toArray, length_bL, length_uL, length_be, size_spl, List.length_cons, List.length_nil, List.length_replicate, Nat.zero_add, Nat.reduceAdd, Nat.reduceLeDiff, Nat.le_refl]; done) | exact Nat.le_of_ble_eq_true rfl | simp | omega)) (fun v11 w11 h11 => ?_)
  obtain ⟨rfl, x11⟩ := h11
  replace k2 := k2.ch x11.ch (by omega)
  replace k3 := k3.ch x11.ch (by omega)
  replace k4 := k4.ch x11.ch (by omega)
  replace k7 := k7.ch x11.ch (by omega)
  replace k9 := k9.ch x11.ch (by omega)
  replace k8 := x11.blk.full (by first | (simp only [Value.cells, hV, aV, bV, wV, wL, List.size_toArray, length_bL, length_uL, length_be, size_spl, List.length_cons, List.length_nil, List.length_replicate, Nat.zero_add, Nat.reduceAdd, Nat.reduceLeDiff, Nat.le_refl]; done) | rfl)
  replace U := U.st x11 f8
  refine l_effN (e_store sz_407 (et g0 rfl) (cellsV (et (gS rfl (gS rfl (gS rfl g0))) rfl) rfl) (by rw [length_bL, hp3]) (by exact one_bL _) k9 (by exact Nat.le_of_ble_eq_true rfl)) (fun v12 w12 h12 => ?_)
  obtain ⟨rfl, x12⟩ := h12
  replace k2 := k2.ch x12.ch (by omega)
  replace k3 := k3.ch x12.ch (by omega)
  replace k4 := k4.ch x12.ch (by omega)
  replace k7 := k7.ch x12.ch (by omega)
  replace k8 := k8.ch x12.ch (by omega)
  replace k9 := x12.blk.full (by rw [length_bL, hp3]; rfl)
  replace U := U.st x12 f9
  refine l_nil ?_
  refine hK5 _ _ ?_
  refine fg2 4 6 (gS rfl (gS rfl (gS rfl (gS rfl (gS rfl (gS rfl (gS rfl (gS rfl (gS rfl (gS rfl g0)))))))))) (gS rfl g0) (fun g => ?_)
  refine c_seq (fun K13 hK13 => ?_)
  refine c_region ?_
  refine l_step (y_loadB agg_65 sz_65 (et g0 rfl) (by first | (simp only [Value.cells, hV, aV, bV, wV, wL, List.size_toArray, length_bL, length_uL, length_be, size_spl, List.length_cons, List.length_nil, List.length_replicate, Nat.zero_add, Nat.reduceAdd, Nat.reduceLeDiff, Nat.le_refl]; done) | rfl) (at1B k8)) ?_
  refine l_effN (e_store sz_65 (et (gS rfl (gS rfl g0)) rfl) (cellsV (et g0 rfl) rfl) (by first | (simp only [Value.cells, hV, aV, bV, wV, wL, List.size_toArray, length_bL, length_uL, length_be, size_spl, List.length_cons, List.length_nil, List.length_replicate, Nat.zero_add, Nat.reduceAdd, Nat.reduceLeDiff, Nat.le_refl]; done) | rfl) (by first | exact one_bL _ | exact one_uL _ | (intro v hv; simp at hv; subst hv; rfl)) k4 (by first | (simp only [Value.cells, hV, aV, bV, wV, wL, List.size_toArray, length_bL, length_uL, length_be, size_spl, List.length_cons, List.length_nil, List.length_replicate, Nat.zero_add, Nat.reduceAdd, Nat.reduceLeDiff, Nat.le_refl]; done) | exact Nat.le_of_ble_eq_true rfl | simp | omega)) (fun v14 w14 h14 => ?_)
  obtain ⟨rfl, x14⟩ := h14
  replace k2 := k2.ch x14.ch (by omega)
  replace k3 := k3.ch x14.ch (by omega)
  replace k7 := k7.ch x14.ch (by omega)
  replace k8 := k8.ch x14.ch (by omega)
  replace k9 := k9.ch x14.ch (by omega)
  replace k4 := x14.blk.full (by first | (simp only [Value.cells, hV, aV, bV, wV, wL, List.size_toArray, length_bL, length_uL, length_be, size_spl, List.length_cons, List.length_nil, List.length_replicate, Nat.zero_add, Nat.reduceAdd, Nat.reduceLeDiff, Nat.le_refl]; done) | rfl)
  replace U := U.st x14 f4
  refine l_nil ?_
  refine hK13 _ _ ?_
  refine fg1 4 (gS rfl (gS rfl g0)) (fun g => ?_)
  refine c_ret ?_
  refine ret1 rfl (res_blk agg_65 sz_65 (et g0 rfl) (by first | (simp only [Value.cells, hV, aV, bV, wV, wL, List.size_toArray, length_bL, length_uL, length_be, size_spl, List.length_cons, List.length_nil, List.length_replicate, Nat.zero_add, Nat.reduceAdd, Nat.reduceLeDiff, Nat.le_refl]; done) | rfl) k4) ?_
  exact ⟨rfl, U⟩
def neg (a : Nat) : Bool := decide (57896044618658097711785492504343953926634992332820282019728792003956564819968 ≤ a)
def eSdiv (a b : Nat) : Nat := sgn (sgn a (neg a) / sgn b (neg b)) (!(neg a == neg b))
def eSmod (a b : Nat) : Nat := sgn (if sgn b (neg b) = 0 then 0 else sgn a (neg a) % sgn b (neg b)) (neg a)
def eAddmod (a b m : Nat) : Nat := if m = 0 then 0 else (a + b) % m
def eMulmod (a b m : Nat) : Nat := if m = 0 then 0 else a * b % m
theorem sdiv_spec (a b : Nat) (w : World) (ha : a < W256) (hb : b < W256) :
    Ret 274 [wV a, wV b] w (fun v w' => v = wV (eSdiv a b) ∧ Up w w') := by
  refine enter (n := 22) Hvaa.func274 rfl rfl (Nat.le_of_ble_eq_true rfl) ?_
  have U := Up.refl w
  refine c_seq (fun K1 hK1 => ?_)
  refine c_region ?_
  refine l_eff (e_boxV (et g0 rfl)) (fun v2 w2 h2 => ?_)
  obtain ⟨b2, rfl, n2⟩ := h2
  have f2 : w.heap.size ≤ b2 := Nat.le_trans U.size n2.fresh
  replace U := U.tr n2.up
  have k2 := n2.blk
  refine l_eff (e_boxV (et (gS rfl (gS rfl g0)) rfl)) (fun v3 w3 h3 => ?_)
  obtain ⟨b3, rfl, n3⟩ := h3
  have d2_3 : b2 < b3 := Nat.lt_of_lt_of_le k2.lt n3.fresh
  have f3 : w.heap.size ≤ b3 := Nat.le_trans U.size n3.fresh
  replace k2 := k2.up n3.up
  replace U := U.tr n3.up
  have k3 := n3.blk
  refine l_eff (e_alloc zr_65) (fun v4 w4 h4 => ?_)
  obtain ⟨b4, rfl, n4⟩ := h4
  have d2_4 : b2 < b4 := Nat.lt_of_lt_of_le k2.lt n4.fresh
  have d3_4 : b3 < b4 := Nat.lt_of_lt_of_le k3.lt n4.fresh
  have f4 : w.heap.size ≤ b4 := Nat.le_trans U.size n4.fresh
  replace k2 := k2.up n4.up
  replace k3 := k3.up n4.up
  replace U := U.tr n4.up
  have k4 := n4.blk
  refine l_nil ?_
  refine hK1 _ _ ?_
  refine fg3 2 3 4 (gS rfl (gS rfl g0)) (gS rfl g0) g0 (fun g => ?_)
  refine c_seq (fun K5 hK5 => ?_)
  refine fgv3 2 3 4 (gS rfl (gS rfl g0)) (gS rfl g0) g0 (fun g z2 z3 z4 e2 e3 e4 => ?_)
  refine c_drawJ (fun s_ w_ => ∃ (g : Nat → Value) (b7 : Nat), s_ = (upd (upd (upd (upd g 2 z2) 3 z3) 4 z4) 5 (.pointer (some ⟨b7, 0, none⟩))) ∧ Ch (fun _ => False) w4 w_ ∧ w4.heap.size ≤ b7 ∧ Blk w_ b7 ((wL (sgn a (neg a) / sgn b (neg b))).toArray)) Up 10 (.pure 0 (.pure 1 (.pure 4 (.pure 5 (.two 2 (.two 3 (.two 6 (.two 7 (.two 8 (.eff 9 (.eff 10 .fin)) 9 (.eff 8 (.eff 10 .fin))) 9 (.eff 7 (.eff 8 (.eff 10 .fin)))) 9 (.eff 6 (.eff 7 (.eff 8 (.eff 10 .fin))))) 9 (.eff 3 (.eff 6 (.eff 7 (.eff 8 (.eff 10 .fin)))))) 9 (.eff 2 (.eff 3 (.eff 6 (.eff 7 (.eff 8 (.eff 10 .fin))))))))))) (by kernel_rfl) (fun w8 hu => ⟨Up.refl _, ?_⟩) ?_
  · skip
    subst e2 e3 e4
    replace k2 := k2.up hu
    replace k3 := k3.up hu
    replace k4 := k4.up hu
    replace U := U.tr hu
    have SU := Up.refl w8
    have V6 : Ch (fun _ => False) w4 w8 := hu
    refine t_step (by exact rfl) (y_loadB agg_65 sz_65 (et (gS rfl (gS rfl g0)) rfl) (by first | (simp only [Value.cells, hV, aV, bV, wV, wL, List.size_toArray, length_bL, length_uL, length_be, size_spl, List.length_cons, List.length_nil, List.length_replicate, Nat.zero_add, Nat.reduceAdd, Nat.reduceLeDiff, Nat.le_refl]; done) | rfl) (atSB k2)) ?_
    refine t_step (by exact rfl) (y_loadB agg_65 sz_65 (et (gS rfl (gS rfl (gS rfl g0))) rfl) (by first | (simp only [Value.cells, hV, aV, bV, wV, wL, List.size_toArray, length_bL, length_uL, length_be, size_spl, List.length_cons, List.length_nil, List.length_replicate, Nat.zero_add, Nat.reduceAdd, Nat.reduceLeDiff, Nat.le_refl]; done) | rfl) (atSB k2)) ?_
    refine t_step (by exact rfl) (y_loadB agg_65 sz_65 (et (gS rfl (gS rfl (gS rfl g0))) rfl) (by first | (simp only [Value.cells, hV, aV, bV, wV, wL, List.size_toArray, length_bL, length_uL, length_be, size_spl, List.length_cons, List.length_nil, List.length_replicate, Nat.zero_add, Nat.reduceAdd, Nat.reduceLeDiff, Nat.le_refl]; done) | rfl) (atSB k3)) ?_
    refine t_step (by exact rfl) (y_loadB agg_65 sz_65 (et (gS rfl (gS rfl (gS rfl (gS rfl g0)))) rfl) (by first | (simp only [Value.cells, hV, aV, bV, wV, wL, List.size_toArray, length_bL, length_uL, length_be, size_spl, List.length_cons, List.length_nil, List.length_replicate, Nat.zero_add, Nat.reduceAdd, Nat.reduceLeDiff, Nat.le_refl]; done) | rfl) (atSB k3)) ?_
    refine t_two ?_ ?_
    · skip
      refine t_eff (by exact rfl) (e_callV cal_376 (aC (et (gS rfl (gS rfl g0)) rfl) aN) (neg_spec a _ ha)) (fun v9 w9 h9 => ?_)
      obtain ⟨rfl, u9⟩ := h9
      replace k2 := k2.up u9
      replace k3 := k3.up u9
      replace k4 := k4.up u9
      replace U := U.tr u9
      replace V6 := V6.tr u9
      refine ⟨.inr (SU.tr u9), ?_⟩
      replace SU := SU.tr u9
      refine t_two ?_ ?_
      · skip
        refine t_eff (by exact rfl) (e_callV cal_375 (aC (et (gS rfl (gS rfl (gS rfl (gS rfl g0)))) rfl) (aC (et g0 rfl) aN)) (signed_spec a _ _ ha)) (fun v10 w10 h10 => ?_)
        obtain ⟨rfl, u10⟩ := h10
        replace k2 := k2.up u10
        replace k3 := k3.up u10
        replace k4 := k4.up u10
        replace U := U.tr u10
        replace V6 := V6.tr u10
        refine ⟨.inr (SU.tr u10), ?_⟩
        replace SU := SU.tr u10
        refine t_two ?_ ?_
        · skip
          refine t_eff (by exact rfl) (e_callV cal_376 (aC (et (gS rfl (gS rfl g0)) rfl) aN) (neg_spec b _ hb)) (fun v11 w11 h11 => ?_)
          obtain ⟨rfl, u11⟩ := h11
          replace k2 := k2.up u11
          replace k3 := k3.up u11
          replace k4 := k4.up u11
          replace U := U.tr u11
          replace V6 := V6.tr u11
          refine ⟨.inr (SU.tr u11), ?_⟩
          replace SU := SU.tr u11
          refine t_two ?_ ?_
          · skip
            refine t_eff (by exact rfl) (e_callV cal_375 (aC (et (gS rfl (gS rfl (gS rfl (gS rfl g0)))) rfl) (aC (et g0 rfl) aN)) (signed_spec b _ _ hb)) (fun v12 w12 h12 => ?_)
            obtain ⟨rfl, u12⟩ := h12
            replace k2 := k2.up u12
            replace k3 := k3.up u12
            replace k4 := k4.up u12
            replace U := U.tr u12
            replace V6 := V6.tr u12
            refine ⟨.inr (SU.tr u12), ?_⟩
            replace SU := SU.tr u12
            refine t_two ?_ ?_
            · skip
              refine t_eff (by exact rfl) (e_callV cal_273 (aC (et (gS rfl (gS rfl g0)) rfl) (aC (et g0 rfl) aN)) (div_spec _ _ _ (sgn_lt _ _ ha) (sgn_lt _ _ hb))) (fun v13 w13 h13 => ?_)
              obtain ⟨rfl, u13⟩ := h13
              replace k2 := k2.up u13
              replace k3 := k3.up u13
              replace k4 := k4.up u13
              replace U := U.tr u13
              replace V6 := V6.tr u13
              refine ⟨.inr (SU.tr u13), ?_⟩
              replace SU := SU.tr u13
              refine t_one ?_
              refine t_eff (by exact rfl) (e_alloc zr_65) (fun v14 w14 h14 => ?_)
              obtain ⟨b14, rfl, n14⟩ := h14
              have d2_14 : b2 < b14 := Nat.lt_of_lt_of_le k2.lt n14.fresh
              have d3_14 : b3 < b14 := Nat.lt_of_lt_of_le k3.lt n14.fresh
              have d4_14 : b4 < b14 := Nat.lt_of_lt_of_le k4.lt n14.fresh
              have f14 : w.heap.size ≤ b14 := Nat.le_trans U.size n14.fresh
              have fS14 := Nat.le_trans SU.size n14.fresh
              have fV6_14 := Nat.le_trans V6.size n14.fresh
              replace k2 := k2.up n14.up
              replace k3 := k3.up n14.up
              replace k4 := k4.up n14.up
              replace U := U.tr n14.up
              replace V6 := V6.tr n14.up
              have k14 := n14.blk
              refine ⟨.inr (SU.tr n14.up), ?_⟩
              replace SU := SU.tr n14.up
              refine t_one ?_
              refine t_effN (by exact rfl) (e_store sz_65 (et g0 rfl) (cellsV (et (gS rfl g0) rfl) rfl) (by first | (simp only [Value.cells, hV, aV, bV, wV, wL, List.size_toArray, length_bL, length_uL, length_be, size_spl, List.length_cons, List.length_nil, List.length_replicate, Nat.zero_add, Nat.reduceAdd, Nat.reduceLeDiff, Nat.le_refl]; done) | rfl) (by first | exact one_bL _ | exact one_uL _ | (intro v hv; simp at hv; subst hv; rfl)) k14 (by first | (simp only [Value.cells, hV, aV, bV, wV, wL, List.size_toArray, length_bL, length_uL, length_be, size_spl, List.length_cons, List.length_nil, List.length_replicate, Nat.zero_add, Nat.reduceAdd, Nat.reduceLeDiff, Nat.le_refl]; done) | exact Nat.le_of_ble_eq_true rfl | simp | omega)) (fun v15 w15 h15 => ?_)
              obtain ⟨rfl, x15⟩ := h15
              replace k2 := k2.ch x15.ch (by omega)
              replace k3 := k3.ch x15.ch (by omega)
              replace k4 := k4.ch x15.ch (by omega)
              replace k14 := x15.blk.full (by first | (simp only [Value.cells, hV, aV, bV, wV, wL, List.size_toArray, length_bL, length_uL, length_be, size_spl, List.length_cons, List.length_nil, List.length_replicate, Nat.zero_add, Nat.reduceAdd, Nat.reduceLeDiff, Nat.le_refl]; done) | rfl)
              replace U := U.st x15 f14
              replace V6 := V6.st x15 (by omega)
              refine ⟨.inl rfl, ?_⟩
              refine tl4 2 3 4 5 (gS rfl (gS rfl (gS rfl (gS rfl (gS rfl (gS rfl (gS rfl (gS rfl (gS rfl (gS rfl (gS rfl (gS rfl g0)))))))))))) (gS rfl (gS rfl (gS rfl (gS rfl (gS rfl (gS rfl (gS rfl (gS rfl (gS rfl (gS rfl (gS rfl g0))))))))))) (gS rfl (gS rfl (gS rfl (gS rfl (gS rfl (gS rfl (gS rfl (gS rfl (gS rfl (gS rfl g0)))))))))) g0 (fun g => ?_)
              exact ⟨g, _, rfl, V6, Nat.le_trans hu.size fS14, k14⟩
            · skip
              refine t_eff (by exact rfl) (e_alloc zr_65) (fun v16 w16 h16 => ?_)
              obtain ⟨b16, rfl, n16⟩ := h16
              have d2_16 : b2 < b16 := Nat.lt_of_lt_of_le k2.lt n16.fresh
              have d3_16 : b3 < b16 := Nat.lt_of_lt_of_le k3.lt n16.fresh
              have d4_16 : b4 < b16 := Nat.lt_of_lt_of_le k4.lt n16.fresh
              have f16 : w.heap.size ≤ b16 := Nat.le_trans U.size n16.fresh
              have fS16 := Nat.le_trans SU.size n16.fresh
              have fV6_16 := Nat.le_trans V6.size n16.fresh
              replace k2 := k2.up n16.up
              replace k3 := k3.up n16.up
              replace k4 := k4.up n16.up
              replace U := U.tr n16.up
              replace V6 := V6.tr n16.up
              have k16 := n16.blk
              refine ⟨.inr (SU.tr n16.up), ?_⟩
              replace SU := SU.tr n16.up
              refine t_one ?_
              refine t_eff (by exact rfl) (e_callV cal_273 (aC (et (gS rfl (gS rfl (gS rfl g0))) rfl) (aC (et (gS rfl g0) rfl) aN)) (div_spec _ _ _ (sgn_lt _ _ ha) (sgn_lt _ _ hb))) (fun v17 w17 h17 => ?_)
              obtain ⟨rfl, u17⟩ := h17
              replace k2 := k2.up u17
              replace k3 := k3.up u17
              replace k4 := k4.up u17
              replace k16 := k16.up u17
              replace U := U.tr u17
              replace V6 := V6.tr u17
              refine ⟨.inr (SU.tr u17), ?_⟩
              replace SU := SU.tr u17
              refine t_one ?_
              refine t_effN (by exact rfl) (e_store sz_65 (et (gS rfl g0) rfl) (cellsV (et g0 rfl) rfl) (by first | (simp only [Value.cells, hV, aV, bV, wV, wL, List.size_toArray, length_bL, length_uL, length_be, size_spl, List.length_cons, List.length_nil, List.length_replicate, Nat.zero_add, Nat.reduceAdd, Nat.reduceLeDiff, Nat.le_refl]; done) | rfl) (by first | exact one_bL _ | exact one_uL _ | (intro v hv; simp at hv; subst hv; rfl)) k16 (by first | (simp only [Value.cells, hV, aV, bV, wV, wL, List.size_toArray, length_bL, length_uL, length_be, size_spl, List.length_cons, List.length_nil, List.length_replicate, Nat.zero_add, Nat.reduceAdd, Nat.reduceLeDiff, Nat.le_refl]; done) | exact Nat.le_of_ble_eq_true rfl | simp | omega)) (fun v18 w18 h18 => ?_)
              obtain ⟨rfl, x18⟩ := h18
              replace k2 := k2.ch x18.ch (by omega)
              replace k3 := k3.ch x18.ch (by omega)
              replace k4 := k4.ch x18.ch (by omega)
              replace k16 := x18.blk.full (by first | (simp only [Value.cells, hV, aV, bV, wV, wL, List.size_toArray, length_bL, length_uL, length_be, size_spl, List.length_cons, List.length_nil, List.length_replicate, Nat.zero_add, Nat.reduceAdd, Nat.reduceLeDiff, Nat.le_refl]; done) | rfl)
              replace U := U.st x18 f16
              replace V6 := V6.st x18 (by omega)
              refine ⟨.inl rfl, ?_⟩
              refine tl4 2 3 4 5 (gS rfl (gS rfl (gS rfl (gS rfl (gS rfl (gS rfl (gS rfl (gS rfl (gS rfl (gS rfl (gS rfl (gS rfl g0)))))))))))) (gS rfl (gS rfl (gS rfl (gS rfl (gS rfl (gS rfl (gS rfl (gS rfl (gS rfl (gS rfl (gS rfl g0))))))))))) (gS rfl (gS rfl (gS rfl (gS rfl (gS rfl (gS rfl (gS rfl (gS rfl (gS rfl (gS rfl g0)))))))))) (gS rfl g0) (fun g => ?_)
              exact ⟨g, _, rfl, V6, Nat.le_trans hu.size fS16, k16⟩
          · skip
            refine t_eff (by exact rfl) (e_alloc zr_65) (fun v19 w19 h19 => ?_)
            obtain ⟨b19, rfl, n19⟩ := h19
            have d2_19 : b2 < b19 := Nat.lt_of_lt_of_le k2.lt n19.fresh
            have d3_19 : b3 < b19 := Nat.lt_of_lt_of_le k3.lt n19.fresh
            have d4_19 : b4 < b19 := Nat.lt_of_lt_of_le k4.lt n19.fresh
            have f19 : w.heap.size ≤ b19 := Nat.le_trans U.size n19.fresh
            have fS19 := Nat.le_trans SU.size n19.fresh
            have fV6_19 := Nat.le_trans V6.size n19.fresh
            replace k2 := k2.up n19.up
            replace k3 := k3.up n19.up
            replace k4 := k4.up n19.up
            replace U := U.tr n19.up
            replace V6 := V6.tr n19.up
            have k19 := n19.blk
            refine ⟨.inr (SU.tr n19.up), ?_⟩
            replace SU := SU.tr n19.up
            refine t_one ?_
            refine t_eff (by exact rfl) (e_callV cal_375 (aC (et (gS rfl (gS rfl (gS rfl (gS rfl (gS rfl g0))))) rfl) (aC (et (gS rfl g0) rfl) aN)) (signed_spec b _ _ hb)) (fun v20 w20 h20 => ?_)
            obtain ⟨rfl, u20⟩ := h20
            replace k2 := k2.up u20
            replace k3 := k3.up u20
            replace k4 := k4.up u20
            replace k19 := k19.up u20
            replace U := U.tr u20
            replace V6 := V6.tr u20
            refine ⟨.inr (SU.tr u20), ?_⟩
            replace SU := SU.tr u20
            refine t_one ?_
            refine t_eff (by exact rfl) (e_callV cal_273 (aC (et (gS rfl (gS rfl (gS rfl g0))) rfl) (aC (et g0 rfl) aN)) (div_spec _ _ _ (sgn_lt _ _ ha) (sgn_lt _ _ hb))) (fun v21 w21 h21 => ?_)
            obtain ⟨rfl, u21⟩ := h21
            replace k2 := k2.up u21
            replace k3 := k3.up u21
            replace k4 := k4.up u21
            replace k19 := k19.up u21
            replace U := U.tr u21
            replace V6 := V6.tr u21
            refine ⟨.inr (SU.tr u21), ?_⟩
            replace SU := SU.tr u21
            refine t_one ?_
            refine t_effN (by exact rfl) (e_store sz_65 (et (gS rfl (gS rfl g0)) rfl) (cellsV (et g0 rfl) rfl) (by first | (simp only [Value.cells, hV, aV, bV, wV, wL, List.size_toArray, length_bL, length_uL, length_be, size_spl, List.length_cons, List.length_nil, List.length_replicate, Nat.zero_add, Nat.reduceAdd, Nat.reduceLeDiff, Nat.le_refl]; done) | rfl) (by first | exact one_bL _ | exact one_uL _ | (intro v hv; simp at hv; subst hv; rfl)) k19 (by first | (simp only [Value.cells, hV, aV, bV, wV, wL, List.size_toArray, length_bL, length_uL, length_be, size_spl, List.length_cons, List.length_nil, List.length_replicate, Nat.zero_add, Nat.reduceAdd, Nat.reduceLeDiff, Nat.le_refl]; done) | exact Nat.le_of_ble_eq_true rfl | simp | omega)) (fun v22 w22 h22 => ?_)
            obtain ⟨rfl, x22⟩ := h22
            replace k2 := k2.ch x22.ch (by omega)
            replace k3 := k3.ch x22.ch (by omega)
            replace k4 := k4.ch x22.ch (by omega)
            replace k19 := x22.blk.full (by first | (simp only [Value.cells, hV, aV, bV, wV, wL, List.size_toArray, length_bL, length_uL, length_be, size_spl, List.length_cons, List.length_nil, List.length_replicate, Nat.zero_add, Nat.reduceAdd, Nat.reduceLeDiff, Nat.le_refl]; done) | rfl)
            replace U := U.st x22 f19
            replace V6 := V6.st x22 (by omega)
            refine ⟨.inl rfl, ?_⟩
            refine tl4 2 3 4 5 (gS rfl (gS rfl (gS rfl (gS rfl (gS rfl (gS rfl (gS rfl (gS rfl (gS rfl (gS rfl (gS rfl (gS rfl g0)))))))))))) (gS rfl (gS rfl (gS rfl (gS rfl (gS rfl (gS rfl (gS rfl (gS rfl (gS rfl (gS rfl (gS rfl g0))))))))))) (gS rfl (gS rfl (gS rfl (gS rfl (gS rfl (gS rfl (gS rfl (gS rfl (gS rfl (gS rfl g0)))))))))) (gS rfl (gS rfl g0)) (fun g => ?_)
            exact ⟨g, _, rfl, V6, Nat.le_trans hu.size fS19, k19⟩
        · skip
          refine t_eff (by exact rfl) (e_alloc zr_65) (fun v23 w23 h23 => ?_)
          obtain ⟨b23, rfl, n23⟩ := h23
          have d2_23 : b2 < b23 := Nat.lt_of_lt_of_le k2.lt n23.fresh
          have d3_23 : b3 < b23 := Nat.lt_of_lt_of_le k3.lt n23.fresh
          have d4_23 : b4 < b23 := Nat.lt_of_lt_of_le k4.lt n23.fresh
          have f23 : w.heap.size ≤ b23 := Nat.le_trans U.size n23.fresh
          have fS23 := Nat.le_trans SU.size n23.fresh
          have fV6_23 := Nat.le_trans V6.size n23.fresh
          replace k2 := k2.up n23.up
          replace k3 := k3.up n23.up
          replace k4 := k4.up n23.up
          replace U := U.tr n23.up
          replace V6 := V6.tr n23.up
          have k23 := n23.blk
          refine ⟨.inr (SU.tr n23.up), ?_⟩
          replace SU := SU.tr n23.up
          refine t_one ?_
          refine t_eff (by exact rfl) (e_callV cal_376 (aC (et (gS rfl (gS rfl (gS rfl g0))) rfl) aN) (neg_spec b _ hb)) (fun v24 w24 h24 => ?_)
          obtain ⟨rfl, u24⟩ := h24
          replace k2 := k2.up u24
          replace k3 := k3.up u24
          replace k4 := k4.up u24
          replace k23 := k23.up u24
          replace U := U.tr u24
          replace V6 := V6.tr u24
          refine ⟨.inr (SU.tr u24), ?_⟩
          replace SU := SU.tr u24
          refine t_one ?_
          refine t_eff (by exact rfl) (e_callV cal_375 (aC (et (gS rfl (gS rfl (gS rfl (gS rfl (gS rfl g0))))) rfl) (aC (et g0 rfl) aN)) (signed_spec b _ _ hb)) (fun v25 w25 h25 => ?_)
          obtain ⟨rfl, u25⟩ := h25
          replace k2 := k2.up u25
          replace k3 := k3.up u25
          replace k4 := k4.up u25
          replace k23 := k23.up u25
          replace U := U.tr u25
          replace V6 := V6.tr u25
          refine ⟨.inr (SU.tr u25), ?_⟩
          replace SU := SU.tr u25
          refine t_one ?_
          refine t_eff (by exact rfl) (e_callV cal_273 (aC (et (gS rfl (gS rfl (gS rfl g0))) rfl) (aC (et g0 rfl) aN)) (div_spec _ _ _ (sgn_lt _ _ ha) (sgn_lt _ _ hb))) (fun v26 w26 h26 => ?_)
          obtain ⟨rfl, u26⟩ := h26
          replace k2 := k2.up u26
          replace k3 := k3.up u26
          replace k4 := k4.up u26
          replace k23 := k23.up u26
          replace U := U.tr u26
          replace V6 := V6.tr u26
          refine ⟨.inr (SU.tr u26), ?_⟩
          replace SU := SU.tr u26
          refine t_one ?_
          refine t_effN (by exact rfl) (e_store sz_65 (et (gS rfl (gS rfl (gS rfl g0))) rfl) (cellsV (et g0 rfl) rfl) (by first | (simp only [Value.cells, hV, aV, bV, wV, wL, List.size_toArray, length_bL, length_uL, length_be, size_spl, List.length_cons, List.length_nil, List.length_replicate, Nat.zero_add, Nat.reduceAdd, Nat.reduceLeDiff, Nat.le_refl]; done) | rfl) (by first | exact one_bL _ | exact one_uL _ | (intro v hv; simp at hv; subst hv; rfl)) k23 (by first | (simp only [Value.cells, hV, aV, bV, wV, wL, List.size_toArray, length_bL, length_uL, length_be, size_spl, List.length_cons, List.length_nil, List.length_replicate, Nat.zero_add, Nat.reduceAdd, Nat.reduceLeDiff, Nat.le_refl]; done) | exact Nat.le_of_ble_eq_true rfl | simp | omega)) (fun v27 w27 h27 => ?_)
          obtain ⟨rfl, x27⟩ := h27
          replace k2 := k2.ch x27.ch (by omega)
          replace k3 := k3.ch x27.ch (by omega)
          replace k4 := k4.ch x27.ch (by omega)
          replace k23 := x27.blk.full (by first | (simp only [Value.cells, hV, aV, bV, wV, wL, List.size_toArray, length_bL, length_uL, length_be, size_spl, List.length_cons, List.length_nil, List.length_replicate, Nat.zero_add, Nat.reduceAdd, Nat.reduceLeDiff, Nat.le_refl]; done) | rfl)
          replace U := U.st x27 f23
          replace V6 := V6.st x27 (by omega)
          refine ⟨.inl rfl, ?_⟩
          refine tl4 2 3 4 5 (gS rfl (gS rfl (gS rfl (gS rfl (gS rfl (gS rfl (gS rfl (gS rfl (gS rfl (gS rfl (gS rfl (gS rfl g0)))))))))))) (gS rfl (gS rfl (gS rfl (gS rfl (gS rfl (gS rfl (gS rfl (gS rfl (gS rfl (gS rfl (gS rfl g0))))))))))) (gS rfl (gS rfl (gS rfl (gS rfl (gS rfl (gS rfl (gS rfl (gS rfl (gS rfl (gS rfl g0)))))))))) (gS rfl (gS rfl (gS rfl g0))) (fun g => ?_)
          exact ⟨g, _, rfl, V6, Nat.le_trans hu.size fS23, k23⟩
      · skip
        refine t_eff (by exact rfl) (e_alloc zr_65) (fun v28 w28 h28 => ?_)
        obtain ⟨b28, rfl, n28⟩ := h28
        have d2_28 : b2 < b28 := Nat.lt_of_lt_of_le k2.lt n28.fresh
        have d3_28 : b3 < b28 := Nat.lt_of_lt_of_le k3.lt n28.fresh
        have d4_28 : b4 < b28 := Nat.lt_of_lt_of_le k4.lt n28.fresh
        have f28 : w.heap.size ≤ b28 := Nat.le_trans U.size n28.fresh
        have fS28 := Nat.le_trans SU.size n28.fresh
        have fV6_28 := Nat.le_trans V6.size n28.fresh
        replace k2 := k2.up n28.up
        replace k3 := k3.up n28.up
        replace k4 := k4.up n28.up
        replace U := U.tr n28.up
        replace V6 := V6.tr n28.up
        have k28 := n28.blk
        refine ⟨.inr (SU.tr n28.up), ?_⟩
        replace SU := SU.tr n28.up
        refine t_one ?_
        refine t_eff (by exact rfl) (e_callV cal_375 (aC (et (gS rfl (gS rfl (gS rfl (gS rfl (gS rfl g0))))) rfl) (aC (et (gS rfl g0) rfl) aN)) (signed_spec a _ _ ha)) (fun v29 w29 h29 => ?_)
        obtain ⟨rfl, u29⟩ := h29
        replace k2 := k2.up u29
        replace k3 := k3.up u29
        replace k4 := k4.up u29
        replace k28 := k28.up u29
        replace U := U.tr u29
        replace V6 := V6.tr u29
        refine ⟨.inr (SU.tr u29), ?_⟩
        replace SU := SU.tr u29
        refine t_one ?_
        refine t_eff (by exact rfl) (e_callV cal_376 (aC (et (gS rfl (gS rfl (gS rfl g0))) rfl) aN) (neg_spec b _ hb)) (fun v30 w30 h30 => ?_)
        obtain ⟨rfl, u30⟩ := h30
        replace k2 := k2.up u30
        replace k3 := k3.up u30
        replace k4 := k4.up u30
        replace k28 := k28.up u30
        replace U := U.tr u30
        replace V6 := V6.tr u30
        refine ⟨.inr (SU.tr u30), ?_⟩
        replace SU := SU.tr u30
        refine t_one ?_
        refine t_eff (by exact rfl) (e_callV cal_375 (aC (et (gS rfl (gS rfl (gS rfl (gS rfl (gS rfl g0))))) rfl) (aC (et g0 rfl) aN)) (signed_spec b _ _ hb)) (fun v31 w31 h31 => ?_)
        obtain ⟨rfl, u31⟩ := h31
        replace k2 := k2.up u31
        replace k3 := k3.up u31
        replace k4 := k4.up u31
        replace k28 := k28.up u31
        replace U := U.tr u31
        replace V6 := V6.tr u31
        refine ⟨.inr (SU.tr u31), ?_⟩
        replace SU := SU.tr u31
        refine t_one ?_
        refine t_eff (by exact rfl) (e_callV cal_273 (aC (et (gS rfl (gS rfl g0)) rfl) (aC (et g0 rfl) aN)) (div_spec _ _ _ (sgn_lt _ _ ha) (sgn_lt _ _ hb))) (fun v32 w32 h32 => ?_)
        obtain ⟨rfl, u32⟩ := h32
        replace k2 := k2.up u32
        replace k3 := k3.up u32
        replace k4 := k4.up u32
        replace k28 := k28.up u32
        replace U := U.tr u32
        replace V6 := V6.tr u32
        refine ⟨.inr (SU.tr u32), ?_⟩
        replace SU := SU.tr u32
        refine t_one ?_
        refine t_effN (by exact rfl) (e_store sz_65 (et (gS rfl (gS rfl (gS rfl (gS rfl g0)))) rfl) (cellsV (et g0 rfl) rfl) (by first | (simp only [Value.cells, hV, aV, bV, wV, wL, List.size_toArray, length_bL, length_uL, length_be, size_spl, List.length_cons, List.length_nil, List.length_replicate, Nat.zero_add, Nat.reduceAdd, Nat.reduceLeDiff, Nat.le_refl]; done) | rfl) (by first | exact one_bL _ | exact one_uL _ | (intro v hv; simp at hv; subst hv; rfl)) k28 (by first | (simp only [Value.cells, hV, aV, bV, wV, wL, List.size_toArray, length_bL, length_uL, length_be, size_spl, List.length_cons, List.length_nil, List.length_replicate, Nat.zero_add, Nat.reduceAdd, Nat.reduceLeDiff, Nat.le_refl]; done) | exact Nat.le_of_ble_eq_true rfl | simp | omega)) (fun v33 w33 h33 => ?_)
        obtain ⟨rfl, x33⟩ := h33
        replace k2 := k2.ch x33.ch (by omega)
        replace k3 := k3.ch x33.ch (by omega)
        replace k4 := k4.ch x33.ch (by omega)
        replace k28 := x33.blk.full (by first | (simp only [Value.cells, hV, aV, bV, wV, wL, List.size_toArray, length_bL, length_uL, length_be, size_spl, List.length_cons, List.length_nil, List.length_replicate, Nat.zero_add, Nat.reduceAdd, Nat.reduceLeDiff, Nat.le_refl]; done) | rfl)
        replace U := U.st x33 f28
        replace V6 := V6.st x33 (by omega)
        refine ⟨.inl rfl, ?_⟩
        refine tl4 2 3 4 5 (gS rfl (gS rfl (gS rfl (gS rfl (gS rfl (gS rfl (gS rfl (gS rfl (gS rfl (gS rfl (gS rfl (gS rfl g0)))))))))))) (gS rfl (gS rfl (gS rfl (gS rfl (gS rfl (gS rfl (gS rfl (gS rfl (gS rfl (gS rfl (gS rfl g0))))))))))) (gS rfl (gS rfl (gS rfl (gS rfl (gS rfl (gS rfl (gS rfl (gS rfl (gS rfl (gS rfl g0)))))))))) (gS rfl (gS rfl (gS rfl (gS rfl g0)))) (fun g => ?_)
        exact ⟨g, _, rfl, V6, Nat.le_trans hu.size fS28, k28⟩
    · skip
      refine t_eff (by exact rfl) (e_alloc zr_65) (fun v34 w34 h34 => ?_)
      obtain ⟨b34, rfl, n34⟩ := h34
      have d2_34 : b2 < b34 := Nat.lt_of_lt_of_le k2.lt n34.fresh
      have d3_34 : b3 < b34 := Nat.lt_of_lt_of_le k3.lt n34.fresh
      have d4_34 : b4 < b34 := Nat.lt_of_lt_of_le k4.lt n34.fresh
      have f34 : w.heap.size ≤ b34 := Nat.le_trans U.size n34.fresh
      have fS34 := Nat.le_trans SU.size n34.fresh
      have fV6_34 := Nat.le_trans V6.size n34.fresh
      replace k2 := k2.up n34.up
      replace k3 := k3.up n34.up
      replace k4 := k4.up n34.up
      replace U := U.tr n34.up
      replace V6 := V6.tr n34.up
      have k34 := n34.blk
      refine ⟨.inr (SU.tr n34.up), ?_⟩
      replace SU := SU.tr n34.up
      refine t_one ?_
      refine t_eff (by exact rfl) (e_callV cal_376 (aC (et (gS rfl (gS rfl (gS rfl g0))) rfl) aN) (neg_spec a _ ha)) (fun v35 w35 h35 => ?_)
      obtain ⟨rfl, u35⟩ := h35
      replace k2 := k2.up u35
      replace k3 := k3.up u35
      replace k4 := k4.up u35
      replace k34 := k34.up u35
      replace U := U.tr u35
      replace V6 := V6.tr u35
      refine ⟨.inr (SU.tr u35), ?_⟩
      replace SU := SU.tr u35
      refine t_one ?_
      refine t_eff (by exact rfl) (e_callV cal_375 (aC (et (gS rfl (gS rfl (gS rfl (gS rfl (gS rfl g0))))) rfl) (aC (et g0 rfl) aN)) (signed_spec a _ _ ha)) (fun v36 w36 h36 => ?_)
      obtain ⟨rfl, u36⟩ := h36
      replace k2 := k2.up u36
      replace k3 := k3.up u36
      replace k4 := k4.up u36
      replace k34 := k34.up u36
      replace U := U.tr u36
      replace V6 := V6.tr u36
      refine ⟨.inr (SU.tr u36), ?_⟩
      replace SU := SU.tr u36
      refine t_one ?_
      refine t_eff (by exact rfl) (e_callV cal_376 (aC (et (gS rfl (gS rfl (gS rfl g0))) rfl) aN) (neg_spec b _ hb)) (fun v37 w37 h37 => ?_)
      obtain ⟨rfl, u37⟩ := h37
      replace k2 := k2.up u37
      replace k3 := k3.up u37
      replace k4 := k4.up u37
      replace k34 := k34.up u37
      replace U := U.tr u37
      replace V6 := V6.tr u37
      refine ⟨.inr (SU.tr u37), ?_⟩
      replace SU := SU.tr u37
      refine t_one ?_
      refine t_eff (by exact rfl) (e_callV cal_375 (aC (et (gS rfl (gS rfl (gS rfl (gS rfl (gS rfl g0))))) rfl) (aC (et g0 rfl) aN)) (signed_spec b _ _ hb)) (fun v38 w38 h38 => ?_)
      obtain ⟨rfl, u38⟩ := h38
      replace k2 := k2.up u38
      replace k3 := k3.up u38
      replace k4 := k4.up u38
      replace k34 := k34.up u38
      replace U := U.tr u38
      replace V6 := V6.tr u38
      refine ⟨.inr (SU.tr u38), ?_⟩
      replace SU := SU.tr u38
      refine t_one ?_
      refine t_eff (by exact rfl) (e_callV cal_273 (aC (et (gS rfl (gS rfl g0)) rfl) (aC (et g0 rfl) aN)) (div_spec _ _ _ (sgn_lt _ _ ha) (sgn_lt _ _ hb))) (fun v39 w39 h39 => ?_)
      obtain ⟨rfl, u39⟩ := h39
      replace k2 := k2.up u39
      replace k3 := k3.up u39
      replace k4 := k4.up u39
      replace k34 := k34.up u39
      replace U := U.tr u39
      replace V6 := V6.tr u39
      refine ⟨.inr (SU.tr u39), ?_⟩
      replace SU := SU.tr u39
      refine t_one ?_
      refine t_effN (by exact rfl) (e_store sz_65 (et (gS rfl (gS rfl (gS rfl (gS rfl (gS rfl g0))))) rfl) (cellsV (et g0 rfl) rfl) (by first | (simp only [Value.cells, hV, aV, bV, wV, wL, List.size_toArray, length_bL, length_uL, length_be, size_spl, List.length_cons, List.length_nil, List.length_replicate, Nat.zero_add, Nat.reduceAdd, Nat.reduceLeDiff, Nat.le_refl]; done) | rfl) (by first | exact one_bL _ | exact one_uL _ | (intro v hv; simp at hv; subst hv; rfl)) k34 (by first | (simp only [Value.cells, hV, aV, bV, wV, wL, List.size_toArray, length_bL, length_uL, length_be, size_spl, List.length_cons, List.length_nil, List.length_replicate, Nat.zero_add, Nat.reduceAdd, Nat.reduceLeDiff, Nat.le_refl]; done) | exact Nat.le_of_ble_eq_true rfl | simp | omega)) (fun v40 w40 h40 => ?_)
      obtain ⟨rfl, x40⟩ := h40
      replace k2 := k2.ch x40.ch (by omega)
      replace k3 := k3.ch x40.ch (by omega)
      replace k4 := k4.ch x40.ch (by omega)
      replace k34 := x40.blk.full (by first | (simp only [Value.cells, hV, aV, bV, wV, wL, List.size_toArray, length_bL, length_uL, length_be, size_spl, List.length_cons, List.length_nil, List.length_replicate, Nat.zero_add, Nat.reduceAdd, Nat.reduceLeDiff, Nat.le_refl]; done) | rfl)
      replace U := U.st x40 f34
      replace V6 := V6.st x40 (by omega)
      refine ⟨.inl rfl, ?_⟩
      refine tl4 2 3 4 5 (gS rfl (gS rfl (gS rfl (gS rfl (gS rfl (gS rfl (gS rfl (gS rfl (gS rfl (gS rfl (gS rfl (gS rfl g0)))))))))))) (gS rfl (gS rfl (gS rfl (gS rfl (gS rfl (gS rfl (gS rfl (gS rfl (gS rfl (gS rfl (gS rfl g0))))))))))) (gS rfl (gS rfl (gS rfl (gS rfl (gS rfl (gS rfl (gS rfl (gS rfl (gS rfl (gS rfl g0)))))))))) (gS rfl (gS rfl (gS rfl (gS rfl (gS rfl g0))))) (fun g => ?_)
      exact ⟨g, _, rfl, V6, Nat.le_trans hu.size fS34, k34⟩
  intro s_ w41 hJ
  obtain ⟨g, b7, rfl, V6, fn7, kn7⟩ := hJ
  subst e2 e3 e4
  have d2_7 : b2 < b7 := Nat.lt_of_lt_of_le k2.lt fn7
  have d3_7 : b3 < b7 := Nat.lt_of_lt_of_le k3.lt fn7
  have d4_7 : b4 < b7 := Nat.lt_of_lt_of_le k4.lt fn7
  have f7 : w.heap.size ≤ b7 := Nat.le_trans U.size fn7
  replace k2 := k2.up V6
  replace k3 := k3.up V6
  replace k4 := k4.up V6
  replace U := U.tr V6
  have k7 := kn7
  refine hK5 _ _ ?_
  refine c_seq (fun K42 hK42 => ?_)
  refine c_draw Up 7 [(0, true), (1, true), (3, true), (2, false), (4, false), (5, true), (6, false), (7, false)] (by kernel_rfl) (fun w43 hu => ⟨Up.refl _, ?_⟩)
  replace k2 := k2.up hu
  replace k3 := k3.up hu
  replace k4 := k4.up hu
  replace k7 := k7.up hu
  replace U := U.tr hu
  have SU := Up.refl w43
  refine p_step (by exact rfl) (y_loadB agg_65 sz_65 (et g0 rfl) (by first | (simp only [Value.cells, hV, aV, bV, wV, wL, List.size_toArray, length_bL, length_uL, length_be, size_spl, List.length_cons, List.length_nil, List.length_replicate, Nat.zero_add, Nat.reduceAdd, Nat.reduceLeDiff, Nat.le_refl]; done) | rfl) (atSB k7)) ?_
  refine p_step (by exact rfl) (y_loadB agg_65 sz_65 (et (gS rfl (gS rfl (gS rfl (gS rfl g0)))) rfl) (by first | (simp only [Value.cells, hV, aV, bV, wV, wL, List.size_toArray, length_bL, length_uL, length_be, size_spl, List.length_cons, List.length_nil, List.length_replicate, Nat.zero_add, Nat.reduceAdd, Nat.reduceLeDiff, Nat.le_refl]; done) | rfl) (atSB k2)) ?_
  refine p_step (by exact rfl) (y_loadB agg_65 sz_65 (et (gS rfl (gS rfl (gS rfl (gS rfl g0)))) rfl) (by first | (simp only [Value.cells, hV, aV, bV, wV, wL, List.size_toArray, length_bL, length_uL, length_be, size_spl, List.length_cons, List.length_nil, List.length_replicate, Nat.zero_add, Nat.reduceAdd, Nat.reduceLeDiff, Nat.le_refl]; done) | rfl) (atSB k3)) ?_
  refine p_eff (by exact rfl) (e_callV cal_376 (aC (et (gS rfl g0) rfl) aN) (neg_spec a _ ha)) (fun v44 w44 h44 => ?_)
  obtain ⟨rfl, u44⟩ := h44
  replace k2 := k2.up u44
  replace k3 := k3.up u44
  replace k4 := k4.up u44
  replace k7 := k7.up u44
  replace U := U.tr u44
  refine ⟨.inr (SU.tr u44), ?_⟩
  replace SU := SU.tr u44
  refine p_eff (by exact rfl) (e_callV cal_376 (aC (et (gS rfl g0) rfl) aN) (neg_spec b _ hb)) (fun v45 w45 h45 => ?_)
  obtain ⟨rfl, u45⟩ := h45
  replace k2 := k2.up u45
  replace k3 := k3.up u45
  replace k4 := k4.up u45
  replace k7 := k7.up u45
  replace U := U.tr u45
  refine ⟨.inr (SU.tr u45), ?_⟩
  replace SU := SU.tr u45
  refine p_step (by exact rfl) (y_neqB Hvaa.underlying4 (et (gS rfl g0) rfl) (et g0 rfl)) ?_
  refine p_eff (by exact rfl) (e_callV cal_375 (aC (et (gS rfl (gS rfl (gS rfl (gS rfl (gS rfl g0))))) rfl) (aC (et g0 rfl) aN)) (signed_spec _ _ _ (qt_le _ _ (sgn_lt _ _ ha)))) (fun v46 w46 h46 => ?_)
  obtain ⟨rfl, u46⟩ := h46
  replace k2 := k2.up u46
  replace k3 := k3.up u46
  replace k4 := k4.up u46
  replace k7 := k7.up u46
  replace U := U.tr u46
  refine ⟨.inr (SU.tr u46), ?_⟩
  replace SU := SU.tr u46
  refine p_effN (by exact rfl) (e_store sz_65 (et (gS rfl (gS rfl (gS rfl (gS rfl (gS rfl (gS rfl (gS rfl (gS rfl g0)))))))) rfl) (cellsV (et g0 rfl) rfl) (by first | (simp only [Value.cells, hV, aV, bV, wV, wL, List.size_toArray, length_bL, length_uL, length_be, size_spl, List.length_cons, List.length_nil, List.length_replicate, Nat.zero_add, Nat.reduceAdd, Nat.reduceLeDiff, Nat.le_refl]; done) | rfl) (by first | exact one_bL _ | exact one_uL _ | (intro v hv; simp at hv; subst hv; rfl)) k4 (by first | (simp only [Value.cells, hV, aV, bV, wV, wL, List.size_toArray, length_bL, length_uL, length_be, size_spl, List.length_cons, List.length_nil, List.length_replicate, Nat.zero_add, Nat.reduceAdd, Nat.reduceLeDiff, Nat.le_refl]; done) | exact Nat.le_of_ble_eq_true rfl | simp | omega)) (fun v47 w47 h47 => ?_)
  obtain ⟨rfl, x47⟩ := h47
  replace k2 := k2.ch x47.ch (by omega)
  replace k3 := k3.ch x47.ch (by omega)
  replace k7 := k7.ch x47.ch (by omega)
  replace k4 := x47.blk.full (by first | (simp only [Value.cells, hV, aV, bV, wV, wL, List.size_toArray, length_bL, length_uL, length_be, size_spl, List.length_cons, List.length_nil, List.length_replicate, Nat.zero_add, Nat.reduceAdd, Nat.reduceLeDiff, Nat.le_refl]; done) | rfl)
  replace U := U.st x47 f4
  refine ⟨.inl rfl, ?_⟩
  refine p_nil ?_
  refine hK42 _ _ ?_
  refine fg1 4 (gS rfl (gS rfl (gS rfl (gS rfl (gS rfl (gS rfl (gS rfl (gS rfl g0)))))))) (fun g => ?_)
  refine c_ret ?_
  refine ret1 rfl (res_blk agg_65 sz_65 (et g0 rfl) (by first | (simp only [Value.cells, hV, aV, bV, wV, wL, List.size_toArray, length_bL, length_uL, length_be, size_spl, List.length_cons, List.length_nil, List.length_replicate, Nat.zero_add, Nat.reduceAdd, Nat.reduceLeDiff, Nat.le_refl]; done) | rfl) k4) ?_
  exact ⟨rfl, U⟩
theorem smod_spec (a b : Nat) (w : World) (ha : a < W256) (hb : b < W256) :
    Ret 276 [wV a, wV b] w (fun v w' => v = wV (eSmod a b) ∧ Up w w') := by
  refine enter (n := 19) Hvaa.func276 rfl rfl (Nat.le_of_ble_eq_true rfl) ?_
  have U := Up.refl w
  refine c_seq (fun K1 hK1 => ?_)
  refine c_region ?_
  refine l_eff (e_boxV (et g0 rfl)) (fun v2 w2 h2 => ?_)
  obtain ⟨b2, rfl, n2⟩ := h2
  have f2 : w.heap.size ≤ b2 := Nat.le_trans U.size n2.fresh
  replace U := U.tr n2.up
  have k2 := n2.blk
  refine l_eff (e_boxV (et (gS rfl (gS rfl g0)) rfl)) (fun v3 w3 h3 => ?_)
  obtain ⟨b3, rfl, n3⟩ := h3
  have d2_3 : b2 < b3 := Nat.lt_of_lt_of_le k2.lt n3.fresh
  have f3 : w.heap.size ≤ b3 := Nat.le_trans U.size n3.fresh
  replace k2 := k2.up n3.up
  replace U := U.tr n3.up
  have k3 := n3.blk
  refine l_eff (e_alloc zr_65) (fun v4 w4 h4 => ?_)
  obtain ⟨b4, rfl, n4⟩ := h4
  have d2_4 : b2 < b4 := Nat.lt_of_lt_of_le k2.lt n4.fresh
  have d3_4 : b3 < b4 := Nat.lt_of_lt_of_le k3.lt n4.fresh
  have f4 : w.heap.size ≤ b4 := Nat.le_trans U.size n4.fresh
  replace k2 := k2.up n4.up
  replace k3 := k3.up n4.up
  replace U := U.tr n4.up
  have k4 := n4.blk
  refine l_nil ?_
  refine hK1 _ _ ?_
  refine fg3 2 3 4 (gS rfl (gS rfl g0)) (gS rfl g0) g0 (fun g => ?_)
  refine c_seq (fun K5 hK5 => ?_)
  refine fgv3 2 3 4 (gS rfl (gS rfl g0)) (gS rfl g0) g0 (fun g z2 z3 z4 e2 e3 e4 => ?_)
  refine c_drawJ (fun s_ w_ => ∃ (g : Nat → Value) (b7 : Nat), s_ = (upd (upd (upd g 2 z2) 4 z4) 5 (.pointer (some ⟨b7, 0, none⟩))) ∧ Ch (fun _ => False) w4 w_ ∧ w4.heap.size ≤ b7 ∧ Blk w_ b7 ((wL (if sgn b (neg b) = 0 then 0 else sgn a (neg a) % sgn b (neg b))).toArray)) Up 10 (.pure 0 (.pure 1 (.pure 4 (.pure 5 (.two 2 (.two 3 (.two 6 (.two 7 (.two 8 (.eff 9 (.eff 10 .fin)) 9 (.eff 8 (.eff 10 .fin))) 9 (.eff 7 (.eff 8 (.eff 10 .fin)))) 9 (.eff 6 (.eff 7 (.eff 8 (.eff 10 .fin))))) 9 (.eff 3 (.eff 6 (.eff 7 (.eff 8 (.eff 10 .fin)))))) 9 (.eff 2 (.eff 3 (.eff 6 (.eff 7 (.eff 8 (.eff 10 .fin))))))))))) (by kernel_rfl) (fun w8 hu => ⟨Up.refl _, ?_⟩) ?_
  · skip
    subst e2 e3 e4
    replace k2 := k2.up hu
    replace k3 := k3.up hu
    replace k4 := k4.up hu
    replace U := U.tr hu
    have SU := Up.refl w8
    have V6 : Ch (fun _ => False) w4 w8 := hu
    refine t_step (by exact rfl) (y_loadB agg_65 sz_65 (et (gS rfl (gS rfl g0)) rfl) (by first | (simp only [Value.cells, hV, aV, bV, wV, wL, List.size_toArray, length_bL, length_uL, length_be, size_spl, List.length_cons, List.length_nil, List.length_replicate, Nat.zero_add, Nat.reduceAdd, Nat.reduceLeDiff, Nat.le_refl]; done) | rfl) (atSB k2)) ?_
    refine t_step (by exact rfl) (y_loadB agg_65 sz_65 (et (gS rfl (gS rfl (gS rfl g0))) rfl) (by first | (simp only [Value.cells, hV, aV, bV, wV, wL, List.size_toArray, length_bL, length_uL, length_be, size_spl, List.length_cons, List.length_nil, List.length_replicate, Nat.zero_add, Nat.reduceAdd, Nat.reduceLeDiff, Nat.le_refl]; done) | rfl) (atSB k2)) ?_
    refine t_step (by exact rfl) (y_loadB agg_65 sz_65 (et (gS rfl (gS rfl (gS rfl g0))) rfl) (by first | (simp only [Value.cells, hV, aV, bV, wV, wL, List.size_toArray, length_bL, length_uL, length_be, size_spl, List.length_cons, List.length_nil, List.length_replicate, Nat.zero_add, Nat.reduceAdd, Nat.reduceLeDiff, Nat.le_refl]; done) | rfl) (atSB k3)) ?_
    refine t_step (by exact rfl) (y_loadB agg_65 sz_65 (et (gS rfl (gS rfl (gS rfl (gS rfl g0)))) rfl) (by first | (simp only [Value.cells, hV, aV, bV, wV, wL, List.size_toArray, length_bL, length_uL, length_be, size_spl, List.length_cons, List.length_nil, List.length_replicate, Nat.zero_add, Nat.reduceAdd, Nat.reduceLeDiff, Nat.le_refl]; done) | rfl) (atSB k3)) ?_
    refine t_two ?_ ?_
    · skip
      refine t_eff (by exact rfl) (e_callV cal_376 (aC (et (gS rfl (gS rfl g0)) rfl) aN) (neg_spec a _ ha)) (fun v9 w9 h9 => ?_)
      obtain ⟨rfl, u9⟩ := h9
      replace k2 := k2.up u9
      replace k3 := k3.up u9
      replace k4 := k4.up u9
      replace U := U.tr u9
      replace V6 := V6.tr u9
      refine ⟨.inr (SU.tr u9), ?_⟩
      replace SU := SU.tr u9
      refine t_two ?_ ?_
      · skip
        refine t_eff (by exact rfl) (e_callV cal_375 (aC (et (gS rfl (gS rfl (gS rfl (gS rfl g0)))) rfl) (aC (et g0 rfl) aN)) (signed_spec a _ _ ha)) (fun v10 w10 h10 => ?_)
        obtain ⟨rfl, u10⟩ := h10
        replace k2 := k2.up u10
        replace k3 := k3.up u10
        replace k4 := k4.up u10
        replace U := U.tr u10
        replace V6 := V6.tr u10
        refine ⟨.inr (SU.tr u10), ?_⟩
        replace SU := SU.tr u10
        refine t_two ?_ ?_
        · skip
          refine t_eff (by exact rfl) (e_callV cal_376 (aC (et (gS rfl (gS rfl g0)) rfl) aN) (neg_spec b _ hb)) (fun v11 w11 h11 => ?_)
          obtain ⟨rfl, u11⟩ := h11
          replace k2 := k2.up u11
          replace k3 := k3.up u11
          replace k4 := k4.up u11
          replace U := U.tr u11
          replace V6 := V6.tr u11
          refine ⟨.inr (SU.tr u11), ?_⟩
          replace SU := SU.tr u11
          refine t_two ?_ ?_
          · skip
            refine t_eff (by exact rfl) (e_callV cal_375 (aC (et (gS rfl (gS rfl (gS rfl (gS rfl g0)))) rfl) (aC (et g0 rfl) aN)) (signed_spec b _ _ hb)) (fun v12 w12 h12 => ?_)
            obtain ⟨rfl, u12⟩ := h12
            replace k2 := k2.up u12
            replace k3 := k3.up u12
            replace k4 := k4.up u12
            replace U := U.tr u12
            replace V6 := V6.tr u12
            refine ⟨.inr (SU.tr u12), ?_⟩
            replace SU := SU.tr u12
            refine t_two ?_ ?_
            · skip
              refine t_eff (by exact rfl) (e_callV cal_275 (aC (et (gS rfl (gS rfl g0)) rfl) (aC (et g0 rfl) aN)) (mod_spec _ _ _ (sgn_lt _ _ ha) (sgn_lt _ _ hb))) (fun v13 w13 h13 => ?_)
              obtain ⟨rfl, u13⟩ := h13
              replace k2 := k2.up u13
              replace k3 := k3.up u13
              replace k4 := k4.up u13
              replace U := U.tr u13
              replace V6 := V6.tr u13
              refine ⟨.inr (SU.tr u13), ?_⟩
              replace SU := SU.tr u13
              refine t_one ?_
              refine t_eff (by exact rfl) (e_alloc zr_65) (fun v14 w14 h14 => ?_)
              obtain ⟨b14, rfl, n14⟩ := h14
              have d2_14 : b2 < b14 := Nat.lt_of_lt_of_le k2.lt n14.fresh
              have d3_14 : b3 < b14 := Nat.lt_of_lt_of_le k3.lt n14.fresh
              have d4_14 : b4 < b14 := Nat.lt_of_lt_of_le k4.lt n14.fresh
              have f14 : w.heap.size ≤ b14 := Nat.le_trans U.size n14.fresh
              have fS14 := Nat.le_trans SU.size n14.fresh
              have fV6_14 := Nat.le_trans V6.size n14.fresh
              replace k2 := k2.up n14.up
              replace k3 := k3.up n14.up
              replace k4 := k4.up n14.up
              replace U := U.tr n14.up
              replace V6 := V6.tr n14.up
              have k14 := n14.blk
              refine ⟨.inr (SU.tr n14.up), ?_⟩
              replace SU := SU.tr n14.up
              refine t_one ?_
              refine t_effN (by exact rfl) (e_store sz_65 (et g0 rfl) (cellsV (et (gS rfl g0) rfl) rfl) (by first | (simp only [Value.cells, hV, aV, bV, wV, wL, List.size_toArray, length_bL, length_uL, length_be, size_spl, List.length_cons, List.length_nil, List.length_replicate, Nat.zero_add, Nat.reduceAdd, Nat.reduceLeDiff, Nat.le_refl]; done) | rfl) (by first | exact one_bL _ | exact one_uL _ | (intro v hv; simp at hv; subst hv; rfl)) k14 (by first | (simp only [Value.cells, hV, aV, bV, wV, wL, List.size_toArray, length_bL, length_uL, length_be, size_spl, List.length_cons, List.length_nil, List.length_replicate, Nat.zero_add, Nat.reduceAdd, Nat.reduceLeDiff, Nat.le_refl]; done) | exact Nat.le_of_ble_eq_true rfl | simp | omega)) (fun v15 w15 h15 => ?_)
              obtain ⟨rfl, x15⟩ := h15
              replace k2 := k2.ch x15.ch (by omega)
              replace k3 := k3.ch x15.ch (by omega)
              replace k4 := k4.ch x15.ch (by omega)
              replace k14 := x15.blk.full (by first | (simp only [Value.cells, hV, aV, bV, wV, wL, List.size_toArray, length_bL, length_uL, length_be, size_spl, List.length_cons, List.length_nil, List.length_replicate, Nat.zero_add, Nat.reduceAdd, Nat.reduceLeDiff, Nat.le_refl]; done) | rfl)
              replace U := U.st x15 f14
              replace V6 := V6.st x15 (by omega)
              refine ⟨.inl rfl, ?_⟩
              refine tl3 2 4 5 (gS rfl (gS rfl (gS rfl (gS rfl (gS rfl (gS rfl (gS rfl (gS rfl (gS rfl (gS rfl (gS rfl (gS rfl g0)))))))))))) (gS rfl (gS rfl (gS rfl (gS rfl (gS rfl (gS rfl (gS rfl (gS rfl (gS rfl (gS rfl g0)))))))))) g0 (fun g => ?_)
              exact ⟨g, _, rfl, V6, Nat.le_trans hu.size fS14, k14⟩
            · skip
              refine t_eff (by exact rfl) (e_alloc zr_65) (fun v16 w16 h16 => ?_)
              obtain ⟨b16, rfl, n16⟩ := h16
              have d2_16 : b2 < b16 := Nat.lt_of_lt_of_le k2.lt n16.fresh
              have d3_16 : b3 < b16 := Nat.lt_of_lt_of_le k3.lt n16.fresh
              have d4_16 : b4 < b16 := Nat.lt_of_lt_of_le k4.lt n16.fresh
              have f16 : w.heap.size ≤ b16 := Nat.le_trans U.size n16.fresh
              have fS16 := Nat.le_trans SU.size n16.fresh
              have fV6_16 := Nat.le_trans V6.size n16.fresh
              replace k2 := k2.up n16.up
              replace k3 := k3.up n16.up
              replace k4 := k4.up n16.up
              replace U := U.tr n16.up
              replace V6 := V6.tr n16.up
              have k16 := n16.blk
              refine ⟨.inr (SU.tr n16.up), ?_⟩
              replace SU := SU.tr n16.up
              refine t_one ?_
              refine t_eff (by exact rfl) (e_callV cal_275 (aC (et (gS rfl (gS rfl (gS rfl g0))) rfl) (aC (et (gS rfl g0) rfl) aN)) (mod_spec _ _ _ (sgn_lt _ _ ha) (sgn_lt _ _ hb))) (fun v17 w17 h17 => ?_)
              obtain ⟨rfl, u17⟩ := h17
              replace k2 := k2.up u17
              replace k3 := k3.up u17
              replace k4 := k4.up u17
              replace k16 := k16.up u17
              replace U := U.tr u17
              replace V6 := V6.tr u17
              refine ⟨.inr (SU.tr u17), ?_⟩
              replace SU := SU.tr u17
              refine t_one ?_
              refine t_effN (by exact rfl) (e_store sz_65 (et (gS rfl g0) rfl) (cellsV (et g0 rfl) rfl) (by first | (simp only [Value.cells, hV, aV, bV, wV, wL, List.size_toArray, length_bL, length_uL, length_be, size_spl, List.length_cons, List.length_nil, List.length_replicate, Nat.zero_add, Nat.reduceAdd, Nat.reduceLeDiff, Nat.le_refl]; done) | rfl) (by first | exact one_bL _ | exact one_uL _ | (intro v hv; simp at hv; subst hv; rfl)) k16 (by first | (simp only [Value.cells, hV, aV, bV, wV, wL, List.size_toArray, length_bL, length_uL, length_be, size_spl, List.length_cons, List.length_nil, List.length_replicate, Nat.zero_add, Nat.reduceAdd, Nat.reduceLeDiff, Nat.le_refl]; done) | exact Nat.le_of_ble_eq_true rfl | simp | omega)) (fun v18 w18 h18 => ?_)
              obtain ⟨rfl, x18⟩ := h18
              replace k2 := k2.ch x18.ch (by omega)
              replace k3 := k3.ch x18.ch (by omega)
              replace k4 := k4.ch x18.ch (by omega)
              replace k16 := x18.blk.full (by first | (simp only [Value.cells, hV, aV, bV, wV, wL, List.size_toArray, length_bL, length_uL, length_be, size_spl, List.length_cons, List.length_nil, List.length_replicate, Nat.zero_add, Nat.reduceAdd, Nat.reduceLeDiff, Nat.le_refl]; done) | rfl)
              replace U := U.st x18 f16
              replace V6 := V6.st x18 (by omega)
              refine ⟨.inl rfl, ?_⟩
              refine tl3 2 4 5 (gS rfl (gS rfl (gS rfl (gS rfl (gS rfl (gS rfl (gS rfl (gS rfl (gS rfl (gS rfl (gS rfl (gS rfl g0)))))))))))) (gS rfl (gS rfl (gS rfl (gS rfl (gS rfl (gS rfl (gS rfl (gS rfl (gS rfl (gS rfl g0)))))))))) (gS rfl g0) (fun g => ?_)
              exact ⟨g, _, rfl, V6, Nat.le_trans hu.size fS16, k16⟩
          · skip
            refine t_eff (by exact rfl) (e_alloc zr_65) (fun v19 w19 h19 => ?_)
            obtain ⟨b19, rfl, n19⟩ := h19
            have d2_19 : b2 < b19 := Nat.lt_of_lt_of_le k2.lt n19.fresh
            have d3_19 : b3 < b19 := Nat.lt_of_lt_of_le k3.lt n19.fresh
            have d4_19 : b4 < b19 := Nat.lt_of_lt_of_le k4.lt n19.fresh
            have f19 : w.heap.size ≤ b19 := Nat.le_trans U.size n19.fresh
            have fS19 := Nat.le_trans SU.size n19.fresh
            have fV6_19 := Nat.le_trans V6.size n19.fresh
            replace k2 := k2.up n19.up
            replace k3 := k3.up n19.up
            replace k4 := k4.up n19.up
            replace U := U.tr n19.up
            replace V6 := V6.tr n19.up
            have k19 := n19.blk
            refine ⟨.inr (SU.tr n19.up), ?_⟩
            replace SU := SU.tr n19.up
            refine t_one ?_
            refine t_eff (by exact rfl) (e_callV cal_375 (aC (et (gS rfl (gS rfl (gS rfl (gS rfl (gS rfl g0))))) rfl) (aC (et (gS rfl g0) rfl) aN)) (signed_spec b _ _ hb)) (fun v20 w20 h20 => ?_)
            obtain ⟨rfl, u20⟩ := h20
            replace k2 := k2.up u20
            replace k3 := k3.up u20
            replace k4 := k4.up u20
            replace k19 := k19.up u20
            replace U := U.tr u20
            replace V6 := V6.tr u20
            refine ⟨.inr (SU.tr u20), ?_⟩
            replace SU := SU.tr u20
            refine t_one ?_
            refine t_eff (by exact rfl) (e_callV cal_275 (aC (et (gS rfl (gS rfl (gS rfl g0))) rfl) (aC (et g0 rfl) aN)) (mod_spec _ _ _ (sgn_lt _ _ ha) (sgn_lt _ _ hb))) (fun v21 w21 h21 => ?_)
            obtain ⟨rfl, u21⟩ := h21
            replace k2 := k2.up u21
            replace k3 := k3.up u21
            replace k4 := k4.up u21
            replace k19 := k19.up u21
            replace U := U.tr u21
            replace V6 := V6.tr u21
            refine ⟨.inr (SU.tr u21), ?_⟩
            replace SU := SU.tr u21
            refine t_one ?_
            refine t_effN (by exact rfl) (e_store sz_65 (et (gS rfl (gS rfl g0)) rfl) (cellsV (et g0 rfl) rfl) (by first | (simp only [Value.cells, hV, aV, bV, wV, wL, List.size_toArray, length_bL, length_uL, length_be, size_spl, List.length_cons, List.length_nil, List.length_replicate, Nat.zero_add, Nat.reduceAdd, Nat.reduceLeDiff, Nat.le_refl]; done) | rfl) (by first | exact one_bL _ | exact one_uL _ | (intro v hv; simp at hv; subst hv; rfl)) k19 (by first | (simp only [Value.cells, hV, aV, bV, wV, wL, List.size_toArray, length_bL, length_uL, length_be, size_spl, List.length_cons, List.length_nil, List.length_replicate, Nat.zero_add, Nat.reduceAdd, Nat.reduceLeDiff, Nat.le_refl]; done) | exact Nat.le_of_ble_eq_true rfl | simp | omega)) (fun v22 w22 h22 => ?_)
            obtain ⟨rfl, x22⟩ := h22
            replace k2 := k2.ch x22.ch (by omega)
            replace k3 := k3.ch x22.ch (by omega)
            replace k4 := k4.ch x22.ch (by omega)
            replace k19 := x22.blk.full (by first | (simp only [Value.cells, hV, aV, bV, wV, wL, List.size_toArray, length_bL, length_uL, length_be, size_spl, List.length_cons, List.length_nil, List.length_replicate, Nat.zero_add, Nat.reduceAdd, Nat.reduceLeDiff, Nat.le_refl]; done) | rfl)
            replace U := U.st x22 f19
            replace V6 := V6.st x22 (by omega)
            refine ⟨.inl rfl, ?_⟩
            refine tl3 2 4 5 (gS rfl (gS rfl (gS rfl (gS rfl (gS rfl (gS rfl (gS rfl (gS rfl (gS rfl (gS rfl (gS rfl (gS rfl g0)))))))))))) (gS rfl (gS rfl (gS rfl (gS rfl (gS rfl (gS rfl (gS rfl (gS rfl (gS rfl (gS rfl g0)))))))))) (gS rfl (gS rfl g0)) (fun g => ?_)
            exact ⟨g, _, rfl, V6, Nat.le_trans hu.size fS19, k19⟩
        · skip
          refine t_eff (by exact rfl) (e_alloc zr_65) (fun v23 w23 h23 => ?_)
          obtain ⟨b23, rfl, n23⟩ := h23
          have d2_23 : b2 < b23 := Nat.lt_of_lt_of_le k2.lt n23.fresh
          have d3_23 : b3 < b23 := Nat.lt_of_lt_of_le k3.lt n23.fresh
          have d4_23 : b4 < b23 := Nat.lt_of_lt_of_le k4.lt n23.fresh
          have f23 : w.heap.size ≤ b23 := Nat.le_trans U.size n23.fresh
          have fS23 := Nat.le_trans SU.size n23.fresh
          have fV6_23 := Nat.le_trans V6.size n23.fresh
          replace k2 := k2.up n23.up
          replace k3 := k3.up n23.up
          replace k4 := k4.up n23.up
          replace U := U.tr n23.up
          replace V6 := V6.tr n23.up
          have k23 := n23.blk
          refine ⟨.inr (SU.tr n23.up), ?_⟩
          replace SU := SU.tr n23.up
          refine t_one ?_
          refine t_eff (by exact rfl) (e_callV cal_376 (aC (et (gS rfl (gS rfl (gS rfl g0))) rfl) aN) (neg_spec b _ hb)) (fun v24 w24 h24 => ?_)
          obtain ⟨rfl, u24⟩ := h24
          replace k2 := k2.up u24
          replace k3 := k3.up u24
          replace k4 := k4.up u24
          replace k23 := k23.up u24
          replace U := U.tr u24
          replace V6 := V6.tr u24
          refine ⟨.inr (SU.tr u24), ?_⟩
          replace SU := SU.tr u24
          refine t_one ?_
          refine t_eff (by exact rfl) (e_callV cal_375 (aC (et (gS rfl (gS rfl (gS rfl (gS rfl (gS rfl g0))))) rfl) (aC (et g0 rfl) aN)) (signed_spec b _ _ hb)) (fun v25 w25 h25 => ?_)
          obtain ⟨rfl, u25⟩ := h25
          replace k2 := k2.up u25
          replace k3 := k3.up u25
          replace k4 := k4.up u25
          replace k23 := k23.up u25
          replace U := U.tr u25
          replace V6 := V6.tr u25
          refine ⟨.inr (SU.tr u25), ?_⟩
          replace SU := SU.tr u25
          refine t_one ?_
          refine t_eff (by exact rfl) (e_callV cal_275 (aC (et (gS rfl (gS rfl (gS rfl g0))) rfl) (aC (et g0 rfl) aN)) (mod_spec _ _ _ (sgn_lt _ _ ha) (sgn_lt _ _ hb))) (fun v26 w26 h26 => ?_)
          obtain ⟨rfl, u26⟩ := h26
          replace k2 := k2.up u26
          replace k3 := k3.up u26
          replace k4 := k4.up u26
          replace k23 := k23.up u26
          replace U := U.tr u26
          replace V6 := V6.tr u26
          refine ⟨.inr (SU.tr u26), ?_⟩
          replace SU := SU.tr u26
          refine t_one ?_
          refine t_effN (by exact rfl) (e_store sz_65 (et (gS rfl (gS rfl (gS rfl g0))) rfl) (cellsV (et g0 rfl) rfl) (by first | (simp only [Value.cells, hV, aV, bV, wV, wL, List.size_toArray, length_bL, length_uL, length_be, size_spl, List.length_cons, List.length_nil, List.length_replicate, Nat.zero_add, Nat.reduceAdd, Nat.reduceLeDiff, Nat.le_refl]; done) | rfl) (by first | exact one_bL _ | exact one_uL _ | (intro v hv; simp at hv; subst hv; rfl)) k23 (by first | (simp only [Value.cells, hV, aV, bV, wV, wL, List.size_toArray, length_bL, length_uL, length_be, size_spl, List.length_cons, List.length_nil, List.length_replicate, Nat.zero_add, Nat.reduceAdd, Nat.reduceLeDiff, Nat.le_refl]; done) | exact Nat.le_of_ble_eq_true rfl | simp | omega)) (fun v27 w27 h27 => ?_)
          obtain ⟨rfl, x27⟩ := h27
          replace k2 := k2.ch x27.ch (by omega)
          replace k3 := k3.ch x27.ch (by omega)
          replace k4 := k4.ch x27.ch (by omega)
          replace k23 := x27.blk.full (by first | (simp only [Value.cells, hV, aV, bV, wV, wL, List.size_toArray, length_bL, length_uL, length_be, size_spl, List.length_cons, List.length_nil, List.length_replicate, Nat.zero_add, Nat.reduceAdd, Nat.reduceLeDiff, Nat.le_refl]; done) | rfl)
          replace U := U.st x27 f23
          replace V6 := V6.st x27 (by omega)
          refine ⟨.inl rfl, ?_⟩
          refine tl3 2 4 5 (gS rfl (gS rfl (gS rfl (gS rfl (gS rfl (gS rfl (gS rfl (gS rfl (gS rfl (gS rfl (gS rfl (gS rfl g0)))))))))))) (gS rfl (gS rfl (gS rfl (gS rfl (gS rfl (gS rfl (gS rfl (gS rfl (gS rfl (gS rfl g0)))))))))) (gS rfl (gS rfl (gS rfl g0))) (fun g => ?_)
          exact ⟨g, _, rfl, V6, Nat.le_trans hu.size fS23, k23⟩
      · skip
        refine t_eff (by exact rfl) (e_alloc zr_65) (fun v28 w28 h28 => ?_)
        obtain ⟨b28, rfl, n28⟩ := h28
        have d2_28 : b2 < b28 := Nat.lt_of_lt_of_le k2.lt n28.fresh
        have d3_28 : b3 < b28 := Nat.lt_of_lt_of_le k3.lt n28.fresh
        have d4_28 : b4 < b28 := Nat.lt_of_lt_of_le k4.lt n28.fresh
        have f28 : w.heap.size ≤ b28 := Nat.le_trans U.size n28.fresh
        have fS28 := Nat.le_trans SU.size n28.fresh
        have fV6_28 := Nat.le_trans V6.size n28.fresh
        replace k2 := k2.up n28.up
        replace k3 := k3.up n28.up
        replace k4 := k4.up n28.up
        replace U := U.tr n28.up
        replace V6 := V6.tr n28.up
        have k28 := n28.blk
        refine ⟨.inr (SU.tr n28.up), ?_⟩
        replace SU := SU.tr n28.up
        refine t_one ?_
        refine t_eff (by exact rfl) (e_callV cal_375 (aC (et (gS rfl (gS rfl (gS rfl (gS rfl (gS rfl g0))))) rfl) (aC (et (gS rfl g0) rfl) aN)) (signed_spec a _ _ ha)) (fun v29 w29 h29 => ?_)
        obtain ⟨rfl, u29⟩ := h29
        replace k2 := k2.up u29
        replace k3 := k3.up u29
        replace k4 := k4.up u29
        replace k28 := k28.up u29
        replace U := U.tr u29
        replace V6 := V6.tr u29
        refine ⟨.inr (SU.tr u29), ?_⟩
        replace SU := SU.tr u29
        refine t_one ?_
        refine t_eff (by exact rfl) (e_callV cal_376 (aC (et (gS rfl (gS rfl (gS rfl g0))) rfl) aN) (neg_spec b _ hb)) (fun v30 w30 h30 => ?_)
        obtain ⟨rfl, u30⟩ := h30
        replace k2 := k2.up u30
        replace k3 := k3.up u30
        replace k4 := k4.up u30
        replace k28 := k28.up u30
        replace U := U.tr u30
        replace V6 := V6.tr u30
        refine ⟨.inr (SU.tr u30), ?_⟩
        replace SU := SU.tr u30
        refine t_one ?_
        refine t_eff (by exact rfl) (e_callV cal_375 (aC (et (gS rfl (gS rfl (gS rfl (gS rfl (gS rfl g0))))) rfl) (aC (et g0 rfl) aN)) (signed_spec b _ _ hb)) (fun v31 w31 h31 => ?_)
        obtain ⟨rfl, u31⟩ := h31
        replace k2 := k2.up u31
        replace k3 := k3.up u31
        replace k4 := k4.up u31
        replace k28 := k28.up u31
        replace U := U.tr u31
        replace V6 := V6.tr u31
        refine ⟨.inr (SU.tr u31), ?_⟩
        replace SU := SU.tr u31
        refine t_one ?_
        refine t_eff (by exact rfl) (e_callV cal_275 (aC (et (gS rfl (gS rfl g0)) rfl) (aC (et g0 rfl) aN)) (mod_spec _ _ _ (sgn_lt _ _ ha) (sgn_lt _ _ hb))) (fun v32 w32 h32 => ?_)
        obtain ⟨rfl, u32⟩ := h32
        replace k2 := k2.up u32
        replace k3 := k3.up u32
        replace k4 := k4.up u32
        replace k28 := k28.up u32
        replace U := U.tr u32
        replace V6 := V6.tr u32
        refine ⟨.inr (SU.tr u32), ?_⟩
        replace SU := SU.tr u32
        refine t_one ?_
        refine t_effN (by exact rfl) (e_store sz_65 (et (gS rfl (gS rfl (gS rfl (gS rfl g0)))) rfl) (cellsV (et g0 rfl) rfl) (by first | (simp only [Value.cells, hV, aV, bV, wV, wL, List.size_toArray, length_bL, length_uL, length_be, size_spl, List.length_cons, List.length_nil, List.length_replicate, Nat.zero_add, Nat.reduceAdd, Nat.reduceLeDiff, Nat.le_refl]; done) | rfl) (by first | exact one_bL _ | exact one_uL _ | (intro v hv; simp at hv; subst hv; rfl)) k28 (by first | (simp only [Value.cells, hV, aV, bV, wV, wL, List.size_toArray, length_bL, length_uL, length_be, size_spl, List.length_cons, List.length_nil, List.length_replicate, Nat.zero_add, Nat.reduceAdd, Nat.reduceLeDiff, Nat.le_refl]; done) | exact Nat.le_of_ble_eq_true rfl | simp | omega)) (fun v33 w33 h33 => ?_)
        obtain ⟨rfl, x33⟩ := h33
        replace k2 := k2.ch x33.ch (by omega)
        replace k3 := k3.ch x33.ch (by omega)
        replace k4 := k4.ch x33.ch (by omega)
        replace k28 := x33.blk.full (by first | (simp only [Value.cells, hV, aV, bV, wV, wL, List.size_toArray, length_bL, length_uL, length_be, size_spl, List.length_cons, List.length_nil, List.length_replicate, Nat.zero_add, Nat.reduceAdd, Nat.reduceLeDiff, Nat.le_refl]; done) | rfl)
        replace U := U.st x33 f28
        replace V6 := V6.st x33 (by omega)
        refine ⟨.inl rfl, ?_⟩
        refine tl3 2 4 5 (gS rfl (gS rfl (gS rfl (gS rfl (gS rfl (gS rfl (gS rfl (gS rfl (gS rfl (gS rfl (gS rfl (gS rfl g0)))))))))))) (gS rfl (gS rfl (gS rfl (gS rfl (gS rfl (gS rfl (gS rfl (gS rfl (gS rfl (gS rfl g0)))))))))) (gS rfl (gS rfl (gS rfl (gS rfl g0)))) (fun g => ?_)
        exact ⟨g, _, rfl, V6, Nat.le_trans hu.size fS28, k28⟩
    · skip
      refine t_eff (by exact rfl) (e_alloc zr_65) (fun v34 w34 h34 => ?_)
      obtain ⟨b34, rfl, n34⟩ := h34
      have d2_34 : b2 < b34 := Nat.lt_of_lt_of_le k2.lt n34.fresh
      have d3_34 : b3 < b34 := Nat.lt_of_lt_of_le k3.lt n34.fresh
      have d4_34 : b4 < b34 := Nat.lt_of_lt_of_le k4.lt n34.fresh
      have f34 : w.heap.size ≤ b34 := Nat.le_trans U.size n34.fresh
      have fS34 := Nat.le_trans SU.size n34.fresh
      have fV6_34 := Nat.le_trans V6.size n34.fresh
      replace k2 := k2.up n34.up
      replace k3 := k3.up n34.up
      replace k4 := k4.up n34.up
      replace U := U.tr n34.up
      replace V6 := V6.tr n34.up
      have k34 := n34.blk
      refine ⟨.inr (SU.tr n34.up), ?_⟩
      replace SU := SU.tr n34.up
      refine t_one ?_
      refine t_eff (by exact rfl) (e_callV cal_376 (aC (et (gS rfl (gS rfl (gS rfl g0))) rfl) aN) (neg_spec a _ ha)) (fun v35 w35 h35 => ?_)
      obtain ⟨rfl, u35⟩ := h35
      replace k2 := k2.up u35
      replace k3 := k3.up u35
      replace k4 := k4.up u35
      replace k34 := k34.up u35
      replace U := U.tr u35
      replace V6 := V6.tr u35
      refine ⟨.inr (SU.tr u35), ?_⟩
      replace SU := SU.tr u35
      refine t_one ?_
      refine t_eff (by exact rfl) (e_callV cal_375 (aC (et (gS rfl (gS rfl (gS rfl (gS rfl (gS rfl g0))))) rfl) (aC (et g0 rfl) aN)) (signed_spec a _ _ ha)) (fun v36 w36 h36 => ?_)
      obtain ⟨rfl, u36⟩ := h36
      replace k2 := k2.up u36
      replace k3 := k3.up u36
      replace k4 := k4.up u36
      replace k34 := k34.up u36
      replace U := U.tr u36
      replace V6 := V6.tr u36
      refine ⟨.inr (SU.tr u36), ?_⟩
      replace SU := SU.tr u36
      refine t_one ?_
      refine t_eff (by exact rfl) (e_callV cal_376 (aC (et (gS rfl (gS rfl (gS rfl g0))) rfl) aN) (neg_spec b _ hb)) (fun v37 w37 h37 => ?_)
      obtain ⟨rfl, u37⟩ := h37
      replace k2 := k2.up u37
      replace k3 := k3.up u37
      replace k4 := k4.up u37
      replace k34 := k34.up u37
      replace U := U.tr u37
      replace V6 := V6.tr u37
      refine ⟨.inr (SU.tr u37), ?_⟩
      replace SU := SU.tr u37
      refine t_one ?_
      refine t_eff (by exact rfl) (e_callV cal_375 (aC (et (gS rfl (gS rfl (gS rfl (gS rfl (gS rfl g0))))) rfl) (aC (et g0 rfl) aN)) (signed_spec b _ _ hb)) (fun v38 w38 h38 => ?_)
      obtain ⟨rfl, u38⟩ := h38
      replace k2 := k2.up u38
      replace k3 := k3.up u38
      replace k4 := k4.up u38
      replace k34 := k34.up u38
      replace U := U.tr u38
      replace V6 := V6.tr u38
      refine ⟨.inr (SU.tr u38), ?_⟩
      replace SU := SU.tr u38
      refine t_one ?_
      refine t_eff (by exact rfl) (e_callV cal_275 (aC (et (gS rfl (gS rfl g0)) rfl) (aC (et g0 rfl) aN)) (mod_spec _ _ _ (sgn_lt _ _ ha) (sgn_lt _ _ hb))) (fun v39 w39 h39 => ?_)
      obtain ⟨rfl, u39⟩ := h39
      replace k2 := k2.up u39
      replace k3 := k3.up u39
      replace k4 := k4.up u39
      replace k34 := k34.up u39
      replace U := U.tr u39
      replace V6 := V6.tr u39
      refine ⟨.inr (SU.tr u39), ?_⟩
      replace SU := SU.tr u39
      refine t_one ?_
      refine t_effN (by exact rfl) (e_store sz_65 (et (gS rfl (gS rfl (gS rfl (gS rfl (gS rfl g0))))) rfl) (cellsV (et g0 rfl) rfl) (by first | (simp only [Value.cells, hV, aV, bV, wV, wL, List.size_toArray, length_bL, length_uL, length_be, size_spl, List.length_cons, List.length_nil, List.length_replicate, Nat.zero_add, Nat.reduceAdd, Nat.reduceLeDiff, Nat.le_refl]; done) | rfl) (by first | exact one_bL _ | exact one_uL _ | (intro v hv; simp at hv; subst hv; rfl)) k34 (by first | (simp only [Value.cells, hV, aV, bV, wV, wL, List.size_toArray, length_bL, length_uL, length_be, size_spl, List.length_cons, List.length_nil, List.length_replicate, Nat.zero_add, Nat.reduceAdd, Nat.reduceLeDiff, Nat.le_refl]; done) | exact Nat.le_of_ble_eq_true rfl | simp | omega)) (fun v40 w40 h40 => ?_)
      obtain ⟨rfl, x40⟩ := h40
      replace k2 := k2.ch x40.ch (by omega)
      replace k3 := k3.ch x40.ch (by omega)
      replace k4 := k4.ch x40.ch (by omega)
      replace k34 := x40.blk.full (by first | (simp only [Value.cells, hV, aV, bV, wV, wL, List.size_toArray, length_bL, length_uL, length_be, size_spl, List.length_cons, List.length_nil, List.length_replicate, Nat.zero_add, Nat.reduceAdd, Nat.reduceLeDiff, Nat.le_refl]; done) | rfl)
      replace U := U.st x40 f34
      replace V6 := V6.st x40 (by omega)
      refine ⟨.inl rfl, ?_⟩
      refine tl3 2 4 5 (gS rfl (gS rfl (gS rfl (gS rfl (gS rfl (gS rfl (gS rfl (gS rfl (gS rfl (gS rfl (gS rfl (gS rfl g0)))))))))))) (gS rfl (gS rfl (gS rfl (gS rfl (gS rfl (gS rfl (gS rfl (gS rfl (gS rfl (gS rfl g0)))))))))) (gS rfl (gS rfl (gS rfl (gS rfl (gS rfl g0))))) (fun g => ?_)
      exact ⟨g, _, rfl, V6, Nat.le_trans hu.size fS34, k34⟩
  intro s_ w41 hJ
  obtain ⟨g, b7, rfl, V6, fn7, kn7⟩ := hJ
  subst e2 e3 e4
  have d2_7 : b2 < b7 := Nat.lt_of_lt_of_le k2.lt fn7
  have d3_7 : b3 < b7 := Nat.lt_of_lt_of_le k3.lt fn7
  have d4_7 : b4 < b7 := Nat.lt_of_lt_of_le k4.lt fn7
  have f7 : w.heap.size ≤ b7 := Nat.le_trans U.size fn7
  replace k2 := k2.up V6
  replace k3 := k3.up V6
  replace k4 := k4.up V6
  replace U := U.tr V6
  have k7 := kn7
  refine hK5 _ _ ?_
  refine c_seq (fun K42 hK42 => ?_)
  refine c_draw Up 4 [(0, true), (1, true), (2, false), (3, false), (4, false)] (by kernel_rfl) (fun w43 hu => ⟨Up.refl _, ?_⟩)
  replace k2 := k2.up hu
  replace k3 := k3.up hu
  replace k4 := k4.up hu
  replace k7 := k7.up hu
  replace U := U.tr hu
  have SU := Up.refl w43
  refine p_step (by exact rfl) (y_loadB agg_65 sz_65 (et g0 rfl) (by first | (simp only [Value.cells, hV, aV, bV, wV, wL, List.size_toArray, length_bL, length_uL, length_be, size_spl, List.length_cons, List.length_nil, List.length_replicate, Nat.zero_add, Nat.reduceAdd, Nat.reduceLeDiff, Nat.le_refl]; done) | rfl) (atSB k7)) ?_
  refine p_step (by exact rfl) (y_loadB agg_65 sz_65 (et (gS rfl (gS rfl (gS rfl g0))) rfl) (by first | (simp only [Value.cells, hV, aV, bV, wV, wL, List.size_toArray, length_bL, length_uL, length_be, size_spl, List.length_cons, List.length_nil, List.length_replicate, Nat.zero_add, Nat.reduceAdd, Nat.reduceLeDiff, Nat.le_refl]; done) | rfl) (atSB k2)) ?_
  refine p_eff (by exact rfl) (e_callV cal_376 (aC (et g0 rfl) aN) (neg_spec a _ ha)) (fun v44 w44 h44 => ?_)
  obtain ⟨rfl, u44⟩ := h44
  replace k2 := k2.up u44
  replace k3 := k3.up u44
  replace k4 := k4.up u44
  replace k7 := k7.up u44
  replace U := U.tr u44
  refine ⟨.inr (SU.tr u44), ?_⟩
  replace SU := SU.tr u44
  refine p_eff (by exact rfl) (e_callV cal_375 (aC (et (gS rfl (gS rfl g0)) rfl) (aC (et g0 rfl) aN)) (signed_spec _ _ _ (rm_lt _ _ (sgn_lt _ _ hb)))) (fun v45 w45 h45 => ?_)
  obtain ⟨rfl, u45⟩ := h45
  replace k2 := k2.up u45
  replace k3 := k3.up u45
  replace k4 := k4.up u45
  replace k7 := k7.up u45
  replace U := U.tr u45
  refine ⟨.inr (SU.tr u45), ?_⟩
  replace SU := SU.tr u45
  refine p_effN (by exact rfl) (e_store sz_65 (et (gS rfl (gS rfl (gS rfl (gS rfl (gS rfl g0))))) rfl) (cellsV (et g0 rfl) rfl) (by first | (simp only [Value.cells, hV, aV, bV, wV, wL, List.size_toArray, length_bL, length_uL, length_be, size_spl, List.length_cons, List.length_nil, List.length_replicate, Nat.zero_add, Nat.reduceAdd, Nat.reduceLeDiff, Nat.le_refl]; done) | rfl) (by first | exact one_bL _ | exact one_uL _ | (intro v hv; simp at hv; subst hv; rfl)) k4 (by first | (simp only [Value.cells, hV, aV, bV, wV, wL, List.size_toArray, length_bL, length_uL, length_be, size_spl, List.length_cons, List.length_nil, List.length_replicate, Nat.zero_add, Nat.reduceAdd, Nat.reduceLeDiff, Nat.le_refl]; done) | exact Nat.le_of_ble_eq_true rfl | simp | omega)) (fun v46 w46 h46 => ?_)
  obtain ⟨rfl, x46⟩ := h46
  replace k2 := k2.ch x46.ch (by omega)
  replace k3 := k3.ch x46.ch (by omega)
  replace k7 := k7.ch x46.ch (by omega)
  replace k4 := x46.blk.full (by first | (simp only [Value.cells, hV, aV, bV, wV, wL, List.size_toArray, length_bL, length_uL, length_be, size_spl, List.length_cons, List.length_nil, List.length_replicate, Nat.zero_add, Nat.reduceAdd, Nat.reduceLeDiff, Nat.le_refl]; done) | rfl)
  replace U := U.st x46 f4
  refine ⟨.inl rfl, ?_⟩
  refine p_nil ?_
  refine hK42 _ _ ?_
  refine fg1 4 (gS rfl (gS rfl (gS rfl (gS rfl (gS rfl g0))))) (fun g => ?_)
  refine c_ret ?_
  refine ret1 rfl (res_blk agg_65 sz_65 (et g0 rfl) (by first | (simp only [Value.cells, hV, aV, bV, wV, wL, List.size_toArray, length_bL, length_uL, length_be, size_spl, List.length_cons, List.length_nil, List.length_replicate, Nat.zero_add, Nat.reduceAdd, Nat.reduceLeDiff, Nat.le_refl]; done) | rfl) k4) ?_
  exact ⟨rfl, U⟩
theorem addmod_spec (a b m : Nat) (w : World) (ha : a < W256) (hb : b < W256) (hm : m < W256) :
    Ret 279 [wV a, wV b, wV m] w (fun v w' => v = wV (eAddmod a b m) ∧ Up w w') := by
  refine enter (n := 36) Hvaa.func279 rfl rfl (Nat.le_of_ble_eq_true rfl) ?_
  have U := Up.refl w
  refine c_seq (fun K1 hK1 => ?_)
  refine c_region ?_
  refine l_eff (e_boxV (et g0 rfl)) (fun v2 w2 h2 => ?_)
  obtain ⟨b2, rfl, n2⟩ := h2
  have f2 : w.heap.size ≤ b2 := Nat.le_trans U.size n2.fresh
  replace U := U.tr n2.up
  have k2 := n2.blk
  refine l_eff (e_boxV (et (gS rfl (gS rfl g0)) rfl)) (fun v3 w3 h3 => ?_)
  obtain ⟨b3, rfl, n3⟩ := h3
  have d2_3 : b2 < b3 := Nat.lt_of_lt_of_le k2.lt n3.fresh
  have f3 : w.heap.size ≤ b3 := Nat.le_trans U.size n3.fresh
  replace k2 := k2.up n3.up
  replace U := U.tr n3.up
  have k3 := n3.blk
  refine l_eff (e_boxV (et (gS rfl (gS rfl (gS rfl (gS rfl g0)))) rfl)) (fun v4 w4 h4 => ?_)
  obtain ⟨b4, rfl, n4⟩ := h4
  have d2_4 : b2 < b4 := Nat.lt_of_lt_of_le k2.lt n4.fresh
  have d3_4 : b3 < b4 := Nat.lt_of_lt_of_le k3.lt n4.fresh
  have f4 : w.heap.size ≤ b4 := Nat.le_trans U.size n4.fresh
  replace k2 := k2.up n4.up
  replace k3 := k3.up n4.up
  replace U := U.tr n4.up
  have k4 := n4.blk
  refine l_eff (e_alloc zr_65) (fun v5 w5 h5 => ?_)
  obtain ⟨b5, rfl, n5⟩ := h5
  have d2_5 : b2 < b5 := Nat.lt_of_lt_of_le k2.lt n5.fresh
  have d3_5 : b3 < b5 := Nat.lt_of_lt_of_le k3.lt n5.fresh
  have d4_5 : b4 < b5 := Nat.lt_of_lt_of_le k4.lt n5.fresh
  have f5 : w.heap.size ≤ b5 := Nat.le_trans U.size n5.fresh
  replace k2 := k2.up n5.up
  replace k3 := k3.up n5.up
  replace k4 := k4.up n5.up
  replace U := U.tr n5.up
  have k5 := n5.blk
  refine l_nil ?_
  refine hK1 _ _ ?_
  refine fg4 3 4 5 6 (gS rfl (gS rfl (gS rfl g0))) (gS rfl (gS rfl g0)) (gS rfl g0) g0 (fun g => ?_)
  refine c_seq (fun K6 hK6 => ?_)
  refine c_region ?_
  refine l_step (y_loadB agg_65 sz_65 (et (gS rfl (gS rfl (gS rfl g0))) rfl) (by first | (simp only [Value.cells, hV, aV, bV, wV, wL, List.size_toArray, length_bL, length_uL, length_be, size_spl, List.length_cons, List.length_nil, List.length_replicate, Nat.zero_add, Nat.reduceAdd, Nat.reduceLeDiff, Nat.le_refl]; done) | rfl) (at1B k2)) ?_
  refine l_step (y_loadB agg_65 sz_65 (et (gS rfl (gS rfl (gS rfl g0))) rfl) (by first | (simp only [Value.cells, hV, aV, bV, wV, wL, List.size_toArray, length_bL, length_uL, length_be, size_spl, List.length_cons, List.length_nil, List.length_replicate, Nat.zero_add, Nat.reduceAdd, Nat.reduceLeDiff, Nat.le_refl]; done) | rfl) (at1B k3)) ?_
  refine l_eff (e_callV cal_164 (aC (et (gS rfl g0) rfl) (aC (et g0 rfl) aN)) (addOver_spec a b _ ha hb)) (fun v7 w7 h7 => ?_)
  obtain ⟨rfl, u7⟩ := h7
  replace k2 := k2.up u7
  replace k3 := k3.up u7
  replace k4 := k4.up u7
  replace k5 := k5.up u7
  replace U := U.tr u7
  obtain ⟨s, hs⟩ : ∃ s, s = (a + b) % W256 := ⟨_, rfl⟩
  have hsl : s < W256 := by rw [hs]; exact Nat.mod_lt _ (by decide)
  rw [← hs]
  refine l_step (y_moveV (et g0 rfl)) ?_
  refine l_step (y_ext (et g0 rfl) rfl) ?_
  refine l_step (y_ext (et (gS rfl g0) rfl) rfl) ?_
  refine l_eff (e_alloc zr_65) (fun v8 w8 h8 => ?_)
  obtain ⟨b8, rfl, n8⟩ := h8
  have d2_8 : b2 < b8 := Nat.lt_of_lt_of_le k2.lt n8.fresh
  have d3_8 : b3 < b8 := Nat.lt_of_lt_of_le k3.lt n8.fresh
  have d4_8 : b4 < b8 := Nat.lt_of_lt_of_le k4.lt n8.fresh
  have d5_8 : b5 < b8 := Nat.lt_of_lt_of_le k5.lt n8.fresh
  have f8 : w.heap.size ≤ b8 := Nat.le_trans U.size n8.fresh
  replace k2 := k2.up n8.up
  replace k3 := k3.up n8.up
  replace k4 := k4.up n8.up
  replace k5 := k5.up n8.up
  replace U := U.tr n8.up
  have k8 := n8.blk
  refine l_effN (e_store sz_65 (et g0 rfl) (cellsV (et (gS rfl (gS rfl g0)) rfl) rfl) (by first | (simp only [Value.cells, hV, aV, bV, wV, wL, List.size_toArray, length_bL, length_uL, length_be, size_spl, List.length_cons, List.length_nil, List.length_replicate, Nat.zero_add, Nat.reduceAdd, Nat.reduceLeDiff, Nat.le_refl]; done) | rfl) (by first | exact one_bL _ | exact one_uL _ | (intro v hv; simp at hv; subst hv; rfl)) k8 (by first | (simp only [Value.cells, hV, aV, bV, wV, wL, List.size_toArray, length_bL, length_uL, length_be, size_spl, List.length_cons, List.length_nil, List.length_replicate, Nat.zero_add, Nat.reduceAdd, Nat.reduceLeDiff, Nat.le_refl]; done) | exact Nat.le_of_ble_eq_true rfl | simp | omega)) (fun v9 w9 h9 => ?_)
  obtain ⟨rfl, x9⟩ := h9
  replace k2 := k2.ch x9.ch (by omega)
  replace k3 := k3.ch x9.ch (by omega)
  replace k4 := k4.ch x9.ch (by omega)
  replace k5 := k5.ch x9.ch (by omega)
  replace k8 := x9.blk.full (by first | (simp only [Value.cells, hV, aV, bV, wV, wL, List.size_toArray, length_bL, length_uL, length_be, size_spl, List.length_cons, List.length_nil, List.length_replicate, Nat.zero_add, Nat.reduceAdd, Nat.reduceLeDiff, Nat.le_refl]; done) | rfl)
  replace U := U.st x9 f8
  refine l_step (y_assignV (et (gS rfl g0) rfl)) ?_
  refine l_nil ?_
  refine hK6 _ _ ?_
  refine fg4 5 6 7 8 (gS rfl (gS rfl (gS rfl (gS rfl (gS rfl (gS rfl (gS rfl (gS rfl (gS rfl g0))))))))) (gS rfl (gS rfl (gS rfl (gS rfl (gS rfl (gS rfl (gS rfl (gS rfl g0)))))))) (gS rfl g0) g0 (fun g => ?_)
  refine c_seq (fun K10 hK10 => ?_)
  refine c_region ?_
  refine l_step (y_idxAC 0 0 Hvaa.underlying65 sz_26 (et (gS rfl g0) rfl) rfl rfl rfl) ?_
  refine l_step (y_load1 one_26 (et g0 rfl) (at1 (k8.cell (wL_get s 0 (by decide))))) ?_
  refine l_step (y_idxAC 1 1 Hvaa.underlying65 sz_26 (et (gS rfl (gS rfl (gS rfl g0))) rfl) rfl rfl rfl) ?_
  refine l_step (y_load1 one_26 (et g0 rfl) (at1 (k8.cell (wL_get s 1 (by decide))))) ?_
  refine l_step (y_idxAC 2 2 Hvaa.underlying65 sz_26 (et (gS rfl (gS rfl (gS rfl (gS rfl (gS rfl g0))))) rfl) rfl rfl rfl) ?_
  refine l_step (y_load1 one_26 (et g0 rfl) (at1 (k8.cell (wL_get s 2 (by decide))))) ?_
  refine l_step (y_idxAC 3 3 Hvaa.underlying65 sz_26 (et (gS rfl (gS rfl (gS rfl (gS rfl (gS rfl (gS rfl (gS rfl g0))))))) rfl) rfl rfl rfl) ?_
  refine l_step (y_load1 one_26 (et g0 rfl) (at1 (k8.cell (wL_get s 3 (by decide))))) ?_
  refine l_step (y_bld (bC (et (gS rfl (gS rfl (gS rfl (gS rfl (gS rfl (gS rfl g0)))))) rfl) (bC (et (gS rfl (gS rfl (gS rfl (gS rfl g0)))) rfl) (bC (et (gS rfl (gS rfl g0)) rfl) (bC (et g0 rfl) bN)))) (bld68_4 _ _ _ _)) ?_
  refine l_eff (e_alloc zr_68) (fun v11 w11 h11 => ?_)
  obtain ⟨b11, rfl, n11⟩ := h11
  have d2_11 : b2 < b11 := Nat.lt_of_lt_of_le k2.lt n11.fresh
  have d3_11 : b3 < b11 := Nat.lt_of_lt_of_le k3.lt n11.fresh
  have d4_11 : b4 < b11 := Nat.lt_of_lt_of_le k4.lt n11.fresh
  have d5_11 : b5 < b11 := Nat.lt_of_lt_of_le k5.lt n11.fresh
  have d8_11 : b8 < b11 := Nat.lt_of_lt_of_le k8.lt n11.fresh
  have f11 : w.heap.size ≤ b11 := Nat.le_trans U.size n11.fresh
  replace k2 := k2.up n11.up
  replace k3 := k3.up n11.up
  replace k4 := k4.up n11.up
  replace k5 := k5.up n11.up
  replace k8 := k8.up n11.up
  replace U := U.tr n11.up
  have k11 := n11.blk
  refine l_effN (e_store sz_68 (et g0 rfl) (cellsV (et (gS rfl g0) rfl) rfl) (by first | (simp only [Value.cells, hV, aV, bV, wV, wL, List.size_toArray, length_bL, length_uL, length_be, size_spl, List.length_cons, List.length_nil, List.length_replicate, Nat.zero_add, Nat.reduceAdd, Nat.reduceLeDiff, Nat.le_refl]; done) | rfl) (by first | exact one_bL _ | exact one_uL _ | (intro v hv; simp at hv; subst hv; rfl)) k11 (by first | (simp only [Value.cells, hV, aV, bV, wV, wL, List.size_toArray, length_bL, length_uL, length_be, size_spl, List.length_cons, List.length_nil, List.length_replicate, Nat.zero_add, Nat.reduceAdd, Nat.reduceLeDiff, Nat.le_refl]; done) | exact Nat.le_of_ble_eq_true rfl | simp | omega)) (fun v12 w12 h12 => ?_)
  obtain ⟨rfl, x12⟩ := h12
  replace k2 := k2.ch x12.ch (by omega)
  replace k3 := k3.ch x12.ch (by omega)
  replace k4 := k4.ch x12.ch (by omega)
  replace k5 := k5.ch x12.ch (by omega)
  replace k8 := k8.ch x12.ch (by omega)
  replace k11 := x12.blk.full (by first | (simp only [Value.cells, hV, aV, bV, wV, wL, List.size_toArray, length_bL, length_uL, length_be, size_spl, List.length_cons, List.length_nil, List.length_replicate, Nat.zero_add, Nat.reduceAdd, Nat.reduceLeDiff, Nat.le_refl]; done) | rfl)
  replace U := U.st x12 f11
  refine l_nil ?_
  refine hK10 _ _ ?_
  refine fg4 5 6 8 9 (gS rfl (gS rfl (gS rfl (gS rfl (gS rfl (gS rfl (gS rfl (gS rfl (gS rfl (gS rfl (gS rfl (gS rfl (gS rfl g0))))))))))))) (gS rfl (gS rfl (gS rfl (gS rfl (gS rfl (gS rfl (gS rfl (gS rfl (gS rfl (gS rfl (gS rfl (gS rfl g0)))))))))))) (gS rfl (gS rfl (gS rfl (gS rfl (gS rfl (gS rfl (gS rfl (gS rfl (gS rfl (gS rfl g0)))))))))) g0 (fun g => ?_)
  refine c_seq (fun K13 hK13 => ?_)
  refine c_seq (fun K14 hK14 => ?_)
  refine c_region ?_
  refine l_step (y_moveV (et (gS rfl g0) rfl)) ?_
  refine l_nil ?_
  refine hK14 _ _ ?_
  refine fg4 5 6 9 27 (gS rfl (gS rfl (gS rfl (gS rfl g0)))) (gS rfl (gS rfl (gS rfl g0))) (gS rfl g0) g0 (fun g => ?_)
  refine c_cond (et g0 rfl) (fun cB1 => ?_) (fun cB1 => ?_)
  · skip
    
    have ho : W256 ≤ a + b := of_decide_eq_true cB1
    refine c_region ?_
    refine l_step (y_idxAC 4 4 Hvaa.underlying68 sz_26 (et (gS rfl g0) rfl) rfl rfl rfl) ?_
    refine l_effN (e_store sz_26 (et g0 rfl) (cellsV rfl rfl) rfl (by first | exact one_bL _ | exact one_uL _ | (intro v hv; simp at hv; subst hv; rfl)) k11 (by first | exact Nat.le_of_ble_eq_true rfl | simp | omega)) (fun v16 w16 h16 => ?_)
    obtain ⟨rfl, x16⟩ := h16
    replace k2 := k2.ch x16.ch (by omega)
    replace k3 := k3.ch x16.ch (by omega)
    replace k4 := k4.ch x16.ch (by omega)
    replace k5 := k5.ch x16.ch (by omega)
    replace k8 := k8.ch x16.ch (by omega)
    replace k11 := x16.blk
    replace U := U.st x16 f11
    replace k11 : Blk w16 b11 (uL [limb s 0, limb s 1, limb s 2, limb s 3, 1, 0, 0, 0]).toArray := k11
    refine l_nil ?_
    refine hK13 _ _ ?_
    refine fg3 5 6 9 (gS rfl (gS rfl (gS rfl (gS rfl g0)))) (gS rfl (gS rfl (gS rfl g0))) (gS rfl (gS rfl g0)) (fun g => ?_)
    refine c_seq (fun K17 hK17 => ?_)
    refine c_region ?_
    refine l_step (y_loadB agg_68 sz_68 (et g0 rfl) (by first | (simp only [Value.cells, hV, aV, bV, wV, wL, List.size_toArray, length_bL, length_uL, length_be, size_spl, List.length_cons, List.length_nil, List.length_replicate, Nat.zero_add, Nat.reduceAdd, Nat.reduceLeDiff, Nat.le_refl]; done) | rfl) (at1B k11)) ?_
    refine l_step (y_loadB agg_65 sz_65 (et (gS rfl (gS rfl (gS rfl g0))) rfl) (by first | (simp only [Value.cells, hV, aV, bV, wV, wL, List.size_toArray, length_bL, length_uL, length_be, size_spl, List.length_cons, List.length_nil, List.length_replicate, Nat.zero_add, Nat.reduceAdd, Nat.reduceLeDiff, Nat.le_refl]; done) | rfl) (at1B k4)) ?_
    refine l_eff (e_callV cal_379 (aC (et (gS rfl g0) rfl) (aC (et g0 rfl) aN)) (rem512_spec m [limb s 0, limb s 1, limb s 2, limb s 3, 1, 0, 0, 0] _ rfl (Dig.cons (limb_lt _ _) (Dig.cons (limb_lt _ _) (Dig.cons (limb_lt _ _) (Dig.cons (limb_lt _ _) (Dig.cons (by decide) (Dig.rep _ 3 (by decide))))))) hm)) (fun v18 w18 h18 => ?_)
    obtain ⟨p, hp3, rfl, u18⟩ := h18
    replace k2 := k2.up u18
    replace k3 := k3.up u18
    replace k4 := k4.up u18
    replace k5 := k5.up u18
    replace k8 := k8.up u18
    replace k11 := k11.up u18
    replace U := U.tr u18
    refine l_step (y_moveV (et g0 rfl)) ?_
    refine l_step (y_ext (et g0 rfl) rfl) ?_
    refine l_step (y_ext (et (gS rfl g0) rfl) rfl) ?_
    refine l_eff (e_alloc zr_65) (fun v19 w19 h19 => ?_)
    obtain ⟨b19, rfl, n19⟩ := h19
    have d2_19 : b2 < b19 := Nat.lt_of_lt_of_le k2.lt n19.fresh
    have d3_19 : b3 < b19 := Nat.lt_of_lt_of_le k3.lt n19.fresh
    have d4_19 : b4 < b19 := Nat.lt_of_lt_of_le k4.lt n19.fresh
    have d5_19 : b5 < b19 := Nat.lt_of_lt_of_le k5.lt n19.fresh
    have d8_19 : b8 < b19 := Nat.lt_of_lt_of_le k8.lt n19.fresh
    have d11_19 : b11 < b19 := Nat.lt_of_lt_of_le k11.lt n19.fresh
    have f19 : w.heap.size ≤ b19 := Nat.le_trans U.size n19.fresh
    replace k2 := k2.up n19.up
    replace k3 := k3.up n19.up
    replace k4 := k4.up n19.up
    replace k5 := k5.up n19.up
    replace k8 := k8.up n19.up
    replace k11 := k11.up n19.up
    replace U := U.tr n19.up
    have k19 := n19.blk
    refine l_eff (e_alloc zr_407) (fun v20 w20 h20 => ?_)
    obtain ⟨b20, rfl, n20⟩ := h20
    have d2_20 : b2 < b20 := Nat.lt_of_lt_of_le k2.lt n20.fresh
    have d3_20 : b3 < b20 := Nat.lt_of_lt_of_le k3.lt n20.fresh
    have d4_20 : b4 < b20 := Nat.lt_of_lt_of_le k4.lt n20.fresh
    have d5_20 : b5 < b20 := Nat.lt_of_lt_of_le k5.lt n20.fresh
    have d8_20 : b8 < b20 := Nat.lt_of_lt_of_le k8.lt n20.fresh
    have d11_20 : b11 < b20 := Nat.lt_of_lt_of_le k11.lt n20.fresh
    have d19_20 : b19 < b20 := Nat.lt_of_lt_of_le k19.lt n20.fresh
    have f20 : w.heap.size ≤ b20 := Nat.le_trans U.size n20.fresh
    replace k2 := k2.up n20.up
    replace k3 := k3.up n20.up
    replace k4 := k4.up n20.up
    replace k5 := k5.up n20.up
    replace k8 := k8.up n20.up
    replace k11 := k11.up n20.up
    replace k19 := k19.up n20.up
    replace U := U.tr n20.up
    have k20 := n20.blk
    refine l_effN (e_store sz_65 (et (gS rfl g0) rfl) (cellsV (et (gS rfl (gS rfl (gS rfl g0))) rfl) rfl) (by first | (simp only [Value.cells, hV, aV, bV, wV, wL, List.size_toArray, length_bL, length_uL, length_be, size_spl, List.length_cons, List.length_nil, List.length_replicate, Nat.zero_add, Nat.reduceAdd, Nat.reduceLeDiff, Nat.le_refl]; done) | rfl) (by first | exact one_bL _ | exact one_uL _ | (intro v hv; simp at hv; subst hv; rfl)) k19 (by first | (simp only [Value.cells, hV, aV, bV, wV, wL, List.size_toArray, length_bL, length_uL, length_be, size_spl, List.length_cons, List.length_nil, List.length_replicate, Nat.zero_add, Nat.reduceAdd, Nat.reduceLeDiff, Nat.le_refl]; done) | exact Nat.le_of_ble_eq_true rfl | simp | omega)) (fun v21 w21 h21 => ?_)
    obtain ⟨rfl, x21⟩ := h21
    replace k2 := k2.ch x21.ch (by omega)
    replace k3 := k3.ch x21.ch (by omega)
    replace k4 := k4.ch x21.ch (by omega)
    replace k5 := k5.ch x21.ch (by omega)
    replace k8 := k8.ch x21.ch (by omega)
    replace k11 := k11.ch x21.ch (by omega)
    replace k20 := k20.ch x21.ch (by omega)
    replace k19 := x21.blk.full (by first | (simp only [Value.cells, hV, aV, bV, wV, wL, List.size_toArray, length_bL, length_uL, length_be, size_spl, List.length_cons, List.length_nil, List.length_replicate, Nat.zero_add, Nat.reduceAdd, Nat.reduceLeDiff, Nat.le_refl]; done) | rfl)
    replace U := U.st x21 f19
    refine l_effN (e_store sz_407 (et g0 rfl) (cellsV (et (gS rfl (gS rfl g0)) rfl) rfl) (by rw [length_bL, hp3]) (by exact one_bL _) k20 (by exact Nat.le_of_ble_eq_true rfl)) (fun v22 w22 h22 => ?_)
    obtain ⟨rfl, x22⟩ := h22
    replace k2 := k2.ch x22.ch (by omega)
    replace k3 := k3.ch x22.ch (by omega)
    replace k4 := k4.ch x22.ch (by omega)
    replace k5 := k5.ch x22.ch (by omega)
    replace k8 := k8.ch x22.ch (by omega)
    replace k11 := k11.ch x22.ch (by omega)
    replace k19 := k19.ch x22.ch (by omega)
    replace k20 := x22.blk.full (by rw [length_bL, hp3]; rfl)
    replace U := U.st x22 f20
    refine l_nil ?_
    refine hK17 _ _ ?_
    refine fg2 6 10 (gS rfl (gS rfl (gS rfl (gS rfl (gS rfl (gS rfl (gS rfl (gS rfl (gS rfl g0))))))))) (gS rfl g0) (fun g => ?_)
    refine c_seq (fun K23 hK23 => ?_)
    refine c_region ?_
    refine l_step (y_loadB agg_65 sz_65 (et g0 rfl) (by first | (simp only [Value.cells, hV, aV, bV, wV, wL, List.size_toArray, length_bL, length_uL, length_be, size_spl, List.length_cons, List.length_nil, List.length_replicate, Nat.zero_add, Nat.reduceAdd, Nat.reduceLeDiff, Nat.le_refl]; done) | rfl) (at1B k19)) ?_
    refine l_effN (e_store sz_65 (et (gS rfl (gS rfl g0)) rfl) (cellsV (et g0 rfl) rfl) (by first | (simp only [Value.cells, hV, aV, bV, wV, wL, List.size_toArray, length_bL, length_uL, length_be, size_spl, List.length_cons, List.length_nil, List.length_replicate, Nat.zero_add, Nat.reduceAdd, Nat.reduceLeDiff, Nat.le_refl]; done) | rfl) (by first | exact one_bL _ | exact one_uL _ | (intro v hv; simp at hv; subst hv; rfl)) k5 (by first | (simp only [Value.cells, hV, aV, bV, wV, wL, List.size_toArray, length_bL, length_uL, length_be, size_spl, List.length_cons, List.length_nil, List.length_replicate, Nat.zero_add, Nat.reduceAdd, Nat.reduceLeDiff, Nat.le_refl]; done) | exact Nat.le_of_ble_eq_true rfl | simp | omega)) (fun v24 w24 h24 => ?_)
    obtain ⟨rfl, x24⟩ := h24
    replace k2 := k2.ch x24.ch (by omega)
    replace k3 := k3.ch x24.ch (by omega)
    replace k4 := k4.ch x24.ch (by omega)
    replace k8 := k8.ch x24.ch (by omega)
    replace k11 := k11.ch x24.ch (by omega)
    replace k19 := k19.ch x24.ch (by omega)
    replace k20 := k20.ch x24.ch (by omega)
    replace k5 := x24.blk.full (by first | (simp only [Value.cells, hV, aV, bV, wV, wL, List.size_toArray, length_bL, length_uL, length_be, size_spl, List.length_cons, List.length_nil, List.length_replicate, Nat.zero_add, Nat.reduceAdd, Nat.reduceLeDiff, Nat.le_refl]; done) | rfl)
    replace U := U.st x24 f5
    refine l_nil ?_
    refine hK23 _ _ ?_
    refine fg1 6 (gS rfl (gS rfl g0)) (fun g => ?_)
    refine c_ret ?_
    refine ret1 rfl (res_blk agg_65 sz_65 (et g0 rfl) (by first | (simp only [Value.cells, hV, aV, bV, wV, wL, List.size_toArray, length_bL, length_uL, length_be, size_spl, List.length_cons, List.length_nil, List.length_replicate, Nat.zero_add, Nat.reduceAdd, Nat.reduceLeDiff, Nat.le_refl]; done) | rfl) k5) ?_
    refine ⟨?_, U⟩
    rw [val8, ofL_limb s hsl]
    unfold eAddmod
    rw [show s + 1 * W256 = a + b by unfold W256 at *; omega]
    rfl
  · skip
    
    have ho : a + b < W256 := by have := of_decide_eq_false cB1; omega
    refine c_skip ?_
    refine hK13 _ _ ?_
    refine fg3 5 6 9 (gS rfl (gS rfl (gS rfl g0))) (gS rfl (gS rfl g0)) (gS rfl g0) (fun g => ?_)
    refine c_seq (fun K25 hK25 => ?_)
    refine c_region ?_
    refine l_step (y_loadB agg_68 sz_68 (et g0 rfl) (by first | (simp only [Value.cells, hV, aV, bV, wV, wL, List.size_toArray, length_bL, length_uL, length_be, size_spl, List.length_cons, List.length_nil, List.length_replicate, Nat.zero_add, Nat.reduceAdd, Nat.reduceLeDiff, Nat.le_refl]; done) | rfl) (at1B k11)) ?_
    refine l_step (y_loadB agg_65 sz_65 (et (gS rfl (gS rfl (gS rfl g0))) rfl) (by first | (simp only [Value.cells, hV, aV, bV, wV, wL, List.size_toArray, length_bL, length_uL, length_be, size_spl, List.length_cons, List.length_nil, List.length_replicate, Nat.zero_add, Nat.reduceAdd, Nat.reduceLeDiff, Nat.le_refl]; done) | rfl) (at1B k4)) ?_
    refine l_eff (e_callV cal_379 (aC (et (gS rfl g0) rfl) (aC (et g0 rfl) aN)) (rem512_spec m [limb s 0, limb s 1, limb s 2, limb s 3, 0, 0, 0, 0] _ rfl (Dig.cons (limb_lt _ _) (Dig.cons (limb_lt _ _) (Dig.cons (limb_lt _ _) (Dig.cons (limb_lt _ _) (Dig.cons (by decide) (Dig.rep _ 3 (by decide))))))) hm)) (fun v26 w26 h26 => ?_)
    obtain ⟨p, hp3, rfl, u26⟩ := h26
    replace k2 := k2.up u26
    replace k3 := k3.up u26
    replace k4 := k4.up u26
    replace k5 := k5.up u26
    replace k8 := k8.up u26
    replace k11 := k11.up u26
    replace U := U.tr u26
    refine l_step (y_moveV (et g0 rfl)) ?_
    refine l_step (y_ext (et g0 rfl) rfl) ?_
    refine l_step (y_ext (et (gS rfl g0) rfl) rfl) ?_
    refine l_eff (e_alloc zr_65) (fun v27 w27 h27 => ?_)
    obtain ⟨b27, rfl, n27⟩ := h27
    have d2_27 : b2 < b27 := Nat.lt_of_lt_of_le k2.lt n27.fresh
    have d3_27 : b3 < b27 := Nat.lt_of_lt_of_le k3.lt n27.fresh
    have d4_27 : b4 < b27 := Nat.lt_of_lt_of_le k4.lt n27.fresh
    have d5_27 : b5 < b27 := Nat.lt_of_lt_of_le k5.lt n27.fresh
    have d8_27 : b8 < b27 := Nat.lt_of_lt_of_le k8.lt n27.fresh
    have d11_27 : b11 < b27 := Nat.lt_of_lt_of_le k11.lt n27.fresh
    have f27 : w.heap.size ≤ b27 := Nat.le_trans U.size n27.fresh
    replace k2 := k2.up n27.up
    replace k3 := k3.up n27.up
    replace k4 := k4.up n27.up
    replace k5 := k5.up n27.up
    replace k8 := k8.up n27.up
    replace k11 := k11.up n27.up
    replace U := U.tr n27.up
    have k27 := n27.blk
    refine l_eff (e_alloc zr_407) (fun v28 w28 h28 => ?_)
    obtain ⟨b28, rfl, n28⟩ := h28
    have d2_28 : b2 < b28 := Nat.lt_of_lt_of_le k2.lt n28.fresh
    have d3_28 : b3 < b28 := Nat.lt_of_lt_of_le k3.lt n28.fresh
    have d4_28 : b4 < b28 := Nat.lt_of_lt_of_le k4.lt n28.fresh
    have d5_28 : b5 < b28 := Nat.lt_of_lt_of_le k5.lt n28.fresh
    have d8_28 : b8 < b28 := Nat.lt_of_lt_of_le k8.lt n28.fresh
    have d11_28 : b11 < b28 := Nat.lt_of_lt_of_le k11.lt n28.fresh
    have d27_28 : b27 < b28 := Nat.lt_of_lt_of_le k27.lt n28.fresh
    have f28 : w.heap.size ≤ b28 := Nat.le_trans U.size n28.fresh
    replace k2 := k2.up n28.up
    replace k3 := k3.up n28.up
    replace k4 := k4.up n28.up
    replace k5 := k5.up n28.up
    replace k8 := k8.up n28.up
    replace k11 := k11.up n28.up
    replace k27 := k27.up n28.up
    replace U := U.tr n28.up
    have k28 := n28.blk
    refine l_effN (e_store sz_65 (et (gS rfl g0) rfl) (cellsV (et (gS rfl (gS rfl (gS rfl g0))) rfl) rfl) (by first | (simp only [Value.cells, hV, aV, bV, wV, wL, List.size_toArray, length_bL, length_uL, length_be, size_spl, List.length_cons, List.length_nil, List.length_replicate, Nat.zero_add, Nat.reduceAdd, Nat.reduceLeDiff, Nat.le_refl]; done) | rfl) (by first | exact one_bL _ | exact one_uL _ | (intro v hv; simp at hv; subst hv; rfl)) k27 (by first | (simp only [Value.cells, hV, aV, bV, wV, wL, List.size_toArray, length_bL, length_uL, length_be, size_spl, List.length_cons, List.length_nil, List.length_replicate, Nat.zero_add, Nat.reduceAdd, Nat.reduceLeDiff, Nat.le_refl]; done) | exact Nat.le_of_ble_eq_true rfl | simp | omega)) (fun v29 w29 h29 => ?_)
    obtain ⟨rfl, x29⟩ := h29
    replace k2 := k2.ch x29.ch (by omega)
    replace k3 := k3.ch x29.ch (by omega)
    replace k4 := k4.ch x29.ch (by omega)
    replace k5 := k5.ch x29.ch (by omega)
    replace k8 := k8.ch x29.ch (by omega)
    replace k11 := k11.ch x29.ch (by omega)
    replace k28 := k28.ch x29.ch (by omega)
    replace k27 := x29.blk.full (by first | (simp only [Value.cells, hV, aV, bV, wV, wL, List.size_toArray, length_bL, length_uL, length_be, size_spl, List.length_cons, List.length_nil, List.length_replicate, Nat.zero_add, Nat.reduceAdd, Nat.reduceLeDiff, Nat.le_refl]; done) | rfl)
    replace U := U.st x29 f27
    refine l_effN (e_store sz_407 (et g0 rfl) (cellsV (et (gS rfl (gS rfl g0)) rfl) rfl) (by rw [length_bL, hp3]) (by exact one_bL _) k28 (by exact Nat.le_of_ble_eq_true rfl)) (fun v30 w30 h30 => ?_)
    obtain ⟨rfl, x30⟩ := h30
    replace k2 := k2.ch x30.ch (by omega)
    replace k3 := k3.ch x30.ch (by omega)
    replace k4 := k4.ch x30.ch (by omega)
    replace k5 := k5.ch x30.ch (by omega)
    replace k8 := k8.ch x30.ch (by omega)
    replace k11 := k11.ch x30.ch (by omega)
    replace k27 := k27.ch x30.ch (by omega)
    replace k28 := x30.blk.full (by rw [length_bL, hp3]; rfl)
    replace U := U.st x30 f28
    refine l_nil ?_
    refine hK25 _ _ ?_
    refine fg2 6 10 (gS rfl (gS rfl (gS rfl (gS rfl (gS rfl (gS rfl (gS rfl (gS rfl (gS rfl g0))))))))) (gS rfl g0) (fun g => ?_)
    refine c_seq (fun K31 hK31 => ?_)
    refine c_region ?_
    refine l_step (y_loadB agg_65 sz_65 (et g0 rfl) (by first | (simp only [Value.cells, hV, aV, bV, wV, wL, List.size_toArray, length_bL, length_uL, length_be, size_spl, List.length_cons, List.length_nil, List.length_replicate, Nat.zero_add, Nat.reduceAdd, Nat.reduceLeDiff, Nat.le_refl]; done) | rfl) (at1B k27)) ?_
    refine l_effN (e_store sz_65 (et (gS rfl (gS rfl g0)) rfl) (cellsV (et g0 rfl) rfl) (by first | (simp only [Value.cells, hV, aV, bV, wV, wL, List.size_toArray, length_bL, length_uL, length_be, size_spl, List.length_cons, List.length_nil, List.length_replicate, Nat.zero_add, Nat.reduceAdd, Nat.reduceLeDiff, Nat.le_refl]; done) | rfl) (by first | exact one_bL _ | exact one_uL _ | (intro v hv; simp at hv; subst hv; rfl)) k5 (by first | (simp only [Value.cells, hV, aV, bV, wV, wL, List.size_toArray, length_bL, length_uL, length_be, size_spl, List.length_cons, List.length_nil, List.length_replicate, Nat.zero_add, Nat.reduceAdd, Nat.reduceLeDiff, Nat.le_refl]; done) | exact Nat.le_of_ble_eq_true rfl | simp | omega)) (fun v32 w32 h32 => ?_)
    obtain ⟨rfl, x32⟩ := h32
    replace k2 := k2.ch x32.ch (by omega)
    replace k3 := k3.ch x32.ch (by omega)
    replace k4 := k4.ch x32.ch (by omega)
    replace k8 := k8.ch x32.ch (by omega)
    replace k11 := k11.ch x32.ch (by omega)
    replace k27 := k27.ch x32.ch (by omega)
    replace k28 := k28.ch x32.ch (by omega)
    replace k5 := x32.blk.full (by first | (simp only [Value.cells, hV, aV, bV, wV, wL, List.size_toArray, length_bL, length_uL, length_be, size_spl, List.length_cons, List.length_nil, List.length_replicate, Nat.zero_add, Nat.reduceAdd, Nat.reduceLeDiff, Nat.le_refl]; done) | rfl)
    replace U := U.st x32 f5
    refine l_nil ?_
    refine hK31 _ _ ?_
    refine fg1 6 (gS rfl (gS rfl g0)) (fun g => ?_)
    refine c_ret ?_
    refine ret1 rfl (res_blk agg_65 sz_65 (et g0 rfl) (by first | (simp only [Value.cells, hV, aV, bV, wV, wL, List.size_toArray, length_bL, length_uL, length_be, size_spl, List.length_cons, List.length_nil, List.length_replicate, Nat.zero_add, Nat.reduceAdd, Nat.reduceLeDiff, Nat.le_refl]; done) | rfl) k5) ?_
    refine ⟨?_, U⟩
    rw [val8, ofL_limb s hsl]
    unfold eAddmod
    rw [show s + 0 * W256 = a + b by unfold W256 at *; omega]
    rfl
theorem mulmod_spec (a b m : Nat) (w : World) (ha : a < W256) (hb : b < W256) (hm : m < W256) :
    Ret 280 [wV a, wV b, wV m] w (fun v w' => v = wV (eMulmod a b m) ∧ Up w w') := by
  refine enter (n := 18) Hvaa.func280 rfl rfl (Nat.le_of_ble_eq_true rfl) ?_
  have U := Up.refl w
  refine c_seq (fun K1 hK1 => ?_)
  refine c_region ?_
  refine l_eff (e_boxV (et g0 rfl)) (fun v2 w2 h2 => ?_)
  obtain ⟨b2, rfl, n2⟩ := h2
  have f2 : w.heap.size ≤ b2 := Nat.le_trans U.size n2.fresh
  replace U := U.tr n2.up
  have k2 := n2.blk
  refine l_eff (e_boxV (et (gS rfl (gS rfl g0)) rfl)) (fun v3 w3 h3 => ?_)
  obtain ⟨b3, rfl, n3⟩ := h3
  have d2_3 : b2 < b3 := Nat.lt_of_lt_of_le k2.lt n3.fresh
  have f3 : w.heap.size ≤ b3 := Nat.le_trans U.size n3.fresh
  replace k2 := k2.up n3.up
  replace U := U.tr n3.up
  have k3 := n3.blk
  refine l_eff (e_boxV (et (gS rfl (gS rfl (gS rfl (gS rfl g0)))) rfl)) (fun v4 w4 h4 => ?_)
  obtain ⟨b4, rfl, n4⟩ := h4
  have d2_4 : b2 < b4 := Nat.lt_of_lt_of_le k2.lt n4.fresh
  have d3_4 : b3 < b4 := Nat.lt_of_lt_of_le k3.lt n4.fresh
  have f4 : w.heap.size ≤ b4 := Nat.le_trans U.size n4.fresh
  replace k2 := k2.up n4.up
  replace k3 := k3.up n4.up
  replace U := U.tr n4.up
  have k4 := n4.blk
  refine l_eff (e_alloc zr_65) (fun v5 w5 h5 => ?_)
  obtain ⟨b5, rfl, n5⟩ := h5
  have d2_5 : b2 < b5 := Nat.lt_of_lt_of_le k2.lt n5.fresh
  have d3_5 : b3 < b5 := Nat.lt_of_lt_of_le k3.lt n5.fresh
  have d4_5 : b4 < b5 := Nat.lt_of_lt_of_le k4.lt n5.fresh
  have f5 : w.heap.size ≤ b5 := Nat.le_trans U.size n5.fresh
  replace k2 := k2.up n5.up
  replace k3 := k3.up n5.up
  replace k4 := k4.up n5.up
  replace U := U.tr n5.up
  have k5 := n5.blk
  refine l_nil ?_
  refine hK1 _ _ ?_
  refine fg4 3 4 5 6 (gS rfl (gS rfl (gS rfl g0))) (gS rfl (gS rfl g0)) (gS rfl g0) g0 (fun g => ?_)
  refine c_seq (fun K6 hK6 => ?_)
  refine fgv4 3 4 5 6 (gS rfl (gS rfl (gS rfl g0))) (gS rfl (gS rfl g0)) (gS rfl g0) g0 (fun g z3 z4 z5 z6 e3 e4 e5 e6 => ?_)
  refine c_drawJ (fun s_ w_ => ∃ (g : Nat → Value) (b8 : Nat) (b9 : Nat) (p : List Nat), s_ = (upd (upd g 6 z6) 7 (.pointer (some ⟨b8, 0, none⟩))) ∧ Ch (fun _ => False) w5 w_ ∧ w5.heap.size ≤ b8 ∧ Blk w_ b8 ((wL (eMulmod a b m)).toArray) ∧ w5.heap.size ≤ b9 ∧ Blk w_ b9 ((bL p).toArray) ∧ (p.length = 3)) Up 11 (.pure 0 (.pure 1 (.pure 3 (.three 2 (.three 4 (.pure 5 (.pure 6 (.pure 7 (.two 8 (.eff 9 (.eff 10 (.eff 11 .fin))) 9 (.eff 8 (.eff 10 (.eff 11 .fin))))))) 8 (.two 4 (.pure 5 (.pure 6 (.pure 7 (.eff 9 (.eff 10 (.eff 11 .fin)))))) 9 (.eff 4 (.pure 5 (.pure 6 (.pure 7 (.eff 10 (.eff 11 .fin))))))) 9 (.two 4 (.pure 5 (.pure 6 (.pure 7 (.eff 8 (.eff 10 (.eff 11 .fin)))))) 8 (.eff 4 (.pure 5 (.pure 6 (.pure 7 (.eff 10 (.eff 11 .fin)))))))) 8 (.two 2 (.two 4 (.pure 5 (.pure 6 (.pure 7 (.eff 9 (.eff 10 (.eff 11 .fin)))))) 9 (.eff 4 (.pure 5 (.pure 6 (.pure 7 (.eff 10 (.eff 11 .fin))))))) 9 (.eff 2 (.eff 4 (.pure 5 (.pure 6 (.pure 7 (.eff 10 (.eff 11 .fin)))))))) 9 (.two 2 (.two 4 (.pure 5 (.pure 6 (.pure 7 (.eff 8 (.eff 10 (.eff 11 .fin)))))) 8 (.eff 4 (.pure 5 (.pure 6 (.pure 7 (.eff 10 (.eff 11 .fin))))))) 8 (.eff 2 (.eff 4 (.pure 5 (.pure 6 (.pure 7 (.eff 10 (.eff 11 .fin)))))))))))) (by kernel_rfl) (fun w10 hu => ⟨Up.refl _, ?_⟩) ?_
  · skip
    subst e3 e4 e5 e6
    replace k2 := k2.up hu
    replace k3 := k3.up hu
    replace k4 := k4.up hu
    replace k5 := k5.up hu
    replace U := U.tr hu
    have SU := Up.refl w10
    have V7 : Ch (fun _ => False) w5 w10 := hu
    refine t_step (by exact rfl) (y_loadB agg_65 sz_65 (et (gS rfl (gS rfl (gS rfl g0))) rfl) (by first | (simp only [Value.cells, hV, aV, bV, wV, wL, List.size_toArray, length_bL, length_uL, length_be, size_spl, List.length_cons, List.length_nil, List.length_replicate, Nat.zero_add, Nat.reduceAdd, Nat.reduceLeDiff, Nat.le_refl]; done) | rfl) (atSB k2)) ?_
    refine t_step (by exact rfl) (y_loadB agg_65 sz_65 (et (gS rfl (gS rfl (gS rfl g0))) rfl) (by first | (simp only [Value.cells, hV, aV, bV, wV, wL, List.size_toArray, length_bL, length_uL, length_be, size_spl, List.length_cons, List.length_nil, List.length_replicate, Nat.zero_add, Nat.reduceAdd, Nat.reduceLeDiff, Nat.le_refl]; done) | rfl) (atSB k3)) ?_
    refine t_step (by exact rfl) (y_loadB agg_65 sz_65 (et (gS rfl (gS rfl (gS rfl g0))) rfl) (by first | (simp only [Value.cells, hV, aV, bV, wV, wL, List.size_toArray, length_bL, length_uL, length_be, size_spl, List.length_cons, List.length_nil, List.length_replicate, Nat.zero_add, Nat.reduceAdd, Nat.reduceLeDiff, Nat.le_refl]; done) | rfl) (atSB k4)) ?_
    refine t_three ?_ ?_ ?_
    · skip
      refine t_eff (by exact rfl) (e_callV cal_241 (aC (et (gS rfl (gS rfl g0)) rfl) (aC (et (gS rfl g0) rfl) aN)) (mul512_spec a b _ ha hb)) (fun v11 w11 h11 => ?_)
      obtain ⟨p0, p1, p2, p3, p4, p5, p6, p7, rfl, G0, G1, G2, G3, G4, G5, G6, G7, hprod, u11⟩ := h11
      replace k2 := k2.up u11
      replace k3 := k3.up u11
      replace k4 := k4.up u11
      replace k5 := k5.up u11
      replace U := U.tr u11
      replace V7 := V7.tr u11
      have hM8 : (if m = 0 then 0 else val 18446744073709551616 [p0, p1, p2, p3, p4, p5, p6, p7] % m) = eMulmod a b m := by
        unfold eMulmod
        rw [← hprod, show val 18446744073709551616 [p0, p1, p2, p3, p4, p5, p6, p7] = ofL8 p0 p1 p2 p3 p4 p5 p6 p7 by simp only [val_cons, val_nil]; unfold ofL8 ofL; omega]
      refine ⟨.inr (SU.tr u11), ?_⟩
      replace SU := SU.tr u11
      refine t_three ?_ ?_ ?_
      · skip
        refine t_eff (by exact rfl) (e_callV cal_379 (aC (et g0 rfl) (aC (et (gS rfl g0) rfl) aN)) (rem512_spec m [p0, p1, p2, p3, p4, p5, p6, p7] _ rfl (Dig.cons G0 (Dig.cons G1 (Dig.cons G2 (Dig.cons G3 (Dig.cons G4 (Dig.cons G5 (Dig.cons G6 (Dig.one G7)))))))) hm)) (fun v12 w12 h12 => ?_)
        obtain ⟨p, hp3, rfl, u12⟩ := h12
        replace k2 := k2.up u12
        replace k3 := k3.up u12
        replace k4 := k4.up u12
        replace k5 := k5.up u12
        replace U := U.tr u12
        replace V7 := V7.tr u12
        refine ⟨.inr (SU.tr u12), ?_⟩
        replace SU := SU.tr u12
        rw [hM8]
        refine t_step (by exact rfl) (y_moveV (et g0 rfl)) ?_
        refine t_step (by exact rfl) (y_ext (et g0 rfl) rfl) ?_
        refine t_step (by exact rfl) (y_ext (et (gS rfl g0) rfl) rfl) ?_
        refine t_two ?_ ?_
        · skip
          refine t_eff (by exact rfl) (e_alloc zr_65) (fun v13 w13 h13 => ?_)
          obtain ⟨b13, rfl, n13⟩ := h13
          have d2_13 : b2 < b13 := Nat.lt_of_lt_of_le k2.lt n13.fresh
          have d3_13 : b3 < b13 := Nat.lt_of_lt_of_le k3.lt n13.fresh
          have d4_13 : b4 < b13 := Nat.lt_of_lt_of_le k4.lt n13.fresh
          have d5_13 : b5 < b13 := Nat.lt_of_lt_of_le k5.lt n13.fresh
          have f13 : w.heap.size ≤ b13 := Nat.le_trans U.size n13.fresh
          have fS13 := Nat.le_trans SU.size n13.fresh
          have fV7_13 := Nat.le_trans V7.size n13.fresh
          replace k2 := k2.up n13.up
          replace k3 := k3.up n13.up
          replace k4 := k4.up n13.up
          replace k5 := k5.up n13.up
          replace U := U.tr n13.up
          replace V7 := V7.tr n13.up
          have k13 := n13.blk
          refine ⟨.inr (SU.tr n13.up), ?_⟩
          replace SU := SU.tr n13.up
          refine t_one ?_
          refine t_eff (by exact rfl) (e_alloc zr_407) (fun v14 w14 h14 => ?_)
          obtain ⟨b14, rfl, n14⟩ := h14
          have d2_14 : b2 < b14 := Nat.lt_of_lt_of_le k2.lt n14.fresh
          have d3_14 : b3 < b14 := Nat.lt_of_lt_of_le k3.lt n14.fresh
          have d4_14 : b4 < b14 := Nat.lt_of_lt_of_le k4.lt n14.fresh
          have d5_14 : b5 < b14 := Nat.lt_of_lt_of_le k5.lt n14.fresh
          have d13_14 : b13 < b14 := Nat.lt_of_lt_of_le k13.lt n14.fresh
          have f14 : w.heap.size ≤ b14 := Nat.le_trans U.size n14.fresh
          have fS14 := Nat.le_trans SU.size n14.fresh
          have fV7_14 := Nat.le_trans V7.size n14.fresh
          replace k2 := k2.up n14.up
          replace k3 := k3.up n14.up
          replace k4 := k4.up n14.up
          replace k5 := k5.up n14.up
          replace k13 := k13.up n14.up
          replace U := U.tr n14.up
          replace V7 := V7.tr n14.up
          have k14 := n14.blk
          refine ⟨.inr (SU.tr n14.up), ?_⟩
          replace SU := SU.tr n14.up
          refine t_one ?_
          refine t_effN (by exact rfl) (e_store sz_65 (et (gS rfl g0) rfl) (cellsV (et (gS rfl (gS rfl (gS rfl g0))) rfl) rfl) (by first | (simp only [Value.cells, hV, aV, bV, wV, wL, List.size_toArray, length_bL, length_uL, length_be, size_spl, List.length_cons, List.length_nil, List.length_replicate, Nat.zero_add, Nat.reduceAdd, Nat.reduceLeDiff, Nat.le_refl]; done) | rfl) (by first | exact one_bL _ | exact one_uL _ | (intro v hv; simp at hv; subst hv; rfl)) k13 (by first | (simp only [Value.cells, hV, aV, bV, wV, wL, List.size_toArray, length_bL, length_uL, length_be, size_spl, List.length_cons, List.length_nil, List.length_replicate, Nat.zero_add, Nat.reduceAdd, Nat.reduceLeDiff, Nat.le_refl]; done) | exact Nat.le_of_ble_eq_true rfl | simp | omega)) (fun v15 w15 h15 => ?_)
          obtain ⟨rfl, x15⟩ := h15
          replace k2 := k2.ch x15.ch (by omega)
          replace k3 := k3.ch x15.ch (by omega)
          replace k4 := k4.ch x15.ch (by omega)
          replace k5 := k5.ch x15.ch (by omega)
          replace k14 := k14.ch x15.ch (by omega)
          replace k13 := x15.blk.full (by first | (simp only [Value.cells, hV, aV, bV, wV, wL, List.size_toArray, length_bL, length_uL, length_be, size_spl, List.length_cons, List.length_nil, List.length_replicate, Nat.zero_add, Nat.reduceAdd, Nat.reduceLeDiff, Nat.le_refl]; done) | rfl)
          replace U := U.st x15 f13
          replace V7 := V7.st x15 (by omega)
          refine ⟨.inr (SU.st x15 (by omega)), ?_⟩
          replace SU := SU.st x15 (by omega)
          refine t_one ?_
          refine t_effN (by exact rfl) (e_store sz_407 (et g0 rfl) (cellsV (et (gS rfl (gS rfl g0)) rfl) rfl) (by rw [length_bL, hp3]) (by exact one_bL _) k14 (by exact Nat.le_of_ble_eq_true rfl)) (fun v16 w16 h16 => ?_)
          obtain ⟨rfl, x16⟩ := h16
          replace k2 := k2.ch x16.ch (by omega)
          replace k3 := k3.ch x16.ch (by omega)
          replace k4 := k4.ch x16.ch (by omega)
          replace k5 := k5.ch x16.ch (by omega)
          replace k13 := k13.ch x16.ch (by omega)
          replace k14 := x16.blk.full (by rw [length_bL, hp3]; rfl)
          replace U := U.st x16 f14
          replace V7 := V7.st x16 (by omega)
          refine ⟨.inl rfl, ?_⟩
          refine tl2 6 7 (gS rfl (gS rfl (gS rfl (gS rfl (gS rfl (gS rfl (gS rfl (gS rfl (gS rfl (gS rfl g0)))))))))) (gS rfl g0) (fun g => ?_)
          exact ⟨g, _, _, _, rfl, V7, Nat.le_trans hu.size fS13, k13, Nat.le_trans hu.size fS14, k14, hp3⟩
        · skip
          refine t_eff (by exact rfl) (e_alloc zr_407) (fun v17 w17 h17 => ?_)
          obtain ⟨b17, rfl, n17⟩ := h17
          have d2_17 : b2 < b17 := Nat.lt_of_lt_of_le k2.lt n17.fresh
          have d3_17 : b3 < b17 := Nat.lt_of_lt_of_le k3.lt n17.fresh
          have d4_17 : b4 < b17 := Nat.lt_of_lt_of_le k4.lt n17.fresh
          have d5_17 : b5 < b17 := Nat.lt_of_lt_of_le k5.lt n17.fresh
          have f17 : w.heap.size ≤ b17 := Nat.le_trans U.size n17.fresh
          have fS17 := Nat.le_trans SU.size n17.fresh
          have fV7_17 := Nat.le_trans V7.size n17.fresh
          replace k2 := k2.up n17.up
          replace k3 := k3.up n17.up
          replace k4 := k4.up n17.up
          replace k5 := k5.up n17.up
          replace U := U.tr n17.up
          replace V7 := V7.tr n17.up
          have k17 := n17.blk
          refine ⟨.inr (SU.tr n17.up), ?_⟩
          replace SU := SU.tr n17.up
          refine t_one ?_
          refine t_eff (by exact rfl) (e_alloc zr_65) (fun v18 w18 h18 => ?_)
          obtain ⟨b18, rfl, n18⟩ := h18
          have d2_18 : b2 < b18 := Nat.lt_of_lt_of_le k2.lt n18.fresh
          have d3_18 : b3 < b18 := Nat.lt_of_lt_of_le k3.lt n18.fresh
          have d4_18 : b4 < b18 := Nat.lt_of_lt_of_le k4.lt n18.fresh
          have d5_18 : b5 < b18 := Nat.lt_of_lt_of_le k5.lt n18.fresh
          have d17_18 : b17 < b18 := Nat.lt_of_lt_of_le k17.lt n18.fresh
          have f18 : w.heap.size ≤ b18 := Nat.le_trans U.size n18.fresh
          have fS18 := Nat.le_trans SU.size n18.fresh
          have fV7_18 := Nat.le_trans V7.size n18.fresh
          replace k2 := k2.up n18.up
          replace k3 := k3.up n18.up
          replace k4 := k4.up n18.up
          replace k5 := k5.up n18.up
          replace k17 := k17.up n18.up
          replace U := U.tr n18.up
          replace V7 := V7.tr n18.up
          have k18 := n18.blk
          refine ⟨.inr (SU.tr n18.up), ?_⟩
          replace SU := SU.tr n18.up
          refine t_one ?_
          refine t_effN (by exact rfl) (e_store sz_65 (et g0 rfl) (cellsV (et (gS rfl (gS rfl (gS rfl g0))) rfl) rfl) (by first | (simp only [Value.cells, hV, aV, bV, wV, wL, List.size_toArray, length_bL, length_uL, length_be, size_spl, List.length_cons, List.length_nil, List.length_replicate, Nat.zero_add, Nat.reduceAdd, Nat.reduceLeDiff, Nat.le_refl]; done) | rfl) (by first | exact one_bL _ | exact one_uL _ | (intro v hv; simp at hv; subst hv; rfl)) k18 (by first | (simp only [Value.cells, hV, aV, bV, wV, wL, List.size_toArray, length_bL, length_uL, length_be, size_spl, List.length_cons, List.length_nil, List.length_replicate, Nat.zero_add, Nat.reduceAdd, Nat.reduceLeDiff, Nat.le_refl]; done) | exact Nat.le_of_ble_eq_true rfl | simp | omega)) (fun v19 w19 h19 => ?_)
          obtain ⟨rfl, x19⟩ := h19
          replace k2 := k2.ch x19.ch (by omega)
          replace k3 := k3.ch x19.ch (by omega)
          replace k4 := k4.ch x19.ch (by omega)
          replace k5 := k5.ch x19.ch (by omega)
          replace k17 := k17.ch x19.ch (by omega)
          replace k18 := x19.blk.full (by first | (simp only [Value.cells, hV, aV, bV, wV, wL, List.size_toArray, length_bL, length_uL, length_be, size_spl, List.length_cons, List.length_nil, List.length_replicate, Nat.zero_add, Nat.reduceAdd, Nat.reduceLeDiff, Nat.le_refl]; done) | rfl)
          replace U := U.st x19 f18
          replace V7 := V7.st x19 (by omega)
          refine ⟨.inr (SU.st x19 (by omega)), ?_⟩
          replace SU := SU.st x19 (by omega)
          refine t_one ?_
          refine t_effN (by exact rfl) (e_store sz_407 (et (gS rfl g0) rfl) (cellsV (et (gS rfl (gS rfl g0)) rfl) rfl) (by rw [length_bL, hp3]) (by exact one_bL _) k17 (by exact Nat.le_of_ble_eq_true rfl)) (fun v20 w20 h20 => ?_)
          obtain ⟨rfl, x20⟩ := h20
          replace k2 := k2.ch x20.ch (by omega)
          replace k3 := k3.ch x20.ch (by omega)
          replace k4 := k4.ch x20.ch (by omega)
          replace k5 := k5.ch x20.ch (by omega)
          replace k18 := k18.ch x20.ch (by omega)
          replace k17 := x20.blk.full (by rw [length_bL, hp3]; rfl)
          replace U := U.st x20 f17
          replace V7 := V7.st x20 (by omega)
          refine ⟨.inl rfl, ?_⟩
          refine tl2 6 7 (gS rfl (gS rfl (gS rfl (gS rfl (gS rfl (gS rfl (gS rfl (gS rfl (gS rfl (gS rfl g0)))))))))) g0 (fun g => ?_)
          exact ⟨g, _, _, _, rfl, V7, Nat.le_trans hu.size fS18, k18, Nat.le_trans hu.size fS17, k17, hp3⟩
      · skip
        refine t_eff (by exact rfl) (e_alloc zr_65) (fun v21 w21 h21 => ?_)
        obtain ⟨b21, rfl, n21⟩ := h21
        have d2_21 : b2 < b21 := Nat.lt_of_lt_of_le k2.lt n21.fresh
        have d3_21 : b3 < b21 := Nat.lt_of_lt_of_le k3.lt n21.fresh
        have d4_21 : b4 < b21 := Nat.lt_of_lt_of_le k4.lt n21.fresh
        have d5_21 : b5 < b21 := Nat.lt_of_lt_of_le k5.lt n21.fresh
        have f21 : w.heap.size ≤ b21 := Nat.le_trans U.size n21.fresh
        have fS21 := Nat.le_trans SU.size n21.fresh
        have fV7_21 := Nat.le_trans V7.size n21.fresh
        replace k2 := k2.up n21.up
        replace k3 := k3.up n21.up
        replace k4 := k4.up n21.up
        replace k5 := k5.up n21.up
        replace U := U.tr n21.up
        replace V7 := V7.tr n21.up
        have k21 := n21.blk
        refine ⟨.inr (SU.tr n21.up), ?_⟩
        replace SU := SU.tr n21.up
        refine t_two ?_ ?_
        · skip
          refine t_eff (by exact rfl) (e_callV cal_379 (aC (et (gS rfl g0) rfl) (aC (et (gS rfl (gS rfl g0)) rfl) aN)) (rem512_spec m [p0, p1, p2, p3, p4, p5, p6, p7] _ rfl (Dig.cons G0 (Dig.cons G1 (Dig.cons G2 (Dig.cons G3 (Dig.cons G4 (Dig.cons G5 (Dig.cons G6 (Dig.one G7)))))))) hm)) (fun v22 w22 h22 => ?_)
          obtain ⟨p, hp3, rfl, u22⟩ := h22
          replace k2 := k2.up u22
          replace k3 := k3.up u22
          replace k4 := k4.up u22
          replace k5 := k5.up u22
          replace k21 := k21.up u22
          replace U := U.tr u22
          replace V7 := V7.tr u22
          refine ⟨.inr (SU.tr u22), ?_⟩
          replace SU := SU.tr u22
          rw [hM8]
          refine t_step (by exact rfl) (y_moveV (et g0 rfl)) ?_
          refine t_step (by exact rfl) (y_ext (et g0 rfl) rfl) ?_
          refine t_step (by exact rfl) (y_ext (et (gS rfl g0) rfl) rfl) ?_
          refine t_one ?_
          refine t_eff (by exact rfl) (e_alloc zr_407) (fun v23 w23 h23 => ?_)
          obtain ⟨b23, rfl, n23⟩ := h23
          have d2_23 : b2 < b23 := Nat.lt_of_lt_of_le k2.lt n23.fresh
          have d3_23 : b3 < b23 := Nat.lt_of_lt_of_le k3.lt n23.fresh
          have d4_23 : b4 < b23 := Nat.lt_of_lt_of_le k4.lt n23.fresh
          have d5_23 : b5 < b23 := Nat.lt_of_lt_of_le k5.lt n23.fresh
          have d21_23 : b21 < b23 := Nat.lt_of_lt_of_le k21.lt n23.fresh
          have f23 : w.heap.size ≤ b23 := Nat.le_trans U.size n23.fresh
          have fS23 := Nat.le_trans SU.size n23.fresh
          have fV7_23 := Nat.le_trans V7.size n23.fresh
          replace k2 := k2.up n23.up
          replace k3 := k3.up n23.up
          replace k4 := k4.up n23.up
          replace k5 := k5.up n23.up
          replace k21 := k21.up n23.up
          replace U := U.tr n23.up
          replace V7 := V7.tr n23.up
          have k23 := n23.blk
          refine ⟨.inr (SU.tr n23.up), ?_⟩
          replace SU := SU.tr n23.up
          refine t_one ?_
          refine t_effN (by exact rfl) (e_store sz_65 (et (gS rfl (gS rfl (gS rfl (gS rfl (gS rfl g0))))) rfl) (cellsV (et (gS rfl (gS rfl g0)) rfl) rfl) (by first | (simp only [Value.cells, hV, aV, bV, wV, wL, List.size_toArray, length_bL, length_uL, length_be, size_spl, List.length_cons, List.length_nil, List.length_replicate, Nat.zero_add, Nat.reduceAdd, Nat.reduceLeDiff, Nat.le_refl]; done) | rfl) (by first | exact one_bL _ | exact one_uL _ | (intro v hv; simp at hv; subst hv; rfl)) k21 (by first | (simp only [Value.cells, hV, aV, bV, wV, wL, List.size_toArray, length_bL, length_uL, length_be, size_spl, List.length_cons, List.length_nil, List.length_replicate, Nat.zero_add, Nat.reduceAdd, Nat.reduceLeDiff, Nat.le_refl]; done) | exact Nat.le_of_ble_eq_true rfl | simp | omega)) (fun v24 w24 h24 => ?_)
          obtain ⟨rfl, x24⟩ := h24
          replace k2 := k2.ch x24.ch (by omega)
          replace k3 := k3.ch x24.ch (by omega)
          replace k4 := k4.ch x24.ch (by omega)
          replace k5 := k5.ch x24.ch (by omega)
          replace k23 := k23.ch x24.ch (by omega)
          replace k21 := x24.blk.full (by first | (simp only [Value.cells, hV, aV, bV, wV, wL, List.size_toArray, length_bL, length_uL, length_be, size_spl, List.length_cons, List.length_nil, List.length_replicate, Nat.zero_add, Nat.reduceAdd, Nat.reduceLeDiff, Nat.le_refl]; done) | rfl)
          replace U := U.st x24 f21
          replace V7 := V7.st x24 (by omega)
          refine ⟨.inr (SU.st x24 (by omega)), ?_⟩
          replace SU := SU.st x24 (by omega)
          refine t_one ?_
          refine t_effN (by exact rfl) (e_store sz_407 (et g0 rfl) (cellsV (et (gS rfl g0) rfl) rfl) (by rw [length_bL, hp3]) (by exact one_bL _) k23 (by exact Nat.le_of_ble_eq_true rfl)) (fun v25 w25 h25 => ?_)
          obtain ⟨rfl, x25⟩ := h25
          replace k2 := k2.ch x25.ch (by omega)
          replace k3 := k3.ch x25.ch (by omega)
          replace k4 := k4.ch x25.ch (by omega)
          replace k5 := k5.ch x25.ch (by omega)
          replace k21 := k21.ch x25.ch (by omega)
          replace k23 := x25.blk.full (by rw [length_bL, hp3]; rfl)
          replace U := U.st x25 f23
          replace V7 := V7.st x25 (by omega)
          refine ⟨.inl rfl, ?_⟩
          refine tl2 6 7 (gS rfl (gS rfl (gS rfl (gS rfl (gS rfl (gS rfl (gS rfl (gS rfl (gS rfl (gS rfl g0)))))))))) (gS rfl (gS rfl (gS rfl (gS rfl (gS rfl g0))))) (fun g => ?_)
          exact ⟨g, _, _, _, rfl, V7, Nat.le_trans hu.size fS21, k21, Nat.le_trans hu.size fS23, k23, hp3⟩
        · skip
          refine t_eff (by exact rfl) (e_alloc zr_407) (fun v26 w26 h26 => ?_)
          obtain ⟨b26, rfl, n26⟩ := h26
          have d2_26 : b2 < b26 := Nat.lt_of_lt_of_le k2.lt n26.fresh
          have d3_26 : b3 < b26 := Nat.lt_of_lt_of_le k3.lt n26.fresh
          have d4_26 : b4 < b26 := Nat.lt_of_lt_of_le k4.lt n26.fresh
          have d5_26 : b5 < b26 := Nat.lt_of_lt_of_le k5.lt n26.fresh
          have d21_26 : b21 < b26 := Nat.lt_of_lt_of_le k21.lt n26.fresh
          have f26 : w.heap.size ≤ b26 := Nat.le_trans U.size n26.fresh
          have fS26 := Nat.le_trans SU.size n26.fresh
          have fV7_26 := Nat.le_trans V7.size n26.fresh
          replace k2 := k2.up n26.up
          replace k3 := k3.up n26.up
          replace k4 := k4.up n26.up
          replace k5 := k5.up n26.up
          replace k21 := k21.up n26.up
          replace U := U.tr n26.up
          replace V7 := V7.tr n26.up
          have k26 := n26.blk
          refine ⟨.inr (SU.tr n26.up), ?_⟩
          replace SU := SU.tr n26.up
          refine t_one ?_
          refine t_eff (by exact rfl) (e_callV cal_379 (aC (et (gS rfl (gS rfl g0)) rfl) (aC (et (gS rfl (gS rfl (gS rfl g0))) rfl) aN)) (rem512_spec m [p0, p1, p2, p3, p4, p5, p6, p7] _ rfl (Dig.cons G0 (Dig.cons G1 (Dig.cons G2 (Dig.cons G3 (Dig.cons G4 (Dig.cons G5 (Dig.cons G6 (Dig.one G7)))))))) hm)) (fun v27 w27 h27 => ?_)
          obtain ⟨p, hp3, rfl, u27⟩ := h27
          replace k2 := k2.up u27
          replace k3 := k3.up u27
          replace k4 := k4.up u27
          replace k5 := k5.up u27
          replace k21 := k21.up u27
          replace k26 := k26.up u27
          replace U := U.tr u27
          replace V7 := V7.tr u27
          refine ⟨.inr (SU.tr u27), ?_⟩
          replace SU := SU.tr u27
          rw [hM8]
          refine t_step (by exact rfl) (y_moveV (et g0 rfl)) ?_
          refine t_step (by exact rfl) (y_ext (et g0 rfl) rfl) ?_
          refine t_step (by exact rfl) (y_ext (et (gS rfl g0) rfl) rfl) ?_
          refine t_one ?_
          refine t_effN (by exact rfl) (e_store sz_65 (et (gS rfl (gS rfl (gS rfl (gS rfl (gS rfl g0))))) rfl) (cellsV (et (gS rfl g0) rfl) rfl) (by first | (simp only [Value.cells, hV, aV, bV, wV, wL, List.size_toArray, length_bL, length_uL, length_be, size_spl, List.length_cons, List.length_nil, List.length_replicate, Nat.zero_add, Nat.reduceAdd, Nat.reduceLeDiff, Nat.le_refl]; done) | rfl) (by first | exact one_bL _ | exact one_uL _ | (intro v hv; simp at hv; subst hv; rfl)) k21 (by first | (simp only [Value.cells, hV, aV, bV, wV, wL, List.size_toArray, length_bL, length_uL, length_be, size_spl, List.length_cons, List.length_nil, List.length_replicate, Nat.zero_add, Nat.reduceAdd, Nat.reduceLeDiff, Nat.le_refl]; done) | exact Nat.le_of_ble_eq_true rfl | simp | omega)) (fun v28 w28 h28 => ?_)
          obtain ⟨rfl, x28⟩ := h28
          replace k2 := k2.ch x28.ch (by omega)
          replace k3 := k3.ch x28.ch (by omega)
          replace k4 := k4.ch x28.ch (by omega)
          replace k5 := k5.ch x28.ch (by omega)
          replace k26 := k26.ch x28.ch (by omega)
          replace k21 := x28.blk.full (by first | (simp only [Value.cells, hV, aV, bV, wV, wL, List.size_toArray, length_bL, length_uL, length_be, size_spl, List.length_cons, List.length_nil, List.length_replicate, Nat.zero_add, Nat.reduceAdd, Nat.reduceLeDiff, Nat.le_refl]; done) | rfl)
          replace U := U.st x28 f21
          replace V7 := V7.st x28 (by omega)
          refine ⟨.inr (SU.st x28 (by omega)), ?_⟩
          replace SU := SU.st x28 (by omega)
          refine t_one ?_
          refine t_effN (by exact rfl) (e_store sz_407 (et (gS rfl (gS rfl (gS rfl (gS rfl g0)))) rfl) (cellsV (et g0 rfl) rfl) (by rw [length_bL, hp3]) (by exact one_bL _) k26 (by exact Nat.le_of_ble_eq_true rfl)) (fun v29 w29 h29 => ?_)
          obtain ⟨rfl, x29⟩ := h29
          replace k2 := k2.ch x29.ch (by omega)
          replace k3 := k3.ch x29.ch (by omega)
          replace k4 := k4.ch x29.ch (by omega)
          replace k5 := k5.ch x29.ch (by omega)
          replace k21 := k21.ch x29.ch (by omega)
          replace k26 := x29.blk.full (by rw [length_bL, hp3]; rfl)
          replace U := U.st x29 f26
          replace V7 := V7.st x29 (by omega)
          refine ⟨.inl rfl, ?_⟩
          refine tl2 6 7 (gS rfl (gS rfl (gS rfl (gS rfl (gS rfl (gS rfl (gS rfl (gS rfl (gS rfl (gS rfl g0)))))))))) (gS rfl (gS rfl (gS rfl (gS rfl (gS rfl g0))))) (fun g => ?_)
          exact ⟨g, _, _, _, rfl, V7, Nat.le_trans hu.size fS21, k21, Nat.le_trans hu.size fS26, k26, hp3⟩
      · skip
        refine t_eff (by exact rfl) (e_alloc zr_407) (fun v30 w30 h30 => ?_)
        obtain ⟨b30, rfl, n30⟩ := h30
        have d2_30 : b2 < b30 := Nat.lt_of_lt_of_le k2.lt n30.fresh
        have d3_30 : b3 < b30 := Nat.lt_of_lt_of_le k3.lt n30.fresh
        have d4_30 : b4 < b30 := Nat.lt_of_lt_of_le k4.lt n30.fresh
        have d5_30 : b5 < b30 := Nat.lt_of_lt_of_le k5.lt n30.fresh
        have f30 : w.heap.size ≤ b30 := Nat.le_trans U.size n30.fresh
        have fS30 := Nat.le_trans SU.size n30.fresh
        have fV7_30 := Nat.le_trans V7.size n30.fresh
        replace k2 := k2.up n30.up
        replace k3 := k3.up n30.up
        replace k4 := k4.up n30.up
        replace k5 := k5.up n30.up
        replace U := U.tr n30.up
        replace V7 := V7.tr n30.up
        have k30 := n30.blk
        refine ⟨.inr (SU.tr n30.up), ?_⟩
        replace SU := SU.tr n30.up
        refine t_two ?_ ?_
        · skip
          refine t_eff (by exact rfl) (e_callV cal_379 (aC (et (gS rfl g0) rfl) (aC (et (gS rfl (gS rfl g0)) rfl) aN)) (rem512_spec m [p0, p1, p2, p3, p4, p5, p6, p7] _ rfl (Dig.cons G0 (Dig.cons G1 (Dig.cons G2 (Dig.cons G3 (Dig.cons G4 (Dig.cons G5 (Dig.cons G6 (Dig.one G7)))))))) hm)) (fun v31 w31 h31 => ?_)
          obtain ⟨p, hp3, rfl, u31⟩ := h31
          replace k2 := k2.up u31
          replace k3 := k3.up u31
          replace k4 := k4.up u31
          replace k5 := k5.up u31
          replace k30 := k30.up u31
          replace U := U.tr u31
          replace V7 := V7.tr u31
          refine ⟨.inr (SU.tr u31), ?_⟩
          replace SU := SU.tr u31
          rw [hM8]
          refine t_step (by exact rfl) (y_moveV (et g0 rfl)) ?_
          refine t_step (by exact rfl) (y_ext (et g0 rfl) rfl) ?_
          refine t_step (by exact rfl) (y_ext (et (gS rfl g0) rfl) rfl) ?_
          refine t_one ?_
          refine t_eff (by exact rfl) (e_alloc zr_65) (fun v32 w32 h32 => ?_)
          obtain ⟨b32, rfl, n32⟩ := h32
          have d2_32 : b2 < b32 := Nat.lt_of_lt_of_le k2.lt n32.fresh
          have d3_32 : b3 < b32 := Nat.lt_of_lt_of_le k3.lt n32.fresh
          have d4_32 : b4 < b32 := Nat.lt_of_lt_of_le k4.lt n32.fresh
          have d5_32 : b5 < b32 := Nat.lt_of_lt_of_le k5.lt n32.fresh
          have d30_32 : b30 < b32 := Nat.lt_of_lt_of_le k30.lt n32.fresh
          have f32 : w.heap.size ≤ b32 := Nat.le_trans U.size n32.fresh
          have fS32 := Nat.le_trans SU.size n32.fresh
          have fV7_32 := Nat.le_trans V7.size n32.fresh
          replace k2 := k2.up n32.up
          replace k3 := k3.up n32.up
          replace k4 := k4.up n32.up
          replace k5 := k5.up n32.up
          replace k30 := k30.up n32.up
          replace U := U.tr n32.up
          replace V7 := V7.tr n32.up
          have k32 := n32.blk
          refine ⟨.inr (SU.tr n32.up), ?_⟩
          replace SU := SU.tr n32.up
          refine t_one ?_
          refine t_effN (by exact rfl) (e_store sz_65 (et g0 rfl) (cellsV (et (gS rfl (gS rfl g0)) rfl) rfl) (by first | (simp only [Value.cells, hV, aV, bV, wV, wL, List.size_toArray, length_bL, length_uL, length_be, size_spl, List.length_cons, List.length_nil, List.length_replicate, Nat.zero_add, Nat.reduceAdd, Nat.reduceLeDiff, Nat.le_refl]; done) | rfl) (by first | exact one_bL _ | exact one_uL _ | (intro v hv; simp at hv; subst hv; rfl)) k32 (by first | (simp only [Value.cells, hV, aV, bV, wV, wL, List.size_toArray, length_bL, length_uL, length_be, size_spl, List.length_cons, List.length_nil, List.length_replicate, Nat.zero_add, Nat.reduceAdd, Nat.reduceLeDiff, Nat.le_refl]; done) | exact Nat.le_of_ble_eq_true rfl | simp | omega)) (fun v33 w33 h33 => ?_)
          obtain ⟨rfl, x33⟩ := h33
          replace k2 := k2.ch x33.ch (by omega)
          replace k3 := k3.ch x33.ch (by omega)
          replace k4 := k4.ch x33.ch (by omega)
          replace k5 := k5.ch x33.ch (by omega)
          replace k30 := k30.ch x33.ch (by omega)
          replace k32 := x33.blk.full (by first | (simp only [Value.cells, hV, aV, bV, wV, wL, List.size_toArray, length_bL, length_uL, length_be, size_spl, List.length_cons, List.length_nil, List.length_replicate, Nat.zero_add, Nat.reduceAdd, Nat.reduceLeDiff, Nat.le_refl]; done) | rfl)
          replace U := U.st x33 f32
          replace V7 := V7.st x33 (by omega)
          refine ⟨.inr (SU.st x33 (by omega)), ?_⟩
          replace SU := SU.st x33 (by omega)
          refine t_one ?_
          refine t_effN (by exact rfl) (e_store sz_407 (et (gS rfl (gS rfl (gS rfl (gS rfl (gS rfl g0))))) rfl) (cellsV (et (gS rfl g0) rfl) rfl) (by rw [length_bL, hp3]) (by exact one_bL _) k30 (by exact Nat.le_of_ble_eq_true rfl)) (fun v34 w34 h34 => ?_)
          obtain ⟨rfl, x34⟩ := h34
          replace k2 := k2.ch x34.ch (by omega)
          replace k3 := k3.ch x34.ch (by omega)
          replace k4 := k4.ch x34.ch (by omega)
          replace k5 := k5.ch x34.ch (by omega)
          replace k32 := k32.ch x34.ch (by omega)
          replace k30 := x34.blk.full (by rw [length_bL, hp3]; rfl)
          replace U := U.st x34 f30
          replace V7 := V7.st x34 (by omega)
          refine ⟨.inl rfl, ?_⟩
          refine tl2 6 7 (gS rfl (gS rfl (gS rfl (gS rfl (gS rfl (gS rfl (gS rfl (gS rfl (gS rfl (gS rfl g0)))))))))) g0 (fun g => ?_)
          exact ⟨g, _, _, _, rfl, V7, Nat.le_trans hu.size fS32, k32, Nat.le_trans hu.size fS30, k30, hp3⟩
        · skip
          refine t_eff (by exact rfl) (e_alloc zr_65) (fun v35 w35 h35 => ?_)
          obtain ⟨b35, rfl, n35⟩ := h35
          have d2_35 : b2 < b35 := Nat.lt_of_lt_of_le k2.lt n35.fresh
          have d3_35 : b3 < b35 := Nat.lt_of_lt_of_le k3.lt n35.fresh
          have d4_35 : b4 < b35 := Nat.lt_of_lt_of_le k4.lt n35.fresh
          have d5_35 : b5 < b35 := Nat.lt_of_lt_of_le k5.lt n35.fresh
          have d30_35 : b30 < b35 := Nat.lt_of_lt_of_le k30.lt n35.fresh
          have f35 : w.heap.size ≤ b35 := Nat.le_trans U.size n35.fresh
          have fS35 := Nat.le_trans SU.size n35.fresh
          have fV7_35 := Nat.le_trans V7.size n35.fresh
          replace k2 := k2.up n35.up
          replace k3 := k3.up n35.up
          replace k4 := k4.up n35.up
          replace k5 := k5.up n35.up
          replace k30 := k30.up n35.up
          replace U := U.tr n35.up
          replace V7 := V7.tr n35.up
          have k35 := n35.blk
          refine ⟨.inr (SU.tr n35.up), ?_⟩
          replace SU := SU.tr n35.up
          refine t_one ?_
          refine t_eff (by exact rfl) (e_callV cal_379 (aC (et (gS rfl (gS rfl g0)) rfl) (aC (et (gS rfl (gS rfl (gS rfl g0))) rfl) aN)) (rem512_spec m [p0, p1, p2, p3, p4, p5, p6, p7] _ rfl (Dig.cons G0 (Dig.cons G1 (Dig.cons G2 (Dig.cons G3 (Dig.cons G4 (Dig.cons G5 (Dig.cons G6 (Dig.one G7)))))))) hm)) (fun v36 w36 h36 => ?_)
          obtain ⟨p, hp3, rfl, u36⟩ := h36
          replace k2 := k2.up u36
          replace k3 := k3.up u36
          replace k4 := k4.up u36
          replace k5 := k5.up u36
          replace k30 := k30.up u36
          replace k35 := k35.up u36
          replace U := U.tr u36
          replace V7 := V7.tr u36
          refine ⟨.inr (SU.tr u36), ?_⟩
          replace SU := SU.tr u36
          rw [hM8]
          refine t_step (by exact rfl) (y_moveV (et g0 rfl)) ?_
          refine t_step (by exact rfl) (y_ext (et g0 rfl) rfl) ?_
          refine t_step (by exact rfl) (y_ext (et (gS rfl g0) rfl) rfl) ?_
          refine t_one ?_
          refine t_effN (by exact rfl) (e_store sz_65 (et (gS rfl (gS rfl (gS rfl (gS rfl g0)))) rfl) (cellsV (et (gS rfl g0) rfl) rfl) (by first | (simp only [Value.cells, hV, aV, bV, wV, wL, List.size_toArray, length_bL, length_uL, length_be, size_spl, List.length_cons, List.length_nil, List.length_replicate, Nat.zero_add, Nat.reduceAdd, Nat.reduceLeDiff, Nat.le_refl]; done) | rfl) (by first | exact one_bL _ | exact one_uL _ | (intro v hv; simp at hv; subst hv; rfl)) k35 (by first | (simp only [Value.cells, hV, aV, bV, wV, wL, List.size_toArray, length_bL, length_uL, length_be, size_spl, List.length_cons, List.length_nil, List.length_replicate, Nat.zero_add, Nat.reduceAdd, Nat.reduceLeDiff, Nat.le_refl]; done) | exact Nat.le_of_ble_eq_true rfl | simp | omega)) (fun v37 w37 h37 => ?_)
          obtain ⟨rfl, x37⟩ := h37
          replace k2 := k2.ch x37.ch (by omega)
          replace k3 := k3.ch x37.ch (by omega)
          replace k4 := k4.ch x37.ch (by omega)
          replace k5 := k5.ch x37.ch (by omega)
          replace k30 := k30.ch x37.ch (by omega)
          replace k35 := x37.blk.full (by first | (simp only [Value.cells, hV, aV, bV, wV, wL, List.size_toArray, length_bL, length_uL, length_be, size_spl, List.length_cons, List.length_nil, List.length_replicate, Nat.zero_add, Nat.reduceAdd, Nat.reduceLeDiff, Nat.le_refl]; done) | rfl)
          replace U := U.st x37 f35
          replace V7 := V7.st x37 (by omega)
          refine ⟨.inr (SU.st x37 (by omega)), ?_⟩
          replace SU := SU.st x37 (by omega)
          refine t_one ?_
          refine t_effN (by exact rfl) (e_store sz_407 (et (gS rfl (gS rfl (gS rfl (gS rfl (gS rfl g0))))) rfl) (cellsV (et g0 rfl) rfl) (by rw [length_bL, hp3]) (by exact one_bL _) k30 (by exact Nat.le_of_ble_eq_true rfl)) (fun v38 w38 h38 => ?_)
          obtain ⟨rfl, x38⟩ := h38
          replace k2 := k2.ch x38.ch (by omega)
          replace k3 := k3.ch x38.ch (by omega)
          replace k4 := k4.ch x38.ch (by omega)
          replace k5 := k5.ch x38.ch (by omega)
          replace k35 := k35.ch x38.ch (by omega)
          replace k30 := x38.blk.full (by rw [length_bL, hp3]; rfl)
          replace U := U.st x38 f30
          replace V7 := V7.st x38 (by omega)
          refine ⟨.inl rfl, ?_⟩
          refine tl2 6 7 (gS rfl (gS rfl (gS rfl (gS rfl (gS rfl (gS rfl (gS rfl (gS rfl (gS rfl (gS rfl g0)))))))))) (gS rfl (gS rfl (gS rfl (gS rfl g0)))) (fun g => ?_)
          exact ⟨g, _, _, _, rfl, V7, Nat.le_trans hu.size fS35, k35, Nat.le_trans hu.size fS30, k30, hp3⟩
    · skip
      refine t_eff (by exact rfl) (e_alloc zr_65) (fun v39 w39 h39 => ?_)
      obtain ⟨b39, rfl, n39⟩ := h39
      have d2_39 : b2 < b39 := Nat.lt_of_lt_of_le k2.lt n39.fresh
      have d3_39 : b3 < b39 := Nat.lt_of_lt_of_le k3.lt n39.fresh
      have d4_39 : b4 < b39 := Nat.lt_of_lt_of_le k4.lt n39.fresh
      have d5_39 : b5 < b39 := Nat.lt_of_lt_of_le k5.lt n39.fresh
      have f39 : w.heap.size ≤ b39 := Nat.le_trans U.size n39.fresh
      have fS39 := Nat.le_trans SU.size n39.fresh
      have fV7_39 := Nat.le_trans V7.size n39.fresh
      replace k2 := k2.up n39.up
      replace k3 := k3.up n39.up
      replace k4 := k4.up n39.up
      replace k5 := k5.up n39.up
      replace U := U.tr n39.up
      replace V7 := V7.tr n39.up
      have k39 := n39.blk
      refine ⟨.inr (SU.tr n39.up), ?_⟩
      replace SU := SU.tr n39.up
      refine t_two ?_ ?_
      · skip
        refine t_eff (by exact rfl) (e_callV cal_241 (aC (et (gS rfl (gS rfl (gS rfl g0))) rfl) (aC (et (gS rfl (gS rfl g0)) rfl) aN)) (mul512_spec a b _ ha hb)) (fun v40 w40 h40 => ?_)
        obtain ⟨p0, p1, p2, p3, p4, p5, p6, p7, rfl, G0, G1, G2, G3, G4, G5, G6, G7, hprod, u40⟩ := h40
        replace k2 := k2.up u40
        replace k3 := k3.up u40
        replace k4 := k4.up u40
        replace k5 := k5.up u40
        replace k39 := k39.up u40
        replace U := U.tr u40
        replace V7 := V7.tr u40
        have hM8 : (if m = 0 then 0 else val 18446744073709551616 [p0, p1, p2, p3, p4, p5, p6, p7] % m) = eMulmod a b m := by
          unfold eMulmod
          rw [← hprod, show val 18446744073709551616 [p0, p1, p2, p3, p4, p5, p6, p7] = ofL8 p0 p1 p2 p3 p4 p5 p6 p7 by simp only [val_cons, val_nil]; unfold ofL8 ofL; omega]
        refine ⟨.inr (SU.tr u40), ?_⟩
        replace SU := SU.tr u40
        refine t_two ?_ ?_
        · skip
          refine t_eff (by exact rfl) (e_callV cal_379 (aC (et g0 rfl) (aC (et (gS rfl (gS rfl g0)) rfl) aN)) (rem512_spec m [p0, p1, p2, p3, p4, p5, p6, p7] _ rfl (Dig.cons G0 (Dig.cons G1 (Dig.cons G2 (Dig.cons G3 (Dig.cons G4 (Dig.cons G5 (Dig.cons G6 (Dig.one G7)))))))) hm)) (fun v41 w41 h41 => ?_)
          obtain ⟨p, hp3, rfl, u41⟩ := h41
          replace k2 := k2.up u41
          replace k3 := k3.up u41
          replace k4 := k4.up u41
          replace k5 := k5.up u41
          replace k39 := k39.up u41
          replace U := U.tr u41
          replace V7 := V7.tr u41
          refine ⟨.inr (SU.tr u41), ?_⟩
          replace SU := SU.tr u41
          rw [hM8]
          refine t_step (by exact rfl) (y_moveV (et g0 rfl)) ?_
          refine t_step (by exact rfl) (y_ext (et g0 rfl) rfl) ?_
          refine t_step (by exact rfl) (y_ext (et (gS rfl g0) rfl) rfl) ?_
          refine t_one ?_
          refine t_eff (by exact rfl) (e_alloc zr_407) (fun v42 w42 h42 => ?_)
          obtain ⟨b42, rfl, n42⟩ := h42
          have d2_42 : b2 < b42 := Nat.lt_of_lt_of_le k2.lt n42.fresh
          have d3_42 : b3 < b42 := Nat.lt_of_lt_of_le k3.lt n42.fresh
          have d4_42 : b4 < b42 := Nat.lt_of_lt_of_le k4.lt n42.fresh
          have d5_42 : b5 < b42 := Nat.lt_of_lt_of_le k5.lt n42.fresh
          have d39_42 : b39 < b42 := Nat.lt_of_lt_of_le k39.lt n42.fresh
          have f42 : w.heap.size ≤ b42 := Nat.le_trans U.size n42.fresh
          have fS42 := Nat.le_trans SU.size n42.fresh
          have fV7_42 := Nat.le_trans V7.size n42.fresh
          replace k2 := k2.up n42.up
          replace k3 := k3.up n42.up
          replace k4 := k4.up n42.up
          replace k5 := k5.up n42.up
          replace k39 := k39.up n42.up
          replace U := U.tr n42.up
          replace V7 := V7.tr n42.up
          have k42 := n42.blk
          refine ⟨.inr (SU.tr n42.up), ?_⟩
          replace SU := SU.tr n42.up
          refine t_one ?_
          refine t_effN (by exact rfl) (e_store sz_65 (et (gS rfl (gS rfl (gS rfl (gS rfl (gS rfl (gS rfl g0)))))) rfl) (cellsV (et (gS rfl (gS rfl g0)) rfl) rfl) (by first | (simp only [Value.cells, hV, aV, bV, wV, wL, List.size_toArray, length_bL, length_uL, length_be, size_spl, List.length_cons, List.length_nil, List.length_replicate, Nat.zero_add, Nat.reduceAdd, Nat.reduceLeDiff, Nat.le_refl]; done) | rfl) (by first | exact one_bL _ | exact one_uL _ | (intro v hv; simp at hv; subst hv; rfl)) k39 (by first | (simp only [Value.cells, hV, aV, bV, wV, wL, List.size_toArray, length_bL, length_uL, length_be, size_spl, List.length_cons, List.length_nil, List.length_replicate, Nat.zero_add, Nat.reduceAdd, Nat.reduceLeDiff, Nat.le_refl]; done) | exact Nat.le_of_ble_eq_true rfl | simp | omega)) (fun v43 w43 h43 => ?_)
          obtain ⟨rfl, x43⟩ := h43
          replace k2 := k2.ch x43.ch (by omega)
          replace k3 := k3.ch x43.ch (by omega)
          replace k4 := k4.ch x43.ch (by omega)
          replace k5 := k5.ch x43.ch (by omega)
          replace k42 := k42.ch x43.ch (by omega)
          replace k39 := x43.blk.full (by first | (simp only [Value.cells, hV, aV, bV, wV, wL, List.size_toArray, length_bL, length_uL, length_be, size_spl, List.length_cons, List.length_nil, List.length_replicate, Nat.zero_add, Nat.reduceAdd, Nat.reduceLeDiff, Nat.le_refl]; done) | rfl)
          replace U := U.st x43 f39
          replace V7 := V7.st x43 (by omega)
          refine ⟨.inr (SU.st x43 (by omega)), ?_⟩
          replace SU := SU.st x43 (by omega)
          refine t_one ?_
          refine t_effN (by exact rfl) (e_store sz_407 (et g0 rfl) (cellsV (et (gS rfl g0) rfl) rfl) (by rw [length_bL, hp3]) (by exact one_bL _) k42 (by exact Nat.le_of_ble_eq_true rfl)) (fun v44 w44 h44 => ?_)
          obtain ⟨rfl, x44⟩ := h44
          replace k2 := k2.ch x44.ch (by omega)
          replace k3 := k3.ch x44.ch (by omega)
          replace k4 := k4.ch x44.ch (by omega)
          replace k5 := k5.ch x44.ch (by omega)
          replace k39 := k39.ch x44.ch (by omega)
          replace k42 := x44.blk.full (by rw [length_bL, hp3]; rfl)
          replace U := U.st x44 f42
          replace V7 := V7.st x44 (by omega)
          refine ⟨.inl rfl, ?_⟩
          refine tl2 6 7 (gS rfl (gS rfl (gS rfl (gS rfl (gS rfl (gS rfl (gS rfl (gS rfl (gS rfl (gS rfl g0)))))))))) (gS rfl (gS rfl (gS rfl (gS rfl (gS rfl (gS rfl g0)))))) (fun g => ?_)
          exact ⟨g, _, _, _, rfl, V7, Nat.le_trans hu.size fS39, k39, Nat.le_trans hu.size fS42, k42, hp3⟩
        · skip
          refine t_eff (by exact rfl) (e_alloc zr_407) (fun v45 w45 h45 => ?_)
          obtain ⟨b45, rfl, n45⟩ := h45
          have d2_45 : b2 < b45 := Nat.lt_of_lt_of_le k2.lt n45.fresh
          have d3_45 : b3 < b45 := Nat.lt_of_lt_of_le k3.lt n45.fresh
          have d4_45 : b4 < b45 := Nat.lt_of_lt_of_le k4.lt n45.fresh
          have d5_45 : b5 < b45 := Nat.lt_of_lt_of_le k5.lt n45.fresh
          have d39_45 : b39 < b45 := Nat.lt_of_lt_of_le k39.lt n45.fresh
          have f45 : w.heap.size ≤ b45 := Nat.le_trans U.size n45.fresh
          have fS45 := Nat.le_trans SU.size n45.fresh
          have fV7_45 := Nat.le_trans V7.size n45.fresh
          replace k2 := k2.up n45.up
          replace k3 := k3.up n45.up
          replace k4 := k4.up n45.up
          replace k5 := k5.up n45.up
          replace k39 := k39.up n45.up
          replace U := U.tr n45.up
          replace V7 := V7.tr n45.up
          have k45 := n45.blk
          refine ⟨.inr (SU.tr n45.up), ?_⟩
          replace SU := SU.tr n45.up
          refine t_one ?_
          refine t_eff (by exact rfl) (e_callV cal_379 (aC (et (gS rfl g0) rfl) (aC (et (gS rfl (gS rfl (gS rfl g0))) rfl) aN)) (rem512_spec m [p0, p1, p2, p3, p4, p5, p6, p7] _ rfl (Dig.cons G0 (Dig.cons G1 (Dig.cons G2 (Dig.cons G3 (Dig.cons G4 (Dig.cons G5 (Dig.cons G6 (Dig.one G7)))))))) hm)) (fun v46 w46 h46 => ?_)
          obtain ⟨p, hp3, rfl, u46⟩ := h46
          replace k2 := k2.up u46
          replace k3 := k3.up u46
          replace k4 := k4.up u46
          replace k5 := k5.up u46
          replace k39 := k39.up u46
          replace k45 := k45.up u46
          replace U := U.tr u46
          replace V7 := V7.tr u46
          refine ⟨.inr (SU.tr u46), ?_⟩
          replace SU := SU.tr u46
          rw [hM8]
          refine t_step (by exact rfl) (y_moveV (et g0 rfl)) ?_
          refine t_step (by exact rfl) (y_ext (et g0 rfl) rfl) ?_
          refine t_step (by exact rfl) (y_ext (et (gS rfl g0) rfl) rfl) ?_
          refine t_one ?_
          refine t_effN (by exact rfl) (e_store sz_65 (et (gS rfl (gS rfl (gS rfl (gS rfl (gS rfl (gS rfl g0)))))) rfl) (cellsV (et (gS rfl g0) rfl) rfl) (by first | (simp only [Value.cells, hV, aV, bV, wV, wL, List.size_toArray, length_bL, length_uL, length_be, size_spl, List.length_cons, List.length_nil, List.length_replicate, Nat.zero_add, Nat.reduceAdd, Nat.reduceLeDiff, Nat.le_refl]; done) | rfl) (by first | exact one_bL _ | exact one_uL _ | (intro v hv; simp at hv; subst hv; rfl)) k39 (by first | (simp only [Value.cells, hV, aV, bV, wV, wL, List.size_toArray, length_bL, length_uL, length_be, size_spl, List.length_cons, List.length_nil, List.length_replicate, Nat.zero_add, Nat.reduceAdd, Nat.reduceLeDiff, Nat.le_refl]; done) | exact Nat.le_of_ble_eq_true rfl | simp | omega)) (fun v47 w47 h47 => ?_)
          obtain ⟨rfl, x47⟩ := h47
          replace k2 := k2.ch x47.ch (by omega)
          replace k3 := k3.ch x47.ch (by omega)
          replace k4 := k4.ch x47.ch (by omega)
          replace k5 := k5.ch x47.ch (by omega)
          replace k45 := k45.ch x47.ch (by omega)
          replace k39 := x47.blk.full (by first | (simp only [Value.cells, hV, aV, bV, wV, wL, List.size_toArray, length_bL, length_uL, length_be, size_spl, List.length_cons, List.length_nil, List.length_replicate, Nat.zero_add, Nat.reduceAdd, Nat.reduceLeDiff, Nat.le_refl]; done) | rfl)
          replace U := U.st x47 f39
          replace V7 := V7.st x47 (by omega)
          refine ⟨.inr (SU.st x47 (by omega)), ?_⟩
          replace SU := SU.st x47 (by omega)
          refine t_one ?_
          refine t_effN (by exact rfl) (e_store sz_407 (et (gS rfl (gS rfl (gS rfl (gS rfl g0)))) rfl) (cellsV (et g0 rfl) rfl) (by rw [length_bL, hp3]) (by exact one_bL _) k45 (by exact Nat.le_of_ble_eq_true rfl)) (fun v48 w48 h48 => ?_)
          obtain ⟨rfl, x48⟩ := h48
          replace k2 := k2.ch x48.ch (by omega)
          replace k3 := k3.ch x48.ch (by omega)
          replace k4 := k4.ch x48.ch (by omega)
          replace k5 := k5.ch x48.ch (by omega)
          replace k39 := k39.ch x48.ch (by omega)
          replace k45 := x48.blk.full (by rw [length_bL, hp3]; rfl)
          replace U := U.st x48 f45
          replace V7 := V7.st x48 (by omega)
          refine ⟨.inl rfl, ?_⟩
          refine tl2 6 7 (gS rfl (gS rfl (gS rfl (gS rfl (gS rfl (gS rfl (gS rfl (gS rfl (gS rfl (gS rfl g0)))))))))) (gS rfl (gS rfl (gS rfl (gS rfl (gS rfl (gS rfl g0)))))) (fun g => ?_)
          exact ⟨g, _, _, _, rfl, V7, Nat.le_trans hu.size fS39, k39, Nat.le_trans hu.size fS45, k45, hp3⟩
      · skip
        refine t_eff (by exact rfl) (e_alloc zr_407) (fun v49 w49 h49 => ?_)
        obtain ⟨b49, rfl, n49⟩ := h49
        have d2_49 : b2 < b49 := Nat.lt_of_lt_of_le k2.lt n49.fresh
        have d3_49 : b3 < b49 := Nat.lt_of_lt_of_le k3.lt n49.fresh
        have d4_49 : b4 < b49 := Nat.lt_of_lt_of_le k4.lt n49.fresh
        have d5_49 : b5 < b49 := Nat.lt_of_lt_of_le k5.lt n49.fresh
        have d39_49 : b39 < b49 := Nat.lt_of_lt_of_le k39.lt n49.fresh
        have f49 : w.heap.size ≤ b49 := Nat.le_trans U.size n49.fresh
        have fS49 := Nat.le_trans SU.size n49.fresh
        have fV7_49 := Nat.le_trans V7.size n49.fresh
        replace k2 := k2.up n49.up
        replace k3 := k3.up n49.up
        replace k4 := k4.up n49.up
        replace k5 := k5.up n49.up
        replace k39 := k39.up n49.up
        replace U := U.tr n49.up
        replace V7 := V7.tr n49.up
        have k49 := n49.blk
        refine ⟨.inr (SU.tr n49.up), ?_⟩
        replace SU := SU.tr n49.up
        refine t_one ?_
        refine t_eff (by exact rfl) (e_callV cal_241 (aC (et (gS rfl (gS rfl (gS rfl (gS rfl g0)))) rfl) (aC (et (gS rfl (gS rfl (gS rfl g0))) rfl) aN)) (mul512_spec a b _ ha hb)) (fun v50 w50 h50 => ?_)
        obtain ⟨p0, p1, p2, p3, p4, p5, p6, p7, rfl, G0, G1, G2, G3, G4, G5, G6, G7, hprod, u50⟩ := h50
        replace k2 := k2.up u50
        replace k3 := k3.up u50
        replace k4 := k4.up u50
        replace k5 := k5.up u50
        replace k39 := k39.up u50
        replace k49 := k49.up u50
        replace U := U.tr u50
        replace V7 := V7.tr u50
        have hM8 : (if m = 0 then 0 else val 18446744073709551616 [p0, p1, p2, p3, p4, p5, p6, p7] % m) = eMulmod a b m := by
          unfold eMulmod
          rw [← hprod, show val 18446744073709551616 [p0, p1, p2, p3, p4, p5, p6, p7] = ofL8 p0 p1 p2 p3 p4 p5 p6 p7 by simp only [val_cons, val_nil]; unfold ofL8 ofL; omega]
        refine ⟨.inr (SU.tr u50), ?_⟩
        replace SU := SU.tr u50
        refine t_one ?_
        refine t_eff (by exact rfl) (e_callV cal_379 (aC (et g0 rfl) (aC (et (gS rfl (gS rfl (gS rfl g0))) rfl) aN)) (rem512_spec m [p0, p1, p2, p3, p4, p5, p6, p7] _ rfl (Dig.cons G0 (Dig.cons G1 (Dig.cons G2 (Dig.cons G3 (Dig.cons G4 (Dig.cons G5 (Dig.cons G6 (Dig.one G7)))))))) hm)) (fun v51 w51 h51 => ?_)
        obtain ⟨p, hp3, rfl, u51⟩ := h51
        replace k2 := k2.up u51
        replace k3 := k3.up u51
        replace k4 := k4.up u51
        replace k5 := k5.up u51
        replace k39 := k39.up u51
        replace k49 := k49.up u51
        replace U := U.tr u51
        replace V7 := V7.tr u51
        refine ⟨.inr (SU.tr u51), ?_⟩
        replace SU := SU.tr u51
        rw [hM8]
        refine t_step (by exact rfl) (y_moveV (et g0 rfl)) ?_
        refine t_step (by exact rfl) (y_ext (et g0 rfl) rfl) ?_
        refine t_step (by exact rfl) (y_ext (et (gS rfl g0) rfl) rfl) ?_
        refine t_one ?_
        refine t_effN (by exact rfl) (e_store sz_65 (et (gS rfl (gS rfl (gS rfl (gS rfl (gS rfl (gS rfl g0)))))) rfl) (cellsV (et (gS rfl g0) rfl) rfl) (by first | (simp only [Value.cells, hV, aV, bV, wV, wL, List.size_toArray, length_bL, length_uL, length_be, size_spl, List.length_cons, List.length_nil, List.length_replicate, Nat.zero_add, Nat.reduceAdd, Nat.reduceLeDiff, Nat.le_refl]; done) | rfl) (by first | exact one_bL _ | exact one_uL _ | (intro v hv; simp at hv; subst hv; rfl)) k39 (by first | (simp only [Value.cells, hV, aV, bV, wV, wL, List.size_toArray, length_bL, length_uL, length_be, size_spl, List.length_cons, List.length_nil, List.length_replicate, Nat.zero_add, Nat.reduceAdd, Nat.reduceLeDiff, Nat.le_refl]; done) | exact Nat.le_of_ble_eq_true rfl | simp | omega)) (fun v52 w52 h52 => ?_)
        obtain ⟨rfl, x52⟩ := h52
        replace k2 := k2.ch x52.ch (by omega)
        replace k3 := k3.ch x52.ch (by omega)
        replace k4 := k4.ch x52.ch (by omega)
        replace k5 := k5.ch x52.ch (by omega)
        replace k49 := k49.ch x52.ch (by omega)
        replace k39 := x52.blk.full (by first | (simp only [Value.cells, hV, aV, bV, wV, wL, List.size_toArray, length_bL, length_uL, length_be, size_spl, List.length_cons, List.length_nil, List.length_replicate, Nat.zero_add, Nat.reduceAdd, Nat.reduceLeDiff, Nat.le_refl]; done) | rfl)
        replace U := U.st x52 f39
        replace V7 := V7.st x52 (by omega)
        refine ⟨.inr (SU.st x52 (by omega)), ?_⟩
        replace SU := SU.st x52 (by omega)
        refine t_one ?_
        refine t_effN (by exact rfl) (e_store sz_407 (et (gS rfl (gS rfl (gS rfl (gS rfl (gS rfl g0))))) rfl) (cellsV (et g0 rfl) rfl) (by rw [length_bL, hp3]) (by exact one_bL _) k49 (by exact Nat.le_of_ble_eq_true rfl)) (fun v53 w53 h53 => ?_)
        obtain ⟨rfl, x53⟩ := h53
        replace k2 := k2.ch x53.ch (by omega)
        replace k3 := k3.ch x53.ch (by omega)
        replace k4 := k4.ch x53.ch (by omega)
        replace k5 := k5.ch x53.ch (by omega)
        replace k39 := k39.ch x53.ch (by omega)
        replace k49 := x53.blk.full (by rw [length_bL, hp3]; rfl)
        replace U := U.st x53 f49
        replace V7 := V7.st x53 (by omega)
        refine ⟨.inl rfl, ?_⟩
        refine tl2 6 7 (gS rfl (gS rfl (gS rfl (gS rfl (gS rfl (gS rfl (gS rfl (gS rfl (gS rfl (gS rfl g0)))))))))) (gS rfl (gS rfl (gS rfl (gS rfl (gS rfl (gS rfl g0)))))) (fun g => ?_)
        exact ⟨g, _, _, _, rfl, V7, Nat.le_trans hu.size fS39, k39, Nat.le_trans hu.size fS49, k49, hp3⟩
    · skip
      refine t_eff (by exact rfl) (e_alloc zr_407) (fun v54 w54 h54 => ?_)
      obtain ⟨b54, rfl, n54⟩ := h54
      have d2_54 : b2 < b54 := Nat.lt_of_lt_of_le k2.lt n54.fresh
      have d3_54 : b3 < b54 := Nat.lt_of_lt_of_le k3.lt n54.fresh
      have d4_54 : b4 < b54 := Nat.lt_of_lt_of_le k4.lt n54.fresh
      have d5_54 : b5 < b54 := Nat.lt_of_lt_of_le k5.lt n54.fresh
      have f54 : w.heap.size ≤ b54 := Nat.le_trans U.size n54.fresh
      have fS54 := Nat.le_trans SU.size n54.fresh
      have fV7_54 := Nat.le_trans V7.size n54.fresh
      replace k2 := k2.up n54.up
      replace k3 := k3.up n54.up
      replace k4 := k4.up n54.up
      replace k5 := k5.up n54.up
      replace U := U.tr n54.up
      replace V7 := V7.tr n54.up
      have k54 := n54.blk
      refine ⟨.inr (SU.tr n54.up), ?_⟩
      replace SU := SU.tr n54.up
      refine t_two ?_ ?_
      · skip
        refine t_eff (by exact rfl) (e_callV cal_241 (aC (et (gS rfl (gS rfl (gS rfl g0))) rfl) (aC (et (gS rfl (gS rfl g0)) rfl) aN)) (mul512_spec a b _ ha hb)) (fun v55 w55 h55 => ?_)
        obtain ⟨p0, p1, p2, p3, p4, p5, p6, p7, rfl, G0, G1, G2, G3, G4, G5, G6, G7, hprod, u55⟩ := h55
        replace k2 := k2.up u55
        replace k3 := k3.up u55
        replace k4 := k4.up u55
        replace k5 := k5.up u55
        replace k54 := k54.up u55
        replace U := U.tr u55
        replace V7 := V7.tr u55
        have hM8 : (if m = 0 then 0 else val 18446744073709551616 [p0, p1, p2, p3, p4, p5, p6, p7] % m) = eMulmod a b m := by
          unfold eMulmod
          rw [← hprod, show val 18446744073709551616 [p0, p1, p2, p3, p4, p5, p6, p7] = ofL8 p0 p1 p2 p3 p4 p5 p6 p7 by simp only [val_cons, val_nil]; unfold ofL8 ofL; omega]
        refine ⟨.inr (SU.tr u55), ?_⟩
        replace SU := SU.tr u55
        refine t_two ?_ ?_
        · skip
          refine t_eff (by exact rfl) (e_callV cal_379 (aC (et g0 rfl) (aC (et (gS rfl (gS rfl g0)) rfl) aN)) (rem512_spec m [p0, p1, p2, p3, p4, p5, p6, p7] _ rfl (Dig.cons G0 (Dig.cons G1 (Dig.cons G2 (Dig.cons G3 (Dig.cons G4 (Dig.cons G5 (Dig.cons G6 (Dig.one G7)))))))) hm)) (fun v56 w56 h56 => ?_)
          obtain ⟨p, hp3, rfl, u56⟩ := h56
          replace k2 := k2.up u56
          replace k3 := k3.up u56
          replace k4 := k4.up u56
          replace k5 := k5.up u56
          replace k54 := k54.up u56
          replace U := U.tr u56
          replace V7 := V7.tr u56
          refine ⟨.inr (SU.tr u56), ?_⟩
          replace SU := SU.tr u56
          rw [hM8]
          refine t_step (by exact rfl) (y_moveV (et g0 rfl)) ?_
          refine t_step (by exact rfl) (y_ext (et g0 rfl) rfl) ?_
          refine t_step (by exact rfl) (y_ext (et (gS rfl g0) rfl) rfl) ?_
          refine t_one ?_
          refine t_eff (by exact rfl) (e_alloc zr_65) (fun v57 w57 h57 => ?_)
          obtain ⟨b57, rfl, n57⟩ := h57
          have d2_57 : b2 < b57 := Nat.lt_of_lt_of_le k2.lt n57.fresh
          have d3_57 : b3 < b57 := Nat.lt_of_lt_of_le k3.lt n57.fresh
          have d4_57 : b4 < b57 := Nat.lt_of_lt_of_le k4.lt n57.fresh
          have d5_57 : b5 < b57 := Nat.lt_of_lt_of_le k5.lt n57.fresh
          have d54_57 : b54 < b57 := Nat.lt_of_lt_of_le k54.lt n57.fresh
          have f57 : w.heap.size ≤ b57 := Nat.le_trans U.size n57.fresh
          have fS57 := Nat.le_trans SU.size n57.fresh
          have fV7_57 := Nat.le_trans V7.size n57.fresh
          replace k2 := k2.up n57.up
          replace k3 := k3.up n57.up
          replace k4 := k4.up n57.up
          replace k5 := k5.up n57.up
          replace k54 := k54.up n57.up
          replace U := U.tr n57.up
          replace V7 := V7.tr n57.up
          have k57 := n57.blk
          refine ⟨.inr (SU.tr n57.up), ?_⟩
          replace SU := SU.tr n57.up
          refine t_one ?_
          refine t_effN (by exact rfl) (e_store sz_65 (et g0 rfl) (cellsV (et (gS rfl (gS rfl g0)) rfl) rfl) (by first | (simp only [Value.cells, hV, aV, bV, wV, wL, List.size_toArray, length_bL, length_uL, length_be, size_spl, List.length_cons, List.length_nil, List.length_replicate, Nat.zero_add, Nat.reduceAdd, Nat.reduceLeDiff, Nat.le_refl]; done) | rfl) (by first | exact one_bL _ | exact one_uL _ | (intro v hv; simp at hv; subst hv; rfl)) k57 (by first | (simp only [Value.cells, hV, aV, bV, wV, wL, List.size_toArray, length_bL, length_uL, length_be, size_spl, List.length_cons, List.length_nil, List.length_replicate, Nat.zero_add, Nat.reduceAdd, Nat.reduceLeDiff, Nat.le_refl]; done) | exact Nat.le_of_ble_eq_true rfl | simp | omega)) (fun v58 w58 h58 => ?_)
          obtain ⟨rfl, x58⟩ := h58
          replace k2 := k2.ch x58.ch (by omega)
          replace k3 := k3.ch x58.ch (by omega)
          replace k4 := k4.ch x58.ch (by omega)
          replace k5 := k5.ch x58.ch (by omega)
          replace k54 := k54.ch x58.ch (by omega)
          replace k57 := x58.blk.full (by first | (simp only [Value.cells, hV, aV, bV, wV, wL, List.size_toArray, length_bL, length_uL, length_be, size_spl, List.length_cons, List.length_nil, List.length_replicate, Nat.zero_add, Nat.reduceAdd, Nat.reduceLeDiff, Nat.le_refl]; done) | rfl)
          replace U := U.st x58 f57
          replace V7 := V7.st x58 (by omega)
          refine ⟨.inr (SU.st x58 (by omega)), ?_⟩
          replace SU := SU.st x58 (by omega)
          refine t_one ?_
          refine t_effN (by exact rfl) (e_store sz_407 (et (gS rfl (gS rfl (gS rfl (gS rfl (gS rfl (gS rfl g0)))))) rfl) (cellsV (et (gS rfl g0) rfl) rfl) (by rw [length_bL, hp3]) (by exact one_bL _) k54 (by exact Nat.le_of_ble_eq_true rfl)) (fun v59 w59 h59 => ?_)
          obtain ⟨rfl, x59⟩ := h59
          replace k2 := k2.ch x59.ch (by omega)
          replace k3 := k3.ch x59.ch (by omega)
          replace k4 := k4.ch x59.ch (by omega)
          replace k5 := k5.ch x59.ch (by omega)
          replace k57 := k57.ch x59.ch (by omega)
          replace k54 := x59.blk.full (by rw [length_bL, hp3]; rfl)
          replace U := U.st x59 f54
          replace V7 := V7.st x59 (by omega)
          refine ⟨.inl rfl, ?_⟩
          refine tl2 6 7 (gS rfl (gS rfl (gS rfl (gS rfl (gS rfl (gS rfl (gS rfl (gS rfl (gS rfl (gS rfl g0)))))))))) g0 (fun g => ?_)
          exact ⟨g, _, _, _, rfl, V7, Nat.le_trans hu.size fS57, k57, Nat.le_trans hu.size fS54, k54, hp3⟩
        · skip
          refine t_eff (by exact rfl) (e_alloc zr_65) (fun v60 w60 h60 => ?_)
          obtain ⟨b60, rfl, n60⟩ := h60
          have d2_60 : b2 < b60 := Nat.lt_of_lt_of_le k2.lt n60.fresh
          have d3_60 : b3 < b60 := Nat.lt_of_lt_of_le k3.lt n60.fresh
          have d4_60 : b4 < b60 := Nat.lt_of_lt_of_le k4.lt n60.fresh
          have d5_60 : b5 < b60 := Nat.lt_of_lt_of_le k5.lt n60.fresh
          have d54_60 : b54 < b60 := Nat.lt_of_lt_of_le k54.lt n60.fresh
          have f60 : w.heap.size ≤ b60 := Nat.le_trans U.size n60.fresh
          have fS60 := Nat.le_trans SU.size n60.fresh
          have fV7_60 := Nat.le_trans V7.size n60.fresh
          replace k2 := k2.up n60.up
          replace k3 := k3.up n60.up
          replace k4 := k4.up n60.up
          replace k5 := k5.up n60.up
          replace k54 := k54.up n60.up
          replace U := U.tr n60.up
          replace V7 := V7.tr n60.up
          have k60 := n60.blk
          refine ⟨.inr (SU.tr n60.up), ?_⟩
          replace SU := SU.tr n60.up
          refine t_one ?_
          refine t_eff (by exact rfl) (e_callV cal_379 (aC (et (gS rfl g0) rfl) (aC (et (gS rfl (gS rfl (gS rfl g0))) rfl) aN)) (rem512_spec m [p0, p1, p2, p3, p4, p5, p6, p7] _ rfl (Dig.cons G0 (Dig.cons G1 (Dig.cons G2 (Dig.cons G3 (Dig.cons G4 (Dig.cons G5 (Dig.cons G6 (Dig.one G7)))))))) hm)) (fun v61 w61 h61 => ?_)
          obtain ⟨p, hp3, rfl, u61⟩ := h61
          replace k2 := k2.up u61
          replace k3 := k3.up u61
          replace k4 := k4.up u61
          replace k5 := k5.up u61
          replace k54 := k54.up u61
          replace k60 := k60.up u61
          replace U := U.tr u61
          replace V7 := V7.tr u61
          refine ⟨.inr (SU.tr u61), ?_⟩
          replace SU := SU.tr u61
          rw [hM8]
          refine t_step (by exact rfl) (y_moveV (et g0 rfl)) ?_
          refine t_step (by exact rfl) (y_ext (et g0 rfl) rfl) ?_
          refine t_step (by exact rfl) (y_ext (et (gS rfl g0) rfl) rfl) ?_
          refine t_one ?_
          refine t_effN (by exact rfl) (e_store sz_65 (et (gS rfl (gS rfl (gS rfl (gS rfl g0)))) rfl) (cellsV (et (gS rfl g0) rfl) rfl) (by first | (simp only [Value.cells, hV, aV, bV, wV, wL, List.size_toArray, length_bL, length_uL, length_be, size_spl, List.length_cons, List.length_nil, List.length_replicate, Nat.zero_add, Nat.reduceAdd, Nat.reduceLeDiff, Nat.le_refl]; done) | rfl) (by first | exact one_bL _ | exact one_uL _ | (intro v hv; simp at hv; subst hv; rfl)) k60 (by first | (simp only [Value.cells, hV, aV, bV, wV, wL, List.size_toArray, length_bL, length_uL, length_be, size_spl, List.length_cons, List.length_nil, List.length_replicate, Nat.zero_add, Nat.reduceAdd, Nat.reduceLeDiff, Nat.le_refl]; done) | exact Nat.le_of_ble_eq_true rfl | simp | omega)) (fun v62 w62 h62 => ?_)
          obtain ⟨rfl, x62⟩ := h62
          replace k2 := k2.ch x62.ch (by omega)
          replace k3 := k3.ch x62.ch (by omega)
          replace k4 := k4.ch x62.ch (by omega)
          replace k5 := k5.ch x62.ch (by omega)
          replace k54 := k54.ch x62.ch (by omega)
          replace k60 := x62.blk.full (by first | (simp only [Value.cells, hV, aV, bV, wV, wL, List.size_toArray, length_bL, length_uL, length_be, size_spl, List.length_cons, List.length_nil, List.length_replicate, Nat.zero_add, Nat.reduceAdd, Nat.reduceLeDiff, Nat.le_refl]; done) | rfl)
          replace U := U.st x62 f60
          replace V7 := V7.st x62 (by omega)
          refine ⟨.inr (SU.st x62 (by omega)), ?_⟩
          replace SU := SU.st x62 (by omega)
          refine t_one ?_
          refine t_effN (by exact rfl) (e_store sz_407 (et (gS rfl (gS rfl (gS rfl (gS rfl (gS rfl (gS rfl g0)))))) rfl) (cellsV (et g0 rfl) rfl) (by rw [length_bL, hp3]) (by exact one_bL _) k54 (by exact Nat.le_of_ble_eq_true rfl)) (fun v63 w63 h63 => ?_)
          obtain ⟨rfl, x63⟩ := h63
          replace k2 := k2.ch x63.ch (by omega)
          replace k3 := k3.ch x63.ch (by omega)
          replace k4 := k4.ch x63.ch (by omega)
          replace k5 := k5.ch x63.ch (by omega)
          replace k60 := k60.ch x63.ch (by omega)
          replace k54 := x63.blk.full (by rw [length_bL, hp3]; rfl)
          replace U := U.st x63 f54
          replace V7 := V7.st x63 (by omega)
          refine ⟨.inl rfl, ?_⟩
          refine tl2 6 7 (gS rfl (gS rfl (gS rfl (gS rfl (gS rfl (gS rfl (gS rfl (gS rfl (gS rfl (gS rfl g0)))))))))) (gS rfl (gS rfl (gS rfl (gS rfl g0)))) (fun g => ?_)
          exact ⟨g, _, _, _, rfl, V7, Nat.le_trans hu.size fS60, k60, Nat.le_trans hu.size fS54, k54, hp3⟩
      · skip
        refine t_eff (by exact rfl) (e_alloc zr_65) (fun v64 w64 h64 => ?_)
        obtain ⟨b64, rfl, n64⟩ := h64
        have d2_64 : b2 < b64 := Nat.lt_of_lt_of_le k2.lt n64.fresh
        have d3_64 : b3 < b64 := Nat.lt_of_lt_of_le k3.lt n64.fresh
        have d4_64 : b4 < b64 := Nat.lt_of_lt_of_le k4.lt n64.fresh
        have d5_64 : b5 < b64 := Nat.lt_of_lt_of_le k5.lt n64.fresh
        have d54_64 : b54 < b64 := Nat.lt_of_lt_of_le k54.lt n64.fresh
        have f64 : w.heap.size ≤ b64 := Nat.le_trans U.size n64.fresh
        have fS64 := Nat.le_trans SU.size n64.fresh
        have fV7_64 := Nat.le_trans V7.size n64.fresh
        replace k2 := k2.up n64.up
        replace k3 := k3.up n64.up
        replace k4 := k4.up n64.up
        replace k5 := k5.up n64.up
        replace k54 := k54.up n64.up
        replace U := U.tr n64.up
        replace V7 := V7.tr n64.up
        have k64 := n64.blk
        refine ⟨.inr (SU.tr n64.up), ?_⟩
        replace SU := SU.tr n64.up
        refine t_one ?_
        refine t_eff (by exact rfl) (e_callV cal_241 (aC (et (gS rfl (gS rfl (gS rfl (gS rfl g0)))) rfl) (aC (et (gS rfl (gS rfl (gS rfl g0))) rfl) aN)) (mul512_spec a b _ ha hb)) (fun v65 w65 h65 => ?_)
        obtain ⟨p0, p1, p2, p3, p4, p5, p6, p7, rfl, G0, G1, G2, G3, G4, G5, G6, G7, hprod, u65⟩ := h65
        replace k2 := k2.up u65
        replace k3 := k3.up u65
        replace k4 := k4.up u65
        replace k5 := k5.up u65
        replace k54 := k54.up u65
        replace k64 := k64.up u65
        replace U := U.tr u65
        replace V7 := V7.tr u65
        have hM8 : (if m = 0 then 0 else val 18446744073709551616 [p0, p1, p2, p3, p4, p5, p6, p7] % m) = eMulmod a b m := by
          unfold eMulmod
          rw [← hprod, show val 18446744073709551616 [p0, p1, p2, p3, p4, p5, p6, p7] = ofL8 p0 p1 p2 p3 p4 p5 p6 p7 by simp only [val_cons, val_nil]; unfold ofL8 ofL; omega]
        refine ⟨.inr (SU.tr u65), ?_⟩
        replace SU := SU.tr u65
        refine t_one ?_
        refine t_eff (by exact rfl) (e_callV cal_379 (aC (et g0 rfl) (aC (et (gS rfl (gS rfl (gS rfl g0))) rfl) aN)) (rem512_spec m [p0, p1, p2, p3, p4, p5, p6, p7] _ rfl (Dig.cons G0 (Dig.cons G1 (Dig.cons G2 (Dig.cons G3 (Dig.cons G4 (Dig.cons G5 (Dig.cons G6 (Dig.one G7)))))))) hm)) (fun v66 w66 h66 => ?_)
        obtain ⟨p, hp3, rfl, u66⟩ := h66
        replace k2 := k2.up u66
        replace k3 := k3.up u66
        replace k4 := k4.up u66
        replace k5 := k5.up u66
        replace k54 := k54.up u66
        replace k64 := k64.up u66
        replace U := U.tr u66
        replace V7 := V7.tr u66
        refine ⟨.inr (SU.tr u66), ?_⟩
        replace SU := SU.tr u66
        rw [hM8]
        refine t_step (by exact rfl) (y_moveV (et g0 rfl)) ?_
        refine t_step (by exact rfl) (y_ext (et g0 rfl) rfl) ?_
        refine t_step (by exact rfl) (y_ext (et (gS rfl g0) rfl) rfl) ?_
        refine t_one ?_
        refine t_effN (by exact rfl) (e_store sz_65 (et (gS rfl (gS rfl (gS rfl (gS rfl (gS rfl g0))))) rfl) (cellsV (et (gS rfl g0) rfl) rfl) (by first | (simp only [Value.cells, hV, aV, bV, wV, wL, List.size_toArray, length_bL, length_uL, length_be, size_spl, List.length_cons, List.length_nil, List.length_replicate, Nat.zero_add, Nat.reduceAdd, Nat.reduceLeDiff, Nat.le_refl]; done) | rfl) (by first | exact one_bL _ | exact one_uL _ | (intro v hv; simp at hv; subst hv; rfl)) k64 (by first | (simp only [Value.cells, hV, aV, bV, wV, wL, List.size_toArray, length_bL, length_uL, length_be, size_spl, List.length_cons, List.length_nil, List.length_replicate, Nat.zero_add, Nat.reduceAdd, Nat.reduceLeDiff, Nat.le_refl]; done) | exact Nat.le_of_ble_eq_true rfl | simp | omega)) (fun v67 w67 h67 => ?_)
        obtain ⟨rfl, x67⟩ := h67
        replace k2 := k2.ch x67.ch (by omega)
        replace k3 := k3.ch x67.ch (by omega)
        replace k4 := k4.ch x67.ch (by omega)
        replace k5 := k5.ch x67.ch (by omega)
        replace k54 := k54.ch x67.ch (by omega)
        replace k64 := x67.blk.full (by first | (simp only [Value.cells, hV, aV, bV, wV, wL, List.size_toArray, length_bL, length_uL, length_be, size_spl, List.length_cons, List.length_nil, List.length_replicate, Nat.zero_add, Nat.reduceAdd, Nat.reduceLeDiff, Nat.le_refl]; done) | rfl)
        replace U := U.st x67 f64
        replace V7 := V7.st x67 (by omega)
        refine ⟨.inr (SU.st x67 (by omega)), ?_⟩
        replace SU := SU.st x67 (by omega)
        refine t_one ?_
        refine t_effN (by exact rfl) (e_store sz_407 (et (gS rfl (gS rfl (gS rfl (gS rfl (gS rfl (gS rfl g0)))))) rfl) (cellsV (et g0 rfl) rfl) (by rw [length_bL, hp3]) (by exact one_bL _) k54 (by exact Nat.le_of_ble_eq_true rfl)) (fun v68 w68 h68 => ?_)
        obtain ⟨rfl, x68⟩ := h68
        replace k2 := k2.ch x68.ch (by omega)
        replace k3 := k3.ch x68.ch (by omega)
        replace k4 := k4.ch x68.ch (by omega)
        replace k5 := k5.ch x68.ch (by omega)
        replace k64 := k64.ch x68.ch (by omega)
        replace k54 := x68.blk.full (by rw [length_bL, hp3]; rfl)
        replace U := U.st x68 f54
        replace V7 := V7.st x68 (by omega)
        refine ⟨.inl rfl, ?_⟩
        refine tl2 6 7 (gS rfl (gS rfl (gS rfl (gS rfl (gS rfl (gS rfl (gS rfl (gS rfl (gS rfl (gS rfl g0)))))))))) (gS rfl (gS rfl (gS rfl (gS rfl (gS rfl g0))))) (fun g => ?_)
        exact ⟨g, _, _, _, rfl, V7, Nat.le_trans hu.size fS64, k64, Nat.le_trans hu.size fS54, k54, hp3⟩
  intro s_ w69 hJ
  obtain ⟨g, b8, b9, p, rfl, V7, fn8, kn8, fn9, kn9, hp3⟩ := hJ
  subst e3 e4 e5 e6
  have d2_8 : b2 < b8 := Nat.lt_of_lt_of_le k2.lt fn8
  have d3_8 : b3 < b8 := Nat.lt_of_lt_of_le k3.lt fn8
  have d4_8 : b4 < b8 := Nat.lt_of_lt_of_le k4.lt fn8
  have d5_8 : b5 < b8 := Nat.lt_of_lt_of_le k5.lt fn8
  have f8 : w.heap.size ≤ b8 := Nat.le_trans U.size fn8
  have d2_9 : b2 < b9 := Nat.lt_of_lt_of_le k2.lt fn9
  have d3_9 : b3 < b9 := Nat.lt_of_lt_of_le k3.lt fn9
  have d4_9 : b4 < b9 := Nat.lt_of_lt_of_le k4.lt fn9
  have d5_9 : b5 < b9 := Nat.lt_of_lt_of_le k5.lt fn9
  have f9 : w.heap.size ≤ b9 := Nat.le_trans U.size fn9
  replace k2 := k2.up V7
  replace k3 := k3.up V7
  replace k4 := k4.up V7
  replace k5 := k5.up V7
  replace U := U.tr V7
  have k8 := kn8
  have k9 := kn9
  refine hK6 _ _ ?_
  refine c_seq (fun K70 hK70 => ?_)
  refine c_region ?_
  refine l_step (y_loadB agg_65 sz_65 (et g0 rfl) (by first | (simp only [Value.cells, hV, aV, bV, wV, wL, List.size_toArray, length_bL, length_uL, length_be, size_spl, List.length_cons, List.length_nil, List.length_replicate, Nat.zero_add, Nat.reduceAdd, Nat.reduceLeDiff, Nat.le_refl]; done) | rfl) (at1B k8)) ?_
  refine l_effN (e_store sz_65 (et (gS rfl (gS rfl g0)) rfl) (cellsV (et g0 rfl) rfl) (by first | (simp only [Value.cells, hV, aV, bV, wV, wL, List.size_toArray, length_bL, length_uL, length_be, size_spl, List.length_cons, List.length_nil, List.length_replicate, Nat.zero_add, Nat.reduceAdd, Nat.reduceLeDiff, Nat.le_refl]; done) | rfl) (by first | exact one_bL _ | exact one_uL _ | (intro v hv; simp at hv; subst hv; rfl)) k5 (by first | (simp only [Value.cells, hV, aV, bV, wV, wL, List.size_toArray, length_bL, length_uL, length_be, size_spl, List.length_cons, List.length_nil, List.length_replicate, Nat.zero_add, Nat.reduceAdd, Nat.reduceLeDiff, Nat.le_refl]; done) | exact Nat.le_of_ble_eq_true rfl | simp | omega)) (fun v71 w71 h71 => ?_)
  obtain ⟨rfl, x71⟩ := h71
  replace k2 := k2.ch x71.ch (by omega)
  replace k3 := k3.ch x71.ch (by omega)
  replace k4 := k4.ch x71.ch (by omega)
  replace k8 := k8.ch x71.ch (by omega)
  replace k9 := k9.ch x71.ch (by omega)
  replace k5 := x71.blk.full (by first | (simp only [Value.cells, hV, aV, bV, wV, wL, List.size_toArray, length_bL, length_uL, length_be, size_spl, List.length_cons, List.length_nil, List.length_replicate, Nat.zero_add, Nat.reduceAdd, Nat.reduceLeDiff, Nat.le_refl]; done) | rfl)
  replace U := U.st x71 f5
  refine l_nil ?_
  refine hK70 _ _ ?_
  refine fg1 6 (gS rfl (gS rfl g0)) (fun g => ?_)
  refine c_ret ?_
  refine ret1 rfl (res_blk agg_65 sz_65 (et g0 rfl) (by first | (simp only [Value.cells, hV, aV, bV, wV, wL, List.size_toArray, length_bL, length_uL, length_be, size_spl, List.length_cons, List.length_nil, List.length_replicate, Nat.zero_add, Nat.reduceAdd, Nat.reduceLeDiff, Nat.le_refl]; done) | rfl) k5) ?_
  exact ⟨rfl, U⟩
end Go.Proofs.YgvaawGreat
