import Derived.Test.YgvaawGreatM1
set_option maxRecDepth 100000
set_option maxHeartbeats 4000000
set_option linter.unusedSimpArgs false
set_option linter.unusedVariables false
namespace Go.Proofs.YgvaawGreat
open Go
theorem be_pad {a : Nat} (h : a < A160) : be 32 a = List.replicate 12 0 ++ be 20 a := by
  have e := be_split 12 20 a
  rw [Nat.div_eq_of_lt (A160_pow ▸ h)] at e
  rw [show (32 : Nat) = 12 + 20 from rfl, e]
  rfl
theorem be_mod (n : Nat) : be 20 (n % A160) = be 20 n := by
  have h1 := be_ofBE (be 20 n) (be_lt 20 n)
  rw [length_be, ofBE_be, ← A160_pow] at h1
  exact h1
theorem addr_mid {w : World} {b n : Nat} (h : Blk w b (bL (be 32 n)).toArray) : Row w b 12 (bL (be 20 (n % A160))) := by
  rw [be_mod]
  refine h.row (fun i v hv => ?_)
  have e := be_split 12 20 n
  rw [show (32 : Nat) = 12 + 20 from rfl, e, bL_append, List.getElem?_toArray, List.getElem?_append_right (by rw [length_bL, length_be]; omega), length_bL, length_be]
  rw [show 12 + i - 12 = i by omega]; exact hv
theorem spl_pad {a : Nat} (h : a < A160) : spl (bL (List.replicate 32 0)).toArray 12 (bL (be 20 a)) = (bL (be 32 a)).toArray := by
  have e : bL (List.replicate 32 0) = ([bL (List.replicate 12 0), bL (List.replicate 20 0)] : List (List Value)).flatten := by simp [bL]
  rw [e]
  have := spl_at [bL (List.replicate 12 0), bL (List.replicate 20 0)] 1 (bL (be 20 a)) (bL (List.replicate 20 0)) rfl (by rw [length_bL, length_be, length_bL]; rfl)
  have h12 : ([bL (List.replicate 12 0), bL (List.replicate 20 0)].take 1).flatten.length = 12 := rfl
  rw [h12] at this
  rw [this, be_pad h, bL_append]
  simp
theorem mach_addrWord (a : Nat) (w : World) (ha : a < A160) :
    Ret 257 [aV a] w (fun v w' => v = wV a ∧ Up w w') := by
  refine enter (n := 9) Hvaa.func257 rfl rfl (Nat.le_of_ble_eq_true rfl) ?_
  have U := Up.refl w
  refine c_seq (fun K1 hK1 => ?_)
  refine c_region ?_
  refine l_eff (e_boxV (et g0 rfl)) (fun v2 w2 h2 => ?_)
  obtain ⟨b2, rfl, n2⟩ := h2
  have f2 : w.heap.size ≤ b2 := Nat.le_trans U.size n2.fresh
  replace U := U.tr n2.up
  have k2 := n2.blk
  replace k2 : Blk w2 b2 (bL (be 20 a)).toArray := k2
  refine l_eff (e_alloc zr_65) (fun v3 w3 h3 => ?_)
  obtain ⟨b3, rfl, n3⟩ := h3
  have d2_3 : b2 < b3 := Nat.lt_of_lt_of_le k2.lt n3.fresh
  have f3 : w.heap.size ≤ b3 := Nat.le_trans U.size n3.fresh
  replace k2 := k2.up n3.up
  replace U := U.tr n3.up
  have k3 := n3.blk
  refine l_nil ?_
  refine hK1 _ _ ?_
  refine fg2 1 2 (gS rfl g0) g0 (fun g => ?_)
  refine c_seq (fun K4 hK4 => ?_)
  refine c_region ?_
  refine l_eff (e_alloc zr_27) (fun v5 w5 h5 => ?_)
  obtain ⟨b5, rfl, n5⟩ := h5
  have d2_5 : b2 < b5 := Nat.lt_of_lt_of_le k2.lt n5.fresh
  have d3_5 : b3 < b5 := Nat.lt_of_lt_of_le k3.lt n5.fresh
  have f5 : w.heap.size ≤ b5 := Nat.le_trans U.size n5.fresh
  replace k2 := k2.up n5.up
  replace k3 := k3.up n5.up
  replace U := U.tr n5.up
  have k5 := n5.blk
  replace k5 : Blk w5 b5 (bL (List.replicate 32 0)).toArray := k5
  refine l_nil ?_
  refine hK4 _ _ ?_
  refine c_seq (fun K6 hK6 => ?_)
  refine c_draw Up 2 [(0, true), (1, true), (2, false)] (by kernel_rfl) (fun w7 hu => ⟨Up.refl _, ?_⟩)
  replace k2 := k2.up hu
  replace k3 := k3.up hu
  replace k5 := k5.up hu
  replace U := U.tr hu
  have SU := Up.refl w7
  refine p_step (by exact rfl) (y_slA100 Hvaa.underlying27 sz_5 (et g0 rfl) rfl ?_ ?_ ?_) ?_
  decide
  decide
  decide
  refine p_step (by exact rfl) (y_slA000 Hvaa.underlying25 sz_5 (et (gS rfl (gS rfl (gS rfl g0))) rfl) ) ?_
  have hW := wv_addr k2
  refine p_eff (by exact rfl) (e_copyW Hvaa.underlying38 (et (gS rfl g0) rfl) (et g0 rfl) hW k5 (by rw [length_be]; exact Nat.le_of_ble_eq_true rfl)) (fun v8 w8 h8 => ?_)
  obtain ⟨rfl, x8⟩ := h8
  replace k2 := k2.ch x8.ch (by omega)
  replace k3 := k3.ch x8.ch (by omega)
  replace k5 := x8.blk
  replace U := U.cc x8.ch (by intro b hb; first | exact hb ▸ f5 | omega)
  refine ⟨.inl rfl, ?_⟩
  replace k5 : Blk w8 b5 (bL (be 32 a)).toArray := by
    have h := k5
    rw [List.take_of_length_le (by rw [length_be]; decide), show 0 + (12 : Int).toNat * 1 = 12 from rfl, spl_pad ha] at h
    exact h
  refine p_nil ?_
  refine hK6 _ _ ?_
  refine fg2 2 3 (gS rfl (gS rfl (gS rfl (gS rfl g0)))) (gS rfl (gS rfl (gS rfl g0))) (fun g => ?_)
  refine c_seq (fun K9 hK9 => ?_)
  refine c_region ?_
  refine l_step (y_loadB agg_27 sz_27 (et g0 rfl) (by rw [List.size_toArray, length_bL, length_be]) (at1B k5)) ?_
  refine l_eff (e_callV cal_83 (aC (et g0 rfl) aN) (fromBytes_spec a _)) (fun v10 w10 h10 => ?_)
  obtain ⟨rfl, u10⟩ := h10
  replace k2 := k2.up u10
  replace k3 := k3.up u10
  replace k5 := k5.up u10
  replace U := U.tr u10
  refine l_effN (e_store sz_65 (et (gS rfl (gS rfl (gS rfl g0))) rfl) (cellsV (et g0 rfl) rfl) (by first | (simp only [Value.cells, hV, aV, bV, wV, wL, List.size_toArray, length_bL, length_uL, length_be, size_spl, List.length_cons, List.length_nil, List.length_replicate, Nat.zero_add, Nat.reduceAdd, Nat.reduceLeDiff, Nat.le_refl]; done) | rfl) (by first | exact one_bL _ | exact one_uL _ | (intro v hv; simp at hv; subst hv; rfl)) k3 (by first | (simp only [Value.cells, hV, aV, bV, wV, wL, List.size_toArray, length_bL, length_uL, length_be, size_spl, List.length_cons, List.length_nil, List.length_replicate, Nat.zero_add, Nat.reduceAdd, Nat.reduceLeDiff, Nat.le_refl]; done) | exact Nat.le_of_ble_eq_true rfl | simp | omega)) (fun v11 w11 h11 => ?_)
  obtain ⟨rfl, x11⟩ := h11
  replace k2 := k2.ch x11.ch (by omega)
  replace k5 := k5.ch x11.ch (by omega)
  replace k3 := x11.blk.full (by first | (simp only [Value.cells, hV, aV, bV, wV, wL, List.size_toArray, length_bL, length_uL, length_be, size_spl, List.length_cons, List.length_nil, List.length_replicate, Nat.zero_add, Nat.reduceAdd, Nat.reduceLeDiff, Nat.le_refl]; done) | rfl)
  replace U := U.st x11 f3
  refine l_nil ?_
  refine hK9 _ _ ?_
  refine fg1 2 (gS rfl (gS rfl (gS rfl g0))) (fun g => ?_)
  refine c_ret ?_
  refine ret1 rfl (res_blk agg_65 sz_65 (et g0 rfl) (by first | (simp only [Value.cells, hV, aV, bV, wV, wL, List.size_toArray, length_bL, length_uL, length_be, size_spl, List.length_cons, List.length_nil, List.length_replicate, Nat.zero_add, Nat.reduceAdd, Nat.reduceLeDiff, Nat.le_refl]; done) | rfl) k3) ?_
  exact ⟨rfl, U⟩
theorem mach_addrOf (n : Nat) (w : World) (hn : n < W256) :
    Ret 293 [wV n] w (fun v w' => v = aV (n % A160) ∧ Up w w') := by
  refine enter (n := 9) Hvaa.func293 rfl rfl (Nat.le_of_ble_eq_true rfl) ?_
  have U := Up.refl w
  refine c_seq (fun K1 hK1 => ?_)
  refine c_region ?_
  refine l_eff (e_boxV (et g0 rfl)) (fun v2 w2 h2 => ?_)
  obtain ⟨b2, rfl, n2⟩ := h2
  have f2 : w.heap.size ≤ b2 := Nat.le_trans U.size n2.fresh
  replace U := U.tr n2.up
  have k2 := n2.blk
  refine l_eff (e_alloc zr_25) (fun v3 w3 h3 => ?_)
  obtain ⟨b3, rfl, n3⟩ := h3
  have d2_3 : b2 < b3 := Nat.lt_of_lt_of_le k2.lt n3.fresh
  have f3 : w.heap.size ≤ b3 := Nat.le_trans U.size n3.fresh
  replace k2 := k2.up n3.up
  replace U := U.tr n3.up
  have k3 := n3.blk
  refine l_nil ?_
  refine hK1 _ _ ?_
  refine fg2 1 2 (gS rfl g0) g0 (fun g => ?_)
  refine c_seq (fun K4 hK4 => ?_)
  refine c_region ?_
  refine l_step (y_loadB agg_65 sz_65 (et (gS rfl g0) rfl) (by first | (simp only [Value.cells, hV, aV, bV, wV, wL, List.size_toArray, length_bL, length_uL, length_be, size_spl, List.length_cons, List.length_nil, List.length_replicate, Nat.zero_add, Nat.reduceAdd, Nat.reduceLeDiff, Nat.le_refl]; done) | rfl) (at1B k2)) ?_
  refine l_eff (e_callV cal_76 (aC (et g0 rfl) aN) (wBE32_spec n _)) (fun v5 w5 h5 => ?_)
  obtain ⟨rfl, u5⟩ := h5
  replace k2 := k2.up u5
  replace k3 := k3.up u5
  replace U := U.tr u5
  refine l_eff (e_alloc zr_27) (fun v6 w6 h6 => ?_)
  obtain ⟨b6, rfl, n6⟩ := h6
  have d2_6 : b2 < b6 := Nat.lt_of_lt_of_le k2.lt n6.fresh
  have d3_6 : b3 < b6 := Nat.lt_of_lt_of_le k3.lt n6.fresh
  have f6 : w.heap.size ≤ b6 := Nat.le_trans U.size n6.fresh
  replace k2 := k2.up n6.up
  replace k3 := k3.up n6.up
  replace U := U.tr n6.up
  have k6 := n6.blk
  refine l_effN (e_store sz_27 (et g0 rfl) (cellsV (et (gS rfl g0) rfl) rfl) (by rw [length_bL, length_be]) (by exact one_bL _) k6 (by exact Nat.le_of_ble_eq_true rfl)) (fun v7 w7 h7 => ?_)
  obtain ⟨rfl, x7⟩ := h7
  replace k2 := k2.ch x7.ch (by omega)
  replace k3 := k3.ch x7.ch (by omega)
  replace k6 := x7.blk.full (by rw [length_bL, length_be]; rfl)
  replace U := U.st x7 f6
  replace k6 : Blk w7 b6 (bL (be 32 n)).toArray := k6
  refine l_nil ?_
  refine hK4 _ _ ?_
  refine fg2 2 3 (gS rfl (gS rfl (gS rfl g0))) g0 (fun g => ?_)
  refine c_seq (fun K8 hK8 => ?_)
  refine c_region ?_
  refine l_step (y_slA110 Hvaa.underlying27 sz_5 (et g0 rfl) rfl rfl ?_ ?_ ?_ ?_ ?_) ?_
  decide
  decide
  decide
  decide
  decide
  refine l_step (y_s2a Hvaa.underlying25 (et g0 rfl) ?_) ?_
  decide
  refine l_step (y_loadR agg_25 sz_25 (et g0 rfl) (by rw [length_bL, length_be]) (at1R (addr_mid k6))) ?_
  refine l_effN (e_store sz_25 (et (gS rfl (gS rfl (gS rfl (gS rfl g0)))) rfl) (cellsV (et g0 rfl) rfl) (by rw [length_bL, length_be]) (by exact one_bL _) k3 (by exact Nat.le_of_ble_eq_true rfl)) (fun v9 w9 h9 => ?_)
  obtain ⟨rfl, x9⟩ := h9
  replace k2 := k2.ch x9.ch (by omega)
  replace k6 := k6.ch x9.ch (by omega)
  replace k3 := x9.blk.full (by rw [length_bL, length_be]; rfl)
  replace U := U.st x9 f3
  refine l_nil ?_
  refine hK8 _ _ ?_
  refine fg1 2 (gS rfl (gS rfl (gS rfl (gS rfl g0)))) (fun g => ?_)
  refine c_ret ?_
  refine ret1 rfl (res_blk agg_25 sz_25 (et g0 rfl) (by rw [List.size_toArray, length_bL, length_be]) k3) ?_
  exact ⟨rfl, U⟩
def reachN (off n : Nat) : Nat := if n = 0 then 0 else if off + n ≤ 717280 then wordsN (off + n) else 0
def reachB (off n : Nat) : Bool := decide (n = 0 ∨ off + n ≤ 717280)
theorem mach_reach (off n : Nat) (w : World) (ha : off < W256) (hb : n < W256) :
    Ret 361 [wV off, wV n] w (fun v w' => v = .tuple #[.int .u64 (reachN off n : Nat), .bool (reachB off n)] ∧ Up w w') := by
  refine enter (n := 42) Hvaa.func361 rfl rfl (Nat.le_of_ble_eq_true rfl) ?_
  have U := Up.refl w
  refine c_seq (fun K1 hK1 => ?_)
  refine c_region ?_
  refine l_eff (e_boxV (et g0 rfl)) (fun v2 w2 h2 => ?_)
  obtain ⟨b2, rfl, n2⟩ := h2
  have f2 : w.heap.size ≤ b2 := Nat.le_trans U.size n2.fresh
  replace U := U.tr n2.up
  have k2 := n2.blk
  refine l_eff (e_boxV (et (gS rfl (gS rfl g0)) rfl)) (fun v3 w3 h3 => ?_)
  obtain ⟨b3, rfl, n3⟩ := h3
  have d2_3 : b2 < b3 := Nat.lt_of_lt_of_le k2.lt n3.fresh
  have f3 : w.heap.size ≤ b3 := Nat.le_trans U.size n3.fresh
  replace k2 := k2.up n3.up
  replace U := U.tr n3.up
  have k3 := n3.blk
  refine l_step y_assignC ?_
  refine l_step y_assignC ?_
  refine l_nil ?_
  refine hK1 _ _ ?_
  refine fg2 2 3 (gS rfl (gS rfl (gS rfl g0))) (gS rfl (gS rfl g0)) (fun g => ?_)
  refine c_seq (fun K4 hK4 => ?_)
  refine c_seq (fun K5 hK5 => ?_)
  refine c_region ?_
  refine l_step (y_loadB agg_65 sz_65 (et g0 rfl) (by first | (simp only [Value.cells, hV, aV, bV, wV, wL, List.size_toArray, length_bL, length_uL, length_be, size_spl, List.length_cons, List.length_nil, List.length_replicate, Nat.zero_add, Nat.reduceAdd, Nat.reduceLeDiff, Nat.le_refl]; done) | rfl) (at1B k3)) ?_
  refine l_eff (e_callV cal_78 (aC (et g0 rfl) aN) (isZero_spec n _ hb)) (fun v6 w6 h6 => ?_)
  obtain ⟨rfl, u6⟩ := h6
  replace k2 := k2.up u6
  replace k3 := k3.up u6
  replace U := U.tr u6
  refine l_nil ?_
  refine hK5 _ _ ?_
  refine fg3 2 3 11 (gS rfl (gS rfl (gS rfl g0))) (gS rfl (gS rfl g0)) g0 (fun g => ?_)
  refine c_cond (et g0 rfl) (fun cB1 => ?_) (fun cB1 => ?_)
  · skip
    
    have hz : n = 0 := of_decide_eq_true cB1
    refine c_seq (fun K8 hK8 => ?_)
    refine c_region ?_
    refine l_step y_assignC ?_
    refine l_step y_assignC ?_
    refine l_nil ?_
    refine hK8 _ _ ?_
    refine fg2 4 5 (gS rfl g0) g0 (fun g => ?_)
    refine c_ret ?_
    refine ret2 rfl (res_tmp (et (gS rfl g0) rfl)) (res_tmp (et g0 rfl)) ?_
    exact ⟨by rw [reachN, reachB, if_pos hz, decide_eq_true (.inl hz)]; rfl, U⟩
  · skip
    
    have hz : n ≠ 0 := of_decide_eq_false cB1
    refine c_skip ?_
    refine hK4 _ _ ?_
    refine fg2 2 3 (gS rfl (gS rfl g0)) (gS rfl g0) (fun g => ?_)
    refine c_seq (fun K9 hK9 => ?_)
    refine c_region ?_
    refine l_step (y_loadB agg_65 sz_65 (et g0 rfl) (by first | (simp only [Value.cells, hV, aV, bV, wV, wL, List.size_toArray, length_bL, length_uL, length_be, size_spl, List.length_cons, List.length_nil, List.length_replicate, Nat.zero_add, Nat.reduceAdd, Nat.reduceLeDiff, Nat.le_refl]; done) | rfl) (at1B k3)) ?_
    refine l_eff (e_callV cal_300 (aC (et g0 rfl) aN) (wU64_lo n _ hb)) (fun v10 w10 h10 => ?_)
    obtain ⟨rfl, u10⟩ := h10
    replace k2 := k2.up u10
    replace k3 := k3.up u10
    replace U := U.tr u10
    refine l_step (y_moveV (et g0 rfl)) ?_
    refine l_step (y_ext (et g0 rfl) rfl) ?_
    refine l_step (y_ext (et (gS rfl g0) rfl) rfl) ?_
    refine l_step (y_assignV (et (gS rfl g0) rfl)) ?_
    refine l_step (y_assignV (et (gS rfl g0) rfl)) ?_
    refine l_nil ?_
    refine hK9 _ _ ?_
    refine fg3 2 6 7 (gS rfl (gS rfl (gS rfl (gS rfl (gS rfl (gS rfl (gS rfl (gS rfl g0)))))))) (gS rfl g0) g0 (fun g => ?_)
    refine c_seq (fun K11 hK11 => ?_)
    refine c_region ?_
    refine l_step (y_loadB agg_65 sz_65 (et (gS rfl (gS rfl g0)) rfl) (by first | (simp only [Value.cells, hV, aV, bV, wV, wL, List.size_toArray, length_bL, length_uL, length_be, size_spl, List.length_cons, List.length_nil, List.length_replicate, Nat.zero_add, Nat.reduceAdd, Nat.reduceLeDiff, Nat.le_refl]; done) | rfl) (at1B k2)) ?_
    refine l_eff (e_callV cal_300 (aC (et g0 rfl) aN) (wU64_lo off _ ha)) (fun v12 w12 h12 => ?_)
    obtain ⟨rfl, u12⟩ := h12
    replace k2 := k2.up u12
    replace k3 := k3.up u12
    replace U := U.tr u12
    refine l_step (y_moveV (et g0 rfl)) ?_
    refine l_step (y_ext (et g0 rfl) rfl) ?_
    refine l_step (y_ext (et (gS rfl g0) rfl) rfl) ?_
    refine l_step (y_assignV (et (gS rfl g0) rfl)) ?_
    refine l_step (y_assignV (et (gS rfl g0) rfl)) ?_
    refine l_nil ?_
    refine hK11 _ _ ?_
    refine fg4 6 7 8 9 (gS rfl (gS rfl (gS rfl (gS rfl (gS rfl (gS rfl (gS rfl (gS rfl g0)))))))) (gS rfl (gS rfl (gS rfl (gS rfl (gS rfl (gS rfl (gS rfl g0))))))) (gS rfl g0) g0 (fun g => ?_)
    refine c_seq (fun K13 hK13 => ?_)
    refine c_seq (fun K14 hK14 => ?_)
    refine c_region ?_
    refine l_step (y_moveV (et (gS rfl (gS rfl g0)) rfl)) ?_
    refine l_step (y_not (et g0 rfl)) ?_
    refine l_step (y_moveV (et g0 rfl)) ?_
    refine gsplitL (i := 24) g0 (fun q15 => ?_) (fun q15 => ?_)
    · skip
      have c1 : ¬ n < 18446744073709551616 := by simpa using q15
      refine l_gskip (j := 2) (t := 24) (by exact rfl) (by exact rfl) (et g0 rfl) (by decide) (by decide) ?_
      refine l_gskip (j := 2) (t := 24) (by exact rfl) (by exact rfl) (et (gS rfl g0) rfl) (by decide) (by decide) ?_
      refine l_step (y_pickT (et (gS rfl (gS rfl g0)) rfl) rfl) ?_
      refine l_step (y_moveV (et g0 rfl)) ?_
      refine l_gskip (j := 6) (t := 28) (by exact rfl) (by exact rfl) (et g0 rfl) (by decide) (by decide) ?_
      refine l_gskip (j := 6) (t := 28) (by exact rfl) (by exact rfl) (et (gS rfl g0) rfl) (by decide) (by decide) ?_
      refine l_step (y_pickT (et (gS rfl (gS rfl g0)) rfl) rfl) ?_
      refine l_step (y_moveV (et g0 rfl)) ?_
      refine l_gskip (j := 10) (t := 32) (by exact rfl) (by exact rfl) (et g0 rfl) (by decide) (by decide) ?_
      refine l_gskip (j := 10) (t := 32) (by exact rfl) (by exact rfl) (et (gS rfl g0) rfl) (by decide) (by decide) ?_
      refine l_gskip (j := 10) (t := 32) (by exact rfl) (by exact rfl) (et (gS rfl (gS rfl g0)) rfl) (by decide) (by decide) ?_
      refine l_gskip (j := 10) (t := 32) (by exact rfl) (by exact rfl) (et (gS rfl (gS rfl (gS rfl g0))) rfl) (by decide) (by decide) ?_
      refine l_step (y_pickT (et (gS rfl (gS rfl (gS rfl (gS rfl g0)))) rfl) rfl) ?_
      refine l_nil ?_
      refine hK14 _ _ ?_
      refine fg3 6 8 37 (gS rfl (gS rfl (gS rfl (gS rfl (gS rfl (gS rfl (gS rfl (gS rfl (gS rfl (gS rfl (gS rfl (gS rfl (gS rfl (gS rfl (gS rfl (gS rfl (gS rfl (gS rfl (gS rfl (gS rfl g0)))))))))))))))))))) (gS rfl (gS rfl (gS rfl (gS rfl (gS rfl (gS rfl (gS rfl (gS rfl (gS rfl (gS rfl (gS rfl (gS rfl (gS rfl (gS rfl (gS rfl (gS rfl (gS rfl (gS rfl g0)))))))))))))))))) g0 (fun g => ?_)
      refine c_true (et g0 rfl) rfl ?_
      refine c_seq (fun K17 hK17 => ?_)
      refine c_region ?_
      refine l_step y_assignC ?_
      refine l_step y_assignC ?_
      refine l_nil ?_
      refine hK17 _ _ ?_
      refine fg2 4 5 (gS rfl g0) g0 (fun g => ?_)
      refine c_ret ?_
      refine ret2 rfl (res_tmp (et (gS rfl g0) rfl)) (res_tmp (et g0 rfl)) ?_
      exact ⟨by rw [reachN, reachB, if_neg hz, if_neg (by omega), decide_eq_false (by omega)]; rfl, U⟩
    · skip
      have c1 : n < 18446744073709551616 := by simpa using q15
      rw [lo_small c1]
      refine l_gstep (j := 2) (t := 24) (by exact rfl) (by exact rfl) (et g0 rfl) (by decide) (y_moveV (et (gS rfl (gS rfl (gS rfl (gS rfl g0)))) rfl)) ?_
      refine l_gstep (j := 2) (t := 24) (by exact rfl) (by exact rfl) (et (gS rfl g0) rfl) (by decide) (y_not (et g0 rfl)) ?_
      refine l_step (y_pickF (et (gS rfl (gS rfl g0)) rfl) (et g0 rfl)) ?_
      refine l_step (y_moveV (et g0 rfl)) ?_
      refine gsplitL (i := 28) g0 (fun q18 => ?_) (fun q18 => ?_)
      · skip
        have c2 : ¬ off < 18446744073709551616 := by simpa using q18
        refine l_gskip (j := 6) (t := 28) (by exact rfl) (by exact rfl) (et g0 rfl) (by decide) (by decide) ?_
        refine l_gskip (j := 6) (t := 28) (by exact rfl) (by exact rfl) (et (gS rfl g0) rfl) (by decide) (by decide) ?_
        refine l_step (y_pickT (et (gS rfl (gS rfl g0)) rfl) rfl) ?_
        refine l_step (y_moveV (et g0 rfl)) ?_
        refine l_gskip (j := 10) (t := 32) (by exact rfl) (by exact rfl) (et g0 rfl) (by decide) (by decide) ?_
        refine l_gskip (j := 10) (t := 32) (by exact rfl) (by exact rfl) (et (gS rfl g0) rfl) (by decide) (by decide) ?_
        refine l_gskip (j := 10) (t := 32) (by exact rfl) (by exact rfl) (et (gS rfl (gS rfl g0)) rfl) (by decide) (by decide) ?_
        refine l_gskip (j := 10) (t := 32) (by exact rfl) (by exact rfl) (et (gS rfl (gS rfl (gS rfl g0))) rfl) (by decide) (by decide) ?_
        refine l_step (y_pickT (et (gS rfl (gS rfl (gS rfl (gS rfl g0)))) rfl) rfl) ?_
        refine l_nil ?_
        refine hK14 _ _ ?_
        refine fg3 6 8 37 (gS rfl (gS rfl (gS rfl (gS rfl (gS rfl (gS rfl (gS rfl (gS rfl (gS rfl (gS rfl (gS rfl (gS rfl (gS rfl (gS rfl (gS rfl (gS rfl (gS rfl (gS rfl (gS rfl (gS rfl (gS rfl g0))))))))))))))))))))) (gS rfl (gS rfl (gS rfl (gS rfl (gS rfl (gS rfl (gS rfl (gS rfl (gS rfl (gS rfl (gS rfl (gS rfl (gS rfl (gS rfl (gS rfl (gS rfl (gS rfl (gS rfl (gS rfl g0))))))))))))))))))) g0 (fun g => ?_)
        refine c_true (et g0 rfl) rfl ?_
        refine c_seq (fun K20 hK20 => ?_)
        refine c_region ?_
        refine l_step y_assignC ?_
        refine l_step y_assignC ?_
        refine l_nil ?_
        refine hK20 _ _ ?_
        refine fg2 4 5 (gS rfl g0) g0 (fun g => ?_)
        refine c_ret ?_
        refine ret2 rfl (res_tmp (et (gS rfl g0) rfl)) (res_tmp (et g0 rfl)) ?_
        exact ⟨by rw [reachN, reachB, if_neg hz, if_neg (by omega), decide_eq_false (by omega)]; rfl, U⟩
      · skip
        have c2 : off < 18446744073709551616 := by simpa using q18
        rw [lo_small c2]
        refine l_gstep (j := 6) (t := 28) (by exact rfl) (by exact rfl) (et g0 rfl) (by decide) (y_moveV (et (gS rfl (gS rfl (gS rfl (gS rfl (gS rfl (gS rfl (gS rfl (gS rfl (gS rfl (gS rfl (gS rfl (gS rfl g0)))))))))))) rfl)) ?_
        refine l_gstep (j := 6) (t := 28) (by exact rfl) (by exact rfl) (et (gS rfl g0) rfl) (by decide) (y_gtr (et g0 rfl) rfl) ?_
        refine l_step (y_pickF (et (gS rfl (gS rfl g0)) rfl) (et g0 rfl)) ?_
        refine l_step (y_moveV (et g0 rfl)) ?_
        refine gsplitL (i := 32) g0 (fun q21 => ?_) (fun q21 => ?_)
        · skip
          have c3 : 717280 < n := by have := of_decide_eq_true q21; omega
          refine l_gskip (j := 10) (t := 32) (by exact rfl) (by exact rfl) (et g0 rfl) (by decide) (by decide) ?_
          refine l_gskip (j := 10) (t := 32) (by exact rfl) (by exact rfl) (et (gS rfl g0) rfl) (by decide) (by decide) ?_
          refine l_gskip (j := 10) (t := 32) (by exact rfl) (by exact rfl) (et (gS rfl (gS rfl g0)) rfl) (by decide) (by decide) ?_
          refine l_gskip (j := 10) (t := 32) (by exact rfl) (by exact rfl) (et (gS rfl (gS rfl (gS rfl g0))) rfl) (by decide) (by decide) ?_
          refine l_step (y_pickT (et (gS rfl (gS rfl (gS rfl (gS rfl g0)))) rfl) rfl) ?_
          refine l_nil ?_
          refine hK14 _ _ ?_
          refine fg3 6 8 37 (gS rfl (gS rfl (gS rfl (gS rfl (gS rfl (gS rfl (gS rfl (gS rfl (gS rfl (gS rfl (gS rfl (gS rfl (gS rfl (gS rfl (gS rfl (gS rfl (gS rfl (gS rfl (gS rfl (gS rfl (gS rfl (gS rfl g0)))))))))))))))))))))) (gS rfl (gS rfl (gS rfl (gS rfl (gS rfl (gS rfl (gS rfl (gS rfl (gS rfl (gS rfl (gS rfl (gS rfl (gS rfl (gS rfl (gS rfl (gS rfl (gS rfl (gS rfl (gS rfl (gS rfl g0)))))))))))))))))))) g0 (fun g => ?_)
          refine c_true (et g0 rfl) rfl ?_
          refine c_seq (fun K23 hK23 => ?_)
          refine c_region ?_
          refine l_step y_assignC ?_
          refine l_step y_assignC ?_
          refine l_nil ?_
          refine hK23 _ _ ?_
          refine fg2 4 5 (gS rfl g0) g0 (fun g => ?_)
          refine c_ret ?_
          refine ret2 rfl (res_tmp (et (gS rfl g0) rfl)) (res_tmp (et g0 rfl)) ?_
          exact ⟨by rw [reachN, reachB, if_neg hz, if_neg (by omega), decide_eq_false (by omega)]; rfl, U⟩
        · skip
          have c3 : n ≤ 717280 := by have := of_decide_eq_false q21; omega
          refine l_gstep (j := 10) (t := 32) (by exact rfl) (by exact rfl) (et g0 rfl) (by decide) (y_moveV (et (gS rfl (gS rfl (gS rfl (gS rfl (gS rfl (gS rfl (gS rfl (gS rfl (gS rfl (gS rfl (gS rfl (gS rfl (gS rfl (gS rfl (gS rfl g0))))))))))))))) rfl)) ?_
          refine l_gstep (j := 10) (t := 32) (by exact rfl) (by exact rfl) (et (gS rfl g0) rfl) (by decide) (y_moveV (et (gS rfl (gS rfl (gS rfl (gS rfl (gS rfl (gS rfl (gS rfl (gS rfl (gS rfl (gS rfl (gS rfl (gS rfl (gS rfl (gS rfl (gS rfl (gS rfl (gS rfl (gS rfl g0)))))))))))))))))) rfl)) ?_
          refine l_gstep (j := 10) (t := 32) (by exact rfl) (by exact rfl) (et (gS rfl (gS rfl g0)) rfl) (by decide) (y_sub rfl (et g0 rfl) (wrapU_subN (a := 717280) uk64 ?_ ?_)) ?_
          omega
          omega
          refine l_gstep (j := 10) (t := 32) (by exact rfl) (by exact rfl) (et (gS rfl (gS rfl (gS rfl g0))) rfl) (by decide) (y_gtr (et (gS rfl (gS rfl g0)) rfl) (et g0 rfl)) ?_
          refine l_step (y_pickF (et (gS rfl (gS rfl (gS rfl (gS rfl g0)))) rfl) (et g0 rfl)) ?_
          refine l_nil ?_
          refine hK14 _ _ ?_
          refine fg3 6 8 37 (gS rfl (gS rfl (gS rfl (gS rfl (gS rfl (gS rfl (gS rfl (gS rfl (gS rfl (gS rfl (gS rfl (gS rfl (gS rfl (gS rfl (gS rfl (gS rfl (gS rfl (gS rfl (gS rfl (gS rfl (gS rfl (gS rfl g0)))))))))))))))))))))) (gS rfl (gS rfl (gS rfl (gS rfl (gS rfl (gS rfl (gS rfl (gS rfl (gS rfl (gS rfl (gS rfl (gS rfl (gS rfl (gS rfl (gS rfl (gS rfl (gS rfl (gS rfl (gS rfl (gS rfl g0)))))))))))))))))))) g0 (fun g => ?_)
          refine c_cond (et g0 rfl) (fun cB2 => ?_) (fun cB2 => ?_)
          · skip
            
            have c4 : 717280 < off + n := by have := of_decide_eq_true cB2; omega
            refine c_seq (fun K25 hK25 => ?_)
            refine c_region ?_
            refine l_step y_assignC ?_
            refine l_step y_assignC ?_
            refine l_nil ?_
            refine hK25 _ _ ?_
            refine fg2 4 5 (gS rfl g0) g0 (fun g => ?_)
            refine c_ret ?_
            refine ret2 rfl (res_tmp (et (gS rfl g0) rfl)) (res_tmp (et g0 rfl)) ?_
            exact ⟨by rw [reachN, reachB, if_neg hz, if_neg (by omega), decide_eq_false (by omega)]; rfl, U⟩
          · skip
            
            have c4 : off + n ≤ 717280 := by have := of_decide_eq_false cB2; omega
            refine c_skip ?_
            refine hK13 _ _ ?_
            refine fg2 6 8 (gS rfl (gS rfl g0)) (gS rfl g0) (fun g => ?_)
            refine c_seq (fun K26 hK26 => ?_)
            refine c_region ?_
            refine l_step (y_moveV (et g0 rfl)) ?_
            refine l_step (y_moveV (et (gS rfl (gS rfl g0)) rfl)) ?_
            refine l_step (y_add (et (gS rfl g0) rfl) (et g0 rfl) (wrapU_addN uk64 ?_)) ?_
            omega
            refine l_eff (e_callV cal_167 (aC (et g0 rfl) aN) (words_lo _ _ (by omega))) (fun v27 w27 h27 => ?_)
            obtain ⟨rfl, u27⟩ := h27
            replace k2 := k2.up u27
            replace k3 := k3.up u27
            replace U := U.tr u27
            refine l_step (y_assignV (et g0 rfl)) ?_
            refine l_step y_assignC ?_
            refine l_nil ?_
            refine hK26 _ _ ?_
            refine fg2 4 5 (gS rfl g0) g0 (fun g => ?_)
            refine c_ret ?_
            refine ret2 rfl (res_tmp (et (gS rfl g0) rfl)) (res_tmp (et g0 rfl)) ?_
            exact ⟨by rw [reachN, reachB, if_neg hz, if_pos c4, decide_eq_true (.inr c4)], U⟩
theorem mach_reach2 (a b c d : Nat) (w : World) (h1 : a < W256) (h2 : b < W256) (h3 : c < W256) (h4 : d < W256) :
    Ret 362 [wV a, wV b, wV c, wV d] w (fun v w' => v = .tuple #[.int .u64 (max (reachN a b) (reachN c d) : Nat), .bool (reachB a b && reachB c d)] ∧ Up w w') := by
  refine enter (n := 33) Hvaa.func362 rfl rfl (Nat.le_of_ble_eq_true rfl) ?_
  have U := Up.refl w
  refine c_seq (fun K1 hK1 => ?_)
  refine c_region ?_
  refine l_eff (e_boxV (et g0 rfl)) (fun v2 w2 h2 => ?_)
  obtain ⟨b2, rfl, n2⟩ := h2
  have f2 : w.heap.size ≤ b2 := Nat.le_trans U.size n2.fresh
  replace U := U.tr n2.up
  have k2 := n2.blk
  refine l_eff (e_boxV (et (gS rfl (gS rfl g0)) rfl)) (fun v3 w3 h3 => ?_)
  obtain ⟨b3, rfl, n3⟩ := h3
  have d2_3 : b2 < b3 := Nat.lt_of_lt_of_le k2.lt n3.fresh
  have f3 : w.heap.size ≤ b3 := Nat.le_trans U.size n3.fresh
  replace k2 := k2.up n3.up
  replace U := U.tr n3.up
  have k3 := n3.blk
  refine l_eff (e_boxV (et (gS rfl (gS rfl (gS rfl (gS rfl g0)))) rfl)) (fun v4 w4 h4 => ?_)
  obtain ⟨b4, rfl, n4⟩ := h4
  have d2_4 : b2 < b4 := Nat.lt_of_lt_of_le k2.lt n4.fresh
  have d3_4 : b3 < b4 := Nat.lt_of_lt_of_le k3.lt n4.fresh
  have f4 : w.heap.size ≤ b4 := Nat.le_trans U.size n4.fresh
  replace k2 := k2.up n4.up
  replace k3 := k3.up n4.up
  replace U := U.tr n4.up
  have k4 := n4.blk
  refine l_eff (e_boxV (et (gS rfl (gS rfl (gS rfl (gS rfl (gS rfl (gS rfl g0)))))) rfl)) (fun v5 w5 h5 => ?_)
  obtain ⟨b5, rfl, n5⟩ := h5
  have d2_5 : b2 < b5 := Nat.lt_of_lt_of_le k2.lt n5.fresh
  have d3_5 : b3 < b5 := Nat.lt_of_lt_of_le k3.lt n5.fresh
  have d4_5 : b4 < b5 := Nat.lt_of_lt_of_le k4.lt n5.fresh
  have f5 : w.heap.size ≤ b5 := Nat.le_trans U.size n5.fresh
  replace k2 := k2.up n5.up
  replace k3 := k3.up n5.up
  replace k4 := k4.up n5.up
  replace U := U.tr n5.up
  have k5 := n5.blk
  refine l_step y_assignC ?_
  refine l_step y_assignC ?_
  refine l_nil ?_
  refine hK1 _ _ ?_
  refine fg4 4 5 6 7 (gS rfl (gS rfl (gS rfl (gS rfl (gS rfl g0))))) (gS rfl (gS rfl (gS rfl (gS rfl g0)))) (gS rfl (gS rfl (gS rfl g0))) (gS rfl (gS rfl g0)) (fun g => ?_)
  refine c_seq (fun K6 hK6 => ?_)
  refine c_region ?_
  refine l_step (y_loadB agg_65 sz_65 (et (gS rfl (gS rfl (gS rfl g0))) rfl) (by first | (simp only [Value.cells, hV, aV, bV, wV, wL, List.size_toArray, length_bL, length_uL, length_be, size_spl, List.length_cons, List.length_nil, List.length_replicate, Nat.zero_add, Nat.reduceAdd, Nat.reduceLeDiff, Nat.le_refl]; done) | rfl) (at1B k2)) ?_
  refine l_step (y_loadB agg_65 sz_65 (et (gS rfl (gS rfl (gS rfl g0))) rfl) (by first | (simp only [Value.cells, hV, aV, bV, wV, wL, List.size_toArray, length_bL, length_uL, length_be, size_spl, List.length_cons, List.length_nil, List.length_replicate, Nat.zero_add, Nat.reduceAdd, Nat.reduceLeDiff, Nat.le_refl]; done) | rfl) (at1B k3)) ?_
  refine l_eff (e_callV cal_361 (aC (et (gS rfl g0) rfl) (aC (et g0 rfl) aN)) (mach_reach _ _ _ h1 h2)) (fun v7 w7 h7 => ?_)
  obtain ⟨rfl, u7⟩ := h7
  replace k2 := k2.up u7
  replace k3 := k3.up u7
  replace k4 := k4.up u7
  replace k5 := k5.up u7
  replace U := U.tr u7
  refine l_step (y_moveV (et g0 rfl)) ?_
  refine l_step (y_ext (et g0 rfl) rfl) ?_
  refine l_step (y_ext (et (gS rfl g0) rfl) rfl) ?_
  refine l_step (y_assignV (et (gS rfl g0) rfl)) ?_
  refine l_step (y_assignV (et (gS rfl g0) rfl)) ?_
  refine l_nil ?_
  refine hK6 _ _ ?_
  refine fg4 6 7 10 11 (gS rfl (gS rfl (gS rfl (gS rfl (gS rfl (gS rfl (gS rfl (gS rfl (gS rfl g0))))))))) (gS rfl (gS rfl (gS rfl (gS rfl (gS rfl (gS rfl (gS rfl (gS rfl g0)))))))) (gS rfl g0) g0 (fun g => ?_)
  refine c_seq (fun K8 hK8 => ?_)
  refine c_region ?_
  refine l_step (y_loadB agg_65 sz_65 (et (gS rfl (gS rfl (gS rfl g0))) rfl) (by first | (simp only [Value.cells, hV, aV, bV, wV, wL, List.size_toArray, length_bL, length_uL, length_be, size_spl, List.length_cons, List.length_nil, List.length_replicate, Nat.zero_add, Nat.reduceAdd, Nat.reduceLeDiff, Nat.le_refl]; done) | rfl) (at1B k4)) ?_
  refine l_step (y_loadB agg_65 sz_65 (et (gS rfl (gS rfl (gS rfl g0))) rfl) (by first | (simp only [Value.cells, hV, aV, bV, wV, wL, List.size_toArray, length_bL, length_uL, length_be, size_spl, List.length_cons, List.length_nil, List.length_replicate, Nat.zero_add, Nat.reduceAdd, Nat.reduceLeDiff, Nat.le_refl]; done) | rfl) (at1B k5)) ?_
  refine l_eff (e_callV cal_361 (aC (et (gS rfl g0) rfl) (aC (et g0 rfl) aN)) (mach_reach _ _ _ h3 h4)) (fun v9 w9 h9 => ?_)
  obtain ⟨rfl, u9⟩ := h9
  replace k2 := k2.up u9
  replace k3 := k3.up u9
  replace k4 := k4.up u9
  replace k5 := k5.up u9
  replace U := U.tr u9
  refine l_step (y_moveV (et g0 rfl)) ?_
  refine l_step (y_ext (et g0 rfl) rfl) ?_
  refine l_step (y_ext (et (gS rfl g0) rfl) rfl) ?_
  refine l_step (y_assignV (et (gS rfl g0) rfl)) ?_
  refine l_step (y_assignV (et (gS rfl g0) rfl)) ?_
  refine l_nil ?_
  refine hK8 _ _ ?_
  refine fg4 10 11 12 13 (gS rfl (gS rfl (gS rfl (gS rfl (gS rfl (gS rfl (gS rfl (gS rfl (gS rfl g0))))))))) (gS rfl (gS rfl (gS rfl (gS rfl (gS rfl (gS rfl (gS rfl (gS rfl g0)))))))) (gS rfl g0) g0 (fun g => ?_)
  refine c_seq (fun K10 hK10 => ?_)
  refine c_region ?_
  refine l_step (y_moveV (et (gS rfl (gS rfl (gS rfl g0))) rfl)) ?_
  refine l_step (y_moveV (et (gS rfl (gS rfl g0)) rfl)) ?_
  refine l_step (y_maxN (et (gS rfl g0) rfl) (et g0 rfl)) ?_
  refine l_step (y_moveV (et (gS rfl (gS rfl (gS rfl (gS rfl (gS rfl g0))))) rfl)) ?_
  refine l_step (y_moveV (et g0 rfl)) ?_
  refine l_gpure (j := 4) (t := 30) (by exact rfl) (by exact rfl) (et g0 rfl) rfl (fun hc => (y_moveV (et (gS rfl (gS rfl (gS rfl (gS rfl (gS rfl g0))))) rfl))) ?_
  refine l_step (y_pickA (et (gS rfl g0) rfl) (et g0 rfl) rfl) ?_
  refine l_step (y_assignV (et (gS rfl (gS rfl (gS rfl (gS rfl g0)))) rfl)) ?_
  refine l_step (y_assignV (et (gS rfl g0) rfl)) ?_
  refine l_nil ?_
  refine hK10 _ _ ?_
  refine fg2 8 9 (gS rfl g0) g0 (fun g => ?_)
  refine c_ret ?_
  refine ret2 rfl (res_tmp (et (gS rfl g0) rfl)) (res_tmp (et g0 rfl)) ?_
  exact ⟨rfl, U⟩
def flatN (o : Nat) : Bool := decide ((o < 32 ∧ o ≠ 10) ∨ (95 ≤ o ∧ o ≤ 159) ∨ (88 ≤ o ∧ o ≤ 91))
theorem mach_flat (o : Nat) (w : World) (ho : o < 256) :
    Ret 266 [.int .u8 o] w (fun v w' => v = .bool (flatN o) ∧ Up w w') := by
  refine enter (n := 25) Hvaa.func266 rfl rfl (Nat.le_of_ble_eq_true rfl) ?_
  have U := Up.refl w
  refine c_seq (fun K1 hK1 => ?_)
  refine c_region ?_
  refine l_step y_assignC ?_
  refine l_nil ?_
  refine hK1 _ _ ?_
  refine fg1 0 (gS rfl g0) (fun g => ?_)
  refine c_seq (fun K2 hK2 => ?_)
  refine c_region ?_
  refine l_step (y_moveV (et g0 rfl)) ?_
  refine l_step (y_lss (et g0 rfl) rfl) ?_
  refine l_step (y_moveV (et g0 rfl)) ?_
  refine gsplitL (i := 5) g0 (fun q3 => ?_) (fun q3 => ?_)
  · skip
    have c5 := q3
    simp only [decide_eq_true_eq] at c5
    refine l_gstep (j := 2) (t := 5) (by exact rfl) (by exact rfl) (et g0 rfl) (by decide) (y_moveV (et (gS rfl (gS rfl (gS rfl (gS rfl g0)))) rfl)) ?_
    refine l_gstep (j := 2) (t := 5) (by exact rfl) (by exact rfl) (et (gS rfl g0) rfl) (by decide) (y_neq (et g0 rfl) rfl) ?_
    refine l_step (y_pickT (et (gS rfl (gS rfl g0)) rfl) (et g0 rfl)) ?_
    refine l_step (y_moveV (et g0 rfl)) ?_
    refine gsplitL (i := 9) g0 (fun q4 => ?_) (fun q4 => ?_)
    · skip
      have c9 := q4
      simp only [decide_eq_true_eq] at c9
      refine l_gskip (j := 6) (t := 9) (by exact rfl) (by exact rfl) (et g0 rfl) (by decide) (by decide) ?_
      refine l_gskip (j := 6) (t := 9) (by exact rfl) (by exact rfl) (et (gS rfl g0) rfl) (by decide) (by decide) ?_
      refine l_gskip (j := 6) (t := 9) (by exact rfl) (by exact rfl) (et (gS rfl (gS rfl g0)) rfl) (by decide) (by decide) ?_
      refine l_uskip (j := 9) (t := 12) (by exact rfl) (by exact rfl) (et g0 rfl) rfl ?_
      refine l_uskip (j := 9) (t := 12) (by exact rfl) (by exact rfl) (et (gS rfl g0) rfl) rfl ?_
      refine l_gskip (j := 6) (t := 9) (by exact rfl) (by exact rfl) (et (gS rfl (gS rfl (gS rfl (gS rfl (gS rfl g0))))) rfl) (by decide) (by decide) ?_
      refine l_step (y_pickT (et (gS rfl (gS rfl (gS rfl (gS rfl (gS rfl (gS rfl g0)))))) rfl) rfl) ?_
      refine l_step (y_moveV (et g0 rfl)) ?_
      refine l_gskip (j := 14) (t := 17) (by exact rfl) (by exact rfl) (et g0 rfl) (by decide) (by decide) ?_
      refine l_gskip (j := 14) (t := 17) (by exact rfl) (by exact rfl) (et (gS rfl g0) rfl) (by decide) (by decide) ?_
      refine l_gskip (j := 14) (t := 17) (by exact rfl) (by exact rfl) (et (gS rfl (gS rfl g0)) rfl) (by decide) (by decide) ?_
      refine l_uskip (j := 17) (t := 20) (by exact rfl) (by exact rfl) (et g0 rfl) rfl ?_
      refine l_uskip (j := 17) (t := 20) (by exact rfl) (by exact rfl) (et (gS rfl g0) rfl) rfl ?_
      refine l_gskip (j := 14) (t := 17) (by exact rfl) (by exact rfl) (et (gS rfl (gS rfl (gS rfl (gS rfl (gS rfl g0))))) rfl) (by decide) (by decide) ?_
      refine l_step (y_pickT (et (gS rfl (gS rfl (gS rfl (gS rfl (gS rfl (gS rfl g0)))))) rfl) rfl) ?_
      refine l_step (y_assignV (et g0 rfl)) ?_
      refine l_nil ?_
      refine hK2 _ _ ?_
      refine fg1 2 g0 (fun g => ?_)
      refine c_ret ?_
      refine ret1 rfl (res_tmp (et g0 rfl)) ?_
      refine ⟨?_, U⟩
      unfold flatN
      first | exact congrArg Value.bool (by rw [Bool.eq_iff_iff]; simp; omega) | (rw [decide_eq_true (by omega)]) | (rw [decide_eq_false (by omega)])
    · skip
      have c9 := q4
      simp only [decide_eq_false_iff_not] at c9
      refine l_gstep (j := 6) (t := 9) (by exact rfl) (by exact rfl) (et g0 rfl) (by decide) (y_moveV (et (gS rfl (gS rfl (gS rfl (gS rfl (gS rfl (gS rfl (gS rfl (gS rfl (gS rfl g0))))))))) rfl)) ?_
      refine l_gstep (j := 6) (t := 9) (by exact rfl) (by exact rfl) (et (gS rfl g0) rfl) (by decide) (y_geq (et g0 rfl) rfl) ?_
      refine l_gstep (j := 6) (t := 9) (by exact rfl) (by exact rfl) (et (gS rfl (gS rfl g0)) rfl) (by decide) (y_moveV (et g0 rfl)) ?_
      refine gsplitL (i := 12) g0 (fun q5 => ?_) (fun q5 => ?_)
      · skip
        have c12 := q5
        simp only [decide_eq_true_eq] at c12
        refine l_gstep (j := 9) (t := 12) (by exact rfl) (by exact rfl) (et g0 rfl) (by decide) (y_moveV (et (gS rfl (gS rfl (gS rfl (gS rfl (gS rfl (gS rfl (gS rfl (gS rfl (gS rfl (gS rfl (gS rfl (gS rfl (gS rfl g0))))))))))))) rfl)) ?_
        refine l_gstep (j := 9) (t := 12) (by exact rfl) (by exact rfl) (et (gS rfl g0) rfl) (by decide) (y_leq (et g0 rfl) rfl) ?_
        refine l_gstep (j := 6) (t := 9) (by exact rfl) (by exact rfl) (et (gS rfl (gS rfl (gS rfl (gS rfl (gS rfl (gS rfl g0)))))) rfl) (by decide) (y_pickT (et (gS rfl (gS rfl g0)) rfl) (et g0 rfl)) ?_
        refine l_step (y_pickF (et (gS rfl (gS rfl (gS rfl (gS rfl (gS rfl (gS rfl (gS rfl g0))))))) rfl) (et g0 rfl)) ?_
        refine l_step (y_moveV (et g0 rfl)) ?_
        refine gsplitL (i := 17) g0 (fun q6 => ?_) (fun q6 => ?_)
        · skip
          have c17 := q6
          simp only [decide_eq_true_eq] at c17
          refine l_gskip (j := 14) (t := 17) (by exact rfl) (by exact rfl) (et g0 rfl) (by decide) (by decide) ?_
          refine l_gskip (j := 14) (t := 17) (by exact rfl) (by exact rfl) (et (gS rfl g0) rfl) (by decide) (by decide) ?_
          refine l_gskip (j := 14) (t := 17) (by exact rfl) (by exact rfl) (et (gS rfl (gS rfl g0)) rfl) (by decide) (by decide) ?_
          refine l_uskip (j := 17) (t := 20) (by exact rfl) (by exact rfl) (et g0 rfl) rfl ?_
          refine l_uskip (j := 17) (t := 20) (by exact rfl) (by exact rfl) (et (gS rfl g0) rfl) rfl ?_
          refine l_gskip (j := 14) (t := 17) (by exact rfl) (by exact rfl) (et (gS rfl (gS rfl (gS rfl (gS rfl (gS rfl g0))))) rfl) (by decide) (by decide) ?_
          refine l_step (y_pickT (et (gS rfl (gS rfl (gS rfl (gS rfl (gS rfl (gS rfl g0)))))) rfl) rfl) ?_
          refine l_step (y_assignV (et g0 rfl)) ?_
          refine l_nil ?_
          refine hK2 _ _ ?_
          refine fg1 2 g0 (fun g => ?_)
          refine c_ret ?_
          refine ret1 rfl (res_tmp (et g0 rfl)) ?_
          refine ⟨?_, U⟩
          unfold flatN
          first | exact congrArg Value.bool (by rw [Bool.eq_iff_iff]; simp; omega) | (rw [decide_eq_true (by omega)]) | (rw [decide_eq_false (by omega)])
        · skip
          have c17 := q6
          simp only [decide_eq_false_iff_not] at c17
          refine l_gstep (j := 14) (t := 17) (by exact rfl) (by exact rfl) (et g0 rfl) (by decide) (y_moveV (et (gS rfl (gS rfl (gS rfl (gS rfl (gS rfl (gS rfl (gS rfl (gS rfl (gS rfl (gS rfl (gS rfl (gS rfl (gS rfl (gS rfl (gS rfl (gS rfl (gS rfl (gS rfl (gS rfl g0))))))))))))))))))) rfl)) ?_
          refine l_gstep (j := 14) (t := 17) (by exact rfl) (by exact rfl) (et (gS rfl g0) rfl) (by decide) (y_geq (et g0 rfl) rfl) ?_
          refine l_gstep (j := 14) (t := 17) (by exact rfl) (by exact rfl) (et (gS rfl (gS rfl g0)) rfl) (by decide) (y_moveV (et g0 rfl)) ?_
          refine gsplitL (i := 20) g0 (fun q7 => ?_) (fun q7 => ?_)
          · skip
            have c20 := q7
            simp only [decide_eq_true_eq] at c20
            refine l_gstep (j := 17) (t := 20) (by exact rfl) (by exact rfl) (et g0 rfl) (by decide) (y_moveV (et (gS rfl (gS rfl (gS rfl (gS rfl (gS rfl (gS rfl (gS rfl (gS rfl (gS rfl (gS rfl (gS rfl (gS rfl (gS rfl (gS rfl (gS rfl (gS rfl (gS rfl (gS rfl (gS rfl (gS rfl (gS rfl (gS rfl (gS rfl g0))))))))))))))))))))))) rfl)) ?_
            refine l_gstep (j := 17) (t := 20) (by exact rfl) (by exact rfl) (et (gS rfl g0) rfl) (by decide) (y_leq (et g0 rfl) rfl) ?_
            refine l_gstep (j := 14) (t := 17) (by exact rfl) (by exact rfl) (et (gS rfl (gS rfl (gS rfl (gS rfl (gS rfl (gS rfl g0)))))) rfl) (by decide) (y_pickT (et (gS rfl (gS rfl g0)) rfl) (et g0 rfl)) ?_
            refine l_step (y_pickF (et (gS rfl (gS rfl (gS rfl (gS rfl (gS rfl (gS rfl (gS rfl g0))))))) rfl) (et g0 rfl)) ?_
            refine l_step (y_assignV (et g0 rfl)) ?_
            refine l_nil ?_
            refine hK2 _ _ ?_
            refine fg1 2 g0 (fun g => ?_)
            refine c_ret ?_
            refine ret1 rfl (res_tmp (et g0 rfl)) ?_
            refine ⟨?_, U⟩
            unfold flatN
            first | exact congrArg Value.bool (by rw [Bool.eq_iff_iff]; simp; omega) | (rw [decide_eq_true (by omega)]) | (rw [decide_eq_false (by omega)])
          · skip
            have c20 := q7
            simp only [decide_eq_false_iff_not] at c20
            refine l_gskip (j := 17) (t := 20) (by exact rfl) (by exact rfl) (et g0 rfl) (by decide) (by decide) ?_
            refine l_gskip (j := 17) (t := 20) (by exact rfl) (by exact rfl) (et (gS rfl g0) rfl) (by decide) (by decide) ?_
            refine l_gstep (j := 14) (t := 17) (by exact rfl) (by exact rfl) (et (gS rfl (gS rfl (gS rfl (gS rfl (gS rfl (gS rfl g0)))))) rfl) (by decide) (y_pickF (et (gS rfl (gS rfl g0)) rfl) rfl) ?_
            refine l_step (y_pickF (et (gS rfl (gS rfl (gS rfl (gS rfl (gS rfl (gS rfl (gS rfl g0))))))) rfl) (et g0 rfl)) ?_
            refine l_step (y_assignV (et g0 rfl)) ?_
            refine l_nil ?_
            refine hK2 _ _ ?_
            refine fg1 2 g0 (fun g => ?_)
            refine c_ret ?_
            refine ret1 rfl (res_tmp (et g0 rfl)) ?_
            refine ⟨?_, U⟩
            unfold flatN
            first | exact congrArg Value.bool (by rw [Bool.eq_iff_iff]; simp; omega) | (rw [decide_eq_true (by omega)]) | (rw [decide_eq_false (by omega)])
      · skip
        have c12 := q5
        simp only [decide_eq_false_iff_not] at c12
        refine l_gskip (j := 9) (t := 12) (by exact rfl) (by exact rfl) (et g0 rfl) (by decide) (by decide) ?_
        refine l_gskip (j := 9) (t := 12) (by exact rfl) (by exact rfl) (et (gS rfl g0) rfl) (by decide) (by decide) ?_
        refine l_gstep (j := 6) (t := 9) (by exact rfl) (by exact rfl) (et (gS rfl (gS rfl (gS rfl (gS rfl (gS rfl (gS rfl g0)))))) rfl) (by decide) (y_pickF (et (gS rfl (gS rfl g0)) rfl) rfl) ?_
        refine l_step (y_pickF (et (gS rfl (gS rfl (gS rfl (gS rfl (gS rfl (gS rfl (gS rfl g0))))))) rfl) (et g0 rfl)) ?_
        refine l_step (y_moveV (et g0 rfl)) ?_
        refine l_gstep (j := 14) (t := 17) (by exact rfl) (by exact rfl) (et g0 rfl) (by decide) (y_moveV (et (gS rfl (gS rfl (gS rfl (gS rfl (gS rfl (gS rfl (gS rfl (gS rfl (gS rfl (gS rfl (gS rfl (gS rfl (gS rfl (gS rfl (gS rfl (gS rfl (gS rfl (gS rfl g0)))))))))))))))))) rfl)) ?_
        refine l_gstep (j := 14) (t := 17) (by exact rfl) (by exact rfl) (et (gS rfl g0) rfl) (by decide) (y_geq (et g0 rfl) rfl) ?_
        refine l_gstep (j := 14) (t := 17) (by exact rfl) (by exact rfl) (et (gS rfl (gS rfl g0)) rfl) (by decide) (y_moveV (et g0 rfl)) ?_
        refine gsplitL (i := 20) g0 (fun q8 => ?_) (fun q8 => ?_)
        · skip
          have c20 := q8
          simp only [decide_eq_true_eq] at c20
          refine l_gstep (j := 17) (t := 20) (by exact rfl) (by exact rfl) (et g0 rfl) (by decide) (y_moveV (et (gS rfl (gS rfl (gS rfl (gS rfl (gS rfl (gS rfl (gS rfl (gS rfl (gS rfl (gS rfl (gS rfl (gS rfl (gS rfl (gS rfl (gS rfl (gS rfl (gS rfl (gS rfl (gS rfl (gS rfl (gS rfl (gS rfl g0)))))))))))))))))))))) rfl)) ?_
          refine l_gstep (j := 17) (t := 20) (by exact rfl) (by exact rfl) (et (gS rfl g0) rfl) (by decide) (y_leq (et g0 rfl) rfl) ?_
          refine l_gstep (j := 14) (t := 17) (by exact rfl) (by exact rfl) (et (gS rfl (gS rfl (gS rfl (gS rfl (gS rfl (gS rfl g0)))))) rfl) (by decide) (y_pickT (et (gS rfl (gS rfl g0)) rfl) (et g0 rfl)) ?_
          refine l_step (y_pickF (et (gS rfl (gS rfl (gS rfl (gS rfl (gS rfl (gS rfl (gS rfl g0))))))) rfl) (et g0 rfl)) ?_
          refine l_step (y_assignV (et g0 rfl)) ?_
          refine l_nil ?_
          refine hK2 _ _ ?_
          refine fg1 2 g0 (fun g => ?_)
          refine c_ret ?_
          refine ret1 rfl (res_tmp (et g0 rfl)) ?_
          refine ⟨?_, U⟩
          unfold flatN
          first | exact congrArg Value.bool (by rw [Bool.eq_iff_iff]; simp; omega) | (rw [decide_eq_true (by omega)]) | (rw [decide_eq_false (by omega)])
        · skip
          have c20 := q8
          simp only [decide_eq_false_iff_not] at c20
          refine l_gskip (j := 17) (t := 20) (by exact rfl) (by exact rfl) (et g0 rfl) (by decide) (by decide) ?_
          refine l_gskip (j := 17) (t := 20) (by exact rfl) (by exact rfl) (et (gS rfl g0) rfl) (by decide) (by decide) ?_
          refine l_gstep (j := 14) (t := 17) (by exact rfl) (by exact rfl) (et (gS rfl (gS rfl (gS rfl (gS rfl (gS rfl (gS rfl g0)))))) rfl) (by decide) (y_pickF (et (gS rfl (gS rfl g0)) rfl) rfl) ?_
          refine l_step (y_pickF (et (gS rfl (gS rfl (gS rfl (gS rfl (gS rfl (gS rfl (gS rfl g0))))))) rfl) (et g0 rfl)) ?_
          refine l_step (y_assignV (et g0 rfl)) ?_
          refine l_nil ?_
          refine hK2 _ _ ?_
          refine fg1 2 g0 (fun g => ?_)
          refine c_ret ?_
          refine ret1 rfl (res_tmp (et g0 rfl)) ?_
          refine ⟨?_, U⟩
          unfold flatN
          first | exact congrArg Value.bool (by rw [Bool.eq_iff_iff]; simp; omega) | (rw [decide_eq_true (by omega)]) | (rw [decide_eq_false (by omega)])
  · skip
    have c5 := q3
    simp only [decide_eq_false_iff_not] at c5
    refine l_gskip (j := 2) (t := 5) (by exact rfl) (by exact rfl) (et g0 rfl) (by decide) (by decide) ?_
    refine l_gskip (j := 2) (t := 5) (by exact rfl) (by exact rfl) (et (gS rfl g0) rfl) (by decide) (by decide) ?_
    refine l_step (y_pickF (et (gS rfl (gS rfl g0)) rfl) rfl) ?_
    refine l_step (y_moveV (et g0 rfl)) ?_
    refine l_gstep (j := 6) (t := 9) (by exact rfl) (by exact rfl) (et g0 rfl) (by decide) (y_moveV (et (gS rfl (gS rfl (gS rfl (gS rfl (gS rfl (gS rfl (gS rfl (gS rfl g0)))))))) rfl)) ?_
    refine l_gstep (j := 6) (t := 9) (by exact rfl) (by exact rfl) (et (gS rfl g0) rfl) (by decide) (y_geq (et g0 rfl) rfl) ?_
    refine l_gstep (j := 6) (t := 9) (by exact rfl) (by exact rfl) (et (gS rfl (gS rfl g0)) rfl) (by decide) (y_moveV (et g0 rfl)) ?_
    refine gsplitL (i := 12) g0 (fun q9 => ?_) (fun q9 => ?_)
    · skip
      have c12 := q9
      simp only [decide_eq_true_eq] at c12
      refine l_gstep (j := 9) (t := 12) (by exact rfl) (by exact rfl) (et g0 rfl) (by decide) (y_moveV (et (gS rfl (gS rfl (gS rfl (gS rfl (gS rfl (gS rfl (gS rfl (gS rfl (gS rfl (gS rfl (gS rfl (gS rfl g0)))))))))))) rfl)) ?_
      refine l_gstep (j := 9) (t := 12) (by exact rfl) (by exact rfl) (et (gS rfl g0) rfl) (by decide) (y_leq (et g0 rfl) rfl) ?_
      refine l_gstep (j := 6) (t := 9) (by exact rfl) (by exact rfl) (et (gS rfl (gS rfl (gS rfl (gS rfl (gS rfl (gS rfl g0)))))) rfl) (by decide) (y_pickT (et (gS rfl (gS rfl g0)) rfl) (et g0 rfl)) ?_
      refine l_step (y_pickF (et (gS rfl (gS rfl (gS rfl (gS rfl (gS rfl (gS rfl (gS rfl g0))))))) rfl) (et g0 rfl)) ?_
      refine l_step (y_moveV (et g0 rfl)) ?_
      refine gsplitL (i := 17) g0 (fun q10 => ?_) (fun q10 => ?_)
      · skip
        have c17 := q10
        simp only [decide_eq_true_eq] at c17
        refine l_gskip (j := 14) (t := 17) (by exact rfl) (by exact rfl) (et g0 rfl) (by decide) (by decide) ?_
        refine l_gskip (j := 14) (t := 17) (by exact rfl) (by exact rfl) (et (gS rfl g0) rfl) (by decide) (by decide) ?_
        refine l_gskip (j := 14) (t := 17) (by exact rfl) (by exact rfl) (et (gS rfl (gS rfl g0)) rfl) (by decide) (by decide) ?_
        refine l_uskip (j := 17) (t := 20) (by exact rfl) (by exact rfl) (et g0 rfl) rfl ?_
        refine l_uskip (j := 17) (t := 20) (by exact rfl) (by exact rfl) (et (gS rfl g0) rfl) rfl ?_
        refine l_gskip (j := 14) (t := 17) (by exact rfl) (by exact rfl) (et (gS rfl (gS rfl (gS rfl (gS rfl (gS rfl g0))))) rfl) (by decide) (by decide) ?_
        refine l_step (y_pickT (et (gS rfl (gS rfl (gS rfl (gS rfl (gS rfl (gS rfl g0)))))) rfl) rfl) ?_
        refine l_step (y_assignV (et g0 rfl)) ?_
        refine l_nil ?_
        refine hK2 _ _ ?_
        refine fg1 2 g0 (fun g => ?_)
        refine c_ret ?_
        refine ret1 rfl (res_tmp (et g0 rfl)) ?_
        refine ⟨?_, U⟩
        unfold flatN
        first | exact congrArg Value.bool (by rw [Bool.eq_iff_iff]; simp; omega) | (rw [decide_eq_true (by omega)]) | (rw [decide_eq_false (by omega)])
      · skip
        have c17 := q10
        simp only [decide_eq_false_iff_not] at c17
        refine l_gstep (j := 14) (t := 17) (by exact rfl) (by exact rfl) (et g0 rfl) (by decide) (y_moveV (et (gS rfl (gS rfl (gS rfl (gS rfl (gS rfl (gS rfl (gS rfl (gS rfl (gS rfl (gS rfl (gS rfl (gS rfl (gS rfl (gS rfl (gS rfl (gS rfl (gS rfl (gS rfl g0)))))))))))))))))) rfl)) ?_
        refine l_gstep (j := 14) (t := 17) (by exact rfl) (by exact rfl) (et (gS rfl g0) rfl) (by decide) (y_geq (et g0 rfl) rfl) ?_
        refine l_gstep (j := 14) (t := 17) (by exact rfl) (by exact rfl) (et (gS rfl (gS rfl g0)) rfl) (by decide) (y_moveV (et g0 rfl)) ?_
        refine gsplitL (i := 20) g0 (fun q11 => ?_) (fun q11 => ?_)
        · skip
          have c20 := q11
          simp only [decide_eq_true_eq] at c20
          refine l_gstep (j := 17) (t := 20) (by exact rfl) (by exact rfl) (et g0 rfl) (by decide) (y_moveV (et (gS rfl (gS rfl (gS rfl (gS rfl (gS rfl (gS rfl (gS rfl (gS rfl (gS rfl (gS rfl (gS rfl (gS rfl (gS rfl (gS rfl (gS rfl (gS rfl (gS rfl (gS rfl (gS rfl (gS rfl (gS rfl (gS rfl g0)))))))))))))))))))))) rfl)) ?_
          refine l_gstep (j := 17) (t := 20) (by exact rfl) (by exact rfl) (et (gS rfl g0) rfl) (by decide) (y_leq (et g0 rfl) rfl) ?_
          refine l_gstep (j := 14) (t := 17) (by exact rfl) (by exact rfl) (et (gS rfl (gS rfl (gS rfl (gS rfl (gS rfl (gS rfl g0)))))) rfl) (by decide) (y_pickT (et (gS rfl (gS rfl g0)) rfl) (et g0 rfl)) ?_
          refine l_step (y_pickF (et (gS rfl (gS rfl (gS rfl (gS rfl (gS rfl (gS rfl (gS rfl g0))))))) rfl) (et g0 rfl)) ?_
          refine l_step (y_assignV (et g0 rfl)) ?_
          refine l_nil ?_
          refine hK2 _ _ ?_
          refine fg1 2 g0 (fun g => ?_)
          refine c_ret ?_
          refine ret1 rfl (res_tmp (et g0 rfl)) ?_
          refine ⟨?_, U⟩
          unfold flatN
          first | exact congrArg Value.bool (by rw [Bool.eq_iff_iff]; simp; omega) | (rw [decide_eq_true (by omega)]) | (rw [decide_eq_false (by omega)])
        · skip
          have c20 := q11
          simp only [decide_eq_false_iff_not] at c20
          refine l_gskip (j := 17) (t := 20) (by exact rfl) (by exact rfl) (et g0 rfl) (by decide) (by decide) ?_
          refine l_gskip (j := 17) (t := 20) (by exact rfl) (by exact rfl) (et (gS rfl g0) rfl) (by decide) (by decide) ?_
          refine l_gstep (j := 14) (t := 17) (by exact rfl) (by exact rfl) (et (gS rfl (gS rfl (gS rfl (gS rfl (gS rfl (gS rfl g0)))))) rfl) (by decide) (y_pickF (et (gS rfl (gS rfl g0)) rfl) rfl) ?_
          refine l_step (y_pickF (et (gS rfl (gS rfl (gS rfl (gS rfl (gS rfl (gS rfl (gS rfl g0))))))) rfl) (et g0 rfl)) ?_
          refine l_step (y_assignV (et g0 rfl)) ?_
          refine l_nil ?_
          refine hK2 _ _ ?_
          refine fg1 2 g0 (fun g => ?_)
          refine c_ret ?_
          refine ret1 rfl (res_tmp (et g0 rfl)) ?_
          refine ⟨?_, U⟩
          unfold flatN
          first | exact congrArg Value.bool (by rw [Bool.eq_iff_iff]; simp; omega) | (rw [decide_eq_true (by omega)]) | (rw [decide_eq_false (by omega)])
    · skip
      have c12 := q9
      simp only [decide_eq_false_iff_not] at c12
      refine l_gskip (j := 9) (t := 12) (by exact rfl) (by exact rfl) (et g0 rfl) (by decide) (by decide) ?_
      refine l_gskip (j := 9) (t := 12) (by exact rfl) (by exact rfl) (et (gS rfl g0) rfl) (by decide) (by decide) ?_
      refine l_gstep (j := 6) (t := 9) (by exact rfl) (by exact rfl) (et (gS rfl (gS rfl (gS rfl (gS rfl (gS rfl (gS rfl g0)))))) rfl) (by decide) (y_pickF (et (gS rfl (gS rfl g0)) rfl) rfl) ?_
      refine l_step (y_pickF (et (gS rfl (gS rfl (gS rfl (gS rfl (gS rfl (gS rfl (gS rfl g0))))))) rfl) (et g0 rfl)) ?_
      refine l_step (y_moveV (et g0 rfl)) ?_
      refine l_gstep (j := 14) (t := 17) (by exact rfl) (by exact rfl) (et g0 rfl) (by decide) (y_moveV (et (gS rfl (gS rfl (gS rfl (gS rfl (gS rfl (gS rfl (gS rfl (gS rfl (gS rfl (gS rfl (gS rfl (gS rfl (gS rfl (gS rfl (gS rfl (gS rfl (gS rfl g0))))))))))))))))) rfl)) ?_
      refine l_gstep (j := 14) (t := 17) (by exact rfl) (by exact rfl) (et (gS rfl g0) rfl) (by decide) (y_geq (et g0 rfl) rfl) ?_
      refine l_gstep (j := 14) (t := 17) (by exact rfl) (by exact rfl) (et (gS rfl (gS rfl g0)) rfl) (by decide) (y_moveV (et g0 rfl)) ?_
      refine gsplitL (i := 20) g0 (fun q12 => ?_) (fun q12 => ?_)
      · skip
        have c20 := q12
        simp only [decide_eq_true_eq] at c20
        refine l_gstep (j := 17) (t := 20) (by exact rfl) (by exact rfl) (et g0 rfl) (by decide) (y_moveV (et (gS rfl (gS rfl (gS rfl (gS rfl (gS rfl (gS rfl (gS rfl (gS rfl (gS rfl (gS rfl (gS rfl (gS rfl (gS rfl (gS rfl (gS rfl (gS rfl (gS rfl (gS rfl (gS rfl (gS rfl (gS rfl g0))))))))))))))))))))) rfl)) ?_
        refine l_gstep (j := 17) (t := 20) (by exact rfl) (by exact rfl) (et (gS rfl g0) rfl) (by decide) (y_leq (et g0 rfl) rfl) ?_
        refine l_gstep (j := 14) (t := 17) (by exact rfl) (by exact rfl) (et (gS rfl (gS rfl (gS rfl (gS rfl (gS rfl (gS rfl g0)))))) rfl) (by decide) (y_pickT (et (gS rfl (gS rfl g0)) rfl) (et g0 rfl)) ?_
        refine l_step (y_pickF (et (gS rfl (gS rfl (gS rfl (gS rfl (gS rfl (gS rfl (gS rfl g0))))))) rfl) (et g0 rfl)) ?_
        refine l_step (y_assignV (et g0 rfl)) ?_
        refine l_nil ?_
        refine hK2 _ _ ?_
        refine fg1 2 g0 (fun g => ?_)
        refine c_ret ?_
        refine ret1 rfl (res_tmp (et g0 rfl)) ?_
        refine ⟨?_, U⟩
        unfold flatN
        first | exact congrArg Value.bool (by rw [Bool.eq_iff_iff]; simp; omega) | (rw [decide_eq_true (by omega)]) | (rw [decide_eq_false (by omega)])
      · skip
        have c20 := q12
        simp only [decide_eq_false_iff_not] at c20
        refine l_gskip (j := 17) (t := 20) (by exact rfl) (by exact rfl) (et g0 rfl) (by decide) (by decide) ?_
        refine l_gskip (j := 17) (t := 20) (by exact rfl) (by exact rfl) (et (gS rfl g0) rfl) (by decide) (by decide) ?_
        refine l_gstep (j := 14) (t := 17) (by exact rfl) (by exact rfl) (et (gS rfl (gS rfl (gS rfl (gS rfl (gS rfl (gS rfl g0)))))) rfl) (by decide) (y_pickF (et (gS rfl (gS rfl g0)) rfl) rfl) ?_
        refine l_step (y_pickF (et (gS rfl (gS rfl (gS rfl (gS rfl (gS rfl (gS rfl (gS rfl g0))))))) rfl) (et g0 rfl)) ?_
        refine l_step (y_assignV (et g0 rfl)) ?_
        refine l_nil ?_
        refine hK2 _ _ ?_
        refine fg1 2 g0 (fun g => ?_)
        refine c_ret ?_
        refine ret1 rfl (res_tmp (et g0 rfl)) ?_
        refine ⟨?_, U⟩
        unfold flatN
        first | exact congrArg Value.bool (by rw [Bool.eq_iff_iff]; simp; omega) | (rw [decide_eq_true (by omega)]) | (rw [decide_eq_false (by omega)])
end Go.Proofs.YgvaawGreat
