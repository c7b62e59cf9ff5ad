import Derived.Test.YgvaawGreatY16
set_option maxRecDepth 100000
set_option maxHeartbeats 4000000
set_option linter.unusedSimpArgs false
set_option linter.unusedVariables false
namespace Go.Proofs.YgvaawGreat
open Go
def satN (x : Nat) : Nat := min x 18446744073709551615
theorem wU64_lo (n : Nat) (w : World) (hn : n < W256) : Ret 300 [wV n] w (fun v w' => v = .tuple #[.int .u64 (lo64 n : Nat), .bool (decide (n < 18446744073709551616))] ∧ Up w w') := wU64_spec n w hn
theorem words_lo (x : Nat) (w : World) (hx : x < 18446744073709551616) : Ret 167 [.int .u64 x] w (fun v w' => v = .int .u64 (wordsN x : Nat) ∧ Up w w') := words_spec x w hx
theorem mach_plus (a b : Nat) (w : World) (ha : a < 18446744073709551616) (hb : b < 18446744073709551616) :
    Ret 371 [.int .u64 a, .int .u64 b] w (fun v w' => v = .int .u64 (satN (a + b) : Nat) ∧ Up w w') := by
  refine enter (n := 16) Hvaa.func371 rfl rfl (Nat.le_of_ble_eq_true rfl) ?_
  have U := Up.refl w
  refine c_seq (fun K1 hK1 => ?_)
  refine c_region ?_
  refine l_step y_assignC ?_
  refine l_nil ?_
  refine hK1 _ _ ?_
  refine fg2 1 0 (gS rfl (gS rfl g0)) (gS rfl g0) (fun g => ?_)
  refine c_seq (fun K2 hK2 => ?_)
  refine c_region ?_
  refine l_step (y_moveV (et g0 rfl)) ?_
  refine l_step (y_moveV (et (gS rfl (gS rfl g0)) rfl)) ?_
  refine l_eff (e_callV cal_169 (aC (et (gS rfl g0) rfl) (aC (et g0 rfl) (aC (v := .int .u64 ((0 : Nat) : Int)) rfl aN))) (add64_r a b 0 _ ha hb (by decide))) (fun v3 w3 h3 => ?_)
  obtain ⟨s, k, rfl, hs, hk, hsk, u3⟩ := h3
  replace U := U.tr u3
  refine l_step (y_moveV (et g0 rfl)) ?_
  refine l_step (y_ext (et g0 rfl) rfl) ?_
  refine l_step (y_ext (et (gS rfl g0) rfl) rfl) ?_
  refine l_step (y_assignV (et (gS rfl g0) rfl)) ?_
  refine l_step (y_assignV (et (gS rfl g0) rfl)) ?_
  refine l_nil ?_
  refine hK2 _ _ ?_
  refine fg2 5 6 (gS rfl g0) g0 (fun g => ?_)
  refine c_seq (fun K4 hK4 => ?_)
  refine c_seq (fun K5 hK5 => ?_)
  refine c_region ?_
  refine l_step (y_moveV (et g0 rfl)) ?_
  refine l_step (y_neq (et g0 rfl) rfl) ?_
  refine l_nil ?_
  refine hK5 _ _ ?_
  refine fg2 5 14 (gS rfl (gS rfl (gS rfl g0))) g0 (fun g => ?_)
  refine c_cond (et g0 rfl) (fun cB1 => ?_) (fun cB1 => ?_)
  · skip
    
    have hk1 : k ≠ 0 := by have := of_decide_eq_true cB1; omega
    refine c_seq (fun K7 hK7 => ?_)
    refine c_region ?_
    refine l_step y_assignC ?_
    refine l_nil ?_
    refine hK7 _ _ ?_
    refine fg1 4 g0 (fun g => ?_)
    refine c_ret ?_
    refine ret1 rfl (res_tmp (et g0 rfl)) ?_
    exact ⟨by rw [satN, Nat.min_eq_right (by omega)]; rfl, U⟩
  · skip
    
    have hk1 : k = 0 := by have := of_decide_eq_false cB1; omega
    refine c_skip ?_
    refine hK4 _ _ ?_
    refine fg1 5 (gS rfl g0) (fun g => ?_)
    refine c_seq (fun K8 hK8 => ?_)
    refine c_region ?_
    refine l_step (y_moveV (et g0 rfl)) ?_
    refine l_step (y_assignV (et g0 rfl)) ?_
    refine l_nil ?_
    refine hK8 _ _ ?_
    refine fg1 4 g0 (fun g => ?_)
    refine c_ret ?_
    refine ret1 rfl (res_tmp (et g0 rfl)) ?_
    exact ⟨by rw [satN, Nat.min_eq_left (by omega), show a + b = s by omega]; rfl, U⟩
theorem mach_times (a b : Nat) (w : World) (ha : a < 18446744073709551616) (hb : b < 18446744073709551616) :
    Ret 372 [.int .u64 a, .int .u64 b] w (fun v w' => v = .int .u64 (satN (a * b) : Nat) ∧ Up w w') := by
  refine enter (n := 16) Hvaa.func372 rfl rfl (Nat.le_of_ble_eq_true rfl) ?_
  have U := Up.refl w
  refine c_seq (fun K1 hK1 => ?_)
  refine c_region ?_
  refine l_step y_assignC ?_
  refine l_nil ?_
  refine hK1 _ _ ?_
  refine fg2 1 0 (gS rfl (gS rfl g0)) (gS rfl g0) (fun g => ?_)
  refine c_seq (fun K2 hK2 => ?_)
  refine c_region ?_
  refine l_step (y_moveV (et g0 rfl)) ?_
  refine l_step (y_moveV (et (gS rfl (gS rfl g0)) rfl)) ?_
  refine l_eff (e_callV cal_168 (aC (et (gS rfl g0) rfl) (aC (et g0 rfl) aN)) (mul64_r a b _ ha hb)) (fun v3 w3 h3 => ?_)
  obtain ⟨hi, lo, rfl, h1, h2, h3, u3⟩ := h3
  replace U := U.tr u3
  refine l_step (y_moveV (et g0 rfl)) ?_
  refine l_step (y_ext (et g0 rfl) rfl) ?_
  refine l_step (y_ext (et (gS rfl g0) rfl) rfl) ?_
  refine l_step (y_assignV (et (gS rfl g0) rfl)) ?_
  refine l_step (y_assignV (et (gS rfl g0) rfl)) ?_
  refine l_nil ?_
  refine hK2 _ _ ?_
  refine fg2 5 6 (gS rfl g0) g0 (fun g => ?_)
  refine c_seq (fun K4 hK4 => ?_)
  refine c_seq (fun K5 hK5 => ?_)
  refine c_region ?_
  refine l_step (y_moveV (et (gS rfl g0) rfl)) ?_
  refine l_step (y_neq (et g0 rfl) rfl) ?_
  refine l_nil ?_
  refine hK5 _ _ ?_
  refine fg2 6 14 (gS rfl (gS rfl g0)) g0 (fun g => ?_)
  refine c_cond (et g0 rfl) (fun cB1 => ?_) (fun cB1 => ?_)
  · skip
    
    have hk1 : hi ≠ 0 := by have := of_decide_eq_true cB1; omega
    refine c_seq (fun K7 hK7 => ?_)
    refine c_region ?_
    refine l_step y_assignC ?_
    refine l_nil ?_
    refine hK7 _ _ ?_
    refine fg1 4 g0 (fun g => ?_)
    refine c_ret ?_
    refine ret1 rfl (res_tmp (et g0 rfl)) ?_
    exact ⟨by rw [satN, Nat.min_eq_right (by omega)]; rfl, U⟩
  · skip
    
    have hk1 : hi = 0 := by have := of_decide_eq_false cB1; omega
    refine c_skip ?_
    refine hK4 _ _ ?_
    refine fg1 6 (gS rfl g0) (fun g => ?_)
    refine c_seq (fun K8 hK8 => ?_)
    refine c_region ?_
    refine l_step (y_moveV (et g0 rfl)) ?_
    refine l_step (y_assignV (et g0 rfl)) ?_
    refine l_nil ?_
    refine hK8 _ _ ?_
    refine fg1 4 g0 (fun g => ?_)
    refine c_ret ?_
    refine ret1 rfl (res_tmp (et g0 rfl)) ?_
    exact ⟨by rw [satN, Nat.min_eq_left (by omega), show a * b = lo by omega]; rfl, U⟩
theorem mach_memCost (n : Nat) (w : World) (hn : n < 2147483648) :
    Ret 270 [.int .u64 n] w (fun v w' => v = .int .u64 (memN n : Nat) ∧ Up w w') := by
  have hnn : n * n ≤ 2147483647 * 2147483647 := Nat.mul_le_mul (by omega) (by omega)
  refine enter (n := 27) Hvaa.func270 rfl rfl (Nat.le_of_ble_eq_true rfl) ?_
  have U := Up.refl w
  refine c_seq (fun K1 hK1 => ?_)
  refine c_region ?_
  refine l_step y_assignC ?_
  refine l_nil ?_
  refine hK1 _ _ ?_
  refine fg1 0 (gS rfl g0) (fun g => ?_)
  refine c_seq (fun K2 hK2 => ?_)
  refine c_region ?_
  refine l_step (y_moveV (et g0 rfl)) ?_
  refine l_step (y_moveV (et (gS rfl g0) rfl)) ?_
  refine l_eff (e_callV cal_168 (aC (et (gS rfl g0) rfl) (aC (et g0 rfl) aN)) (mul64_r n n _ (by omega) (by omega))) (fun v3 w3 h3 => ?_)
  obtain ⟨hi, lo, rfl, h1, h2, h3, u3⟩ := h3
  replace U := U.tr u3
  have hhi : hi = 0 := by omega
  subst hhi
  have hlo : lo = n * n := by omega
  subst hlo
  refine l_step (y_moveV (et g0 rfl)) ?_
  refine l_step (y_ext (et g0 rfl) rfl) ?_
  refine l_step (y_ext (et (gS rfl g0) rfl) rfl) ?_
  refine l_step (y_assignV (et (gS rfl g0) rfl)) ?_
  refine l_step (y_assignV (et (gS rfl g0) rfl)) ?_
  refine l_nil ?_
  refine hK2 _ _ ?_
  refine fg3 0 3 4 (gS rfl (gS rfl (gS rfl (gS rfl (gS rfl (gS rfl (gS rfl (gS rfl g0)))))))) (gS rfl g0) g0 (fun g => ?_)
  refine c_seq (fun K4 hK4 => ?_)
  refine c_region ?_
  refine l_step (y_moveV (et (gS rfl g0) rfl)) ?_
  refine l_step (y_moveV (et (gS rfl g0) rfl)) ?_
  refine l_eff (e_callV cal_370 (aC (et (gS rfl g0) rfl) (aC (et g0 rfl) (aC (v := .int .u64 ((512 : Nat) : Int)) rfl aN))) (div64_spec 0 (n * n) 512 _ h2 (by decide) (by decide))) (fun v5 w5 h5 => ?_)
  obtain ⟨rfl, u5⟩ := h5
  replace U := U.tr u5
  rw [show 0 * 18446744073709551616 + n * n = n * n by omega]
  refine l_step (y_moveV (et g0 rfl)) ?_
  refine l_step (y_ext (et g0 rfl) rfl) ?_
  refine l_step (y_ext (et (gS rfl g0) rfl) rfl) ?_
  refine l_step (y_ext (et (gS rfl (gS rfl g0)) rfl) rfl) ?_
  refine l_step (y_assignV (et (gS rfl (gS rfl g0)) rfl)) ?_
  refine l_step (y_assignV (et (gS rfl (gS rfl g0)) rfl)) ?_
  refine l_step (y_assignV (et (gS rfl (gS rfl g0)) rfl)) ?_
  refine l_nil ?_
  refine hK4 _ _ ?_
  refine fg3 0 5 7 (gS rfl (gS rfl (gS rfl (gS rfl (gS rfl (gS rfl (gS rfl (gS rfl (gS rfl (gS rfl (gS rfl (gS rfl g0)))))))))))) (gS rfl (gS rfl g0)) g0 (fun g => ?_)
  refine c_seq (fun K6 hK6 => ?_)
  refine c_seq (fun K7 hK7 => ?_)
  refine c_region ?_
  refine l_step (y_moveV (et g0 rfl)) ?_
  refine l_step (y_not (et g0 rfl)) ?_
  refine l_nil ?_
  refine hK7 _ _ ?_
  refine fg3 0 5 22 (gS rfl (gS rfl (gS rfl (gS rfl g0)))) (gS rfl (gS rfl (gS rfl g0))) g0 (fun g => ?_)
  refine c_false (et g0 rfl) (by rfl) ?_
  refine c_skip ?_
  refine hK6 _ _ ?_
  refine fg2 0 5 (gS rfl (gS rfl g0)) (gS rfl g0) (fun g => ?_)
  refine c_seq (fun K9 hK9 => ?_)
  refine c_region ?_
  refine l_step (y_moveV (et (gS rfl g0) rfl)) ?_
  refine l_eff (e_callV cal_372 (aC (v := .int .u64 ((3 : Nat) : Int)) rfl (aC (et g0 rfl) aN)) (mach_times 3 n _ (by decide) (by omega))) (fun v10 w10 h10 => ?_)
  obtain ⟨rfl, u10⟩ := h10
  replace U := U.tr u10
  have e3 : satN (3 * n) = 3 * n := Nat.min_eq_left (by omega)
  rw [e3]
  refine l_step (y_moveV (et (gS rfl (gS rfl g0)) rfl)) ?_
  refine l_eff (e_callV cal_371 (aC (et (gS rfl g0) rfl) (aC (et g0 rfl) aN)) (mach_plus _ _ _ (by omega) (by omega))) (fun v11 w11 h11 => ?_)
  obtain ⟨rfl, u11⟩ := h11
  replace U := U.tr u11
  have e4 : satN (3 * n + n * n / 512) = memN n := Nat.min_eq_left (by omega)
  rw [e4]
  refine l_step (y_assignV (et g0 rfl)) ?_
  refine l_nil ?_
  refine hK9 _ _ ?_
  refine fg1 2 g0 (fun g => ?_)
  refine c_ret ?_
  refine ret1 rfl (res_tmp (et g0 rfl)) ?_
  exact ⟨rfl, U⟩
theorem mach_copyCost (n : Nat) (w : World) (hn : n < 1152921504606846976) :
    Ret 366 [.int .u64 n] w (fun v w' => v = .int .u64 (copyN n : Nat) ∧ Up w w') := by
  refine enter (n := 6) Hvaa.func366 rfl rfl (Nat.le_of_ble_eq_true rfl) ?_
  have U := Up.refl w
  refine c_seq (fun K1 hK1 => ?_)
  refine c_region ?_
  refine l_step y_assignC ?_
  refine l_nil ?_
  refine hK1 _ _ ?_
  refine fg1 0 (gS rfl g0) (fun g => ?_)
  refine c_seq (fun K2 hK2 => ?_)
  refine c_region ?_
  refine l_step (y_moveV (et g0 rfl)) ?_
  refine l_eff (e_callV cal_167 (aC (et g0 rfl) aN) (words_lo n _ (by omega))) (fun v3 w3 h3 => ?_)
  obtain ⟨rfl, u3⟩ := h3
  replace U := U.tr u3
  refine l_step (y_mul rfl (et g0 rfl) (wrapU_mulN (a := 3) uk64 ?_)) ?_
  (unfold wordsN; omega)
  refine l_step (y_assignV (et g0 rfl)) ?_
  refine l_nil ?_
  refine hK2 _ _ ?_
  refine fg1 2 g0 (fun g => ?_)
  refine c_ret ?_
  refine ret1 rfl (res_tmp (et g0 rfl)) ?_
  exact ⟨rfl, U⟩
theorem nbytes_le {n : Nat} (h : n < W256) : nbytes n ≤ 32 := by
  unfold nbytes
  have := bl_le n 256 (by rw [W256_2]; exact h)
  omega
theorem mach_expCost (e : Nat) (w : World) (he : e < W256) :
    Ret 364 [wV e] w (fun v w' => v = .int .u64 (10 + 50 * nbytes e : Nat) ∧ Up w w') := by
  refine enter (n := 8) Hvaa.func364 rfl rfl (Nat.le_of_ble_eq_true rfl) ?_
  have U := Up.refl w
  refine c_seq (fun K1 hK1 => ?_)
  refine c_region ?_
  refine l_eff (e_boxV (et g0 rfl)) (fun v2 w2 h2 => ?_)
  obtain ⟨b2, rfl, n2⟩ := h2
  have f2 : w.heap.size ≤ b2 := Nat.le_trans U.size n2.fresh
  replace U := U.tr n2.up
  have k2 := n2.blk
  refine l_step y_assignC ?_
  refine l_nil ?_
  refine hK1 _ _ ?_
  refine fg1 1 (gS rfl g0) (fun g => ?_)
  refine c_seq (fun K3 hK3 => ?_)
  refine c_region ?_
  refine l_step (y_loadB agg_65 sz_65 (et g0 rfl) (by first | (simp only [Value.cells, hV, aV, bV, wV, wL, List.size_toArray, length_bL, length_uL, length_be, size_spl, List.length_cons, List.length_nil, List.length_replicate, Nat.zero_add, Nat.reduceAdd, Nat.reduceLeDiff, Nat.le_refl]; done) | rfl) (at1B k2)) ?_
  refine l_eff (e_callV cal_406 (aC (et g0 rfl) aN) (nbytes_spec e _ he)) (fun v4 w4 h4 => ?_)
  obtain ⟨rfl, u4⟩ := h4
  replace k2 := k2.up u4
  replace U := U.tr u4
  have hb := nbytes_le he
  refine l_step (y_conv Hvaa.underlying5 Hvaa.underlying26 (et g0 rfl) (wrapU_id uk64 ?_)) ?_
  omega
  refine l_step (y_mul rfl (et g0 rfl) (wrapU_mulN (a := 50) uk64 ?_)) ?_
  omega
  refine l_step (y_add rfl (et g0 rfl) (wrapU_addN (a := 10) uk64 ?_)) ?_
  omega
  refine l_step (y_assignV (et g0 rfl)) ?_
  refine l_nil ?_
  refine hK3 _ _ ?_
  refine fg1 2 g0 (fun g => ?_)
  refine c_ret ?_
  refine ret1 rfl (res_tmp (et g0 rfl)) ?_
  exact ⟨rfl, U⟩
theorem mach_sentGas (left asked : Nat) (w : World) (ha : left < 18446744073709551616) (hb : asked < W256) :
    Ret 315 [.int .u64 left, wV asked] w (fun v w' => v = .int .u64 (sentN left asked : Nat) ∧ Up w w') := by
  refine enter (n := 25) Hvaa.func315 rfl rfl (Nat.le_of_ble_eq_true rfl) ?_
  have U := Up.refl w
  refine c_seq (fun K1 hK1 => ?_)
  refine c_region ?_
  refine l_eff (e_boxV (et (gS rfl g0) rfl)) (fun v2 w2 h2 => ?_)
  obtain ⟨b2, rfl, n2⟩ := h2
  have f2 : w.heap.size ≤ b2 := Nat.le_trans U.size n2.fresh
  replace U := U.tr n2.up
  have k2 := n2.blk
  refine l_step y_assignC ?_
  refine l_nil ?_
  refine hK1 _ _ ?_
  refine fg2 0 3 (gS rfl (gS rfl g0)) (gS rfl g0) (fun g => ?_)
  refine c_seq (fun K3 hK3 => ?_)
  refine c_region ?_
  refine l_step (y_moveV (et (gS rfl g0) rfl)) ?_
  refine l_step (y_moveV (et (gS rfl (gS rfl g0)) rfl)) ?_
  refine l_step (y_quo (et g0 rfl) rfl (by decide) (quoU (b := 64) uk64 ?_)) ?_
  omega
  refine l_step (y_sub (et (gS rfl (gS rfl g0)) rfl) (et g0 rfl) (wrapU_subN uk64 ?_ ?_)) ?_
  omega
  omega
  refine l_step (y_assignV (et g0 rfl)) ?_
  refine l_nil ?_
  refine hK3 _ _ ?_
  refine fg2 3 5 (gS rfl (gS rfl (gS rfl (gS rfl (gS rfl g0))))) g0 (fun g => ?_)
  refine c_seq (fun K4 hK4 => ?_)
  refine c_seq (fun K5 hK5 => ?_)
  refine c_region ?_
  refine l_step (y_loadB agg_65 sz_65 (et (gS rfl g0) rfl) (by first | (simp only [Value.cells, hV, aV, bV, wV, wL, List.size_toArray, length_bL, length_uL, length_be, size_spl, List.length_cons, List.length_nil, List.length_replicate, Nat.zero_add, Nat.reduceAdd, Nat.reduceLeDiff, Nat.le_refl]; done) | rfl) (at1B k2)) ?_
  refine l_eff (e_callV cal_300 (aC (et g0 rfl) aN) (wU64_lo asked _ hb)) (fun v6 w6 h6 => ?_)
  obtain ⟨rfl, u6⟩ := h6
  replace k2 := k2.up u6
  replace U := U.tr u6
  refine l_step (y_moveV (et g0 rfl)) ?_
  refine l_step (y_ext (et g0 rfl) rfl) ?_
  refine l_step (y_ext (et (gS rfl g0) rfl) rfl) ?_
  refine l_step (y_assignV (et (gS rfl g0) rfl)) ?_
  refine l_step (y_assignV (et (gS rfl g0) rfl)) ?_
  refine l_nil ?_
  refine hK5 _ _ ?_
  refine fg3 5 6 7 (gS rfl (gS rfl (gS rfl (gS rfl (gS rfl (gS rfl (gS rfl g0))))))) (gS rfl g0) g0 (fun g => ?_)
  refine c_seq (fun K7 hK7 => ?_)
  refine c_region ?_
  refine l_step (y_moveV (et g0 rfl)) ?_
  refine l_step (y_moveV (et g0 rfl)) ?_
  refine gsplitL (i := 18) g0 (fun q8 => ?_) (fun q8 => ?_)
  · skip
    have c14 : asked < 18446744073709551616 := of_decide_eq_true q8
    rw [lo_small c14]
    refine l_gstep (j := 1) (t := 18) (by exact rfl) (by exact rfl) (et g0 rfl) (by decide) (y_moveV (et (gS rfl (gS rfl (gS rfl (gS rfl g0)))) rfl)) ?_
    refine l_gstep (j := 1) (t := 18) (by exact rfl) (by exact rfl) (et (gS rfl g0) rfl) (by decide) (y_moveV (et (gS rfl (gS rfl (gS rfl (gS rfl (gS rfl (gS rfl g0)))))) rfl)) ?_
    refine l_gstep (j := 1) (t := 18) (by exact rfl) (by exact rfl) (et (gS rfl (gS rfl g0)) rfl) (by decide) (y_lss (et (gS rfl g0) rfl) (et g0 rfl)) ?_
    refine l_step (y_pickT (et (gS rfl (gS rfl (gS rfl g0))) rfl) (et g0 rfl)) ?_
    refine l_nil ?_
    refine hK7 _ _ ?_
    refine fg3 5 6 22 (gS rfl (gS rfl (gS rfl (gS rfl (gS rfl (gS rfl (gS rfl (gS rfl (gS rfl g0))))))))) (gS rfl (gS rfl (gS rfl (gS rfl (gS rfl (gS rfl (gS rfl (gS rfl g0)))))))) g0 (fun g => ?_)
    refine c_cond (et g0 rfl) (fun cB1 => ?_) (fun cB1 => ?_)
    · skip
      
      have hlt : asked < left - left / 64 := by have := of_decide_eq_true cB1; omega
      refine c_seq (fun K10 hK10 => ?_)
      refine c_region ?_
      refine l_step (y_moveV (et (gS rfl g0) rfl)) ?_
      refine l_step (y_assignV (et g0 rfl)) ?_
      refine l_nil ?_
      refine hK10 _ _ ?_
      refine fg1 4 g0 (fun g => ?_)
      refine c_ret ?_
      refine ret1 rfl (res_tmp (et g0 rfl)) ?_
      exact ⟨by rw [sentN, Nat.min_eq_left (by omega)]; rfl, U⟩
    · skip
      
      have hlt : ¬ asked < left - left / 64 := by have := of_decide_eq_false cB1; omega
      refine c_skip ?_
      refine hK4 _ _ ?_
      refine fg1 5 (gS rfl (gS rfl g0)) (fun g => ?_)
      refine c_seq (fun K11 hK11 => ?_)
      refine c_region ?_
      refine l_step (y_moveV (et g0 rfl)) ?_
      refine l_step (y_assignV (et g0 rfl)) ?_
      refine l_nil ?_
      refine hK11 _ _ ?_
      refine fg1 4 g0 (fun g => ?_)
      refine c_ret ?_
      refine ret1 rfl (res_tmp (et g0 rfl)) ?_
      exact ⟨by rw [sentN, Nat.min_eq_right (by omega)], U⟩
  · skip
    have c14 : ¬ asked < 18446744073709551616 := of_decide_eq_false q8
    refine l_gskip (j := 1) (t := 18) (by exact rfl) (by exact rfl) (et g0 rfl) (by decide) (by decide) ?_
    refine l_gskip (j := 1) (t := 18) (by exact rfl) (by exact rfl) (et (gS rfl g0) rfl) (by decide) (by decide) ?_
    refine l_gskip (j := 1) (t := 18) (by exact rfl) (by exact rfl) (et (gS rfl (gS rfl g0)) rfl) (by decide) (by decide) ?_
    refine l_step (y_pickF (et (gS rfl (gS rfl (gS rfl g0))) rfl) rfl) ?_
    refine l_nil ?_
    refine hK7 _ _ ?_
    refine fg3 5 6 22 (gS rfl (gS rfl (gS rfl (gS rfl (gS rfl (gS rfl (gS rfl (gS rfl (gS rfl g0))))))))) (gS rfl (gS rfl (gS rfl (gS rfl (gS rfl (gS rfl (gS rfl (gS rfl g0)))))))) g0 (fun g => ?_)
    refine c_false (et g0 rfl) rfl ?_
    refine c_skip ?_
    refine hK4 _ _ ?_
    refine fg1 5 (gS rfl (gS rfl g0)) (fun g => ?_)
    refine c_seq (fun K13 hK13 => ?_)
    refine c_region ?_
    refine l_step (y_moveV (et g0 rfl)) ?_
    refine l_step (y_assignV (et g0 rfl)) ?_
    refine l_nil ?_
    refine hK13 _ _ ?_
    refine fg1 4 g0 (fun g => ?_)
    refine c_ret ?_
    refine ret1 rfl (res_tmp (et g0 rfl)) ?_
    exact ⟨by rw [sentN, Nat.min_eq_right (by omega)], U⟩
theorem mach_length (n : Nat) (w : World) (hn : n < W256) :
    Ret 365 [wV n] w (fun v w' => v = .int .u64 (lo64 n : Nat) ∧ Up w w') := by
  refine enter (n := 11) Hvaa.func365 rfl rfl (Nat.le_of_ble_eq_true rfl) ?_
  have U := Up.refl w
  refine c_seq (fun K1 hK1 => ?_)
  refine c_region ?_
  refine l_eff (e_boxV (et g0 rfl)) (fun v2 w2 h2 => ?_)
  obtain ⟨b2, rfl, n2⟩ := h2
  have f2 : w.heap.size ≤ b2 := Nat.le_trans U.size n2.fresh
  replace U := U.tr n2.up
  have k2 := n2.blk
  refine l_step y_assignC ?_
  refine l_nil ?_
  refine hK1 _ _ ?_
  refine fg1 1 (gS rfl g0) (fun g => ?_)
  refine c_seq (fun K3 hK3 => ?_)
  refine c_region ?_
  refine l_step (y_loadB agg_65 sz_65 (et g0 rfl) (by first | (simp only [Value.cells, hV, aV, bV, wV, wL, List.size_toArray, length_bL, length_uL, length_be, size_spl, List.length_cons, List.length_nil, List.length_replicate, Nat.zero_add, Nat.reduceAdd, Nat.reduceLeDiff, Nat.le_refl]; done) | rfl) (at1B k2)) ?_
  refine l_eff (e_callV cal_300 (aC (et g0 rfl) aN) (wU64_lo n _ hn)) (fun v4 w4 h4 => ?_)
  obtain ⟨rfl, u4⟩ := h4
  replace k2 := k2.up u4
  replace U := U.tr u4
  refine l_step (y_moveV (et g0 rfl)) ?_
  refine l_step (y_ext (et g0 rfl) rfl) ?_
  refine l_step (y_ext (et (gS rfl g0) rfl) rfl) ?_
  refine l_step (y_assignV (et (gS rfl g0) rfl)) ?_
  refine l_step (y_assignV (et (gS rfl g0) rfl)) ?_
  refine l_nil ?_
  refine hK3 _ _ ?_
  refine fg1 3 (gS rfl g0) (fun g => ?_)
  refine c_seq (fun K5 hK5 => ?_)
  refine c_region ?_
  refine l_step (y_moveV (et g0 rfl)) ?_
  refine l_step (y_assignV (et g0 rfl)) ?_
  refine l_nil ?_
  refine hK5 _ _ ?_
  refine fg1 2 g0 (fun g => ?_)
  refine c_ret ?_
  refine ret1 rfl (res_tmp (et g0 rfl)) ?_
  exact ⟨rfl, U⟩
def smallN (x : Nat) : Nat := min x 4294967295
def srcN (x : Nat) : Nat := min x 18446744073709551615
theorem mach_small (n : Nat) (w : World) (hn : n < W256) :
    Ret 299 [wV n] w (fun v w' => v = .int .u32 (smallN n : Nat) ∧ Up w w') := by
  refine enter (n := 18) Hvaa.func299 rfl rfl (Nat.le_of_ble_eq_true rfl) ?_
  have U := Up.refl w
  refine c_seq (fun K1 hK1 => ?_)
  refine c_region ?_
  refine l_eff (e_boxV (et g0 rfl)) (fun v2 w2 h2 => ?_)
  obtain ⟨b2, rfl, n2⟩ := h2
  have f2 : w.heap.size ≤ b2 := Nat.le_trans U.size n2.fresh
  replace U := U.tr n2.up
  have k2 := n2.blk
  refine l_step y_assignC ?_
  refine l_nil ?_
  refine hK1 _ _ ?_
  refine fg1 1 (gS rfl g0) (fun g => ?_)
  refine c_seq (fun K3 hK3 => ?_)
  refine c_region ?_
  refine l_step (y_loadB agg_65 sz_65 (et g0 rfl) (by first | (simp only [Value.cells, hV, aV, bV, wV, wL, List.size_toArray, length_bL, length_uL, length_be, size_spl, List.length_cons, List.length_nil, List.length_replicate, Nat.zero_add, Nat.reduceAdd, Nat.reduceLeDiff, Nat.le_refl]; done) | rfl) (at1B k2)) ?_
  refine l_eff (e_callV cal_300 (aC (et g0 rfl) aN) (wU64_lo n _ hn)) (fun v4 w4 h4 => ?_)
  obtain ⟨rfl, u4⟩ := h4
  replace k2 := k2.up u4
  replace U := U.tr u4
  refine l_step (y_moveV (et g0 rfl)) ?_
  refine l_step (y_ext (et g0 rfl) rfl) ?_
  refine l_step (y_ext (et (gS rfl g0) rfl) rfl) ?_
  refine l_step (y_assignV (et (gS rfl g0) rfl)) ?_
  refine l_step (y_assignV (et (gS rfl g0) rfl)) ?_
  refine l_nil ?_
  refine hK3 _ _ ?_
  refine fg2 3 4 (gS rfl g0) g0 (fun g => ?_)
  refine c_seq (fun K5 hK5 => ?_)
  refine c_seq (fun K6 hK6 => ?_)
  refine c_region ?_
  refine l_step (y_moveV (et g0 rfl)) ?_
  refine l_step (y_not (et g0 rfl)) ?_
  refine l_step (y_moveV (et g0 rfl)) ?_
  refine gsplitL (i := 12) g0 (fun q7 => ?_) (fun q7 => ?_)
  · skip
    have c14 : ¬ n < 18446744073709551616 := by simpa using q7
    refine l_gskip (j := 2) (t := 12) (by exact rfl) (by exact rfl) (et g0 rfl) (by decide) (by decide) ?_
    refine l_gskip (j := 2) (t := 12) (by exact rfl) (by exact rfl) (et (gS rfl g0) rfl) (by decide) (by decide) ?_
    refine l_step (y_pickT (et (gS rfl (gS rfl g0)) rfl) rfl) ?_
    refine l_nil ?_
    refine hK6 _ _ ?_
    refine fg2 3 15 (gS rfl (gS rfl (gS rfl (gS rfl (gS rfl (gS rfl (gS rfl (gS rfl g0)))))))) g0 (fun g => ?_)
    refine c_true (et g0 rfl) rfl ?_
    refine c_seq (fun K9 hK9 => ?_)
    refine c_region ?_
    refine l_step y_assignC ?_
    refine l_nil ?_
    refine hK9 _ _ ?_
    refine fg1 2 g0 (fun g => ?_)
    refine c_ret ?_
    refine ret1 rfl (res_tmp (et g0 rfl)) ?_
    exact ⟨by rw [smallN, Nat.min_eq_right (by omega)]; rfl, U⟩
  · skip
    have c14 : n < 18446744073709551616 := by simpa using q7
    rw [lo_small c14]
    refine l_gstep (j := 2) (t := 12) (by exact rfl) (by exact rfl) (et g0 rfl) (by decide) (y_moveV (et (gS rfl (gS rfl (gS rfl (gS rfl (gS rfl g0))))) rfl)) ?_
    refine l_gstep (j := 2) (t := 12) (by exact rfl) (by exact rfl) (et (gS rfl g0) rfl) (by decide) (y_gtr (et g0 rfl) rfl) ?_
    refine l_step (y_pickF (et (gS rfl (gS rfl g0)) rfl) (et g0 rfl)) ?_
    refine l_nil ?_
    refine hK6 _ _ ?_
    refine fg2 3 15 (gS rfl (gS rfl (gS rfl (gS rfl (gS rfl (gS rfl (gS rfl (gS rfl g0)))))))) g0 (fun g => ?_)
    refine c_cond (et g0 rfl) (fun cB1 => ?_) (fun cB1 => ?_)
    · skip
      
      have hlt : 4294967295 < n := by have := of_decide_eq_true cB1; omega
      refine c_seq (fun K11 hK11 => ?_)
      refine c_region ?_
      refine l_step y_assignC ?_
      refine l_nil ?_
      refine hK11 _ _ ?_
      refine fg1 2 g0 (fun g => ?_)
      refine c_ret ?_
      refine ret1 rfl (res_tmp (et g0 rfl)) ?_
      exact ⟨by rw [smallN, Nat.min_eq_right (by omega)]; rfl, U⟩
    · skip
      
      have hlt : n ≤ 4294967295 := by have := of_decide_eq_false cB1; omega
      refine c_skip ?_
      refine hK5 _ _ ?_
      refine fg1 3 (gS rfl g0) (fun g => ?_)
      refine c_seq (fun K12 hK12 => ?_)
      refine c_region ?_
      refine l_step (y_moveV (et g0 rfl)) ?_
      refine l_step (y_conv Hvaa.underlying26 Hvaa.underlying60 (et g0 rfl) (wrapU_id uk32 ?_)) ?_
      omega
      refine l_step (y_assignV (et g0 rfl)) ?_
      refine l_nil ?_
      refine hK12 _ _ ?_
      refine fg1 2 g0 (fun g => ?_)
      refine c_ret ?_
      refine ret1 rfl (res_tmp (et g0 rfl)) ?_
      exact ⟨by rw [smallN, Nat.min_eq_left (by omega)], U⟩
theorem mach_source (n : Nat) (w : World) (hn : n < W256) :
    Ret 297 [wV n] w (fun v w' => v = .int .u64 (srcN n : Nat) ∧ Up w w') := by
  refine enter (n := 13) Hvaa.func297 rfl rfl (Nat.le_of_ble_eq_true rfl) ?_
  have U := Up.refl w
  refine c_seq (fun K1 hK1 => ?_)
  refine c_region ?_
  refine l_eff (e_boxV (et g0 rfl)) (fun v2 w2 h2 => ?_)
  obtain ⟨b2, rfl, n2⟩ := h2
  have f2 : w.heap.size ≤ b2 := Nat.le_trans U.size n2.fresh
  replace U := U.tr n2.up
  have k2 := n2.blk
  refine l_step y_assignC ?_
  refine l_nil ?_
  refine hK1 _ _ ?_
  refine fg1 1 (gS rfl g0) (fun g => ?_)
  refine c_seq (fun K3 hK3 => ?_)
  refine c_region ?_
  refine l_step (y_loadB agg_65 sz_65 (et g0 rfl) (by first | (simp only [Value.cells, hV, aV, bV, wV, wL, List.size_toArray, length_bL, length_uL, length_be, size_spl, List.length_cons, List.length_nil, List.length_replicate, Nat.zero_add, Nat.reduceAdd, Nat.reduceLeDiff, Nat.le_refl]; done) | rfl) (at1B k2)) ?_
  refine l_eff (e_callV cal_300 (aC (et g0 rfl) aN) (wU64_lo n _ hn)) (fun v4 w4 h4 => ?_)
  obtain ⟨rfl, u4⟩ := h4
  replace k2 := k2.up u4
  replace U := U.tr u4
  refine l_step (y_moveV (et g0 rfl)) ?_
  refine l_step (y_ext (et g0 rfl) rfl) ?_
  refine l_step (y_ext (et (gS rfl g0) rfl) rfl) ?_
  refine l_step (y_assignV (et (gS rfl g0) rfl)) ?_
  refine l_step (y_assignV (et (gS rfl g0) rfl)) ?_
  refine l_nil ?_
  refine hK3 _ _ ?_
  refine fg2 3 4 (gS rfl g0) g0 (fun g => ?_)
  refine c_seq (fun K5 hK5 => ?_)
  refine c_seq (fun K6 hK6 => ?_)
  refine c_region ?_
  refine l_step (y_moveV (et g0 rfl)) ?_
  refine l_step (y_not (et g0 rfl)) ?_
  refine l_nil ?_
  refine hK6 _ _ ?_
  refine fg2 3 11 (gS rfl (gS rfl (gS rfl g0))) g0 (fun g => ?_)
  refine c_cond (et g0 rfl) (fun cB1 => ?_) (fun cB1 => ?_)
  · skip
    
    have c14 : ¬ n < 18446744073709551616 := by simpa using cB1
    refine c_seq (fun K8 hK8 => ?_)
    refine c_region ?_
    refine l_step y_assignC ?_
    refine l_nil ?_
    refine hK8 _ _ ?_
    refine fg1 2 g0 (fun g => ?_)
    refine c_ret ?_
    refine ret1 rfl (res_tmp (et g0 rfl)) ?_
    exact ⟨by rw [srcN, Nat.min_eq_right (by omega)]; rfl, U⟩
  · skip
    
    have c14 : n < 18446744073709551616 := by simpa using cB1
    refine c_skip ?_
    refine hK5 _ _ ?_
    refine fg1 3 (gS rfl g0) (fun g => ?_)
    refine c_seq (fun K9 hK9 => ?_)
    refine c_region ?_
    refine l_step (y_moveV (et g0 rfl)) ?_
    refine l_step (y_assignV (et g0 rfl)) ?_
    refine l_nil ?_
    refine hK9 _ _ ?_
    refine fg1 2 g0 (fun g => ?_)
    refine c_ret ?_
    refine ret1 rfl (res_tmp (et g0 rfl)) ?_
    exact ⟨by rw [srcN, Nat.min_eq_left (by omega), lo_small c14]; rfl, U⟩
theorem mach_flag (t : Bool) (w : World) :
    Ret 283 [.bool t] w (fun v w' => v = wV (if t then 1 else 0) ∧ Up w w') := by
  refine enter (n := 6) Hvaa.func283 rfl rfl (Nat.le_of_ble_eq_true rfl) ?_
  have U := Up.refl w
  refine c_seq (fun K1 hK1 => ?_)
  refine c_region ?_
  refine l_eff (e_alloc zr_65) (fun v2 w2 h2 => ?_)
  obtain ⟨b2, rfl, n2⟩ := h2
  have f2 : w.heap.size ≤ b2 := Nat.le_trans U.size n2.fresh
  replace U := U.tr n2.up
  have k2 := n2.blk
  refine l_nil ?_
  refine hK1 _ _ ?_
  refine c_seq (fun K3 hK3 => ?_)
  refine c_seq (fun K4 hK4 => ?_)
  refine c_region ?_
  refine l_step (y_moveV (et (gS rfl g0) rfl)) ?_
  refine l_nil ?_
  refine hK4 _ _ ?_
  refine fg2 2 3 (gS rfl g0) g0 (fun g => ?_)
  refine c_cond (et g0 rfl) (fun cB1 => ?_) (fun cB1 => ?_)
  · skip
    
    refine c_seq (fun K6 hK6 => ?_)
    refine c_region ?_
    refine l_step (y_bld (bC rfl bN) (bld65_1 1)) ?_
    refine l_effN (e_store sz_65 (et (gS rfl (gS rfl g0)) rfl) (cellsV (et g0 rfl) rfl) (by first | (simp only [Value.cells, hV, aV, bV, wV, wL, List.size_toArray, length_bL, length_uL, length_be, size_spl, List.length_cons, List.length_nil, List.length_replicate, Nat.zero_add, Nat.reduceAdd, Nat.reduceLeDiff, Nat.le_refl]; done) | rfl) (by first | exact one_bL _ | exact one_uL _ | (intro v hv; simp at hv; subst hv; rfl)) k2 (by first | (simp only [Value.cells, hV, aV, bV, wV, wL, List.size_toArray, length_bL, length_uL, length_be, size_spl, List.length_cons, List.length_nil, List.length_replicate, Nat.zero_add, Nat.reduceAdd, Nat.reduceLeDiff, Nat.le_refl]; done) | exact Nat.le_of_ble_eq_true rfl | simp | omega)) (fun v7 w7 h7 => ?_)
    obtain ⟨rfl, x7⟩ := h7
    replace k2 := x7.blk.full (by first | (simp only [Value.cells, hV, aV, bV, wV, wL, List.size_toArray, length_bL, length_uL, length_be, size_spl, List.length_cons, List.length_nil, List.length_replicate, Nat.zero_add, Nat.reduceAdd, Nat.reduceLeDiff, Nat.le_refl]; done) | rfl)
    replace U := U.st x7 f2
    refine l_nil ?_
    refine hK6 _ _ ?_
    refine fg1 2 (gS rfl (gS rfl g0)) (fun g => ?_)
    refine c_ret ?_
    refine ret1 rfl (res_blk agg_65 sz_65 (et g0 rfl) (by first | (simp only [Value.cells, hV, aV, bV, wV, wL, List.size_toArray, length_bL, length_uL, length_be, size_spl, List.length_cons, List.length_nil, List.length_replicate, Nat.zero_add, Nat.reduceAdd, Nat.reduceLeDiff, Nat.le_refl]; done) | rfl) k2) ?_
    subst cB1
    exact ⟨rfl, U⟩
  · skip
    
    refine c_skip ?_
    refine hK3 _ _ ?_
    refine fg1 2 (gS rfl g0) (fun g => ?_)
    refine c_seq (fun K8 hK8 => ?_)
    refine c_region ?_
    refine l_step (y_bld bN bld65_z) ?_
    refine l_effN (e_store sz_65 (et (gS rfl g0) rfl) (cellsV (et g0 rfl) rfl) (by first | (simp only [Value.cells, hV, aV, bV, wV, wL, List.size_toArray, length_bL, length_uL, length_be, size_spl, List.length_cons, List.length_nil, List.length_replicate, Nat.zero_add, Nat.reduceAdd, Nat.reduceLeDiff, Nat.le_refl]; done) | rfl) (by first | exact one_bL _ | exact one_uL _ | (intro v hv; simp at hv; subst hv; rfl)) k2 (by first | (simp only [Value.cells, hV, aV, bV, wV, wL, List.size_toArray, length_bL, length_uL, length_be, size_spl, List.length_cons, List.length_nil, List.length_replicate, Nat.zero_add, Nat.reduceAdd, Nat.reduceLeDiff, Nat.le_refl]; done) | exact Nat.le_of_ble_eq_true rfl | simp | omega)) (fun v9 w9 h9 => ?_)
    obtain ⟨rfl, x9⟩ := h9
    replace k2 := x9.blk.full (by first | (simp only [Value.cells, hV, aV, bV, wV, wL, List.size_toArray, length_bL, length_uL, length_be, size_spl, List.length_cons, List.length_nil, List.length_replicate, Nat.zero_add, Nat.reduceAdd, Nat.reduceLeDiff, Nat.le_refl]; done) | rfl)
    replace U := U.st x9 f2
    refine l_nil ?_
    refine hK8 _ _ ?_
    refine fg1 2 (gS rfl g0) (fun g => ?_)
    refine c_ret ?_
    refine ret1 rfl (res_blk agg_65 sz_65 (et g0 rfl) (by first | (simp only [Value.cells, hV, aV, bV, wV, wL, List.size_toArray, length_bL, length_uL, length_be, size_spl, List.length_cons, List.length_nil, List.length_replicate, Nat.zero_add, Nat.reduceAdd, Nat.reduceLeDiff, Nat.le_refl]; done) | rfl) k2) ?_
    subst cB1
    exact ⟨rfl, U⟩
end Go.Proofs.YgvaawGreat
