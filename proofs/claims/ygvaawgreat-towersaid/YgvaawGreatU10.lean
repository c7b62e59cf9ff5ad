import Derived.Test.YgvaawGreatU9
set_option maxRecDepth 100000
set_option linter.unusedSimpArgs false
set_option linter.unusedVariables false
namespace Go.Proofs.YgvaawGreat
open Go
def nbytes (n : Nat) : Nat := (bitLen n + 7) / 8
theorem limb_last (n k : Nat) (h : n < 18446744073709551616 ^ (k + 1)) : n / 18446744073709551616 ^ k = limb n k := by
  unfold limb
  rw [Nat.mod_eq_of_lt]
  rw [Nat.div_lt_iff_lt_mul (Nat.pow_pos (by decide)), Nat.mul_comm, ← Nat.pow_succ]; exact h
theorem bl_limbs (n k : Nat) (h : IsLimbs n k) (hk : k ≠ 0) : bitLen n = 64 * (k - 1) + bitLen (limb n (k - 1)) := by
  obtain ⟨h4, hlt, hge⟩ := h
  have hge := hge hk
  have e1 : n / 2 ^ (64 * (k - 1)) = limb n (k - 1) := by
    rw [Nat.pow_mul]; exact limb_last n (k - 1) (by rw [show k - 1 + 1 = k by omega]; exact hlt)
  rw [← e1]
  refine bitLen_shift n (64 * (k - 1)) ?_
  rw [Nat.pow_mul]
  exact Nat.pos_iff_ne_zero.1 (Nat.div_pos hge (Nat.pow_pos (by decide)))
theorem IsLimbs.zero {n : Nat} (h : IsLimbs n 0) : n = 0 := by
  have := h.2.1; simpa using this
theorem limb_top_ne (n k : Nat) (h : IsLimbs n k) (hk : k ≠ 0) : limb n (k - 1) ≠ 0 := by
  rw [← limb_last n (k - 1) (by rw [show k - 1 + 1 = k by omega]; exact h.2.1)]
  exact Nat.pos_iff_ne_zero.1 (Nat.div_pos (h.2.2 hk) (Nat.pow_pos (by decide)))
theorem bl_pos (n : Nat) (h : n ≠ 0) : 0 < bitLen n := by
  have h1 := (bitLen_spec n).1
  rcases Nat.eq_zero_or_pos (bitLen n) with h0 | h0
  · rw [h0] at h1; omega
  · exact h0
theorem addI7 {x : Nat} (h : x ≤ 64) : IntKind.i64.wrap ((x : Int) + 7) = ((x + 7 : Nat) : Int) := by
  rw [wrap_i64 (by omega) (by omega)]; omega
theorem nbytes_spec (a : Nat) (w : World) (ha : a < W256) :
    Ret 406 [wV a] w (fun v w' => v = .int .u8 (nbytes a : Nat) ∧ Up w w') := by
  refine enter (n := 20) Hvaa.func406 rfl rfl (Nat.le_of_ble_eq_true rfl) ?_
  have U := Up.refl w
  refine c_seq (fun K1 hK1 => ?_)
  refine c_region ?_
  refine l_eff (e_boxV (et g0 rfl)) (fun v2 w2 h2 => ?_)
  obtain ⟨b2, rfl, n2⟩ := h2
  have f2 : w.heap.size ≤ b2 := Nat.le_trans U.size n2.fresh
  replace U := U.tr n2.up
  have k2 := n2.blk
  refine l_step y_assignC ?_
  refine l_nil ?_
  refine hK1 _ _ ?_
  refine fg1 1 (gS rfl g0) (fun g => ?_)
  refine c_seq (fun K3 hK3 => ?_)
  refine c_region ?_
  refine l_step (y_loadB agg_65 sz_65 (et g0 rfl) (by first | (simp only [Value.cells, hV, aV, bV, wV, wL, List.size_toArray, length_bL, length_uL, length_be, size_spl, List.length_cons, List.length_nil, List.length_replicate, Nat.zero_add, Nat.reduceAdd, Nat.reduceLeDiff, Nat.le_refl]; done) | rfl) (at1B k2)) ?_
  refine l_eff (e_callV cal_252 (aC (et g0 rfl) aN) (wLimbs_spec _ _ (by assumption))) (fun v4 w4 h4 => ?_)
  obtain ⟨n, rfl, hn4, u4⟩ := h4
  replace k2 := k2.up u4
  replace U := U.tr u4
  refine l_step (y_assignV (et g0 rfl)) ?_
  refine l_nil ?_
  refine hK3 _ _ ?_
  refine fg2 1 3 (gS rfl (gS rfl (gS rfl g0))) g0 (fun g => ?_)
  refine c_seq (fun K5 hK5 => ?_)
  refine c_seq (fun K6 hK6 => ?_)
  refine c_region ?_
  refine l_step (y_moveV (et g0 rfl)) ?_
  refine l_step (y_eql (et g0 rfl) rfl) ?_
  refine l_nil ?_
  refine hK6 _ _ ?_
  refine fg3 1 3 7 (gS rfl (gS rfl (gS rfl g0))) (gS rfl (gS rfl g0)) g0 (fun g => ?_)
  refine c_cond (et g0 rfl) (fun cB1 => ?_) (fun cB1 => ?_)
  · skip
    
    have hz : n = 0 := by have := of_decide_eq_true cB1; omega
    refine c_seq (fun K8 hK8 => ?_)
    refine c_region ?_
    refine l_step y_assignC ?_
    refine l_nil ?_
    refine hK8 _ _ ?_
    refine fg1 2 g0 (fun g => ?_)
    refine c_ret ?_
    refine ret1 rfl (res_tmp (et g0 rfl)) ?_
    subst hz
    refine ⟨?_, U⟩
    rw [hn4.zero]
    rfl
  · skip
    
    have hz : n ≠ 0 := by have := of_decide_eq_false cB1; omega
    have hbl := bl_le _ 64 (limb_lt a (n - 1))
    have hbe := bl_limbs a n hn4 hz
    have hn4l := hn4.1
    refine c_skip ?_
    refine hK5 _ _ ?_
    refine fg2 1 3 (gS rfl (gS rfl g0)) (gS rfl g0) (fun g => ?_)
    refine c_seq (fun K9 hK9 => ?_)
    refine c_region ?_
    refine l_step (y_moveV (et g0 rfl)) ?_
    refine l_step (y_sub (et g0 rfl) rfl (wrapU_subN (b := 1) uk8 ?_ ?_)) ?_
    omega
    omega
    refine l_step (y_mul rfl (et g0 rfl) (wrapU_mulN (a := 8) uk8 ?_)) ?_
    omega
    refine l_step (y_moveV (et (gS rfl (gS rfl (gS rfl g0))) rfl)) ?_
    refine l_step (y_sub (et g0 rfl) rfl (wrapU_subN (b := 1) uk8 ?_ ?_)) ?_
    omega
    omega
    refine l_step (y_idxA Hvaa.underlying65 sz_26 (et (gS rfl (gS rfl (gS rfl (gS rfl (gS rfl (gS rfl g0)))))) rfl) (et g0 rfl) ?_ ?_) ?_
    omega
    omega
    refine l_step (y_load1 one_26 (et g0 rfl) (at1 (k2.cell (wV_getE a _ (n - 1) (by omega) (by omega))))) ?_
    refine l_eff (e_callV cal_253 (aC (et g0 rfl) aN) (len64_spec _ _ (limb_lt _ _))) (fun v10 w10 h10 => ?_)
    obtain ⟨rfl, u10⟩ := h10
    replace k2 := k2.up u10
    replace U := U.tr u10
    refine l_step (y_add (et g0 rfl) rfl (addI7 hbl)) ?_
    refine l_step (y_quo (et g0 rfl) rfl (by decide) (quoI (a := bitLen (limb a (n - 1)) + 7) (b := 8) ?_)) ?_
    omega
    refine l_step (y_conv Hvaa.underlying3 Hvaa.underlying5 (et g0 rfl) (wrapU_id uk8 ?_)) ?_
    omega
    refine l_step (y_add (et (gS rfl (gS rfl (gS rfl (gS rfl (gS rfl (gS rfl (gS rfl (gS rfl g0)))))))) rfl) (et g0 rfl) (wrapU_addN uk8 ?_)) ?_
    omega
    refine l_step (y_assignV (et g0 rfl)) ?_
    refine l_nil ?_
    refine hK9 _ _ ?_
    refine fg1 2 g0 (fun g => ?_)
    refine c_ret ?_
    refine ret1 rfl (res_tmp (et g0 rfl)) ?_
    refine ⟨?_, U⟩
    unfold nbytes
    rw [hbe]
    congr 2
    omega
def eExp (a b : Nat) : Nat := a ^ b % W256
theorem bit_limb (b k : Nat) : limb b (k / 64) / 2 ^ (k % 64) % 2 = b / 2 ^ k % 2 := by
  unfold limb
  have hB : (18446744073709551616 : Nat) = 2 ^ (k % 64) * (2 * 2 ^ (63 - k % 64)) := by
    rw [← Nat.pow_succ', ← Nat.pow_add, show k % 64 + (63 - k % 64).succ = 64 by omega]
  have e2 : (18446744073709551616 : Nat) ^ (k / 64) * 2 ^ (k % 64) = 2 ^ k := by
    rw [show (18446744073709551616 : Nat) = 2 ^ 64 from rfl, ← Nat.pow_mul, ← Nat.pow_add, show 64 * (k / 64) + k % 64 = k by omega]
  generalize hx : b / 18446744073709551616 ^ (k / 64) = x
  rw [hB, Nat.mod_mul_right_div_self, Nat.mod_mul_right_mod, ← hx, Nat.div_div_eq_div_mul, e2]
theorem exp_bit (a b k : Nat) : a ^ (b % 2 ^ (k + 1)) % W256 = if b / 2 ^ k % 2 = 1 then (a ^ (b % 2 ^ k) % W256) * (a ^ 2 ^ k % W256) % W256 else a ^ (b % 2 ^ k) % W256 := by
  rw [Nat.pow_succ, Nat.mod_mul]
  split
  · rename_i h; rw [h, Nat.mul_one, Nat.pow_add, Nat.mul_mod]
  · rename_i h
    have : b / 2 ^ k % 2 = 0 := by omega
    rw [this, Nat.mul_zero, Nat.add_zero]
theorem exp_sq (a k : Nat) : a ^ 2 ^ (k + 1) % W256 = (a ^ 2 ^ k % W256) * (a ^ 2 ^ k % W256) % W256 := by
  rw [← Nat.mul_mod, ← Nat.pow_add]; congr 2; rw [Nat.pow_succ]; omega
theorem exp_end (a b k : Nat) (h1 : 2 ^ k ≤ b) (h2 : b < 2 ^ (k + 1)) : eExp a b = (a ^ (b % 2 ^ k) % W256) * (a ^ 2 ^ k % W256) % W256 := by
  unfold eExp
  rw [← Nat.mul_mod, ← Nat.pow_add]
  congr 2
  rw [Nat.pow_succ] at h2
  rw [Nat.mod_eq_sub_mod h1, Nat.mod_eq_of_lt (by omega)]; omega
theorem exp_zero (a b k : Nat) (h1 : 2 ^ k ≤ b) (h2 : a ^ 2 ^ k % W256 = 0) : eExp a b = 0 := by
  unfold eExp
  obtain ⟨d, rfl⟩ := Nat.exists_eq_add_of_le h1
  rw [Nat.pow_add, Nat.mul_mod, h2, Nat.zero_mul]; rfl
theorem wV_one : wV 1 = .agg (uL [1, 0, 0, 0]).toArray := by kernel_rfl
theorem bl_two (b : Nat) (h : b ≠ 0) : 2 ^ (bitLen b - 1) ≤ b ∧ b < 2 ^ (bitLen b - 1 + 1) := by
  have h1 := bitLen_spec b
  have h2 := bl_pos b h
  rw [show bitLen b - 1 + 1 = bitLen b by omega]
  exact ⟨h1.2 h, h1.1⟩
theorem addIN {x y : Nat} (h : x + y < 9223372036854775808) : IntKind.i64.wrap ((x : Int) + (y : Int)) = ((x + y : Nat) : Int) := by
  rw [wrap_i64 (by omega) (by omega)]; omega
theorem subIN {x y : Nat} (h : y ≤ x) (hx : x < 9223372036854775808) : IntKind.i64.wrap ((x : Int) - (y : Int)) = ((x - y : Nat) : Int) := by
  rw [wrap_i64 (by omega) (by omega)]; omega
theorem mulIN {x y : Nat} (h : x * y < 9223372036854775808) : IntKind.i64.wrap ((x : Int) * (y : Int)) = ((x * y : Nat) : Int) := by
  rw [← Int.natCast_mul]; exact wrap_i64 (by omega) (by omega)
theorem wrapIN {x : Nat} (h : x < 9223372036854775808) : IntKind.i64.wrap (x : Int) = ((x : Nat) : Int) := wrap_i64 (by omega) (by omega)
theorem exp_spec (a b : Nat) (w : World) (ha : a < W256) (hb : b < W256) :
    Ret 277 [wV a, wV b] w (fun v w' => v = wV (eExp a b) ∧ Up w w') := by
  refine enter (n := 51) Hvaa.func277 rfl rfl (Nat.le_of_ble_eq_true rfl) ?_
  have U := Up.refl w
  refine c_seq (fun K1 hK1 => ?_)
  refine c_region ?_
  refine l_eff (e_boxV (et g0 rfl)) (fun v2 w2 h2 => ?_)
  obtain ⟨b2, rfl, n2⟩ := h2
  have f2 : w.heap.size ≤ b2 := Nat.le_trans U.size n2.fresh
  replace U := U.tr n2.up
  have k2 := n2.blk
  refine l_eff (e_boxV (et (gS rfl (gS rfl g0)) rfl)) (fun v3 w3 h3 => ?_)
  obtain ⟨b3, rfl, n3⟩ := h3
  have d2_3 : b2 < b3 := Nat.lt_of_lt_of_le k2.lt n3.fresh
  have f3 : w.heap.size ≤ b3 := Nat.le_trans U.size n3.fresh
  replace k2 := k2.up n3.up
  replace U := U.tr n3.up
  have k3 := n3.blk
  refine l_eff (e_alloc zr_65) (fun v4 w4 h4 => ?_)
  obtain ⟨b4, rfl, n4⟩ := h4
  have d2_4 : b2 < b4 := Nat.lt_of_lt_of_le k2.lt n4.fresh
  have d3_4 : b3 < b4 := Nat.lt_of_lt_of_le k3.lt n4.fresh
  have f4 : w.heap.size ≤ b4 := Nat.le_trans U.size n4.fresh
  replace k2 := k2.up n4.up
  replace k3 := k3.up n4.up
  replace U := U.tr n4.up
  have k4 := n4.blk
  refine l_nil ?_
  refine hK1 _ _ ?_
  refine fg3 2 3 4 (gS rfl (gS rfl g0)) (gS rfl g0) g0 (fun g => ?_)
  refine c_seq (fun K5 hK5 => ?_)
  refine c_region ?_
  refine l_step (y_bld (bC rfl bN) (bld65_1 1)) ?_
  refine l_eff (e_alloc zr_65) (fun v6 w6 h6 => ?_)
  obtain ⟨b6, rfl, n6⟩ := h6
  have d2_6 : b2 < b6 := Nat.lt_of_lt_of_le k2.lt n6.fresh
  have d3_6 : b3 < b6 := Nat.lt_of_lt_of_le k3.lt n6.fresh
  have d4_6 : b4 < b6 := Nat.lt_of_lt_of_le k4.lt n6.fresh
  have f6 : w.heap.size ≤ b6 := Nat.le_trans U.size n6.fresh
  replace k2 := k2.up n6.up
  replace k3 := k3.up n6.up
  replace k4 := k4.up n6.up
  replace U := U.tr n6.up
  have k6 := n6.blk
  refine l_effN (e_store sz_65 (et g0 rfl) (cellsV (et (gS rfl g0) rfl) rfl) (by first | (simp only [Value.cells, hV, aV, bV, wV, wL, List.size_toArray, length_bL, length_uL, length_be, size_spl, List.length_cons, List.length_nil, List.length_replicate, Nat.zero_add, Nat.reduceAdd, Nat.reduceLeDiff, Nat.le_refl]; done) | rfl) (by first | exact one_bL _ | exact one_uL _ | (intro v hv; simp at hv; subst hv; rfl)) k6 (by first | (simp only [Value.cells, hV, aV, bV, wV, wL, List.size_toArray, length_bL, length_uL, length_be, size_spl, List.length_cons, List.length_nil, List.length_replicate, Nat.zero_add, Nat.reduceAdd, Nat.reduceLeDiff, Nat.le_refl]; done) | exact Nat.le_of_ble_eq_true rfl | simp | omega)) (fun v7 w7 h7 => ?_)
  obtain ⟨rfl, x7⟩ := h7
  replace k2 := k2.ch x7.ch (by omega)
  replace k3 := k3.ch x7.ch (by omega)
  replace k4 := k4.ch x7.ch (by omega)
  replace k6 := x7.blk.full (by first | (simp only [Value.cells, hV, aV, bV, wV, wL, List.size_toArray, length_bL, length_uL, length_be, size_spl, List.length_cons, List.length_nil, List.length_replicate, Nat.zero_add, Nat.reduceAdd, Nat.reduceLeDiff, Nat.le_refl]; done) | rfl)
  replace U := U.st x7 f6
  replace k6 : Blk w7 b6 (wL 1).toArray := by have := wV_one; exact (Value.agg.inj this) ▸ k6
  refine l_nil ?_
  refine hK5 _ _ ?_
  refine fg4 2 3 4 5 (gS rfl (gS rfl (gS rfl (gS rfl g0)))) (gS rfl (gS rfl (gS rfl g0))) (gS rfl (gS rfl g0)) g0 (fun g => ?_)
  refine c_seq (fun K8 hK8 => ?_)
  refine c_region ?_
  refine l_step (y_loadB agg_65 sz_65 (et (gS rfl (gS rfl g0)) rfl) (by first | (simp only [Value.cells, hV, aV, bV, wV, wL, List.size_toArray, length_bL, length_uL, length_be, size_spl, List.length_cons, List.length_nil, List.length_replicate, Nat.zero_add, Nat.reduceAdd, Nat.reduceLeDiff, Nat.le_refl]; done) | rfl) (at1B k3)) ?_
  refine l_eff (e_callV cal_252 (aC (et g0 rfl) aN) (wLimbs_spec _ _ (by assumption))) (fun v9 w9 h9 => ?_)
  obtain ⟨n, rfl, hn9, u9⟩ := h9
  replace k2 := k2.up u9
  replace k3 := k3.up u9
  replace k4 := k4.up u9
  replace k6 := k6.up u9
  replace U := U.tr u9
  refine l_step (y_assignV (et g0 rfl)) ?_
  refine l_nil ?_
  refine hK8 _ _ ?_
  refine fg5 2 3 4 5 6 (gS rfl (gS rfl (gS rfl (gS rfl (gS rfl (gS rfl g0)))))) (gS rfl (gS rfl (gS rfl (gS rfl (gS rfl g0))))) (gS rfl (gS rfl (gS rfl (gS rfl g0)))) (gS rfl (gS rfl (gS rfl g0))) g0 (fun g => ?_)
  refine c_seq (fun K10 hK10 => ?_)
  refine c_seq (fun K11 hK11 => ?_)
  refine c_region ?_
  refine l_step (y_moveV (et g0 rfl)) ?_
  refine l_step (y_eql (et g0 rfl) rfl) ?_
  refine l_nil ?_
  refine hK11 _ _ ?_
  refine fg6 2 3 4 5 6 13 (gS rfl (gS rfl (gS rfl (gS rfl (gS rfl (gS rfl g0)))))) (gS rfl (gS rfl (gS rfl (gS rfl (gS rfl g0))))) (gS rfl (gS rfl (gS rfl (gS rfl g0)))) (gS rfl (gS rfl (gS rfl g0))) (gS rfl (gS rfl g0)) g0 (fun g => ?_)
  refine c_cond (et g0 rfl) (fun cB1 => ?_) (fun cB1 => ?_)
  · skip
    
    have hz : n = 0 := by have := of_decide_eq_true cB1; omega
    refine c_seq (fun K13 hK13 => ?_)
    refine c_region ?_
    refine l_step (y_loadB agg_65 sz_65 (et (gS rfl (gS rfl g0)) rfl) (by first | (simp only [Value.cells, hV, aV, bV, wV, wL, List.size_toArray, length_bL, length_uL, length_be, size_spl, List.length_cons, List.length_nil, List.length_replicate, Nat.zero_add, Nat.reduceAdd, Nat.reduceLeDiff, Nat.le_refl]; done) | rfl) (at1B k6)) ?_
    refine l_effN (e_store sz_65 (et (gS rfl (gS rfl (gS rfl (gS rfl g0)))) rfl) (cellsV (et g0 rfl) rfl) (by first | (simp only [Value.cells, hV, aV, bV, wV, wL, List.size_toArray, length_bL, length_uL, length_be, size_spl, List.length_cons, List.length_nil, List.length_replicate, Nat.zero_add, Nat.reduceAdd, Nat.reduceLeDiff, Nat.le_refl]; done) | rfl) (by first | exact one_bL _ | exact one_uL _ | (intro v hv; simp at hv; subst hv; rfl)) k4 (by first | (simp only [Value.cells, hV, aV, bV, wV, wL, List.size_toArray, length_bL, length_uL, length_be, size_spl, List.length_cons, List.length_nil, List.length_replicate, Nat.zero_add, Nat.reduceAdd, Nat.reduceLeDiff, Nat.le_refl]; done) | exact Nat.le_of_ble_eq_true rfl | simp | omega)) (fun v14 w14 h14 => ?_)
    obtain ⟨rfl, x14⟩ := h14
    replace k2 := k2.ch x14.ch (by omega)
    replace k3 := k3.ch x14.ch (by omega)
    replace k6 := k6.ch x14.ch (by omega)
    replace k4 := x14.blk.full (by first | (simp only [Value.cells, hV, aV, bV, wV, wL, List.size_toArray, length_bL, length_uL, length_be, size_spl, List.length_cons, List.length_nil, List.length_replicate, Nat.zero_add, Nat.reduceAdd, Nat.reduceLeDiff, Nat.le_refl]; done) | rfl)
    replace U := U.st x14 f4
    refine l_nil ?_
    refine hK13 _ _ ?_
    refine fg1 4 (gS rfl (gS rfl (gS rfl (gS rfl g0)))) (fun g => ?_)
    refine c_ret ?_
    refine ret1 rfl (res_blk agg_65 sz_65 (et g0 rfl) (by first | (simp only [Value.cells, hV, aV, bV, wV, wL, List.size_toArray, length_bL, length_uL, length_be, size_spl, List.length_cons, List.length_nil, List.length_replicate, Nat.zero_add, Nat.reduceAdd, Nat.reduceLeDiff, Nat.le_refl]; done) | rfl) k4) ?_
    subst hz
    refine ⟨?_, U⟩
    rw [hn9.zero]
    unfold eExp
    rw [Nat.pow_zero]
    exact wV_one.symm
  · skip
    
    have hz : n ≠ 0 := by have := of_decide_eq_false cB1; omega
    have hbl := bl_le _ 64 (limb_lt b (n - 1))
    have hbe := bl_limbs b n hn9 hz
    have hn4l := hn9.1
    have hb0 : b ≠ 0 := fun h0 => by subst h0; exact absurd (limb_top_ne 0 n hn9 hz) (by simp [limb])
    have hbt := bl_two b hb0
    have hbp := bl_pos b hb0
    have hltop := bl_pos _ (limb_top_ne b n hn9 hz)
    refine c_skip ?_
    refine hK10 _ _ ?_
    refine fg5 2 3 4 5 6 (gS rfl (gS rfl (gS rfl (gS rfl (gS rfl g0))))) (gS rfl (gS rfl (gS rfl (gS rfl g0)))) (gS rfl (gS rfl (gS rfl g0))) (gS rfl (gS rfl g0)) (gS rfl g0) (fun g => ?_)
    refine c_seq (fun K15 hK15 => ?_)
    refine c_region ?_
    refine l_step (y_moveV (et g0 rfl)) ?_
    refine l_step (y_sub (et g0 rfl) rfl (wrapU_subN (b := 1) uk8 ?_ ?_)) ?_
    omega
    omega
    refine l_step (y_conv Hvaa.underlying5 Hvaa.underlying3 (et g0 rfl) (wrapIN ?_)) ?_
    omega
    refine l_step (y_mul rfl (et g0 rfl) (mulIN (x := 64) ?_)) ?_
    omega
    refine l_step (y_moveV (et (gS rfl (gS rfl (gS rfl (gS rfl g0)))) rfl)) ?_
    refine l_step (y_sub (et g0 rfl) rfl (wrapU_subN (b := 1) uk8 ?_ ?_)) ?_
    omega
    omega
    refine l_step (y_idxA Hvaa.underlying65 sz_26 (et (gS rfl (gS rfl (gS rfl (gS rfl (gS rfl (gS rfl (gS rfl (gS rfl (gS rfl g0))))))))) rfl) (et g0 rfl) ?_ ?_) ?_
    omega
    omega
    refine l_step (y_load1 one_26 (et g0 rfl) (at1 (k3.cell (wV_getE b _ (n - 1) (by omega) (by omega))))) ?_
    refine l_eff (e_callV cal_253 (aC (et g0 rfl) aN) (len64_spec _ _ (limb_lt _ _))) (fun v16 w16 h16 => ?_)
    obtain ⟨rfl, u16⟩ := h16
    replace k2 := k2.up u16
    replace k3 := k3.up u16
    replace k4 := k4.up u16
    replace k6 := k6.up u16
    replace U := U.tr u16
    refine l_step (y_add (et (gS rfl (gS rfl (gS rfl (gS rfl (gS rfl g0))))) rfl) (et g0 rfl) (addIN ?_)) ?_
    omega
    refine l_step (y_sub (et g0 rfl) rfl (subIN (y := 1) ?_ ?_)) ?_
    omega
    omega
    refine l_step (y_assignV (et g0 rfl)) ?_
    refine l_nil ?_
    refine hK15 _ _ ?_
    refine fg5 2 3 4 5 7 (gS rfl (gS rfl (gS rfl (gS rfl (gS rfl (gS rfl (gS rfl (gS rfl (gS rfl (gS rfl (gS rfl (gS rfl (gS rfl (gS rfl (gS rfl (gS rfl g0)))))))))))))))) (gS rfl (gS rfl (gS rfl (gS rfl (gS rfl (gS rfl (gS rfl (gS rfl (gS rfl (gS rfl (gS rfl (gS rfl (gS rfl (gS rfl (gS rfl g0))))))))))))))) (gS rfl (gS rfl (gS rfl (gS rfl (gS rfl (gS rfl (gS rfl (gS rfl (gS rfl (gS rfl (gS rfl (gS rfl (gS rfl (gS rfl g0)))))))))))))) (gS rfl (gS rfl (gS rfl (gS rfl (gS rfl (gS rfl (gS rfl (gS rfl (gS rfl (gS rfl (gS rfl (gS rfl (gS rfl g0))))))))))))) g0 (fun g => ?_)
    refine c_seq (fun K17 hK17 => ?_)
    refine c_seq (fun K18 hK18 => ?_)
    refine c_region ?_
    refine l_step y_assignC ?_
    refine l_nil ?_
    refine hK18 _ _ ?_
    refine c_block (fun Q19 hQ19 => ?_)
    refine fg6 2 3 4 5 7 8 (gS rfl (gS rfl (gS rfl (gS rfl (gS rfl g0))))) (gS rfl (gS rfl (gS rfl (gS rfl g0)))) (gS rfl (gS rfl (gS rfl g0))) (gS rfl (gS rfl g0)) (gS rfl g0) g0 (fun g => ?_)
    refine c_loop (fun k s W20 => ∃ (g : Nat → Value) (j p A : Nat), s = (upd (upd (upd (upd (upd (upd g 2 (.pointer (some ⟨b2, 0, none⟩))) 3 (.pointer (some ⟨b3, 0, none⟩))) 4 (.pointer (some ⟨b4, 0, none⟩))) 5 (.pointer (some ⟨b6, 0, none⟩))) 7 (.int .i64 ((64 * (n - 1) + bitLen (limb b (n - 1)) - 1 : Nat) : Int))) 8 (.int .i64 (j : Nat))) ∧ 64 * (n - 1) + bitLen (limb b (n - 1)) - 1 - j = k ∧ (j ≤ bitLen b - 1) ∧ (p = a ^ (b % 2 ^ j) % W256) ∧ (A = a ^ 2 ^ j % W256) ∧ Blk W20 b6 ((wL p).toArray) ∧ Blk W20 b2 ((wL A).toArray) ∧ Ch (fun k => k = b6 ∨ k = b2) w16 W20) (64 * (n - 1) + bitLen (limb b (n - 1)) - 1 - (0)) ?_ ?_
    · exact ⟨g, 0, 1, a, rfl, rfl, Nat.zero_le _, by rw [Nat.pow_zero, Nat.mod_one, Nat.pow_zero]; rfl, by rw [Nat.pow_zero, Nat.pow_one, Nat.mod_eq_of_lt ha], k6, k2, Ch.refl _ _⟩
    · skip
      intro k s W20 hI K20 hK20
      obtain ⟨g, j, p, A, rfl, rfl, hj, hp, hAA, nk6, nk2, V20⟩ := hI
      replace k3 := k3.ch V20 (by omega)
      replace k4 := k4.ch V20 (by omega)
      replace k6 := nk6
      replace k2 := nk2
      replace U := U.cc V20 (by intro b hb; first | omega | (simp at hb ⊢; omega))
      have hpl : p < W256 := hp ▸ Nat.mod_lt _ (by decide)
      have hAl : A < W256 := hAA ▸ Nat.mod_lt _ (by decide)
      refine c_seq (fun K21 hK21 => ?_)
      refine c_seq (fun K22 hK22 => ?_)
      refine c_region ?_
      refine l_step (y_moveV (et g0 rfl)) ?_
      refine l_step (y_moveV (et (gS rfl (gS rfl g0)) rfl)) ?_
      refine l_step (y_lss (et (gS rfl g0) rfl) (et g0 rfl)) ?_
      refine l_nil ?_
      refine hK22 _ _ ?_
      refine fg7 2 3 4 5 7 8 28 (gS rfl (gS rfl (gS rfl (gS rfl (gS rfl (gS rfl (gS rfl (gS rfl g0)))))))) (gS rfl (gS rfl (gS rfl (gS rfl (gS rfl (gS rfl (gS rfl g0))))))) (gS rfl (gS rfl (gS rfl (gS rfl (gS rfl (gS rfl g0)))))) (gS rfl (gS rfl (gS rfl (gS rfl (gS rfl g0))))) (gS rfl (gS rfl (gS rfl (gS rfl g0)))) (gS rfl (gS rfl (gS rfl g0))) g0 (fun g => ?_)
      refine c_cond (et g0 rfl) (fun cB2 => ?_) (fun cB2 => ?_)
      · skip
        simp only [decide_eq_true_eq, decide_eq_false_iff_not, Int.not_lt, Int.not_le, Bool.not_eq_true', Bool.not_eq_false', Bool.not_eq_eq_eq_not, Bool.not_true, Bool.not_false] at cB2
        refine c_skip ?_
        refine hK21 _ _ ?_
        refine fg6 2 3 4 5 7 8 (gS rfl (gS rfl (gS rfl (gS rfl (gS rfl (gS rfl g0)))))) (gS rfl (gS rfl (gS rfl (gS rfl (gS rfl g0))))) (gS rfl (gS rfl (gS rfl (gS rfl g0)))) (gS rfl (gS rfl (gS rfl g0))) (gS rfl (gS rfl g0)) (gS rfl g0) (fun g => ?_)
        refine c_seq (fun K24 hK24 => ?_)
        refine c_block (fun Q25 hQ25 => ?_)
        refine c_seq (fun K26 hK26 => ?_)
        refine c_seq (fun K27 hK27 => ?_)
        refine c_region ?_
        refine l_step (y_moveV (et g0 rfl)) ?_
        refine l_step (y_quo (et g0 rfl) rfl (by decide) (quoI (b := 64) ?_)) ?_
        omega
        refine l_step (y_idxA Hvaa.underlying65 sz_26 (et (gS rfl (gS rfl (gS rfl (gS rfl (gS rfl (gS rfl g0)))))) rfl) (et g0 rfl) ?_ ?_) ?_
        omega
        omega
        refine l_step (y_load1 one_26 (et g0 rfl) (at1 (k3.cell (wV_getE b _ (j / 64) (by omega) (by omega))))) ?_
        refine l_step (y_moveV (et (gS rfl (gS rfl (gS rfl (gS rfl g0)))) rfl)) ?_
        refine l_step (y_rem (et g0 rfl) rfl (by decide) (remN (b := 64))) ?_
        refine l_step (y_shr (et (gS rfl (gS rfl g0)) rfl) (et g0 rfl) ?_ (shrV ?_)) ?_
        omega
        omega
        refine l_step (y_andM 1 2 uk64 (et g0 rfl) rfl ?_ rfl rfl (by decide)) ?_
        exact Nat.lt_of_le_of_lt (Nat.div_le_self _ _) (limb_lt _ _)
        refine l_step (y_neq (et g0 rfl) rfl) ?_
        refine l_nil ?_
        refine hK27 _ _ ?_
        refine fg7 2 3 4 5 7 8 39 (gS rfl (gS rfl (gS rfl (gS rfl (gS rfl (gS rfl (gS rfl (gS rfl (gS rfl (gS rfl (gS rfl (gS rfl (gS rfl (gS rfl g0)))))))))))))) (gS rfl (gS rfl (gS rfl (gS rfl (gS rfl (gS rfl (gS rfl (gS rfl (gS rfl (gS rfl (gS rfl (gS rfl (gS rfl g0))))))))))))) (gS rfl (gS rfl (gS rfl (gS rfl (gS rfl (gS rfl (gS rfl (gS rfl (gS rfl (gS rfl (gS rfl (gS rfl g0)))))))))))) (gS rfl (gS rfl (gS rfl (gS rfl (gS rfl (gS rfl (gS rfl (gS rfl (gS rfl (gS rfl (gS rfl g0))))))))))) (gS rfl (gS rfl (gS rfl (gS rfl (gS rfl (gS rfl (gS rfl (gS rfl (gS rfl (gS rfl g0)))))))))) (gS rfl (gS rfl (gS rfl (gS rfl (gS rfl (gS rfl (gS rfl (gS rfl (gS rfl g0))))))))) g0 (fun g => ?_)
        refine c_cond (et g0 rfl) (fun cB3 => ?_) (fun cB3 => ?_)
        · skip
          
          have hbit := bit_limb b j
          have hb1 : b / 2 ^ j % 2 = 1 := by have := of_decide_eq_true cB3; omega
          refine c_region ?_
          refine l_step (y_loadB agg_65 sz_65 (et (gS rfl (gS rfl (gS rfl g0))) rfl) (by first | (simp only [Value.cells, hV, aV, bV, wV, wL, List.size_toArray, length_bL, length_uL, length_be, size_spl, List.length_cons, List.length_nil, List.length_replicate, Nat.zero_add, Nat.reduceAdd, Nat.reduceLeDiff, Nat.le_refl]; done) | rfl) (at1B k6)) ?_
          refine l_step (y_loadB agg_65 sz_65 (et (gS rfl (gS rfl (gS rfl (gS rfl (gS rfl (gS rfl (gS rfl g0))))))) rfl) (by first | (simp only [Value.cells, hV, aV, bV, wV, wL, List.size_toArray, length_bL, length_uL, length_be, size_spl, List.length_cons, List.length_nil, List.length_replicate, Nat.zero_add, Nat.reduceAdd, Nat.reduceLeDiff, Nat.le_refl]; done) | rfl) (at1B k2)) ?_
          refine l_eff (e_callV cal_95 (aC (et (gS rfl g0) rfl) (aC (et g0 rfl) aN)) (mul_spec p A _ hpl hAl)) (fun v29 w29 h29 => ?_)
          obtain ⟨rfl, u29⟩ := h29
          replace k2 := k2.up u29
          replace k3 := k3.up u29
          replace k4 := k4.up u29
          replace k6 := k6.up u29
          replace U := U.tr u29
          replace V20 := V20.tr u29
          refine l_effN (e_store sz_65 (et (gS rfl (gS rfl (gS rfl (gS rfl (gS rfl (gS rfl g0)))))) rfl) (cellsV (et g0 rfl) rfl) (by first | (simp only [Value.cells, hV, aV, bV, wV, wL, List.size_toArray, length_bL, length_uL, length_be, size_spl, List.length_cons, List.length_nil, List.length_replicate, Nat.zero_add, Nat.reduceAdd, Nat.reduceLeDiff, Nat.le_refl]; done) | rfl) (by first | exact one_bL _ | exact one_uL _ | (intro v hv; simp at hv; subst hv; rfl)) k6 (by first | (simp only [Value.cells, hV, aV, bV, wV, wL, List.size_toArray, length_bL, length_uL, length_be, size_spl, List.length_cons, List.length_nil, List.length_replicate, Nat.zero_add, Nat.reduceAdd, Nat.reduceLeDiff, Nat.le_refl]; done) | exact Nat.le_of_ble_eq_true rfl | simp | omega)) (fun v30 w30 h30 => ?_)
          obtain ⟨rfl, x30⟩ := h30
          replace k2 := k2.ch x30.ch (by omega)
          replace k3 := k3.ch x30.ch (by omega)
          replace k4 := k4.ch x30.ch (by omega)
          replace k6 := x30.blk.full (by first | (simp only [Value.cells, hV, aV, bV, wV, wL, List.size_toArray, length_bL, length_uL, length_be, size_spl, List.length_cons, List.length_nil, List.length_replicate, Nat.zero_add, Nat.reduceAdd, Nat.reduceLeDiff, Nat.le_refl]; done) | rfl)
          replace U := U.st x30 f6
          replace V20 := V20.st x30 (by omega)
          have hpN : p * A % W256 = a ^ (b % 2 ^ (j + 1)) % W256 := by rw [exp_bit, if_pos hb1, hp, hAA]
          refine l_nil ?_
          refine hK26 _ _ ?_
          refine fg6 2 3 4 5 7 8 (gS rfl (gS rfl (gS rfl (gS rfl (gS rfl (gS rfl (gS rfl (gS rfl (gS rfl g0))))))))) (gS rfl (gS rfl (gS rfl (gS rfl (gS rfl (gS rfl (gS rfl (gS rfl g0)))))))) (gS rfl (gS rfl (gS rfl (gS rfl (gS rfl (gS rfl (gS rfl g0))))))) (gS rfl (gS rfl (gS rfl (gS rfl (gS rfl (gS rfl g0)))))) (gS rfl (gS rfl (gS rfl (gS rfl (gS rfl g0))))) (gS rfl (gS rfl (gS rfl (gS rfl g0)))) (fun g => ?_)
          refine c_seq (fun K31 hK31 => ?_)
          refine c_region ?_
          refine l_step (y_loadB agg_65 sz_65 (et (gS rfl (gS rfl (gS rfl (gS rfl (gS rfl g0))))) rfl) (by first | (simp only [Value.cells, hV, aV, bV, wV, wL, List.size_toArray, length_bL, length_uL, length_be, size_spl, List.length_cons, List.length_nil, List.length_replicate, Nat.zero_add, Nat.reduceAdd, Nat.reduceLeDiff, Nat.le_refl]; done) | rfl) (at1B k2)) ?_
          refine l_eff (e_callV cal_377 (aC (et g0 rfl) aN) (square_spec A _ hAl)) (fun v32 w32 h32 => ?_)
          obtain ⟨rfl, u32⟩ := h32
          replace k2 := k2.up u32
          replace k3 := k3.up u32
          replace k4 := k4.up u32
          replace k6 := k6.up u32
          replace U := U.tr u32
          replace V20 := V20.tr u32
          refine l_effN (e_store sz_65 (et (gS rfl (gS rfl (gS rfl (gS rfl (gS rfl (gS rfl (gS rfl g0))))))) rfl) (cellsV (et g0 rfl) rfl) (by first | (simp only [Value.cells, hV, aV, bV, wV, wL, List.size_toArray, length_bL, length_uL, length_be, size_spl, List.length_cons, List.length_nil, List.length_replicate, Nat.zero_add, Nat.reduceAdd, Nat.reduceLeDiff, Nat.le_refl]; done) | rfl) (by first | exact one_bL _ | exact one_uL _ | (intro v hv; simp at hv; subst hv; rfl)) k2 (by first | (simp only [Value.cells, hV, aV, bV, wV, wL, List.size_toArray, length_bL, length_uL, length_be, size_spl, List.length_cons, List.length_nil, List.length_replicate, Nat.zero_add, Nat.reduceAdd, Nat.reduceLeDiff, Nat.le_refl]; done) | exact Nat.le_of_ble_eq_true rfl | simp | omega)) (fun v33 w33 h33 => ?_)
          obtain ⟨rfl, x33⟩ := h33
          replace k3 := k3.ch x33.ch (by omega)
          replace k4 := k4.ch x33.ch (by omega)
          replace k6 := k6.ch x33.ch (by omega)
          replace k2 := x33.blk.full (by first | (simp only [Value.cells, hV, aV, bV, wV, wL, List.size_toArray, length_bL, length_uL, length_be, size_spl, List.length_cons, List.length_nil, List.length_replicate, Nat.zero_add, Nat.reduceAdd, Nat.reduceLeDiff, Nat.le_refl]; done) | rfl)
          replace U := U.st x33 f2
          replace V20 := V20.st x33 (by omega)
          have hAN : A * A % W256 = a ^ 2 ^ (j + 1) % W256 := by rw [exp_sq, hAA]
          refine l_nil ?_
          refine hK31 _ _ ?_
          refine fg6 2 3 4 5 7 8 (gS rfl (gS rfl (gS rfl (gS rfl (gS rfl (gS rfl (gS rfl g0))))))) (gS rfl (gS rfl (gS rfl (gS rfl (gS rfl (gS rfl g0)))))) (gS rfl (gS rfl (gS rfl (gS rfl (gS rfl g0))))) (gS rfl (gS rfl (gS rfl (gS rfl g0)))) (gS rfl (gS rfl (gS rfl g0))) (gS rfl (gS rfl g0)) (fun g => ?_)
          refine c_seq (fun K34 hK34 => ?_)
          refine c_region ?_
          refine l_step (y_loadB agg_65 sz_65 (et (gS rfl (gS rfl (gS rfl (gS rfl (gS rfl g0))))) rfl) (by first | (simp only [Value.cells, hV, aV, bV, wV, wL, List.size_toArray, length_bL, length_uL, length_be, size_spl, List.length_cons, List.length_nil, List.length_replicate, Nat.zero_add, Nat.reduceAdd, Nat.reduceLeDiff, Nat.le_refl]; done) | rfl) (at1B k2)) ?_
          refine l_eff (e_callV cal_78 (aC (et g0 rfl) aN) (isZero_spec (A * A % W256) _ (Nat.mod_lt _ (by decide)))) (fun v35 w35 h35 => ?_)
          obtain ⟨rfl, u35⟩ := h35
          replace k2 := k2.up u35
          replace k3 := k3.up u35
          replace k4 := k4.up u35
          replace k6 := k6.up u35
          replace U := U.tr u35
          replace V20 := V20.tr u35
          refine l_nil ?_
          refine hK34 _ _ ?_
          refine fg7 2 3 4 5 7 8 46 (gS rfl (gS rfl (gS rfl (gS rfl (gS rfl (gS rfl (gS rfl g0))))))) (gS rfl (gS rfl (gS rfl (gS rfl (gS rfl (gS rfl g0)))))) (gS rfl (gS rfl (gS rfl (gS rfl (gS rfl g0))))) (gS rfl (gS rfl (gS rfl (gS rfl g0)))) (gS rfl (gS rfl (gS rfl g0))) (gS rfl (gS rfl g0)) g0 (fun g => ?_)
          refine c_cond (et g0 rfl) (fun cB4 => ?_) (fun cB4 => ?_)
          · skip
            
            refine c_seq (fun K37 hK37 => ?_)
            refine c_region ?_
            refine l_step (y_bld bN bld65_z) ?_
            refine l_effN (e_store sz_65 (et (gS rfl (gS rfl (gS rfl (gS rfl (gS rfl g0))))) rfl) (cellsV (et g0 rfl) rfl) (by first | (simp only [Value.cells, hV, aV, bV, wV, wL, List.size_toArray, length_bL, length_uL, length_be, size_spl, List.length_cons, List.length_nil, List.length_replicate, Nat.zero_add, Nat.reduceAdd, Nat.reduceLeDiff, Nat.le_refl]; done) | rfl) (by first | exact one_bL _ | exact one_uL _ | (intro v hv; simp at hv; subst hv; rfl)) k4 (by first | (simp only [Value.cells, hV, aV, bV, wV, wL, List.size_toArray, length_bL, length_uL, length_be, size_spl, List.length_cons, List.length_nil, List.length_replicate, Nat.zero_add, Nat.reduceAdd, Nat.reduceLeDiff, Nat.le_refl]; done) | exact Nat.le_of_ble_eq_true rfl | simp | omega)) (fun v38 w38 h38 => ?_)
            obtain ⟨rfl, x38⟩ := h38
            replace k2 := k2.ch x38.ch (by omega)
            replace k3 := k3.ch x38.ch (by omega)
            replace k6 := k6.ch x38.ch (by omega)
            replace k4 := x38.blk.full (by first | (simp only [Value.cells, hV, aV, bV, wV, wL, List.size_toArray, length_bL, length_uL, length_be, size_spl, List.length_cons, List.length_nil, List.length_replicate, Nat.zero_add, Nat.reduceAdd, Nat.reduceLeDiff, Nat.le_refl]; done) | rfl)
            replace U := U.st x38 f4
            refine l_nil ?_
            refine hK37 _ _ ?_
            refine fg1 4 (gS rfl (gS rfl (gS rfl (gS rfl (gS rfl g0))))) (fun g => ?_)
            refine c_ret ?_
            refine hQ25 _ _ _ (in_ret ?_)
            refine hQ19 _ _ _ (in_ret ?_)
            refine ret1 rfl (res_blk agg_65 sz_65 (et g0 rfl) (by first | (simp only [Value.cells, hV, aV, bV, wV, wL, List.size_toArray, length_bL, length_uL, length_be, size_spl, List.length_cons, List.length_nil, List.length_replicate, Nat.zero_add, Nat.reduceAdd, Nat.reduceLeDiff, Nat.le_refl]; done) | rfl) k4) ?_
            refine ⟨?_, U⟩
            rw [exp_zero a b (j + 1) (Nat.le_trans (Nat.pow_le_pow_right (by decide) (by omega)) hbt.1) (by rw [← hAN]; exact of_decide_eq_true cB4)]
            rfl
          · skip
            
            refine c_skip ?_
            refine hQ25 _ _ _ (in_normal ?_)
            refine hK24 _ _ ?_
            refine fg6 2 3 4 5 7 8 (gS rfl (gS rfl (gS rfl (gS rfl (gS rfl (gS rfl g0)))))) (gS rfl (gS rfl (gS rfl (gS rfl (gS rfl g0))))) (gS rfl (gS rfl (gS rfl (gS rfl g0)))) (gS rfl (gS rfl (gS rfl g0))) (gS rfl (gS rfl g0)) (gS rfl g0) (fun g => ?_)
            refine c_region ?_
            refine l_step (y_moveV (et g0 rfl)) ?_
            refine l_step (y_add (et g0 rfl) rfl (wrap_i64 ?_ ?_)) ?_
            omega
            omega
            refine l_step (y_assignV (et g0 rfl)) ?_
            refine l_nil ?_
            refine fK6 2 3 4 5 7 8 (gS rfl (gS rfl (gS rfl (gS rfl (gS rfl (gS rfl (gS rfl (gS rfl g0)))))))) (gS rfl (gS rfl (gS rfl (gS rfl (gS rfl (gS rfl (gS rfl g0))))))) (gS rfl (gS rfl (gS rfl (gS rfl (gS rfl (gS rfl g0)))))) (gS rfl (gS rfl (gS rfl (gS rfl (gS rfl g0))))) (gS rfl (gS rfl (gS rfl (gS rfl g0)))) g0 (fun g => ?_)
            exact hK20 (64 * (n - 1) + bitLen (limb b (n - 1)) - 1 - (j + 1)) _ _ (by omega) ⟨g, j + 1, _, _, rfl, rfl, by omega, hpN, hAN, k6, k2, V20⟩
        · skip
          
          have hbit := bit_limb b j
          have hb1 : ¬ b / 2 ^ j % 2 = 1 := by have := of_decide_eq_false cB3; omega
          have hpN : p = a ^ (b % 2 ^ (j + 1)) % W256 := by rw [exp_bit, if_neg hb1, hp]
          refine c_skip ?_
          refine hK26 _ _ ?_
          refine fg6 2 3 4 5 7 8 (gS rfl (gS rfl (gS rfl (gS rfl (gS rfl (gS rfl g0)))))) (gS rfl (gS rfl (gS rfl (gS rfl (gS rfl g0))))) (gS rfl (gS rfl (gS rfl (gS rfl g0)))) (gS rfl (gS rfl (gS rfl g0))) (gS rfl (gS rfl g0)) (gS rfl g0) (fun g => ?_)
          refine c_seq (fun K39 hK39 => ?_)
          refine c_region ?_
          refine l_step (y_loadB agg_65 sz_65 (et (gS rfl (gS rfl (gS rfl (gS rfl (gS rfl g0))))) rfl) (by first | (simp only [Value.cells, hV, aV, bV, wV, wL, List.size_toArray, length_bL, length_uL, length_be, size_spl, List.length_cons, List.length_nil, List.length_replicate, Nat.zero_add, Nat.reduceAdd, Nat.reduceLeDiff, Nat.le_refl]; done) | rfl) (at1B k2)) ?_
          refine l_eff (e_callV cal_377 (aC (et g0 rfl) aN) (square_spec A _ hAl)) (fun v40 w40 h40 => ?_)
          obtain ⟨rfl, u40⟩ := h40
          replace k2 := k2.up u40
          replace k3 := k3.up u40
          replace k4 := k4.up u40
          replace k6 := k6.up u40
          replace U := U.tr u40
          replace V20 := V20.tr u40
          refine l_effN (e_store sz_65 (et (gS rfl (gS rfl (gS rfl (gS rfl (gS rfl (gS rfl (gS rfl g0))))))) rfl) (cellsV (et g0 rfl) rfl) (by first | (simp only [Value.cells, hV, aV, bV, wV, wL, List.size_toArray, length_bL, length_uL, length_be, size_spl, List.length_cons, List.length_nil, List.length_replicate, Nat.zero_add, Nat.reduceAdd, Nat.reduceLeDiff, Nat.le_refl]; done) | rfl) (by first | exact one_bL _ | exact one_uL _ | (intro v hv; simp at hv; subst hv; rfl)) k2 (by first | (simp only [Value.cells, hV, aV, bV, wV, wL, List.size_toArray, length_bL, length_uL, length_be, size_spl, List.length_cons, List.length_nil, List.length_replicate, Nat.zero_add, Nat.reduceAdd, Nat.reduceLeDiff, Nat.le_refl]; done) | exact Nat.le_of_ble_eq_true rfl | simp | omega)) (fun v41 w41 h41 => ?_)
          obtain ⟨rfl, x41⟩ := h41
          replace k3 := k3.ch x41.ch (by omega)
          replace k4 := k4.ch x41.ch (by omega)
          replace k6 := k6.ch x41.ch (by omega)
          replace k2 := x41.blk.full (by first | (simp only [Value.cells, hV, aV, bV, wV, wL, List.size_toArray, length_bL, length_uL, length_be, size_spl, List.length_cons, List.length_nil, List.length_replicate, Nat.zero_add, Nat.reduceAdd, Nat.reduceLeDiff, Nat.le_refl]; done) | rfl)
          replace U := U.st x41 f2
          replace V20 := V20.st x41 (by omega)
          have hAN : A * A % W256 = a ^ 2 ^ (j + 1) % W256 := by rw [exp_sq, hAA]
          refine l_nil ?_
          refine hK39 _ _ ?_
          refine fg6 2 3 4 5 7 8 (gS rfl (gS rfl (gS rfl (gS rfl (gS rfl (gS rfl (gS rfl g0))))))) (gS rfl (gS rfl (gS rfl (gS rfl (gS rfl (gS rfl g0)))))) (gS rfl (gS rfl (gS rfl (gS rfl (gS rfl g0))))) (gS rfl (gS rfl (gS rfl (gS rfl g0)))) (gS rfl (gS rfl (gS rfl g0))) (gS rfl (gS rfl g0)) (fun g => ?_)
          refine c_seq (fun K42 hK42 => ?_)
          refine c_region ?_
          refine l_step (y_loadB agg_65 sz_65 (et (gS rfl (gS rfl (gS rfl (gS rfl (gS rfl g0))))) rfl) (by first | (simp only [Value.cells, hV, aV, bV, wV, wL, List.size_toArray, length_bL, length_uL, length_be, size_spl, List.length_cons, List.length_nil, List.length_replicate, Nat.zero_add, Nat.reduceAdd, Nat.reduceLeDiff, Nat.le_refl]; done) | rfl) (at1B k2)) ?_
          refine l_eff (e_callV cal_78 (aC (et g0 rfl) aN) (isZero_spec (A * A % W256) _ (Nat.mod_lt _ (by decide)))) (fun v43 w43 h43 => ?_)
          obtain ⟨rfl, u43⟩ := h43
          replace k2 := k2.up u43
          replace k3 := k3.up u43
          replace k4 := k4.up u43
          replace k6 := k6.up u43
          replace U := U.tr u43
          replace V20 := V20.tr u43
          refine l_nil ?_
          refine hK42 _ _ ?_
          refine fg7 2 3 4 5 7 8 46 (gS rfl (gS rfl (gS rfl (gS rfl (gS rfl (gS rfl (gS rfl g0))))))) (gS rfl (gS rfl (gS rfl (gS rfl (gS rfl (gS rfl g0)))))) (gS rfl (gS rfl (gS rfl (gS rfl (gS rfl g0))))) (gS rfl (gS rfl (gS rfl (gS rfl g0)))) (gS rfl (gS rfl (gS rfl g0))) (gS rfl (gS rfl g0)) g0 (fun g => ?_)
          refine c_cond (et g0 rfl) (fun cB4 => ?_) (fun cB4 => ?_)
          · skip
            
            refine c_seq (fun K45 hK45 => ?_)
            refine c_region ?_
            refine l_step (y_bld bN bld65_z) ?_
            refine l_effN (e_store sz_65 (et (gS rfl (gS rfl (gS rfl (gS rfl (gS rfl g0))))) rfl) (cellsV (et g0 rfl) rfl) (by first | (simp only [Value.cells, hV, aV, bV, wV, wL, List.size_toArray, length_bL, length_uL, length_be, size_spl, List.length_cons, List.length_nil, List.length_replicate, Nat.zero_add, Nat.reduceAdd, Nat.reduceLeDiff, Nat.le_refl]; done) | rfl) (by first | exact one_bL _ | exact one_uL _ | (intro v hv; simp at hv; subst hv; rfl)) k4 (by first | (simp only [Value.cells, hV, aV, bV, wV, wL, List.size_toArray, length_bL, length_uL, length_be, size_spl, List.length_cons, List.length_nil, List.length_replicate, Nat.zero_add, Nat.reduceAdd, Nat.reduceLeDiff, Nat.le_refl]; done) | exact Nat.le_of_ble_eq_true rfl | simp | omega)) (fun v46 w46 h46 => ?_)
            obtain ⟨rfl, x46⟩ := h46
            replace k2 := k2.ch x46.ch (by omega)
            replace k3 := k3.ch x46.ch (by omega)
            replace k6 := k6.ch x46.ch (by omega)
            replace k4 := x46.blk.full (by first | (simp only [Value.cells, hV, aV, bV, wV, wL, List.size_toArray, length_bL, length_uL, length_be, size_spl, List.length_cons, List.length_nil, List.length_replicate, Nat.zero_add, Nat.reduceAdd, Nat.reduceLeDiff, Nat.le_refl]; done) | rfl)
            replace U := U.st x46 f4
            refine l_nil ?_
            refine hK45 _ _ ?_
            refine fg1 4 (gS rfl (gS rfl (gS rfl (gS rfl (gS rfl g0))))) (fun g => ?_)
            refine c_ret ?_
            refine hQ25 _ _ _ (in_ret ?_)
            refine hQ19 _ _ _ (in_ret ?_)
            refine ret1 rfl (res_blk agg_65 sz_65 (et g0 rfl) (by first | (simp only [Value.cells, hV, aV, bV, wV, wL, List.size_toArray, length_bL, length_uL, length_be, size_spl, List.length_cons, List.length_nil, List.length_replicate, Nat.zero_add, Nat.reduceAdd, Nat.reduceLeDiff, Nat.le_refl]; done) | rfl) k4) ?_
            refine ⟨?_, U⟩
            rw [exp_zero a b (j + 1) (Nat.le_trans (Nat.pow_le_pow_right (by decide) (by omega)) hbt.1) (by rw [← hAN]; exact of_decide_eq_true cB4)]
            rfl
          · skip
            
            refine c_skip ?_
            refine hQ25 _ _ _ (in_normal ?_)
            refine hK24 _ _ ?_
            refine fg6 2 3 4 5 7 8 (gS rfl (gS rfl (gS rfl (gS rfl (gS rfl (gS rfl g0)))))) (gS rfl (gS rfl (gS rfl (gS rfl (gS rfl g0))))) (gS rfl (gS rfl (gS rfl (gS rfl g0)))) (gS rfl (gS rfl (gS rfl g0))) (gS rfl (gS rfl g0)) (gS rfl g0) (fun g => ?_)
            refine c_region ?_
            refine l_step (y_moveV (et g0 rfl)) ?_
            refine l_step (y_add (et g0 rfl) rfl (wrap_i64 ?_ ?_)) ?_
            omega
            omega
            refine l_step (y_assignV (et g0 rfl)) ?_
            refine l_nil ?_
            refine fK6 2 3 4 5 7 8 (gS rfl (gS rfl (gS rfl (gS rfl (gS rfl (gS rfl (gS rfl (gS rfl g0)))))))) (gS rfl (gS rfl (gS rfl (gS rfl (gS rfl (gS rfl (gS rfl g0))))))) (gS rfl (gS rfl (gS rfl (gS rfl (gS rfl (gS rfl g0)))))) (gS rfl (gS rfl (gS rfl (gS rfl (gS rfl g0))))) (gS rfl (gS rfl (gS rfl (gS rfl g0)))) g0 (fun g => ?_)
            exact hK20 (64 * (n - 1) + bitLen (limb b (n - 1)) - 1 - (j + 1)) _ _ (by omega) ⟨g, j + 1, _, _, rfl, rfl, by omega, hpN, hAN, k6, k2, V20⟩
      · skip
        simp only [decide_eq_true_eq, decide_eq_false_iff_not, Int.not_lt, Int.not_le, Bool.not_eq_true', Bool.not_eq_false', Bool.not_eq_eq_eq_not, Bool.not_true, Bool.not_false] at cB2
        refine c_exit ?_
        refine hQ19 _ _ _ (in_exit ?_)
        refine hK17 _ _ ?_
        refine fg3 2 4 5 (gS rfl (gS rfl (gS rfl (gS rfl (gS rfl (gS rfl g0)))))) (gS rfl (gS rfl (gS rfl (gS rfl g0)))) (gS rfl (gS rfl (gS rfl g0))) (fun g => ?_)
        refine c_seq (fun K47 hK47 => ?_)
        refine c_region ?_
        refine l_step (y_loadB agg_65 sz_65 (et g0 rfl) (by first | (simp only [Value.cells, hV, aV, bV, wV, wL, List.size_toArray, length_bL, length_uL, length_be, size_spl, List.length_cons, List.length_nil, List.length_replicate, Nat.zero_add, Nat.reduceAdd, Nat.reduceLeDiff, Nat.le_refl]; done) | rfl) (at1B k6)) ?_
        refine l_step (y_loadB agg_65 sz_65 (et (gS rfl (gS rfl (gS rfl g0))) rfl) (by first | (simp only [Value.cells, hV, aV, bV, wV, wL, List.size_toArray, length_bL, length_uL, length_be, size_spl, List.length_cons, List.length_nil, List.length_replicate, Nat.zero_add, Nat.reduceAdd, Nat.reduceLeDiff, Nat.le_refl]; done) | rfl) (at1B k2)) ?_
        refine l_eff (e_callV cal_95 (aC (et (gS rfl g0) rfl) (aC (et g0 rfl) aN)) (mul_spec p A _ hpl hAl)) (fun v48 w48 h48 => ?_)
        obtain ⟨rfl, u48⟩ := h48
        replace k2 := k2.up u48
        replace k3 := k3.up u48
        replace k4 := k4.up u48
        replace k6 := k6.up u48
        replace U := U.tr u48
        refine l_effN (e_store sz_65 (et (gS rfl (gS rfl (gS rfl (gS rfl g0)))) rfl) (cellsV (et g0 rfl) rfl) (by first | (simp only [Value.cells, hV, aV, bV, wV, wL, List.size_toArray, length_bL, length_uL, length_be, size_spl, List.length_cons, List.length_nil, List.length_replicate, Nat.zero_add, Nat.reduceAdd, Nat.reduceLeDiff, Nat.le_refl]; done) | rfl) (by first | exact one_bL _ | exact one_uL _ | (intro v hv; simp at hv; subst hv; rfl)) k4 (by first | (simp only [Value.cells, hV, aV, bV, wV, wL, List.size_toArray, length_bL, length_uL, length_be, size_spl, List.length_cons, List.length_nil, List.length_replicate, Nat.zero_add, Nat.reduceAdd, Nat.reduceLeDiff, Nat.le_refl]; done) | exact Nat.le_of_ble_eq_true rfl | simp | omega)) (fun v49 w49 h49 => ?_)
        obtain ⟨rfl, x49⟩ := h49
        replace k2 := k2.ch x49.ch (by omega)
        replace k3 := k3.ch x49.ch (by omega)
        replace k6 := k6.ch x49.ch (by omega)
        replace k4 := x49.blk.full (by first | (simp only [Value.cells, hV, aV, bV, wV, wL, List.size_toArray, length_bL, length_uL, length_be, size_spl, List.length_cons, List.length_nil, List.length_replicate, Nat.zero_add, Nat.reduceAdd, Nat.reduceLeDiff, Nat.le_refl]; done) | rfl)
        replace U := U.st x49 f4
        refine l_nil ?_
        refine hK47 _ _ ?_
        refine fg1 4 (gS rfl (gS rfl (gS rfl (gS rfl g0)))) (fun g => ?_)
        refine c_ret ?_
        refine ret1 rfl (res_blk agg_65 sz_65 (et g0 rfl) (by first | (simp only [Value.cells, hV, aV, bV, wV, wL, List.size_toArray, length_bL, length_uL, length_be, size_spl, List.length_cons, List.length_nil, List.length_replicate, Nat.zero_add, Nat.reduceAdd, Nat.reduceLeDiff, Nat.le_refl]; done) | rfl) k4) ?_
        refine ⟨?_, U⟩
        have hje : bitLen b - 1 = j := by omega
        rw [hje] at hbt
        rw [exp_end a b j hbt.1 hbt.2, ← hp, ← hAA]
        rfl
end Go.Proofs.YgvaawGreat
