import Derived.Test.YgvaawGreatU7
set_option maxRecDepth 100000
set_option linter.unusedSimpArgs false
set_option linter.unusedVariables false
namespace Go.Proofs.YgvaawGreat
open Go
theorem limb_ofL (a b c d : Nat) (ha : a < 18446744073709551616) (hb : b < 18446744073709551616) (hc : c < 18446744073709551616) (hd : d < 18446744073709551616) : limb (ofL a b c d) 0 = a ∧ limb (ofL a b c d) 1 = b ∧ limb (ofL a b c d) 2 = c ∧ limb (ofL a b c d) 3 = d := by
  rw [limb0, limb1, limb2, limb3]
  unfold ofL
  refine ⟨?_, ?_, ?_, ?_⟩ <;> omega
/-- a word with the same limb above it four times -/
def exW (b f : Nat) : Nat := b + f * 726838724295606890588725814084399013568056387823382584169080752246511603091372492237802113163061087764664648150971191708372104835497984
theorem exW_limb (b f j : Nat) (hb : b < W256) (hf : f < 18446744073709551616) (hj : j < 8) : limb (exW b f) j = if j < 4 then limb b j else f := by
  split
  · rename_i h4
    have hj2 : j = 0 ∨ j = 1 ∨ j = 2 ∨ j = 3 := by omega
    unfold exW limb W256 at *
    rcases hj2 with rfl | rfl | rfl | rfl <;> simp only [Nat.reducePow, Nat.pow_zero] <;> omega
  · rename_i h4
    have h5 := limb_div (exW b f) 4 (j - 4)
    rw [show 4 + (j - 4) = j by omega] at h5
    have e : exW b f / 18446744073709551616 ^ 4 = ofL f f f f := by
      unfold exW ofL W256 at *
      rw [show (18446744073709551616 : Nat) ^ 4 = 115792089237316195423570985008687907853269984665640564039457584007913129639936 by decide]
      omega
    rw [← h5, e]
    have hj2 : j - 4 = 0 ∨ j - 4 = 1 ∨ j - 4 = 2 ∨ j - 4 = 3 := by omega
    obtain ⟨q0, q1, q2, q3⟩ := limb_ofL f f f f hf hf hf hf
    rcases hj2 with h | h | h | h <;> rw [h] <;> assumption
def eDown (a b f : Nat) : Nat := exW b f / 2 ^ (min a 256) % W256
theorem eDown_limb (s b f k : Nat) (hb : b < W256) (hf : f < 18446744073709551616) (hs : s < 256) (hk : k < 4) : limb (eDown s b f) k = limb (exW b f) (s / 64 + k) / 2 ^ (s % 64) + limb (exW b f) (s / 64 + k + 1) * 2 ^ (64 - s % 64) % 18446744073709551616 := by
  unfold eDown
  rw [Nat.min_eq_left (by omega), limb_mod _ _ hk]
  have e : 2 ^ s = 18446744073709551616 ^ (s / 64) * 2 ^ (s % 64) := by
    rw [show (18446744073709551616 : Nat) = 2 ^ 64 from rfl, ← Nat.pow_mul, ← Nat.pow_add, show 64 * (s / 64) + s % 64 = s by omega]
  rw [e, ← Nat.div_div_eq_div_mul, limb_down _ _ (by omega), limb_div, limb_div, Nat.add_assoc]
theorem rot_hi' {x k : Nat} (hk : k ≤ 64) : x * 2 ^ k % 18446744073709551616 % 2 ^ k = 0 := by
  have : (18446744073709551616 : Nat) = 2 ^ k * 2 ^ (64 - k) := by rw [← Nat.pow_add, show k + (64 - k) = 64 from by omega]
  rw [this, Nat.mod_mul_right_mod, Nat.mul_mod_left]
theorem rot_low' {x k : Nat} (hx : x < 18446744073709551616) (hk : k ≤ 64) : x / 2 ^ k < 2 ^ (64 - k) := by
  rw [Nat.div_lt_iff_lt_mul (Nat.two_pow_pos _), ← Nat.pow_add, show 64 - k + k = 64 from by omega]; exact hx
theorem fill_same (f r : Nat) (hf : f = 0 ∨ f = 18446744073709551615) (hr : r < 64) : f / 2 ^ r + f * 2 ^ (64 - r) % 18446744073709551616 = f := by
  have hB : (18446744073709551616 : Nat) = 2 ^ r * 2 ^ (64 - r) := by rw [← Nat.pow_add, show r + (64 - r) = 64 from by omega]
  rcases hf with rfl | rfl
  · simp
  · have h1 : 0 < 2 ^ r := Nat.two_pow_pos r
    have h2 : 0 < 2 ^ (64 - r) := Nat.two_pow_pos _
    have e1 : (18446744073709551615 : Nat) = 18446744073709551616 - 1 := rfl
    rw [e1, hB]
    generalize 2 ^ r = p at *
    generalize 2 ^ (64 - r) = t at *
    have e2 : (p * t - 1) / p = t - 1 := by
      have : p * t - 1 = p * (t - 1) + (p - 1) := by
        obtain ⟨t', rfl⟩ : ∃ t', t = t' + 1 := ⟨t - 1, by omega⟩
        rw [Nat.mul_succ]
        simp only [Nat.add_sub_cancel]
        omega
      rw [this, Nat.mul_add_div h1, Nat.div_eq_of_lt (by omega)]; omega
    have e3 : (p * t - 1) * t % (p * t) = p * t - t := by
      have h4 : t ≤ p * t := Nat.le_mul_of_pos_left t h1
      have : (p * t - 1) * t = (p * t) * (t - 1) + (p * t - t) := by
        obtain ⟨t', rfl⟩ : ∃ t', t = t' + 1 := ⟨t - 1, by omega⟩
        rw [Nat.sub_mul, Nat.one_mul, Nat.add_sub_cancel, Nat.mul_succ (p * (t' + 1))]
        omega
      rw [this, Nat.mul_add_mod]
      exact Nat.mod_eq_of_lt (by omega)
    rw [e2, e3]
    have h4 : t ≤ p * t := Nat.le_mul_of_pos_left t h1
    omega
theorem eDown_big (a b f : Nat) (hb : b < W256) (h : 256 ≤ a) : eDown a b f = ofL f f f f % W256 := by
  unfold eDown exW ofL; rw [Nat.min_eq_right h]; unfold W256 at *
  have : (2 : Nat) ^ 256 = 115792089237316195423570985008687907853269984665640564039457584007913129639936 := by decide
  rw [this]; omega
theorem down_spec (a b f0 : Nat) (w : World) (ha : a < W256) (hb : b < W256) (hff : f0 = 0 ∨ f0 = 18446744073709551615) :
    Ret 380 [wV a, wV b, .int .u64 f0] w (fun v w' => v = wV (eDown a b f0) ∧ Up w w') := by
  have hfl : f0 < 18446744073709551616 := by omega
  refine enter (n := 56) Hvaa.func380 rfl rfl (Nat.le_of_ble_eq_true rfl) ?_
  have U := Up.refl w
  refine c_seq (fun K1 hK1 => ?_)
  refine c_region ?_
  refine l_eff (e_boxV (et g0 rfl)) (fun v2 w2 h2 => ?_)
  obtain ⟨b2, rfl, n2⟩ := h2
  have f2 : w.heap.size ≤ b2 := Nat.le_trans U.size n2.fresh
  replace U := U.tr n2.up
  have k2 := n2.blk
  refine l_eff (e_boxV (et (gS rfl (gS rfl g0)) rfl)) (fun v3 w3 h3 => ?_)
  obtain ⟨b3, rfl, n3⟩ := h3
  have d2_3 : b2 < b3 := Nat.lt_of_lt_of_le k2.lt n3.fresh
  have f3 : w.heap.size ≤ b3 := Nat.le_trans U.size n3.fresh
  replace k2 := k2.up n3.up
  replace U := U.tr n3.up
  have k3 := n3.blk
  refine l_eff (e_alloc zr_65) (fun v4 w4 h4 => ?_)
  obtain ⟨b4, rfl, n4⟩ := h4
  have d2_4 : b2 < b4 := Nat.lt_of_lt_of_le k2.lt n4.fresh
  have d3_4 : b3 < b4 := Nat.lt_of_lt_of_le k3.lt n4.fresh
  have f4 : w.heap.size ≤ b4 := Nat.le_trans U.size n4.fresh
  replace k2 := k2.up n4.up
  replace k3 := k3.up n4.up
  replace U := U.tr n4.up
  have k4 := n4.blk
  refine l_nil ?_
  refine hK1 _ _ ?_
  refine fg4 2 3 4 6 (gS rfl (gS rfl (gS rfl (gS rfl (gS rfl g0))))) (gS rfl (gS rfl g0)) (gS rfl g0) g0 (fun g => ?_)
  refine c_seq (fun K5 hK5 => ?_)
  refine c_region ?_
  refine l_step (y_moveV (et (gS rfl (gS rfl (gS rfl g0))) rfl)) ?_
  refine l_step (y_moveV (et (gS rfl (gS rfl (gS rfl (gS rfl g0)))) rfl)) ?_
  refine l_step (y_moveV (et (gS rfl (gS rfl (gS rfl (gS rfl (gS rfl g0))))) rfl)) ?_
  refine l_step (y_moveV (et (gS rfl (gS rfl (gS rfl (gS rfl (gS rfl (gS rfl g0)))))) rfl)) ?_
  refine l_step (y_bld (bC (et (gS rfl (gS rfl (gS rfl g0))) rfl) (bC (et (gS rfl (gS rfl g0)) rfl) (bC (et (gS rfl g0) rfl) (bC (et g0 rfl) bN)))) (bld65_4 _ _ _ _)) ?_
  refine l_eff (e_alloc zr_65) (fun v6 w6 h6 => ?_)
  obtain ⟨b6, rfl, n6⟩ := h6
  have d2_6 : b2 < b6 := Nat.lt_of_lt_of_le k2.lt n6.fresh
  have d3_6 : b3 < b6 := Nat.lt_of_lt_of_le k3.lt n6.fresh
  have d4_6 : b4 < b6 := Nat.lt_of_lt_of_le k4.lt n6.fresh
  have f6 : w.heap.size ≤ b6 := Nat.le_trans U.size n6.fresh
  replace k2 := k2.up n6.up
  replace k3 := k3.up n6.up
  replace k4 := k4.up n6.up
  replace U := U.tr n6.up
  have k6 := n6.blk
  refine l_effN (e_store sz_65 (et g0 rfl) (cellsV (et (gS rfl g0) rfl) rfl) (by first | (simp only [Value.cells, hV, aV, bV, wV, wL, List.size_toArray, length_bL, length_uL, length_be, size_spl, List.length_cons, List.length_nil, List.length_replicate, Nat.zero_add, Nat.reduceAdd, Nat.reduceLeDiff, Nat.le_refl]; done) | rfl) (by first | exact one_bL _ | exact one_uL _ | (intro v hv; simp at hv; subst hv; rfl)) k6 (by first | (simp only [Value.cells, hV, aV, bV, wV, wL, List.size_toArray, length_bL, length_uL, length_be, size_spl, List.length_cons, List.length_nil, List.length_replicate, Nat.zero_add, Nat.reduceAdd, Nat.reduceLeDiff, Nat.le_refl]; done) | exact Nat.le_of_ble_eq_true rfl | simp | omega)) (fun v7 w7 h7 => ?_)
  obtain ⟨rfl, x7⟩ := h7
  replace k2 := k2.ch x7.ch (by omega)
  replace k3 := k3.ch x7.ch (by omega)
  replace k4 := k4.ch x7.ch (by omega)
  replace k6 := x7.blk.full (by first | (simp only [Value.cells, hV, aV, bV, wV, wL, List.size_toArray, length_bL, length_uL, length_be, size_spl, List.length_cons, List.length_nil, List.length_replicate, Nat.zero_add, Nat.reduceAdd, Nat.reduceLeDiff, Nat.le_refl]; done) | rfl)
  replace U := U.st x7 f6
  replace k6 : Blk w7 b6 (uF fun _ => f0) := k6
  refine l_nil ?_
  refine hK5 _ _ ?_
  refine fg5 2 3 4 6 7 (gS rfl (gS rfl (gS rfl (gS rfl (gS rfl (gS rfl (gS rfl (gS rfl (gS rfl g0))))))))) (gS rfl (gS rfl (gS rfl (gS rfl (gS rfl (gS rfl (gS rfl (gS rfl g0)))))))) (gS rfl (gS rfl (gS rfl (gS rfl (gS rfl (gS rfl (gS rfl g0))))))) (gS rfl (gS rfl (gS rfl (gS rfl (gS rfl (gS rfl g0)))))) g0 (fun g => ?_)
  refine c_seq (fun K8 hK8 => ?_)
  refine c_region ?_
  refine l_step (y_loadB agg_65 sz_65 (et (gS rfl (gS rfl (gS rfl g0))) rfl) (by first | (simp only [Value.cells, hV, aV, bV, wV, wL, List.size_toArray, length_bL, length_uL, length_be, size_spl, List.length_cons, List.length_nil, List.length_replicate, Nat.zero_add, Nat.reduceAdd, Nat.reduceLeDiff, Nat.le_refl]; done) | rfl) (at1B k2)) ?_
  refine l_eff (e_callV cal_378 (aC (et g0 rfl) (aC (v := .int .u64 ((256 : Nat) : Int)) rfl aN)) (below_spec _ _ _ (by assumption))) (fun v9 w9 h9 => ?_)
  obtain ⟨x9, rfl, hx9, u9⟩ := h9
  replace k2 := k2.up u9
  replace k3 := k3.up u9
  replace k4 := k4.up u9
  replace k6 := k6.up u9
  replace U := U.tr u9
  refine l_step (y_moveV (et g0 rfl)) ?_
  refine l_step (y_ext (et g0 rfl) rfl) ?_
  refine l_step (y_ext (et (gS rfl g0) rfl) rfl) ?_
  refine l_step (y_assignV (et (gS rfl g0) rfl)) ?_
  refine l_step (y_assignV (et (gS rfl g0) rfl)) ?_
  refine l_nil ?_
  refine hK8 _ _ ?_
  refine fg6 2 4 6 7 8 9 (gS rfl (gS rfl (gS rfl (gS rfl (gS rfl (gS rfl (gS rfl (gS rfl (gS rfl (gS rfl (gS rfl g0))))))))))) (gS rfl (gS rfl (gS rfl (gS rfl (gS rfl (gS rfl (gS rfl (gS rfl (gS rfl g0))))))))) (gS rfl (gS rfl (gS rfl (gS rfl (gS rfl (gS rfl (gS rfl (gS rfl g0)))))))) (gS rfl (gS rfl (gS rfl (gS rfl (gS rfl (gS rfl (gS rfl g0))))))) (gS rfl g0) g0 (fun g => ?_)
  refine c_seq (fun K10 hK10 => ?_)
  refine c_seq (fun K11 hK11 => ?_)
  refine c_region ?_
  refine l_step (y_moveV (et g0 rfl)) ?_
  refine l_step (y_not (et g0 rfl)) ?_
  refine l_nil ?_
  refine hK11 _ _ ?_
  refine fg6 2 4 6 7 8 23 (gS rfl (gS rfl (gS rfl (gS rfl (gS rfl (gS rfl (gS rfl g0))))))) (gS rfl (gS rfl (gS rfl (gS rfl (gS rfl (gS rfl g0)))))) (gS rfl (gS rfl (gS rfl (gS rfl (gS rfl g0))))) (gS rfl (gS rfl (gS rfl (gS rfl g0)))) (gS rfl (gS rfl (gS rfl g0))) g0 (fun g => ?_)
  refine c_cond (et g0 rfl) (fun cB1 => ?_) (fun cB1 => ?_)
  · skip
    
    have hA : ¬ (a < 18446744073709551616 ∧ a < 256) := by simp at cB1; omega
    refine c_seq (fun K13 hK13 => ?_)
    refine c_region ?_
    refine l_step (y_loadB agg_65 sz_65 (et (gS rfl (gS rfl g0)) rfl) (by first | (simp only [Value.cells, hV, aV, bV, wV, wL, List.size_toArray, length_bL, length_uL, length_be, size_spl, List.length_cons, List.length_nil, List.length_replicate, Nat.zero_add, Nat.reduceAdd, Nat.reduceLeDiff, Nat.le_refl]; done) | rfl) (at1B k6)) ?_
    refine l_effN (e_store sz_65 (et (gS rfl (gS rfl (gS rfl (gS rfl g0)))) rfl) (cellsV (et g0 rfl) rfl) (by first | (simp only [Value.cells, hV, aV, bV, wV, wL, List.size_toArray, length_bL, length_uL, length_be, size_spl, List.length_cons, List.length_nil, List.length_replicate, Nat.zero_add, Nat.reduceAdd, Nat.reduceLeDiff, Nat.le_refl]; done) | rfl) (by first | exact one_bL _ | exact one_uL _ | (intro v hv; simp at hv; subst hv; rfl)) k4 (by first | (simp only [Value.cells, hV, aV, bV, wV, wL, List.size_toArray, length_bL, length_uL, length_be, size_spl, List.length_cons, List.length_nil, List.length_replicate, Nat.zero_add, Nat.reduceAdd, Nat.reduceLeDiff, Nat.le_refl]; done) | exact Nat.le_of_ble_eq_true rfl | simp | omega)) (fun v14 w14 h14 => ?_)
    obtain ⟨rfl, x14⟩ := h14
    replace k2 := k2.ch x14.ch (by omega)
    replace k3 := k3.ch x14.ch (by omega)
    replace k6 := k6.ch x14.ch (by omega)
    replace k4 := x14.blk.full (by first | (simp only [Value.cells, hV, aV, bV, wV, wL, List.size_toArray, length_bL, length_uL, length_be, size_spl, List.length_cons, List.length_nil, List.length_replicate, Nat.zero_add, Nat.reduceAdd, Nat.reduceLeDiff, Nat.le_refl]; done) | rfl)
    replace U := U.st x14 f4
    refine l_nil ?_
    refine hK13 _ _ ?_
    refine fg1 6 (gS rfl (gS rfl (gS rfl (gS rfl g0)))) (fun g => ?_)
    refine c_ret ?_
    refine ret1 rfl (res_blk agg_65 sz_65 (et g0 rfl) (by first | (simp only [Value.cells, hV, aV, bV, wV, wL, List.size_toArray, length_bL, length_uL, length_be, size_spl, List.length_cons, List.length_nil, List.length_replicate, Nat.zero_add, Nat.reduceAdd, Nat.reduceLeDiff, Nat.le_refl]; done) | rfl) k4) ?_
    refine ⟨?_, U⟩
    rw [eDown_big a b f0 hb (by omega)]
    exact wV_of _ _ _ _ _ hfl hfl hfl hfl (Nat.mod_eq_of_lt (ofL_lt _ _ _ _ hfl hfl hfl hfl)).symm
  · skip
    
    have hA : a < 18446744073709551616 ∧ a < 256 := by simpa using cB1
    have hxa := hx9 hA.1
    subst hxa
    refine c_skip ?_
    refine hK10 _ _ ?_
    refine fg5 2 4 6 7 8 (gS rfl (gS rfl (gS rfl (gS rfl (gS rfl g0))))) (gS rfl (gS rfl (gS rfl (gS rfl g0)))) (gS rfl (gS rfl (gS rfl g0))) (gS rfl (gS rfl g0)) (gS rfl g0) (fun g => ?_)
    refine c_seq (fun K15 hK15 => ?_)
    refine c_seq (fun K16 hK16 => ?_)
    refine c_region ?_
    refine l_step (y_moveV (et g0 rfl)) ?_
    refine l_step (y_quo (et g0 rfl) rfl (by decide) (quoU (b := 64) uk64 ?_)) ?_
    omega
    refine l_step (y_assignV (et g0 rfl)) ?_
    refine l_nil ?_
    refine hK16 _ _ ?_
    refine fg6 2 4 6 7 8 10 (gS rfl (gS rfl (gS rfl (gS rfl (gS rfl (gS rfl (gS rfl g0))))))) (gS rfl (gS rfl (gS rfl (gS rfl (gS rfl (gS rfl g0)))))) (gS rfl (gS rfl (gS rfl (gS rfl (gS rfl g0))))) (gS rfl (gS rfl (gS rfl (gS rfl g0)))) (gS rfl (gS rfl (gS rfl g0))) g0 (fun g => ?_)
    refine c_block (fun Q17 hQ17 => ?_)
    refine fg6 2 4 6 7 8 10 (gS rfl (gS rfl (gS rfl (gS rfl (gS rfl g0))))) (gS rfl (gS rfl (gS rfl (gS rfl g0)))) (gS rfl (gS rfl (gS rfl g0))) (gS rfl (gS rfl g0)) (gS rfl g0) g0 (fun g => ?_)
    refine c_loop (fun k s W18 => ∃ (g : Nat → Value) (i : Nat) (f : Nat → Nat), s = (upd (upd (upd (upd (upd (upd g 2 (.int .u64 (f0 : Nat))) 4 (.pointer (some ⟨b3, 0, none⟩))) 6 (.pointer (some ⟨b4, 0, none⟩))) 7 (.pointer (some ⟨b6, 0, none⟩))) 8 (.int .u64 (x9 : Nat))) 10 (.int .u64 (i : Nat))) ∧ 4 - i = k ∧ (x9 / 64 ≤ i) ∧ (i ≤ 4) ∧ (∀ j, j < 4 → f j = if j < i - x9 / 64 then limb (eDown x9 b f0) j else f0) ∧ Blk W18 b6 (uF f) ∧ Ch (fun k => k = b6) w9 W18) (4 - (x9 / 64)) ?_ ?_
    · exact ⟨g, x9 / 64, fun _ => f0, rfl, rfl, Nat.le_refl _, by omega, fun j hj => by rw [if_neg (by omega)], k6, Ch.refl _ _⟩
    · skip
      intro k s W18 hI K18 hK18
      obtain ⟨g, i, f, rfl, rfl, hq, hi4, hf, nk6, V18⟩ := hI
      replace k2 := k2.ch V18 (by omega)
      replace k3 := k3.ch V18 (by omega)
      replace k4 := k4.ch V18 (by omega)
      replace k6 := nk6
      replace U := U.cc V18 (by intro b hb; first | omega | (simp at hb ⊢; omega))
      refine c_seq (fun K19 hK19 => ?_)
      refine c_seq (fun K20 hK20 => ?_)
      refine c_region ?_
      refine l_step (y_moveV (et g0 rfl)) ?_
      refine l_step (y_lss (et g0 rfl) rfl) ?_
      refine l_nil ?_
      refine hK20 _ _ ?_
      refine fg7 2 4 6 7 8 10 28 (gS rfl (gS rfl (gS rfl (gS rfl (gS rfl (gS rfl (gS rfl g0))))))) (gS rfl (gS rfl (gS rfl (gS rfl (gS rfl (gS rfl g0)))))) (gS rfl (gS rfl (gS rfl (gS rfl (gS rfl g0))))) (gS rfl (gS rfl (gS rfl (gS rfl g0)))) (gS rfl (gS rfl (gS rfl g0))) (gS rfl (gS rfl g0)) g0 (fun g => ?_)
      refine c_cond (et g0 rfl) (fun cB2 => ?_) (fun cB2 => ?_)
      · skip
        simp only [decide_eq_true_eq, decide_eq_false_iff_not, Int.not_lt, Int.not_le, Bool.not_eq_true', Bool.not_eq_false', Bool.not_eq_eq_eq_not, Bool.not_true, Bool.not_false] at cB2
        refine c_skip ?_
        refine hK19 _ _ ?_
        refine fg6 2 4 6 7 8 10 (gS rfl (gS rfl (gS rfl (gS rfl (gS rfl (gS rfl g0)))))) (gS rfl (gS rfl (gS rfl (gS rfl (gS rfl g0))))) (gS rfl (gS rfl (gS rfl (gS rfl g0)))) (gS rfl (gS rfl (gS rfl g0))) (gS rfl (gS rfl g0)) (gS rfl g0) (fun g => ?_)
        refine c_seq (fun K22 hK22 => ?_)
        refine c_block (fun Q23 hQ23 => ?_)
        refine c_seq (fun K24 hK24 => ?_)
        refine c_region ?_
        refine l_step (y_moveV (et (gS rfl (gS rfl (gS rfl (gS rfl (gS rfl g0))))) rfl)) ?_
        refine l_step (y_assignV (et g0 rfl)) ?_
        refine l_nil ?_
        refine hK24 _ _ ?_
        refine fg7 2 4 6 7 8 10 11 (gS rfl (gS rfl (gS rfl (gS rfl (gS rfl (gS rfl (gS rfl g0))))))) (gS rfl (gS rfl (gS rfl (gS rfl (gS rfl (gS rfl g0)))))) (gS rfl (gS rfl (gS rfl (gS rfl (gS rfl g0))))) (gS rfl (gS rfl (gS rfl (gS rfl g0)))) (gS rfl (gS rfl (gS rfl g0))) (gS rfl (gS rfl g0)) g0 (fun g => ?_)
        refine c_seq (fun K25 hK25 => ?_)
        refine c_seq (fun K26 hK26 => ?_)
        refine c_region ?_
        refine l_step (y_moveV (et (gS rfl g0) rfl)) ?_
        refine l_step (y_lss (et g0 rfl) rfl) ?_
        refine l_nil ?_
        refine hK26 _ _ ?_
        refine fg8 2 4 6 7 8 10 11 33 (gS rfl (gS rfl (gS rfl (gS rfl (gS rfl (gS rfl (gS rfl (gS rfl g0)))))))) (gS rfl (gS rfl (gS rfl (gS rfl (gS rfl (gS rfl (gS rfl g0))))))) (gS rfl (gS rfl (gS rfl (gS rfl (gS rfl (gS rfl g0)))))) (gS rfl (gS rfl (gS rfl (gS rfl (gS rfl g0))))) (gS rfl (gS rfl (gS rfl (gS rfl g0)))) (gS rfl (gS rfl (gS rfl g0))) (gS rfl (gS rfl g0)) g0 (fun g => ?_)
        refine c_cond (et g0 rfl) (fun cB3 => ?_) (fun cB3 => ?_)
        · skip
          simp only [decide_eq_true_eq, decide_eq_false_iff_not, Int.not_lt, Int.not_le, Bool.not_eq_true', Bool.not_eq_false', Bool.not_eq_eq_eq_not, Bool.not_true, Bool.not_false] at cB3
          have hab : i < 3 := by have := cB3; omega
          refine c_region ?_
          refine l_step (y_moveV (et (gS rfl (gS rfl g0)) rfl)) ?_
          refine l_step (y_add (et g0 rfl) rfl (wrapU_addN (b := 1) uk64 ?_)) ?_
          omega
          refine l_step (y_idxA Hvaa.underlying65 sz_26 (et (gS rfl (gS rfl (gS rfl (gS rfl (gS rfl (gS rfl (gS rfl (gS rfl g0)))))))) rfl) (et g0 rfl) ?_ ?_) ?_
          omega
          omega
          refine l_step (y_load1 one_26 (et g0 rfl) (at1 (k3.cell (wV_getE b _ (i + 1) (by omega) (by omega))))) ?_
          refine l_step (y_assignV (et g0 rfl)) ?_
          refine l_nil ?_
          refine hK25 _ _ ?_
          refine fg7 2 4 6 7 8 10 11 (gS rfl (gS rfl (gS rfl (gS rfl (gS rfl (gS rfl (gS rfl (gS rfl (gS rfl (gS rfl (gS rfl (gS rfl g0)))))))))))) (gS rfl (gS rfl (gS rfl (gS rfl (gS rfl (gS rfl (gS rfl (gS rfl (gS rfl (gS rfl (gS rfl g0))))))))))) (gS rfl (gS rfl (gS rfl (gS rfl (gS rfl (gS rfl (gS rfl (gS rfl (gS rfl (gS rfl g0)))))))))) (gS rfl (gS rfl (gS rfl (gS rfl (gS rfl (gS rfl (gS rfl (gS rfl (gS rfl g0))))))))) (gS rfl (gS rfl (gS rfl (gS rfl (gS rfl (gS rfl (gS rfl (gS rfl g0)))))))) (gS rfl (gS rfl (gS rfl (gS rfl (gS rfl (gS rfl (gS rfl g0))))))) g0 (fun g => ?_)
          refine c_region ?_
          refine l_step (y_moveV (et (gS rfl g0) rfl)) ?_
          refine l_step (y_moveV (et (gS rfl (gS rfl (gS rfl g0))) rfl)) ?_
          refine l_step (y_quo (et g0 rfl) rfl (by decide) (quoU (b := 64) uk64 ?_)) ?_
          omega
          refine l_step (y_sub (et (gS rfl (gS rfl g0)) rfl) (et g0 rfl) (wrapU_subN uk64 ?_ ?_)) ?_
          omega
          omega
          refine l_step (y_moveV (et (gS rfl (gS rfl (gS rfl (gS rfl (gS rfl g0))))) rfl)) ?_
          refine l_step (y_idxA Hvaa.underlying65 sz_26 (et (gS rfl (gS rfl (gS rfl (gS rfl (gS rfl (gS rfl (gS rfl (gS rfl (gS rfl (gS rfl g0)))))))))) rfl) (et g0 rfl) ?_ ?_) ?_
          omega
          omega
          refine l_step (y_load1 one_26 (et g0 rfl) (at1 (k3.cell (wV_getE b _ i (by omega) (by omega))))) ?_
          refine l_step (y_moveV (et (gS rfl (gS rfl (gS rfl (gS rfl (gS rfl (gS rfl (gS rfl (gS rfl (gS rfl g0))))))))) rfl)) ?_
          refine l_step (y_rem (et g0 rfl) rfl (by decide) (remN (b := 64))) ?_
          refine l_step (y_shr (et (gS rfl (gS rfl g0)) rfl) (et g0 rfl) ?_ (shrV ?_)) ?_
          omega
          omega
          refine l_step (y_moveV (et (gS rfl (gS rfl (gS rfl (gS rfl (gS rfl (gS rfl (gS rfl (gS rfl (gS rfl (gS rfl g0)))))))))) rfl)) ?_
          refine l_step (y_moveV (et (gS rfl (gS rfl (gS rfl (gS rfl (gS rfl (gS rfl (gS rfl (gS rfl (gS rfl (gS rfl (gS rfl (gS rfl (gS rfl g0))))))))))))) rfl)) ?_
          refine l_step (y_rem (et g0 rfl) rfl (by decide) (remN (b := 64))) ?_
          refine l_step (y_sub rfl (et g0 rfl) (wrapU_subN (a := 64) uk64 ?_ ?_)) ?_
          omega
          omega
          refine l_step (y_shl (et (gS rfl (gS rfl (gS rfl g0))) rfl) (et g0 rfl) ?_ (shlV ?_)) ?_
          omega
          omega
          refine l_step (y_orS (64 - x9 % 64) uk64 (et (gS rfl (gS rfl (gS rfl (gS rfl (gS rfl g0))))) rfl) (et g0 rfl) ?_ ?_ ?_ ?_) ?_
          exact rot_low' (limb_lt _ _) (by omega)
          exact rot_hi' (by omega)
          exact Nat.mod_lt _ (by decide)
          exact Nat.lt_of_le_of_lt (Nat.div_le_self _ _) (limb_lt _ _)
          refine l_step (y_idxA Hvaa.underlying65 sz_26 (et (gS rfl (gS rfl (gS rfl (gS rfl (gS rfl (gS rfl (gS rfl (gS rfl (gS rfl (gS rfl (gS rfl (gS rfl (gS rfl (gS rfl (gS rfl (gS rfl (gS rfl (gS rfl (gS rfl g0))))))))))))))))))) rfl) (et (gS rfl (gS rfl (gS rfl (gS rfl (gS rfl (gS rfl (gS rfl (gS rfl (gS rfl (gS rfl (gS rfl (gS rfl g0)))))))))))) rfl) ?_ ?_) ?_
          omega
          omega
          refine l_effN (e_store sz_26 (et g0 rfl) (cellsV (et (gS rfl g0) rfl) rfl) rfl (by first | exact one_bL _ | exact one_uL _ | (intro v hv; simp at hv; subst hv; rfl)) k6 (by simp only [uF_size, List.length_singleton]; omega)) (fun v28 w28 h28 => ?_)
          obtain ⟨rfl, x28⟩ := h28
          replace k2 := k2.ch x28.ch (by omega)
          replace k3 := k3.ch x28.ch (by omega)
          replace k4 := k4.ch x28.ch (by omega)
          replace k6 := x28.blk
          replace U := U.st x28 f6
          replace V18 := V18.st x28 (by omega)
          obtain ⟨f2, hf2, k6⟩ := k6.setF (i := i - x9 / 64) (by omega) (by omega)
          have hfN : ∀ j, j < 4 → f2 j = if j < i + 1 - x9 / 64 then limb (eDown x9 b f0) j else f0 := by
            intro j hj
            rw [hf2]
            by_cases hji : j = i - x9 / 64
            · subst hji
              rw [if_pos rfl, if_pos (by omega), eDown_limb _ _ _ _ hb hfl hA.2 hj, show x9 / 64 + (i - x9 / 64) = i by omega, exW_limb _ _ _ hb hfl (by omega), exW_limb _ _ _ hb hfl (by omega), if_pos (by omega)]
              first
                | (rw [if_pos (show i + 1 < 4 by omega)]; done)
                | (rw [if_neg (show ¬ i + 1 < 4 by omega)]; done)
            · rw [if_neg hji, hf j hj]
              by_cases h9 : j < i - x9 / 64
              · rw [if_pos h9, if_pos (by omega)]
              · rw [if_neg h9, if_neg (by omega)]
          refine l_nil ?_
          refine hQ23 _ _ _ (in_normal ?_)
          refine hK22 _ _ ?_
          refine fg6 2 4 6 7 8 10 (gS rfl (gS rfl (gS rfl (gS rfl (gS rfl (gS rfl (gS rfl (gS rfl (gS rfl (gS rfl (gS rfl (gS rfl (gS rfl (gS rfl (gS rfl (gS rfl (gS rfl (gS rfl (gS rfl (gS rfl (gS rfl (gS rfl (gS rfl g0))))))))))))))))))))))) (gS rfl (gS rfl (gS rfl (gS rfl (gS rfl (gS rfl (gS rfl (gS rfl (gS rfl (gS rfl (gS rfl (gS rfl (gS rfl (gS rfl (gS rfl (gS rfl (gS rfl (gS rfl (gS rfl (gS rfl (gS rfl (gS rfl g0)))))))))))))))))))))) (gS rfl (gS rfl (gS rfl (gS rfl (gS rfl (gS rfl (gS rfl (gS rfl (gS rfl (gS rfl (gS rfl (gS rfl (gS rfl (gS rfl (gS rfl (gS rfl (gS rfl (gS rfl (gS rfl (gS rfl (gS rfl g0))))))))))))))))))))) (gS rfl (gS rfl (gS rfl (gS rfl (gS rfl (gS rfl (gS rfl (gS rfl (gS rfl (gS rfl (gS rfl (gS rfl (gS rfl (gS rfl (gS rfl (gS rfl (gS rfl (gS rfl (gS rfl (gS rfl g0)))))))))))))))))))) (gS rfl (gS rfl (gS rfl (gS rfl (gS rfl (gS rfl (gS rfl (gS rfl (gS rfl (gS rfl (gS rfl (gS rfl (gS rfl (gS rfl (gS rfl (gS rfl (gS rfl (gS rfl (gS rfl g0))))))))))))))))))) (gS rfl (gS rfl (gS rfl (gS rfl (gS rfl (gS rfl (gS rfl (gS rfl (gS rfl (gS rfl (gS rfl (gS rfl (gS rfl (gS rfl (gS rfl (gS rfl (gS rfl (gS rfl g0)))))))))))))))))) (fun g => ?_)
          refine c_region ?_
          refine l_step (y_moveV (et g0 rfl)) ?_
          refine l_step (y_add (et g0 rfl) rfl (wrapU_addN (b := 1) uk64 ?_)) ?_
          omega
          refine l_step (y_assignV (et g0 rfl)) ?_
          refine l_nil ?_
          refine fK6 2 4 6 7 8 10 (gS rfl (gS rfl (gS rfl (gS rfl (gS rfl (gS rfl (gS rfl (gS rfl g0)))))))) (gS rfl (gS rfl (gS rfl (gS rfl (gS rfl (gS rfl (gS rfl g0))))))) (gS rfl (gS rfl (gS rfl (gS rfl (gS rfl (gS rfl g0)))))) (gS rfl (gS rfl (gS rfl (gS rfl (gS rfl g0))))) (gS rfl (gS rfl (gS rfl (gS rfl g0)))) g0 (fun g => ?_)
          exact hK18 (4 - (i + 1)) _ _ (by omega) ⟨g, i + 1, _, rfl, rfl, by omega, by omega, hfN, k6, V18⟩
        · skip
          simp only [decide_eq_true_eq, decide_eq_false_iff_not, Int.not_lt, Int.not_le, Bool.not_eq_true', Bool.not_eq_false', Bool.not_eq_eq_eq_not, Bool.not_true, Bool.not_false] at cB3
          have hab : i = 3 := by omega
          refine c_skip ?_
          refine hK25 _ _ ?_
          refine fg7 2 4 6 7 8 10 11 (gS rfl (gS rfl (gS rfl (gS rfl (gS rfl (gS rfl (gS rfl g0))))))) (gS rfl (gS rfl (gS rfl (gS rfl (gS rfl (gS rfl g0)))))) (gS rfl (gS rfl (gS rfl (gS rfl (gS rfl g0))))) (gS rfl (gS rfl (gS rfl (gS rfl g0)))) (gS rfl (gS rfl (gS rfl g0))) (gS rfl (gS rfl g0)) (gS rfl g0) (fun g => ?_)
          refine c_region ?_
          refine l_step (y_moveV (et (gS rfl g0) rfl)) ?_
          refine l_step (y_moveV (et (gS rfl (gS rfl (gS rfl g0))) rfl)) ?_
          refine l_step (y_quo (et g0 rfl) rfl (by decide) (quoU (b := 64) uk64 ?_)) ?_
          omega
          refine l_step (y_sub (et (gS rfl (gS rfl g0)) rfl) (et g0 rfl) (wrapU_subN uk64 ?_ ?_)) ?_
          omega
          omega
          refine l_step (y_moveV (et (gS rfl (gS rfl (gS rfl (gS rfl (gS rfl g0))))) rfl)) ?_
          refine l_step (y_idxA Hvaa.underlying65 sz_26 (et (gS rfl (gS rfl (gS rfl (gS rfl (gS rfl (gS rfl (gS rfl (gS rfl (gS rfl (gS rfl g0)))))))))) rfl) (et g0 rfl) ?_ ?_) ?_
          omega
          omega
          refine l_step (y_load1 one_26 (et g0 rfl) (at1 (k3.cell (wV_getE b _ i (by omega) (by omega))))) ?_
          refine l_step (y_moveV (et (gS rfl (gS rfl (gS rfl (gS rfl (gS rfl (gS rfl (gS rfl (gS rfl (gS rfl g0))))))))) rfl)) ?_
          refine l_step (y_rem (et g0 rfl) rfl (by decide) (remN (b := 64))) ?_
          refine l_step (y_shr (et (gS rfl (gS rfl g0)) rfl) (et g0 rfl) ?_ (shrV ?_)) ?_
          omega
          omega
          refine l_step (y_moveV (et (gS rfl (gS rfl (gS rfl (gS rfl (gS rfl (gS rfl (gS rfl (gS rfl (gS rfl (gS rfl g0)))))))))) rfl)) ?_
          refine l_step (y_moveV (et (gS rfl (gS rfl (gS rfl (gS rfl (gS rfl (gS rfl (gS rfl (gS rfl (gS rfl (gS rfl (gS rfl (gS rfl (gS rfl g0))))))))))))) rfl)) ?_
          refine l_step (y_rem (et g0 rfl) rfl (by decide) (remN (b := 64))) ?_
          refine l_step (y_sub rfl (et g0 rfl) (wrapU_subN (a := 64) uk64 ?_ ?_)) ?_
          omega
          omega
          refine l_step (y_shl (et (gS rfl (gS rfl (gS rfl g0))) rfl) (et g0 rfl) ?_ (shlV ?_)) ?_
          omega
          omega
          refine l_step (y_orS (64 - x9 % 64) uk64 (et (gS rfl (gS rfl (gS rfl (gS rfl (gS rfl g0))))) rfl) (et g0 rfl) ?_ ?_ ?_ ?_) ?_
          exact rot_low' (limb_lt _ _) (by omega)
          exact rot_hi' (by omega)
          exact Nat.mod_lt _ (by decide)
          exact Nat.lt_of_le_of_lt (Nat.div_le_self _ _) (limb_lt _ _)
          refine l_step (y_idxA Hvaa.underlying65 sz_26 (et (gS rfl (gS rfl (gS rfl (gS rfl (gS rfl (gS rfl (gS rfl (gS rfl (gS rfl (gS rfl (gS rfl (gS rfl (gS rfl (gS rfl (gS rfl (gS rfl (gS rfl (gS rfl (gS rfl g0))))))))))))))))))) rfl) (et (gS rfl (gS rfl (gS rfl (gS rfl (gS rfl (gS rfl (gS rfl (gS rfl (gS rfl (gS rfl (gS rfl (gS rfl g0)))))))))))) rfl) ?_ ?_) ?_
          omega
          omega
          refine l_effN (e_store sz_26 (et g0 rfl) (cellsV (et (gS rfl g0) rfl) rfl) rfl (by first | exact one_bL _ | exact one_uL _ | (intro v hv; simp at hv; subst hv; rfl)) k6 (by simp only [uF_size, List.length_singleton]; omega)) (fun v29 w29 h29 => ?_)
          obtain ⟨rfl, x29⟩ := h29
          replace k2 := k2.ch x29.ch (by omega)
          replace k3 := k3.ch x29.ch (by omega)
          replace k4 := k4.ch x29.ch (by omega)
          replace k6 := x29.blk
          replace U := U.st x29 f6
          replace V18 := V18.st x29 (by omega)
          obtain ⟨f2, hf2, k6⟩ := k6.setF (i := i - x9 / 64) (by omega) (by omega)
          have hfN : ∀ j, j < 4 → f2 j = if j < i + 1 - x9 / 64 then limb (eDown x9 b f0) j else f0 := by
            intro j hj
            rw [hf2]
            by_cases hji : j = i - x9 / 64
            · subst hji
              rw [if_pos rfl, if_pos (by omega), eDown_limb _ _ _ _ hb hfl hA.2 hj, show x9 / 64 + (i - x9 / 64) = i by omega, exW_limb _ _ _ hb hfl (by omega), exW_limb _ _ _ hb hfl (by omega), if_pos (by omega)]
              first
                | (rw [if_pos (show i + 1 < 4 by omega)]; done)
                | (rw [if_neg (show ¬ i + 1 < 4 by omega)]; done)
            · rw [if_neg hji, hf j hj]
              by_cases h9 : j < i - x9 / 64
              · rw [if_pos h9, if_pos (by omega)]
              · rw [if_neg h9, if_neg (by omega)]
          refine l_nil ?_
          refine hQ23 _ _ _ (in_normal ?_)
          refine hK22 _ _ ?_
          refine fg6 2 4 6 7 8 10 (gS rfl (gS rfl (gS rfl (gS rfl (gS rfl (gS rfl (gS rfl (gS rfl (gS rfl (gS rfl (gS rfl (gS rfl (gS rfl (gS rfl (gS rfl (gS rfl (gS rfl (gS rfl (gS rfl (gS rfl (gS rfl (gS rfl (gS rfl g0))))))))))))))))))))))) (gS rfl (gS rfl (gS rfl (gS rfl (gS rfl (gS rfl (gS rfl (gS rfl (gS rfl (gS rfl (gS rfl (gS rfl (gS rfl (gS rfl (gS rfl (gS rfl (gS rfl (gS rfl (gS rfl (gS rfl (gS rfl (gS rfl g0)))))))))))))))))))))) (gS rfl (gS rfl (gS rfl (gS rfl (gS rfl (gS rfl (gS rfl (gS rfl (gS rfl (gS rfl (gS rfl (gS rfl (gS rfl (gS rfl (gS rfl (gS rfl (gS rfl (gS rfl (gS rfl (gS rfl (gS rfl g0))))))))))))))))))))) (gS rfl (gS rfl (gS rfl (gS rfl (gS rfl (gS rfl (gS rfl (gS rfl (gS rfl (gS rfl (gS rfl (gS rfl (gS rfl (gS rfl (gS rfl (gS rfl (gS rfl (gS rfl (gS rfl (gS rfl g0)))))))))))))))))))) (gS rfl (gS rfl (gS rfl (gS rfl (gS rfl (gS rfl (gS rfl (gS rfl (gS rfl (gS rfl (gS rfl (gS rfl (gS rfl (gS rfl (gS rfl (gS rfl (gS rfl (gS rfl (gS rfl g0))))))))))))))))))) (gS rfl (gS rfl (gS rfl (gS rfl (gS rfl (gS rfl (gS rfl (gS rfl (gS rfl (gS rfl (gS rfl (gS rfl (gS rfl (gS rfl (gS rfl (gS rfl (gS rfl (gS rfl g0)))))))))))))))))) (fun g => ?_)
          refine c_region ?_
          refine l_step (y_moveV (et g0 rfl)) ?_
          refine l_step (y_add (et g0 rfl) rfl (wrapU_addN (b := 1) uk64 ?_)) ?_
          omega
          refine l_step (y_assignV (et g0 rfl)) ?_
          refine l_nil ?_
          refine fK6 2 4 6 7 8 10 (gS rfl (gS rfl (gS rfl (gS rfl (gS rfl (gS rfl (gS rfl (gS rfl g0)))))))) (gS rfl (gS rfl (gS rfl (gS rfl (gS rfl (gS rfl (gS rfl g0))))))) (gS rfl (gS rfl (gS rfl (gS rfl (gS rfl (gS rfl g0)))))) (gS rfl (gS rfl (gS rfl (gS rfl (gS rfl g0))))) (gS rfl (gS rfl (gS rfl (gS rfl g0)))) g0 (fun g => ?_)
          exact hK18 (4 - (i + 1)) _ _ (by omega) ⟨g, i + 1, _, rfl, rfl, by omega, by omega, hfN, k6, V18⟩
      · skip
        simp only [decide_eq_true_eq, decide_eq_false_iff_not, Int.not_lt, Int.not_le, Bool.not_eq_true', Bool.not_eq_false', Bool.not_eq_eq_eq_not, Bool.not_true, Bool.not_false] at cB2
        refine c_exit ?_
        refine hQ17 _ _ _ (in_exit ?_)
        refine hK15 _ _ ?_
        refine fg2 6 7 (gS rfl (gS rfl (gS rfl (gS rfl g0)))) (gS rfl (gS rfl (gS rfl g0))) (fun g => ?_)
        refine c_seq (fun K30 hK30 => ?_)
        refine c_region ?_
        refine l_step (y_loadB agg_65 sz_65 (et g0 rfl) rfl (at1B k6)) ?_
        refine l_effN (e_store sz_65 (et (gS rfl (gS rfl g0)) rfl) (cellsV (et g0 rfl) rfl) (by first | (simp only [Value.cells, hV, aV, bV, wV, wL, List.size_toArray, length_bL, length_uL, length_be, size_spl, List.length_cons, List.length_nil, List.length_replicate, Nat.zero_add, Nat.reduceAdd, Nat.reduceLeDiff, Nat.le_refl]; done) | rfl) (by first | exact one_bL _ | exact one_uL _ | (intro v hv; simp at hv; subst hv; rfl)) k4 (by first | (simp only [Value.cells, hV, aV, bV, wV, wL, List.size_toArray, length_bL, length_uL, length_be, size_spl, List.length_cons, List.length_nil, List.length_replicate, Nat.zero_add, Nat.reduceAdd, Nat.reduceLeDiff, Nat.le_refl]; done) | exact Nat.le_of_ble_eq_true rfl | simp | omega)) (fun v31 w31 h31 => ?_)
        obtain ⟨rfl, x31⟩ := h31
        replace k2 := k2.ch x31.ch (by omega)
        replace k3 := k3.ch x31.ch (by omega)
        replace k6 := k6.ch x31.ch (by omega)
        replace k4 := x31.blk.full (by first | (simp only [Value.cells, hV, aV, bV, wV, wL, List.size_toArray, length_bL, length_uL, length_be, size_spl, List.length_cons, List.length_nil, List.length_replicate, Nat.zero_add, Nat.reduceAdd, Nat.reduceLeDiff, Nat.le_refl]; done) | rfl)
        replace U := U.st x31 f4
        refine l_nil ?_
        refine hK30 _ _ ?_
        refine fg1 6 (gS rfl (gS rfl g0)) (fun g => ?_)
        refine c_ret ?_
        refine ret1 rfl (res_blk agg_65 sz_65 (et g0 rfl) (by first | (simp only [Value.cells, hV, aV, bV, wV, wL, List.size_toArray, length_bL, length_uL, length_be, size_spl, List.length_cons, List.length_nil, List.length_replicate, Nat.zero_add, Nat.reduceAdd, Nat.reduceLeDiff, Nat.le_refl]; done) | rfl) k4) ?_
        refine ⟨wV_uF (fun j hj => ?_), U⟩
        rw [hf j hj]
        split
        · rfl
        · rename_i h9
          rw [eDown_limb _ _ _ _ hb hfl hA.2 hj, exW_limb _ _ _ hb hfl (by omega), exW_limb _ _ _ hb hfl (by omega), if_neg (by omega), if_neg (by omega)]
          exact (fill_same f0 _ hff (by omega)).symm
theorem sarF_eq (l : Nat) (hl : l < 18446744073709551616) : IntKind.u64.wrap ((IntKind.i64.wrap (l : Int)).fdiv (2 ^ (min ((63 : Int)).toNat IntKind.i64.bits))) = ((if 9223372036854775808 ≤ l then 18446744073709551615 else 0 : Nat) : Int) := by
  have e1 : (2 : Int) ^ (min ((63 : Int)).toNat IntKind.i64.bits) = 9223372036854775808 := by decide
  have e2 : IntKind.i64.wrap (l : Int) = if 9223372036854775808 ≤ l then (l : Int) - 18446744073709551616 else l := by
    split
    · rw [show (l : Int) = ((l : Int) - 18446744073709551616) + 18446744073709551616 by omega]
      rw [show IntKind.i64.wrap (((l : Int) - 18446744073709551616) + 18446744073709551616) = IntKind.i64.wrap ((l : Int) - 18446744073709551616) from ?_]
      · rw [wrap_i64 (by omega) (by omega)]; omega
      · unfold IntKind.wrap; simp [IntKind.bits, IntKind.signed]
    · exact wrap_i64 (by omega) (by omega)
  rw [e1, e2]
  split
  · have e3 : ((l : Int) - 18446744073709551616).fdiv 9223372036854775808 = -1 := by
      rw [Int.fdiv_eq_ediv_of_nonneg _ (by decide)]; omega
    rw [e3]; rfl
  · have e3 : ((l : Int)).fdiv 9223372036854775808 = 0 := by
      rw [Int.fdiv_eq_ediv_of_nonneg _ (by decide)]; omega
    rw [e3]; rfl
def eShr (a b : Nat) : Nat := b / 2 ^ (min a 256)
theorem eShr_eq (a b : Nat) (hb : b < W256) : eDown a b 0 = eShr a b := by
  unfold eDown exW eShr
  rw [Nat.zero_mul, Nat.add_zero, Nat.mod_eq_of_lt (Nat.lt_of_le_of_lt (Nat.div_le_self _ _) hb)]
def eSar (a b : Nat) : Nat := if b < 57896044618658097711785492504343953926634992332820282019728792003956564819968 then b / 2 ^ (min a 256) else W256 - 1 - (W256 - 1 - b) / 2 ^ (min a 256)
theorem eSar_eq (a b : Nat) (hb : b < W256) : eDown a b (if 9223372036854775808 ≤ limb b 3 then 18446744073709551615 else 0) = eSar a b := by
  have h1 : 9223372036854775808 ≤ limb b 3 ↔ ¬ b < 57896044618658097711785492504343953926634992332820282019728792003956564819968 := by rw [limb3]; unfold W256 at hb; omega
  unfold eSar
  by_cases h : b < 57896044618658097711785492504343953926634992332820282019728792003956564819968
  · rw [if_neg (by rw [h1]; exact not_not_intro h), if_pos h]
    exact eShr_eq a b hb
  · rw [if_pos (h1.2 h), if_neg h]
    unfold eDown exW
    obtain ⟨s, hs, hs2⟩ : ∃ s, min a 256 = s ∧ s ≤ 256 := ⟨_, rfl, Nat.min_le_right _ _⟩
    rw [hs]
    have hx : b + 18446744073709551615 * 726838724295606890588725814084399013568056387823382584169080752246511603091372492237802113163061087764664648150971191708372104835497984 = 13407807929942597099574024998205846127479365820592393377723561443721764030073546976801874298166903427690031858186486050853753882811946569946433649006084096 - 1 - (W256 - 1 - b) := by unfold W256 at *; omega
    rw [hx]
    have hP : (13407807929942597099574024998205846127479365820592393377723561443721764030073546976801874298166903427690031858186486050853753882811946569946433649006084096 : Nat) = 2 ^ s * (2 ^ (256 - s) * W256) := by
      rw [← Nat.mul_assoc, ← Nat.pow_add, show s + (256 - s) = 256 by omega]; decide
    have h0 : 0 < 2 ^ s := Nat.two_pow_pos s
    have h2 : 0 < 2 ^ (256 - s) := Nat.two_pow_pos _
    have hy : W256 - 1 - b < W256 := by unfold W256; omega
    have hle : 2 ^ s ≤ W256 := by
      have : 2 ^ s ≤ 2 ^ 256 := Nat.pow_le_pow_right (by decide) hs2
      exact this
    rw [hP]
    generalize W256 - 1 - b = y at *
    have hyd : y / 2 ^ s < W256 := Nat.lt_of_le_of_lt (Nat.div_le_self _ _) hy
    have key : (2 ^ s * (2 ^ (256 - s) * W256) - 1 - y) / 2 ^ s = 2 ^ (256 - s) * W256 - 1 - y / 2 ^ s := by
      have e : 2 ^ s * (2 ^ (256 - s) * W256) - 1 - y = 2 ^ s * (2 ^ (256 - s) * W256) - (y + 1) := by omega
      rw [e, Nat.mul_sub_div _ _ _ ?_]
      · omega
      · rw [← hP]; unfold W256 at hy; omega
    rw [key]
    have e3 : 2 ^ (256 - s) * W256 - 1 - y / 2 ^ s = W256 * (2 ^ (256 - s) - 1) + (W256 - 1 - y / 2 ^ s) := by
      obtain ⟨m, hm⟩ : ∃ m, 2 ^ (256 - s) = m + 1 := ⟨2 ^ (256 - s) - 1, by omega⟩
      rw [hm, Nat.add_sub_cancel, Nat.succ_mul, Nat.mul_comm m]
      omega
    rw [e3, Nat.mul_add_mod, Nat.mod_eq_of_lt]
    exact Nat.lt_of_le_of_lt (Nat.sub_le _ _) (by decide)
theorem sar_fill (b : Nat) : (if 9223372036854775808 ≤ limb b 3 then 18446744073709551615 else 0) = 0 ∨ (if 9223372036854775808 ≤ limb b 3 then 18446744073709551615 else 0) = 18446744073709551615 := by
  split
  · exact .inr rfl
  · exact .inl rfl
theorem shr_spec (a b : Nat) (w : World) (ha : a < W256) (hb : b < W256) :
    Ret 290 [wV a, wV b] w (fun v w' => v = wV (eShr a b) ∧ Up w w') := by
  refine enter (n := 8) Hvaa.func290 rfl rfl (Nat.le_of_ble_eq_true rfl) ?_
  have U := Up.refl w
  refine c_seq (fun K1 hK1 => ?_)
  refine c_region ?_
  refine l_eff (e_boxV (et g0 rfl)) (fun v2 w2 h2 => ?_)
  obtain ⟨b2, rfl, n2⟩ := h2
  have f2 : w.heap.size ≤ b2 := Nat.le_trans U.size n2.fresh
  replace U := U.tr n2.up
  have k2 := n2.blk
  refine l_eff (e_boxV (et (gS rfl (gS rfl g0)) rfl)) (fun v3 w3 h3 => ?_)
  obtain ⟨b3, rfl, n3⟩ := h3
  have d2_3 : b2 < b3 := Nat.lt_of_lt_of_le k2.lt n3.fresh
  have f3 : w.heap.size ≤ b3 := Nat.le_trans U.size n3.fresh
  replace k2 := k2.up n3.up
  replace U := U.tr n3.up
  have k3 := n3.blk
  refine l_eff (e_alloc zr_65) (fun v4 w4 h4 => ?_)
  obtain ⟨b4, rfl, n4⟩ := h4
  have d2_4 : b2 < b4 := Nat.lt_of_lt_of_le k2.lt n4.fresh
  have d3_4 : b3 < b4 := Nat.lt_of_lt_of_le k3.lt n4.fresh
  have f4 : w.heap.size ≤ b4 := Nat.le_trans U.size n4.fresh
  replace k2 := k2.up n4.up
  replace k3 := k3.up n4.up
  replace U := U.tr n4.up
  have k4 := n4.blk
  refine l_nil ?_
  refine hK1 _ _ ?_
  refine fg3 2 3 4 (gS rfl (gS rfl g0)) (gS rfl g0) g0 (fun g => ?_)
  refine c_seq (fun K5 hK5 => ?_)
  refine c_region ?_
  refine l_step (y_loadB agg_65 sz_65 (et (gS rfl (gS rfl g0)) rfl) (by first | (simp only [Value.cells, hV, aV, bV, wV, wL, List.size_toArray, length_bL, length_uL, length_be, size_spl, List.length_cons, List.length_nil, List.length_replicate, Nat.zero_add, Nat.reduceAdd, Nat.reduceLeDiff, Nat.le_refl]; done) | rfl) (at1B k2)) ?_
  refine l_step (y_loadB agg_65 sz_65 (et (gS rfl (gS rfl g0)) rfl) (by first | (simp only [Value.cells, hV, aV, bV, wV, wL, List.size_toArray, length_bL, length_uL, length_be, size_spl, List.length_cons, List.length_nil, List.length_replicate, Nat.zero_add, Nat.reduceAdd, Nat.reduceLeDiff, Nat.le_refl]; done) | rfl) (at1B k3)) ?_
  refine l_eff (e_callV cal_380 (aC (et (gS rfl g0) rfl) (aC (et g0 rfl) (aC (v := .int .u64 ((0 : Nat) : Int)) rfl aN))) (down_spec a b 0 _ ha hb (.inl rfl))) (fun v6 w6 h6 => ?_)
  obtain ⟨rfl, u6⟩ := h6
  replace k2 := k2.up u6
  replace k3 := k3.up u6
  replace k4 := k4.up u6
  replace U := U.tr u6
  refine l_effN (e_store sz_65 (et (gS rfl (gS rfl (gS rfl g0))) rfl) (cellsV (et g0 rfl) rfl) (by first | (simp only [Value.cells, hV, aV, bV, wV, wL, List.size_toArray, length_bL, length_uL, length_be, size_spl, List.length_cons, List.length_nil, List.length_replicate, Nat.zero_add, Nat.reduceAdd, Nat.reduceLeDiff, Nat.le_refl]; done) | rfl) (by first | exact one_bL _ | exact one_uL _ | (intro v hv; simp at hv; subst hv; rfl)) k4 (by first | (simp only [Value.cells, hV, aV, bV, wV, wL, List.size_toArray, length_bL, length_uL, length_be, size_spl, List.length_cons, List.length_nil, List.length_replicate, Nat.zero_add, Nat.reduceAdd, Nat.reduceLeDiff, Nat.le_refl]; done) | exact Nat.le_of_ble_eq_true rfl | simp | omega)) (fun v7 w7 h7 => ?_)
  obtain ⟨rfl, x7⟩ := h7
  replace k2 := k2.ch x7.ch (by omega)
  replace k3 := k3.ch x7.ch (by omega)
  replace k4 := x7.blk.full (by first | (simp only [Value.cells, hV, aV, bV, wV, wL, List.size_toArray, length_bL, length_uL, length_be, size_spl, List.length_cons, List.length_nil, List.length_replicate, Nat.zero_add, Nat.reduceAdd, Nat.reduceLeDiff, Nat.le_refl]; done) | rfl)
  replace U := U.st x7 f4
  refine l_nil ?_
  refine hK5 _ _ ?_
  refine fg1 4 (gS rfl (gS rfl (gS rfl g0))) (fun g => ?_)
  refine c_ret ?_
  refine ret1 rfl (res_blk agg_65 sz_65 (et g0 rfl) (by first | (simp only [Value.cells, hV, aV, bV, wV, wL, List.size_toArray, length_bL, length_uL, length_be, size_spl, List.length_cons, List.length_nil, List.length_replicate, Nat.zero_add, Nat.reduceAdd, Nat.reduceLeDiff, Nat.le_refl]; done) | rfl) k4) ?_
  refine ⟨?_, U⟩
  rw [← eShr_eq a b hb]
  rfl
theorem sar_spec (a b : Nat) (w : World) (ha : a < W256) (hb : b < W256) :
    Ret 291 [wV a, wV b] w (fun v w' => v = wV (eSar a b) ∧ Up w w') := by
  refine enter (n := 13) Hvaa.func291 rfl rfl (Nat.le_of_ble_eq_true rfl) ?_
  have U := Up.refl w
  refine c_seq (fun K1 hK1 => ?_)
  refine c_region ?_
  refine l_eff (e_boxV (et g0 rfl)) (fun v2 w2 h2 => ?_)
  obtain ⟨b2, rfl, n2⟩ := h2
  have f2 : w.heap.size ≤ b2 := Nat.le_trans U.size n2.fresh
  replace U := U.tr n2.up
  have k2 := n2.blk
  refine l_eff (e_boxV (et (gS rfl (gS rfl g0)) rfl)) (fun v3 w3 h3 => ?_)
  obtain ⟨b3, rfl, n3⟩ := h3
  have d2_3 : b2 < b3 := Nat.lt_of_lt_of_le k2.lt n3.fresh
  have f3 : w.heap.size ≤ b3 := Nat.le_trans U.size n3.fresh
  replace k2 := k2.up n3.up
  replace U := U.tr n3.up
  have k3 := n3.blk
  refine l_eff (e_alloc zr_65) (fun v4 w4 h4 => ?_)
  obtain ⟨b4, rfl, n4⟩ := h4
  have d2_4 : b2 < b4 := Nat.lt_of_lt_of_le k2.lt n4.fresh
  have d3_4 : b3 < b4 := Nat.lt_of_lt_of_le k3.lt n4.fresh
  have f4 : w.heap.size ≤ b4 := Nat.le_trans U.size n4.fresh
  replace k2 := k2.up n4.up
  replace k3 := k3.up n4.up
  replace U := U.tr n4.up
  have k4 := n4.blk
  refine l_nil ?_
  refine hK1 _ _ ?_
  refine fg3 2 3 4 (gS rfl (gS rfl g0)) (gS rfl g0) g0 (fun g => ?_)
  refine c_seq (fun K5 hK5 => ?_)
  refine c_region ?_
  refine l_step (y_loadB agg_65 sz_65 (et (gS rfl (gS rfl g0)) rfl) (by first | (simp only [Value.cells, hV, aV, bV, wV, wL, List.size_toArray, length_bL, length_uL, length_be, size_spl, List.length_cons, List.length_nil, List.length_replicate, Nat.zero_add, Nat.reduceAdd, Nat.reduceLeDiff, Nat.le_refl]; done) | rfl) (at1B k2)) ?_
  refine l_step (y_loadB agg_65 sz_65 (et (gS rfl (gS rfl g0)) rfl) (by first | (simp only [Value.cells, hV, aV, bV, wV, wL, List.size_toArray, length_bL, length_uL, length_be, size_spl, List.length_cons, List.length_nil, List.length_replicate, Nat.zero_add, Nat.reduceAdd, Nat.reduceLeDiff, Nat.le_refl]; done) | rfl) (at1B k3)) ?_
  refine l_step (y_idxAC 3 3 Hvaa.underlying65 sz_26 (et (gS rfl (gS rfl (gS rfl g0))) rfl) rfl rfl rfl) ?_
  refine l_step (y_load1 one_26 (et g0 rfl) (at1 (k3.cell (wV_getE b _ 3 (by decide) rfl)))) ?_
  refine l_step (y_conv Hvaa.underlying26 Hvaa.underlying2 (et g0 rfl) rfl) ?_
  refine l_step (y_shr (et g0 rfl) rfl (by decide) rfl) ?_
  refine l_step (y_conv Hvaa.underlying2 Hvaa.underlying26 (et g0 rfl) (sarF_eq _ (limb_lt b 3))) ?_
  refine l_eff (e_callV cal_380 (aC (et (gS rfl (gS rfl (gS rfl (gS rfl (gS rfl (gS rfl g0)))))) rfl) (aC (et (gS rfl (gS rfl (gS rfl (gS rfl (gS rfl g0))))) rfl) (aC (et g0 rfl) aN))) (down_spec a b _ _ ha hb (sar_fill b))) (fun v6 w6 h6 => ?_)
  obtain ⟨rfl, u6⟩ := h6
  replace k2 := k2.up u6
  replace k3 := k3.up u6
  replace k4 := k4.up u6
  replace U := U.tr u6
  refine l_effN (e_store sz_65 (et (gS rfl (gS rfl (gS rfl (gS rfl (gS rfl (gS rfl (gS rfl (gS rfl g0)))))))) rfl) (cellsV (et g0 rfl) rfl) (by first | (simp only [Value.cells, hV, aV, bV, wV, wL, List.size_toArray, length_bL, length_uL, length_be, size_spl, List.length_cons, List.length_nil, List.length_replicate, Nat.zero_add, Nat.reduceAdd, Nat.reduceLeDiff, Nat.le_refl]; done) | rfl) (by first | exact one_bL _ | exact one_uL _ | (intro v hv; simp at hv; subst hv; rfl)) k4 (by first | (simp only [Value.cells, hV, aV, bV, wV, wL, List.size_toArray, length_bL, length_uL, length_be, size_spl, List.length_cons, List.length_nil, List.length_replicate, Nat.zero_add, Nat.reduceAdd, Nat.reduceLeDiff, Nat.le_refl]; done) | exact Nat.le_of_ble_eq_true rfl | simp | omega)) (fun v7 w7 h7 => ?_)
  obtain ⟨rfl, x7⟩ := h7
  replace k2 := k2.ch x7.ch (by omega)
  replace k3 := k3.ch x7.ch (by omega)
  replace k4 := x7.blk.full (by first | (simp only [Value.cells, hV, aV, bV, wV, wL, List.size_toArray, length_bL, length_uL, length_be, size_spl, List.length_cons, List.length_nil, List.length_replicate, Nat.zero_add, Nat.reduceAdd, Nat.reduceLeDiff, Nat.le_refl]; done) | rfl)
  replace U := U.st x7 f4
  refine l_nil ?_
  refine hK5 _ _ ?_
  refine fg1 4 (gS rfl (gS rfl (gS rfl (gS rfl (gS rfl (gS rfl (gS rfl (gS rfl g0)))))))) (fun g => ?_)
  refine c_ret ?_
  refine ret1 rfl (res_blk agg_65 sz_65 (et g0 rfl) (by first | (simp only [Value.cells, hV, aV, bV, wV, wL, List.size_toArray, length_bL, length_uL, length_be, size_spl, List.length_cons, List.length_nil, List.length_replicate, Nat.zero_add, Nat.reduceAdd, Nat.reduceLeDiff, Nat.le_refl]; done) | rfl) k4) ?_
  refine ⟨?_, U⟩
  rw [← eSar_eq a b hb]
  rfl
def eByte (a b : Nat) : Nat := if a < 32 then b / 256 ^ (31 - a) % 256 else 0
theorem eByte_eq (a b : Nat) (h : a < 32) : limb b (3 - a / 8) / 2 ^ (56 - 8 * (a % 8)) % 256 = eByte a b := by
  unfold eByte limb
  rw [if_pos h]
  have hB : (18446744073709551616 : Nat) = 2 ^ (56 - 8 * (a % 8)) * (256 * 2 ^ (8 * (a % 8))) := by
    rw [show (256 : Nat) = 2 ^ 8 from rfl, ← Nat.pow_add, ← Nat.pow_add, show 56 - 8 * (a % 8) + (8 + 8 * (a % 8)) = 64 by omega]
  have e2 : (18446744073709551616 : Nat) ^ (3 - a / 8) * 2 ^ (56 - 8 * (a % 8)) = 256 ^ (31 - a) := by
    rw [show (18446744073709551616 : Nat) = 2 ^ 64 from rfl, show (256 : Nat) = 2 ^ 8 from rfl, ← Nat.pow_mul, ← Nat.pow_mul, ← Nat.pow_add]
    congr 1; omega
  generalize hx : b / 18446744073709551616 ^ (3 - a / 8) = x
  rw [hB, Nat.mod_mul_right_div_self, Nat.mod_mul_right_mod, ← hx, Nat.div_div_eq_div_mul, e2]
theorem eByte_lt (a b : Nat) : eByte a b < 256 := by
  unfold eByte; split
  · exact Nat.mod_lt _ (by decide)
  · decide
theorem byte_spec (a b : Nat) (w : World) (ha : a < W256) (hb : b < W256) :
    Ret 288 [wV a, wV b] w (fun v w' => v = wV (eByte a b) ∧ Up w w') := by
  refine enter (n := 27) Hvaa.func288 rfl rfl (Nat.le_of_ble_eq_true rfl) ?_
  have U := Up.refl w
  refine c_seq (fun K1 hK1 => ?_)
  refine c_region ?_
  refine l_eff (e_boxV (et g0 rfl)) (fun v2 w2 h2 => ?_)
  obtain ⟨b2, rfl, n2⟩ := h2
  have f2 : w.heap.size ≤ b2 := Nat.le_trans U.size n2.fresh
  replace U := U.tr n2.up
  have k2 := n2.blk
  refine l_eff (e_boxV (et (gS rfl (gS rfl g0)) rfl)) (fun v3 w3 h3 => ?_)
  obtain ⟨b3, rfl, n3⟩ := h3
  have d2_3 : b2 < b3 := Nat.lt_of_lt_of_le k2.lt n3.fresh
  have f3 : w.heap.size ≤ b3 := Nat.le_trans U.size n3.fresh
  replace k2 := k2.up n3.up
  replace U := U.tr n3.up
  have k3 := n3.blk
  refine l_eff (e_alloc zr_65) (fun v4 w4 h4 => ?_)
  obtain ⟨b4, rfl, n4⟩ := h4
  have d2_4 : b2 < b4 := Nat.lt_of_lt_of_le k2.lt n4.fresh
  have d3_4 : b3 < b4 := Nat.lt_of_lt_of_le k3.lt n4.fresh
  have f4 : w.heap.size ≤ b4 := Nat.le_trans U.size n4.fresh
  replace k2 := k2.up n4.up
  replace k3 := k3.up n4.up
  replace U := U.tr n4.up
  have k4 := n4.blk
  refine l_nil ?_
  refine hK1 _ _ ?_
  refine fg3 2 3 4 (gS rfl (gS rfl g0)) (gS rfl g0) g0 (fun g => ?_)
  refine c_seq (fun K5 hK5 => ?_)
  refine c_region ?_
  refine l_step (y_loadB agg_65 sz_65 (et (gS rfl (gS rfl g0)) rfl) (by first | (simp only [Value.cells, hV, aV, bV, wV, wL, List.size_toArray, length_bL, length_uL, length_be, size_spl, List.length_cons, List.length_nil, List.length_replicate, Nat.zero_add, Nat.reduceAdd, Nat.reduceLeDiff, Nat.le_refl]; done) | rfl) (at1B k2)) ?_
  refine l_eff (e_callV cal_378 (aC (et g0 rfl) (aC (v := .int .u64 ((32 : Nat) : Int)) rfl aN)) (below_spec _ _ _ (by assumption))) (fun v6 w6 h6 => ?_)
  obtain ⟨x6, rfl, hx6, u6⟩ := h6
  replace k2 := k2.up u6
  replace k3 := k3.up u6
  replace k4 := k4.up u6
  replace U := U.tr u6
  refine l_step (y_moveV (et g0 rfl)) ?_
  refine l_step (y_ext (et g0 rfl) rfl) ?_
  refine l_step (y_ext (et (gS rfl g0) rfl) rfl) ?_
  refine l_step (y_assignV (et (gS rfl g0) rfl)) ?_
  refine l_step (y_assignV (et (gS rfl g0) rfl)) ?_
  refine l_nil ?_
  refine hK5 _ _ ?_
  refine fg4 3 4 5 6 (gS rfl (gS rfl (gS rfl (gS rfl (gS rfl (gS rfl (gS rfl (gS rfl g0)))))))) (gS rfl (gS rfl (gS rfl (gS rfl (gS rfl (gS rfl (gS rfl g0))))))) (gS rfl g0) g0 (fun g => ?_)
  refine c_seq (fun K7 hK7 => ?_)
  refine c_seq (fun K8 hK8 => ?_)
  refine c_region ?_
  refine l_step (y_moveV (et g0 rfl)) ?_
  refine l_step (y_not (et g0 rfl)) ?_
  refine l_nil ?_
  refine hK8 _ _ ?_
  refine fg4 3 4 5 13 (gS rfl (gS rfl (gS rfl (gS rfl (gS rfl g0))))) (gS rfl (gS rfl (gS rfl (gS rfl g0)))) (gS rfl (gS rfl (gS rfl g0))) g0 (fun g => ?_)
  refine c_cond (et g0 rfl) (fun cB1 => ?_) (fun cB1 => ?_)
  · skip
    
    have hA : ¬ (a < 18446744073709551616 ∧ a < 32) := by simp at cB1; omega
    refine c_seq (fun K10 hK10 => ?_)
    refine c_region ?_
    refine l_step (y_bld bN bld65_z) ?_
    refine l_effN (e_store sz_65 (et (gS rfl (gS rfl (gS rfl g0))) rfl) (cellsV (et g0 rfl) rfl) (by first | (simp only [Value.cells, hV, aV, bV, wV, wL, List.size_toArray, length_bL, length_uL, length_be, size_spl, List.length_cons, List.length_nil, List.length_replicate, Nat.zero_add, Nat.reduceAdd, Nat.reduceLeDiff, Nat.le_refl]; done) | rfl) (by first | exact one_bL _ | exact one_uL _ | (intro v hv; simp at hv; subst hv; rfl)) k4 (by first | (simp only [Value.cells, hV, aV, bV, wV, wL, List.size_toArray, length_bL, length_uL, length_be, size_spl, List.length_cons, List.length_nil, List.length_replicate, Nat.zero_add, Nat.reduceAdd, Nat.reduceLeDiff, Nat.le_refl]; done) | exact Nat.le_of_ble_eq_true rfl | simp | omega)) (fun v11 w11 h11 => ?_)
    obtain ⟨rfl, x11⟩ := h11
    replace k2 := k2.ch x11.ch (by omega)
    replace k3 := k3.ch x11.ch (by omega)
    replace k4 := x11.blk.full (by first | (simp only [Value.cells, hV, aV, bV, wV, wL, List.size_toArray, length_bL, length_uL, length_be, size_spl, List.length_cons, List.length_nil, List.length_replicate, Nat.zero_add, Nat.reduceAdd, Nat.reduceLeDiff, Nat.le_refl]; done) | rfl)
    replace U := U.st x11 f4
    refine l_nil ?_
    refine hK10 _ _ ?_
    refine fg1 4 (gS rfl (gS rfl (gS rfl g0))) (fun g => ?_)
    refine c_ret ?_
    refine ret1 rfl (res_blk agg_65 sz_65 (et g0 rfl) (by first | (simp only [Value.cells, hV, aV, bV, wV, wL, List.size_toArray, length_bL, length_uL, length_be, size_spl, List.length_cons, List.length_nil, List.length_replicate, Nat.zero_add, Nat.reduceAdd, Nat.reduceLeDiff, Nat.le_refl]; done) | rfl) k4) ?_
    refine ⟨?_, U⟩
    unfold eByte
    rw [if_neg (by omega)]
    rfl
  · skip
    
    have hA : a < 18446744073709551616 ∧ a < 32 := by simpa using cB1
    have hxa := hx6 hA.1
    subst hxa
    refine c_skip ?_
    refine hK7 _ _ ?_
    refine fg3 3 4 5 (gS rfl (gS rfl (gS rfl g0))) (gS rfl (gS rfl g0)) (gS rfl g0) (fun g => ?_)
    refine c_seq (fun K12 hK12 => ?_)
    refine c_region ?_
    refine l_step (y_moveV (et g0 rfl)) ?_
    refine l_step (y_quo (et g0 rfl) rfl (by decide) (quoU (b := 8) uk64 ?_)) ?_
    omega
    refine l_step (y_sub rfl (et g0 rfl) (wrapU_subN (a := 3) uk64 ?_ ?_)) ?_
    omega
    omega
    refine l_step (y_idxA Hvaa.underlying65 sz_26 (et (gS rfl (gS rfl (gS rfl (gS rfl (gS rfl g0))))) rfl) (et g0 rfl) ?_ ?_) ?_
    omega
    omega
    refine l_step (y_load1 one_26 (et g0 rfl) (at1 (k3.cell (wV_getE b _ (3 - x6 / 8) (by omega) (by omega))))) ?_
    refine l_step (y_moveV (et (gS rfl (gS rfl (gS rfl (gS rfl (gS rfl g0))))) rfl)) ?_
    refine l_step (y_rem (et g0 rfl) rfl (by decide) (remN (b := 8))) ?_
    refine l_step (y_mul rfl (et g0 rfl) (wrapU_mulN (a := 8) uk64 ?_)) ?_
    omega
    refine l_step (y_sub rfl (et g0 rfl) (wrapU_subN (a := 56) uk64 ?_ ?_)) ?_
    omega
    omega
    refine l_step (y_shr (et (gS rfl (gS rfl (gS rfl (gS rfl g0)))) rfl) (et g0 rfl) ?_ (shrV ?_)) ?_
    omega
    omega
    refine l_step (y_andM 8 256 uk64 (et g0 rfl) rfl ?_ rfl rfl (by decide)) ?_
    exact Nat.lt_of_le_of_lt (Nat.div_le_self _ _) (limb_lt _ _)
    refine l_step (y_bld (bC (et g0 rfl) bN) (bld65_1 _)) ?_
    refine l_effN (e_store sz_65 (et (gS rfl (gS rfl (gS rfl (gS rfl (gS rfl (gS rfl (gS rfl (gS rfl (gS rfl (gS rfl (gS rfl (gS rfl (gS rfl g0))))))))))))) rfl) (cellsV (et g0 rfl) rfl) (by first | (simp only [Value.cells, hV, aV, bV, wV, wL, List.size_toArray, length_bL, length_uL, length_be, size_spl, List.length_cons, List.length_nil, List.length_replicate, Nat.zero_add, Nat.reduceAdd, Nat.reduceLeDiff, Nat.le_refl]; done) | rfl) (by first | exact one_bL _ | exact one_uL _ | (intro v hv; simp at hv; subst hv; rfl)) k4 (by first | (simp only [Value.cells, hV, aV, bV, wV, wL, List.size_toArray, length_bL, length_uL, length_be, size_spl, List.length_cons, List.length_nil, List.length_replicate, Nat.zero_add, Nat.reduceAdd, Nat.reduceLeDiff, Nat.le_refl]; done) | exact Nat.le_of_ble_eq_true rfl | simp | omega)) (fun v13 w13 h13 => ?_)
    obtain ⟨rfl, x13⟩ := h13
    replace k2 := k2.ch x13.ch (by omega)
    replace k3 := k3.ch x13.ch (by omega)
    replace k4 := x13.blk.full (by first | (simp only [Value.cells, hV, aV, bV, wV, wL, List.size_toArray, length_bL, length_uL, length_be, size_spl, List.length_cons, List.length_nil, List.length_replicate, Nat.zero_add, Nat.reduceAdd, Nat.reduceLeDiff, Nat.le_refl]; done) | rfl)
    replace U := U.st x13 f4
    refine l_nil ?_
    refine hK12 _ _ ?_
    refine fg1 4 (gS rfl (gS rfl (gS rfl (gS rfl (gS rfl (gS rfl (gS rfl (gS rfl (gS rfl (gS rfl (gS rfl (gS rfl (gS rfl g0))))))))))))) (fun g => ?_)
    refine c_ret ?_
    refine ret1 rfl (res_blk agg_65 sz_65 (et g0 rfl) (by first | (simp only [Value.cells, hV, aV, bV, wV, wL, List.size_toArray, length_bL, length_uL, length_be, size_spl, List.length_cons, List.length_nil, List.length_replicate, Nat.zero_add, Nat.reduceAdd, Nat.reduceLeDiff, Nat.le_refl]; done) | rfl) k4) ?_
    refine ⟨wV_of _ _ _ _ _ (Nat.lt_trans (Nat.mod_lt _ (by decide)) (by decide)) (by decide) (by decide) (by decide) ?_, U⟩
    rw [← eByte_eq _ _ hA.2]
    unfold ofL
    omega
theorem atC {w : World} {b o : Nat} {v : Value} {M : Nat → Prop} (h : w.cell? ⟨b, o, none⟩ = some v) (hM : ¬ M b) : ∀ w', Ch M w w' → w'.cell? ⟨b, o, none⟩ = some v := fun w' e => e.cell hM h
theorem atCR {w : World} {b o : Nat} {cs : List Value} {M : Nat → Prop} (h : Row w b o cs) (hM : ¬ M b) : ∀ w', Ch M w w' → Row w' b o cs := fun w' e => h.ch e hM
theorem atCB {w : World} {b : Nat} {cs : Array Value} {M : Nat → Prop} (h : Blk w b cs) (hM : ¬ M b) : ∀ w', Ch M w w' → Blk w' b cs := fun w' e => h.ch e hM
theorem row4of8 {w : World} {b : Nat} {p0 p1 p2 p3 p4 p5 p6 p7 : Nat} (h : Blk w b (uL [p0, p1, p2, p3, p4, p5, p6, p7]).toArray) : Row w b 0 (uL [p0, p1, p2, p3]) := by
  refine h.row fun i v hv => ?_
  match i, hv with
  | 0, hv => exact hv
  | 1, hv => exact hv
  | 2, hv => exact hv
  | 3, hv => exact hv
theorem mulOver_spec (a b : Nat) (w : World) (ha : a < W256) (hb : b < W256) :
    Ret 163 [wV a, wV b] w (fun v w' => v = .tuple #[wV (a * b % W256), .bool (decide (W256 ≤ a * b))] ∧ Up w w') := by
  refine enter (n := 25) Hvaa.func163 rfl rfl (Nat.le_of_ble_eq_true rfl) ?_
  have U := Up.refl w
  refine c_seq (fun K1 hK1 => ?_)
  refine c_region ?_
  refine l_eff (e_boxV (et g0 rfl)) (fun v2 w2 h2 => ?_)
  obtain ⟨b2, rfl, n2⟩ := h2
  have f2 : w.heap.size ≤ b2 := Nat.le_trans U.size n2.fresh
  replace U := U.tr n2.up
  have k2 := n2.blk
  refine l_eff (e_boxV (et (gS rfl (gS rfl g0)) rfl)) (fun v3 w3 h3 => ?_)
  obtain ⟨b3, rfl, n3⟩ := h3
  have d2_3 : b2 < b3 := Nat.lt_of_lt_of_le k2.lt n3.fresh
  have f3 : w.heap.size ≤ b3 := Nat.le_trans U.size n3.fresh
  replace k2 := k2.up n3.up
  replace U := U.tr n3.up
  have k3 := n3.blk
  refine l_eff (e_alloc zr_65) (fun v4 w4 h4 => ?_)
  obtain ⟨b4, rfl, n4⟩ := h4
  have d2_4 : b2 < b4 := Nat.lt_of_lt_of_le k2.lt n4.fresh
  have d3_4 : b3 < b4 := Nat.lt_of_lt_of_le k3.lt n4.fresh
  have f4 : w.heap.size ≤ b4 := Nat.le_trans U.size n4.fresh
  replace k2 := k2.up n4.up
  replace k3 := k3.up n4.up
  replace U := U.tr n4.up
  have k4 := n4.blk
  refine l_step y_assignC ?_
  refine l_nil ?_
  refine hK1 _ _ ?_
  refine fg3 2 3 4 (gS rfl (gS rfl (gS rfl g0))) (gS rfl (gS rfl g0)) (gS rfl g0) (fun g => ?_)
  refine c_seq (fun K5 hK5 => ?_)
  refine c_region ?_
  refine l_step (y_loadB agg_65 sz_65 (et (gS rfl (gS rfl g0)) rfl) (by first | (simp only [Value.cells, hV, aV, bV, wV, wL, List.size_toArray, length_bL, length_uL, length_be, size_spl, List.length_cons, List.length_nil, List.length_replicate, Nat.zero_add, Nat.reduceAdd, Nat.reduceLeDiff, Nat.le_refl]; done) | rfl) (at1B k2)) ?_
  refine l_step (y_loadB agg_65 sz_65 (et (gS rfl (gS rfl g0)) rfl) (by first | (simp only [Value.cells, hV, aV, bV, wV, wL, List.size_toArray, length_bL, length_uL, length_be, size_spl, List.length_cons, List.length_nil, List.length_replicate, Nat.zero_add, Nat.reduceAdd, Nat.reduceLeDiff, Nat.le_refl]; done) | rfl) (at1B k3)) ?_
  refine l_eff (e_callV cal_241 (aC (et (gS rfl g0) rfl) (aC (et g0 rfl) aN)) (mul512_spec _ _ _ ha hb)) (fun v6 w6 h6 => ?_)
  obtain ⟨p0, p1, p2, p3, p4, p5, p6, p7, rfl, q0, q1, q2, q3, q4, q5, q6, q7, hp, u6⟩ := h6
  replace k2 := k2.up u6
  replace k3 := k3.up u6
  replace k4 := k4.up u6
  replace U := U.tr u6
  refine l_eff (e_alloc zr_68) (fun v7 w7 h7 => ?_)
  obtain ⟨b7, rfl, n7⟩ := h7
  have d2_7 : b2 < b7 := Nat.lt_of_lt_of_le k2.lt n7.fresh
  have d3_7 : b3 < b7 := Nat.lt_of_lt_of_le k3.lt n7.fresh
  have d4_7 : b4 < b7 := Nat.lt_of_lt_of_le k4.lt n7.fresh
  have f7 : w.heap.size ≤ b7 := Nat.le_trans U.size n7.fresh
  replace k2 := k2.up n7.up
  replace k3 := k3.up n7.up
  replace k4 := k4.up n7.up
  replace U := U.tr n7.up
  have k7 := n7.blk
  refine l_effN (e_store sz_68 (et g0 rfl) (cellsV (et (gS rfl g0) rfl) rfl) (by first | (simp only [Value.cells, hV, aV, bV, wV, wL, List.size_toArray, length_bL, length_uL, length_be, size_spl, List.length_cons, List.length_nil, List.length_replicate, Nat.zero_add, Nat.reduceAdd, Nat.reduceLeDiff, Nat.le_refl]; done) | rfl) (by first | exact one_bL _ | exact one_uL _ | (intro v hv; simp at hv; subst hv; rfl)) k7 (by first | (simp only [Value.cells, hV, aV, bV, wV, wL, List.size_toArray, length_bL, length_uL, length_be, size_spl, List.length_cons, List.length_nil, List.length_replicate, Nat.zero_add, Nat.reduceAdd, Nat.reduceLeDiff, Nat.le_refl]; done) | exact Nat.le_of_ble_eq_true rfl | simp | omega)) (fun v8 w8 h8 => ?_)
  obtain ⟨rfl, x8⟩ := h8
  replace k2 := k2.ch x8.ch (by omega)
  replace k3 := k3.ch x8.ch (by omega)
  replace k4 := k4.ch x8.ch (by omega)
  replace k7 := x8.blk.full (by first | (simp only [Value.cells, hV, aV, bV, wV, wL, List.size_toArray, length_bL, length_uL, length_be, size_spl, List.length_cons, List.length_nil, List.length_replicate, Nat.zero_add, Nat.reduceAdd, Nat.reduceLeDiff, Nat.le_refl]; done) | rfl)
  replace U := U.st x8 f7
  refine l_nil ?_
  refine hK5 _ _ ?_
  refine fg2 4 6 (gS rfl (gS rfl (gS rfl (gS rfl g0)))) g0 (fun g => ?_)
  refine c_seq (fun K9 hK9 => ?_)
  refine c_draw (Ch (fun k => k = b4)) 17 [(0, true), (1, true), (2, true), (3, true), (4, true), (5, true), (6, true), (7, true), (8, true), (9, true), (10, true), (11, true), (12, true), (13, true), (14, true), (15, false), (16, true)] (by kernel_rfl) (fun w10 hu => ⟨Ch.refl _ _, ?_⟩)
  replace k2 := k2.up hu
  replace k3 := k3.up hu
  replace k4 := k4.up hu
  replace k7 := k7.up hu
  replace U := U.tr hu
  have SU : (Ch (fun k => k = b4)) w10 w10 := Ch.refl _ _
  refine p_step (by exact rfl) (y_slA010 Hvaa.underlying68 sz_26 (et g0 rfl) rfl ?_ ?_) ?_
  omega
  omega
  refine p_step (by exact rfl) (y_s2a Hvaa.underlying65 (et g0 rfl) ?_) ?_
  decide
  refine p_step (by exact rfl) (y_loadR agg_65 sz_65 (et g0 rfl) rfl (atCR (row4of8 k7) (by omega))) ?_
  refine p_step (by exact rfl) (y_idxAC 4 4 Hvaa.underlying68 sz_26 (et (gS rfl (gS rfl (gS rfl g0))) rfl) rfl rfl rfl) ?_
  refine p_step (by exact rfl) (y_load1 one_26 (et g0 rfl) (atC (k7.cell rfl) (by omega))) ?_
  refine p_step (by exact rfl) (y_idxAC 5 5 Hvaa.underlying68 sz_26 (et (gS rfl (gS rfl (gS rfl (gS rfl (gS rfl g0))))) rfl) rfl rfl rfl) ?_
  refine p_step (by exact rfl) (y_load1 one_26 (et g0 rfl) (atC (k7.cell rfl) (by omega))) ?_
  refine p_step (by exact rfl) (y_or uk64 (et (gS rfl (gS rfl g0)) rfl) (et g0 rfl) ?_ ?_) ?_
  assumption
  assumption
  refine p_step (by exact rfl) (y_idxAC 6 6 Hvaa.underlying68 sz_26 (et (gS rfl (gS rfl (gS rfl (gS rfl (gS rfl (gS rfl (gS rfl (gS rfl g0)))))))) rfl) rfl rfl rfl) ?_
  refine p_step (by exact rfl) (y_load1 one_26 (et g0 rfl) (atC (k7.cell rfl) (by omega))) ?_
  refine p_step (by exact rfl) (y_or uk64 (et (gS rfl (gS rfl g0)) rfl) (et g0 rfl) ?_ ?_) ?_
  exact or_lt64 q4 q5
  assumption
  refine p_step (by exact rfl) (y_idxAC 7 7 Hvaa.underlying68 sz_26 (et (gS rfl (gS rfl (gS rfl (gS rfl (gS rfl (gS rfl (gS rfl (gS rfl (gS rfl (gS rfl (gS rfl g0))))))))))) rfl) rfl rfl rfl) ?_
  refine p_step (by exact rfl) (y_load1 one_26 (et g0 rfl) (atC (k7.cell rfl) (by omega))) ?_
  refine p_step (by exact rfl) (y_or uk64 (et (gS rfl (gS rfl g0)) rfl) (et g0 rfl) ?_ ?_) ?_
  exact or_lt64 (or_lt64 q4 q5) q6
  assumption
  refine p_step (by exact rfl) (y_neq (et g0 rfl) rfl) ?_
  refine p_effN (by exact rfl) (e_store sz_65 (et (gS rfl (gS rfl (gS rfl (gS rfl (gS rfl (gS rfl (gS rfl (gS rfl (gS rfl (gS rfl (gS rfl (gS rfl (gS rfl (gS rfl (gS rfl (gS rfl g0)))))))))))))))) rfl) (cellsV (et (gS rfl (gS rfl (gS rfl (gS rfl (gS rfl (gS rfl (gS rfl (gS rfl (gS rfl (gS rfl (gS rfl (gS rfl g0)))))))))))) rfl) rfl) (by first | (simp only [Value.cells, hV, aV, bV, wV, wL, List.size_toArray, length_bL, length_uL, length_be, size_spl, List.length_cons, List.length_nil, List.length_replicate, Nat.zero_add, Nat.reduceAdd, Nat.reduceLeDiff, Nat.le_refl]; done) | rfl) (by first | exact one_bL _ | exact one_uL _ | (intro v hv; simp at hv; subst hv; rfl)) k4 (by first | (simp only [Value.cells, hV, aV, bV, wV, wL, List.size_toArray, length_bL, length_uL, length_be, size_spl, List.length_cons, List.length_nil, List.length_replicate, Nat.zero_add, Nat.reduceAdd, Nat.reduceLeDiff, Nat.le_refl]; done) | exact Nat.le_of_ble_eq_true rfl | simp | omega)) (fun v11 w11 h11 => ?_)
  obtain ⟨rfl, x11⟩ := h11
  replace k2 := k2.ch x11.ch (by omega)
  replace k3 := k3.ch x11.ch (by omega)
  replace k7 := k7.ch x11.ch (by omega)
  replace k4 := x11.blk.full (by first | (simp only [Value.cells, hV, aV, bV, wV, wL, List.size_toArray, length_bL, length_uL, length_be, size_spl, List.length_cons, List.length_nil, List.length_replicate, Nat.zero_add, Nat.reduceAdd, Nat.reduceLeDiff, Nat.le_refl]; done) | rfl)
  replace U := U.st x11 f4
  refine ⟨.inr (SU.st x11 (by omega)), ?_⟩
  refine p_step (by exact rfl) (y_assignV (et g0 rfl)) ?_
  refine p_nil ?_
  refine hK9 _ _ ?_
  refine fg2 4 5 (gS rfl (gS rfl (gS rfl (gS rfl (gS rfl (gS rfl (gS rfl (gS rfl (gS rfl (gS rfl (gS rfl (gS rfl (gS rfl (gS rfl (gS rfl (gS rfl (gS rfl g0))))))))))))))))) g0 (fun g => ?_)
  refine c_ret ?_
  refine ret2 rfl (res_blk agg_65 sz_65 (et (gS rfl g0) rfl) (by first | (simp only [Value.cells, hV, aV, bV, wV, wL, List.size_toArray, length_bL, length_uL, length_be, size_spl, List.length_cons, List.length_nil, List.length_replicate, Nat.zero_add, Nat.reduceAdd, Nat.reduceLeDiff, Nat.le_refl]; done) | rfl) k4) (res_tmp (et g0 rfl)) ?_
  refine ⟨tup2 (wV_of _ _ _ _ _ q0 q1 q2 q3 ?_) (boolD ?_), U⟩
  · rw [← hp]
    have := ofL_lt p0 p1 p2 p3 q0 q1 q2 q3
    unfold ofL8 W256 at *
    omega
  · rw [← hp]
    have := ofL_lt p0 p1 p2 p3 q0 q1 q2 q3
    have h9 : p4 ||| p5 ||| p6 ||| p7 = 0 ↔ ((p4 = 0 ∧ p5 = 0) ∧ p6 = 0) ∧ p7 = 0 := by rw [or_zero, or_zero, or_zero]
    have h10 : (((p4 ||| p5 ||| p6 ||| p7 : Nat) : Int) ≠ 0) ↔ ¬ (p4 ||| p5 ||| p6 ||| p7 = 0) := by simp
    rw [h10, h9]
    unfold ofL8 W256 at *
    unfold ofL
    unfold ofL at this
    omega
end Go.Proofs.YgvaawGreat
