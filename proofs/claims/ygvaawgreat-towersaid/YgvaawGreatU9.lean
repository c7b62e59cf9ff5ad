import Derived.Test.YgvaawGreatU8
set_option maxRecDepth 100000
set_option linter.unusedSimpArgs false
set_option linter.unusedVariables false
namespace Go.Proofs.YgvaawGreat
open Go
/-- the low T = 2^p of a number, its top bit copied upward to M -/
def sxt (l T M : Nat) : Nat := if T ≤ 2 * (l % T) then l % T + (M - T) else l % T
theorem i64w (x : Nat) (hx : x < 18446744073709551616) : IntKind.i64.wrap (x : Int) = if 9223372036854775808 ≤ x then (x : Int) - 18446744073709551616 else x := by
  split
  · rw [show (x : Int) = ((x : Int) - 18446744073709551616) + 18446744073709551616 by omega]
    rw [show IntKind.i64.wrap (((x : Int) - 18446744073709551616) + 18446744073709551616) = IntKind.i64.wrap ((x : Int) - 18446744073709551616) from ?_]
    · rw [wrap_i64 (by omega) (by omega)]; omega
    · unfold IntKind.wrap; simp [IntKind.bits, IntKind.signed]
  · exact wrap_i64 (by omega) (by omega)
theorem u64neg (z : Int) (h1 : -18446744073709551616 ≤ z) (h2 : z < 0) : IntKind.u64.wrap z = z + 18446744073709551616 := by
  unfold IntKind.wrap
  simp [IntKind.bits, IntKind.signed]
  omega
theorem sx64 (l s : Nat) (hs : s < 64) : IntKind.u64.wrap ((IntKind.i64.wrap ((l * 2 ^ s % 18446744073709551616 : Nat) : Int)).fdiv (2 ^ (min ((s : Int)).toNat IntKind.i64.bits))) = ((sxt l (2 ^ (64 - s)) 18446744073709551616 : Nat) : Int) := by
  have hb : min ((s : Int)).toNat IntKind.i64.bits = s := by rw [Int.toNat_natCast]; exact Nat.min_eq_left (by show s ≤ 64; omega)
  rw [hb]
  have hB : (18446744073709551616 : Nat) = 2 ^ (64 - s) * 2 ^ s := by rw [← Nat.pow_add, show 64 - s + s = 64 by omega]
  have hB2 : (9223372036854775808 : Nat) = 2 ^ (63 - s) * 2 ^ s := by rw [← Nat.pow_add, show 63 - s + s = 63 by omega]
  have e1 : l * 2 ^ s % 18446744073709551616 = l % 2 ^ (64 - s) * 2 ^ s := by rw [hB, Nat.mul_mod_mul_right]
  have hT : 2 ^ (64 - s) = 2 * 2 ^ (63 - s) := by rw [show 64 - s = 63 - s + 1 by omega, Nat.pow_succ, Nat.mul_comm]
  have hm : l % 2 ^ (64 - s) < 2 ^ (64 - s) := Nat.mod_lt _ (Nat.two_pow_pos _)
  have hs0 : 0 < 2 ^ s := Nat.two_pow_pos s
  have hx : l % 2 ^ (64 - s) * 2 ^ s < 18446744073709551616 := by rw [hB]; exact Nat.mul_lt_mul_of_pos_right hm hs0
  rw [e1, i64w _ hx]
  unfold sxt
  have hc : 9223372036854775808 ≤ l % 2 ^ (64 - s) * 2 ^ s ↔ 2 ^ (64 - s) ≤ 2 * (l % 2 ^ (64 - s)) := by
    rw [hB2, hT]
    constructor
    · intro h
      have := Nat.le_of_mul_le_mul_right h hs0
      omega
    · intro h
      exact Nat.mul_le_mul_right _ (by omega)
  have hi : ((2 : Int) ^ s) = ((2 ^ s : Nat) : Int) := by simp
  have hi0 : (0 : Int) ≤ ((2 ^ s : Nat) : Int) := Int.natCast_nonneg _
  by_cases h : 2 ^ (64 - s) ≤ 2 * (l % 2 ^ (64 - s))
  · rw [if_pos (hc.2 h), if_pos h]
    have e2 : (((l % 2 ^ (64 - s) * 2 ^ s : Nat) : Int) - 18446744073709551616) = (((l % 2 ^ (64 - s) : Nat) : Int) - ((2 ^ (64 - s) : Nat) : Int)) * ((2 ^ s : Nat) : Int) := by
      have : ((18446744073709551616 : Nat) : Int) = ((2 ^ (64 - s) : Nat) : Int) * ((2 ^ s : Nat) : Int) := by rw [← Int.natCast_mul, ← hB]
      rw [Int.sub_mul, ← this, ← Int.natCast_mul]
      rfl
    rw [e2, hi, Int.fdiv_eq_ediv_of_nonneg _ hi0, Int.mul_ediv_cancel _ (by omega)]
    have hle : 2 ^ (64 - s) ≤ 18446744073709551616 := by
      have := Nat.pow_le_pow_right (n := 2) (by decide) (show 64 - s ≤ 64 by omega)
      exact this
    rw [u64neg _ (by omega) (by omega)]
    omega
  · rw [if_neg (fun h' => h (hc.1 h')), if_neg h]
    rw [hi, Int.fdiv_eq_ediv_of_nonneg _ hi0, Int.natCast_mul, Int.mul_ediv_cancel _ (by omega)]
    exact wrapU_id uk64 (Nat.lt_of_lt_of_le hm (by
      have := Nat.pow_le_pow_right (n := 2) (by decide) (show 64 - s ≤ 64 by omega)
      exact this))
theorem sxt_lt (l T M : Nat) (h0 : 0 < T) (h : T ≤ M) : sxt l T M < M := by
  have : l % T < T := Nat.mod_lt _ h0
  unfold sxt; split <;> omega
def eSext (a b : Nat) : Nat := if a < 31 then sxt b (2 ^ (8 * a + 8)) W256 else b
theorem sxt_top (l s : Nat) (hs : s < 64) : (if 9223372036854775808 ≤ sxt l (2 ^ (64 - s)) 18446744073709551616 then 18446744073709551615 else 0) = if 2 ^ (64 - s) ≤ 2 * (l % 2 ^ (64 - s)) then 18446744073709551615 else 0 := by
  have hT : 2 ^ (64 - s) = 2 * 2 ^ (63 - s) := by rw [show 64 - s = 63 - s + 1 by omega, Nat.pow_succ, Nat.mul_comm]
  have hm : l % 2 ^ (64 - s) < 2 ^ (64 - s) := Nat.mod_lt _ (Nat.two_pow_pos _)
  have hle : 2 ^ (63 - s) ≤ 9223372036854775808 := by
    have := Nat.pow_le_pow_right (n := 2) (by decide) (show 63 - s ≤ 63 by omega)
    exact this
  unfold sxt
  generalize 2 ^ (64 - s) = T at *
  by_cases h : T ≤ 2 * (l % T)
  · rw [if_pos h, if_pos h, if_pos (by omega)]
  · rw [if_neg h, if_neg h, if_neg (by omega)]
def sxF (b q T j : Nat) : Nat := if j < q then limb b j else if j = q then sxt (limb b q) T 18446744073709551616 else if T ≤ 2 * (limb b q % T) then 18446744073709551615 else 0
theorem eSext_limb (a b : Nat) (ha : a < 31) (hb : b < W256) (j : Nat) (hj : j < 4) : limb (eSext a b) j = sxF b ((8 * a + 7) / 64) (2 ^ ((8 * a + 7) % 64 + 1)) j := by
  have hq : (8 * a + 7) / 64 < 4 := by omega
  have hP : (2 : Nat) ^ (8 * a + 8) = 18446744073709551616 ^ ((8 * a + 7) / 64) * 2 ^ ((8 * a + 7) % 64 + 1) := by
    rw [show (18446744073709551616 : Nat) = 2 ^ 64 from rfl, ← Nat.pow_mul, ← Nat.pow_add]
    congr 1; omega
  obtain ⟨T2, hT2⟩ : ∃ T2, 2 ^ ((8 * a + 7) % 64 + 1) = 2 * T2 := ⟨2 ^ ((8 * a + 7) % 64), by rw [Nat.pow_succ, Nat.mul_comm]⟩
  have hTB : (2 ^ ((8 * a + 7) % 64 + 1)) ∣ 18446744073709551616 := by
    rw [show (18446744073709551616 : Nat) = 2 ^ 64 from rfl]; exact Nat.pow_dvd_pow 2 (by omega)
  have hT0 : 0 < 2 ^ ((8 * a + 7) % 64 + 1) := Nat.two_pow_pos _
  have hTle := Nat.le_of_dvd (by decide) hTB
  unfold eSext
  rw [if_pos ha, hP]
  generalize (8 * a + 7) / 64 = q at *
  generalize 2 ^ ((8 * a + 7) % 64 + 1) = T at *
  have hmod : b % (18446744073709551616 ^ q * T) = b % 18446744073709551616 ^ q + 18446744073709551616 ^ q * (limb b q % T) := by
    rw [Nat.mod_mul]; unfold limb; rw [Nat.mod_mod_of_dvd _ hTB]
  have hm : limb b q % T < T := Nat.mod_lt _ hT0
  have hsl := sxt_lt (limb b q) T 18446744073709551616 hT0 hTle
  have key : sxt b (18446744073709551616 ^ q * T) W256 = ofL (sxF b q T 0) (sxF b q T 1) (sxF b q T 2) (sxF b q T 3) := by
    have h1 := ofL_limb b hb
    have h2 := limb_lt b 0
    have h3 := limb_lt b 1
    have h4 := limb_lt b 2
    have h5 := limb_lt b 3
    have hq2 : q = 0 ∨ q = 1 ∨ q = 2 ∨ q = 3 := by omega
    unfold sxF
    unfold sxt
    rw [hmod]
    rcases hq2 with rfl | rfl | rfl | rfl
    all_goals
      generalize limb b 0 = l0 at *
      generalize limb b 1 = l1 at *
      generalize limb b 2 = l2 at *
      generalize limb b 3 = l3 at *
      simp only [Nat.reducePow, Nat.pow_zero, Nat.mod_one, Nat.one_mul, Nat.zero_add, Nat.reduceLT, Nat.reduceEqDiff, if_true, if_false, Nat.pow_one]
      unfold ofL at *
      unfold W256 at *
    · generalize l0 % T = m at *
      by_cases hc : T ≤ 2 * m
      · simp only [hc, if_true]; omega
      · simp only [hc, if_false]; omega
    · have hl : b % 18446744073709551616 = l0 := by omega
      rw [hl]
      generalize l1 % T = m at *
      by_cases hc : T ≤ 2 * m
      · rw [if_pos (by omega)]; simp only [hc, if_true]; omega
      · rw [if_neg (by omega)]; simp only [hc, if_false]; omega
    · have hl : b % 340282366920938463463374607431768211456 = l0 + l1 * 18446744073709551616 := by omega
      rw [hl]
      generalize l2 % T = m at *
      by_cases hc : T ≤ 2 * m
      · rw [if_pos (by omega)]; simp only [hc, if_true]; omega
      · rw [if_neg (by omega)]; simp only [hc, if_false]; omega
    · have hl : b % 6277101735386680763835789423207666416102355444464034512896 = l0 + l1 * 18446744073709551616 + l2 * 340282366920938463463374607431768211456 := by omega
      rw [hl]
      generalize l3 % T = m at *
      by_cases hc : T ≤ 2 * m
      · rw [if_pos (by omega)]; simp only [hc, if_true]; omega
      · rw [if_neg (by omega)]; simp only [hc, if_false]; omega
  have hlt : ∀ j, sxF b q T j < 18446744073709551616 := by
    intro j; unfold sxF
    split
    · exact limb_lt _ _
    · split
      · exact hsl
      · split <;> decide
  rw [key]
  obtain ⟨q0, q1, q2, q3⟩ := limb_ofL _ _ _ _ (hlt 0) (hlt 1) (hlt 2) (hlt 3)
  have hj2 : j = 0 ∨ j = 1 ∨ j = 2 ∨ j = 3 := by omega
  rcases hj2 with rfl | rfl | rfl | rfl <;> assumption
theorem sext_spec (a b : Nat) (w : World) (ha : a < W256) (hb : b < W256) :
    Ret 278 [wV a, wV b] w (fun v w' => v = wV (eSext a b) ∧ Up w w') := by
  refine enter (n := 55) Hvaa.func278 rfl rfl (Nat.le_of_ble_eq_true rfl) ?_
  have U := Up.refl w
  refine c_seq (fun K1 hK1 => ?_)
  refine c_region ?_
  refine l_eff (e_boxV (et g0 rfl)) (fun v2 w2 h2 => ?_)
  obtain ⟨b2, rfl, n2⟩ := h2
  have f2 : w.heap.size ≤ b2 := Nat.le_trans U.size n2.fresh
  replace U := U.tr n2.up
  have k2 := n2.blk
  refine l_eff (e_boxV (et (gS rfl (gS rfl g0)) rfl)) (fun v3 w3 h3 => ?_)
  obtain ⟨b3, rfl, n3⟩ := h3
  have d2_3 : b2 < b3 := Nat.lt_of_lt_of_le k2.lt n3.fresh
  have f3 : w.heap.size ≤ b3 := Nat.le_trans U.size n3.fresh
  replace k2 := k2.up n3.up
  replace U := U.tr n3.up
  have k3 := n3.blk
  refine l_eff (e_alloc zr_65) (fun v4 w4 h4 => ?_)
  obtain ⟨b4, rfl, n4⟩ := h4
  have d2_4 : b2 < b4 := Nat.lt_of_lt_of_le k2.lt n4.fresh
  have d3_4 : b3 < b4 := Nat.lt_of_lt_of_le k3.lt n4.fresh
  have f4 : w.heap.size ≤ b4 := Nat.le_trans U.size n4.fresh
  replace k2 := k2.up n4.up
  replace k3 := k3.up n4.up
  replace U := U.tr n4.up
  have k4 := n4.blk
  refine l_nil ?_
  refine hK1 _ _ ?_
  refine fg3 2 3 4 (gS rfl (gS rfl g0)) (gS rfl g0) g0 (fun g => ?_)
  refine c_seq (fun K5 hK5 => ?_)
  refine c_region ?_
  refine l_step (y_loadB agg_65 sz_65 (et (gS rfl (gS rfl g0)) rfl) (by first | (simp only [Value.cells, hV, aV, bV, wV, wL, List.size_toArray, length_bL, length_uL, length_be, size_spl, List.length_cons, List.length_nil, List.length_replicate, Nat.zero_add, Nat.reduceAdd, Nat.reduceLeDiff, Nat.le_refl]; done) | rfl) (at1B k2)) ?_
  refine l_eff (e_callV cal_378 (aC (et g0 rfl) (aC (v := .int .u64 ((31 : Nat) : Int)) rfl aN)) (below_spec _ _ _ (by assumption))) (fun v6 w6 h6 => ?_)
  obtain ⟨x6, rfl, hx6, u6⟩ := h6
  replace k2 := k2.up u6
  replace k3 := k3.up u6
  replace k4 := k4.up u6
  replace U := U.tr u6
  refine l_step (y_moveV (et g0 rfl)) ?_
  refine l_step (y_ext (et g0 rfl) rfl) ?_
  refine l_step (y_ext (et (gS rfl g0) rfl) rfl) ?_
  refine l_step (y_assignV (et (gS rfl g0) rfl)) ?_
  refine l_step (y_assignV (et (gS rfl g0) rfl)) ?_
  refine l_nil ?_
  refine hK5 _ _ ?_
  refine fg4 3 4 5 6 (gS rfl (gS rfl (gS rfl (gS rfl (gS rfl (gS rfl (gS rfl (gS rfl g0)))))))) (gS rfl (gS rfl (gS rfl (gS rfl (gS rfl (gS rfl (gS rfl g0))))))) (gS rfl g0) g0 (fun g => ?_)
  refine c_seq (fun K7 hK7 => ?_)
  refine c_seq (fun K8 hK8 => ?_)
  refine c_region ?_
  refine l_step (y_moveV (et g0 rfl)) ?_
  refine l_step (y_not (et g0 rfl)) ?_
  refine l_nil ?_
  refine hK8 _ _ ?_
  refine fg4 3 4 5 17 (gS rfl (gS rfl (gS rfl (gS rfl (gS rfl g0))))) (gS rfl (gS rfl (gS rfl (gS rfl g0)))) (gS rfl (gS rfl (gS rfl g0))) g0 (fun g => ?_)
  refine c_cond (et g0 rfl) (fun cB1 => ?_) (fun cB1 => ?_)
  · skip
    
    have hA : ¬ (a < 18446744073709551616 ∧ a < 31) := by simp at cB1; omega
    refine c_seq (fun K10 hK10 => ?_)
    refine c_region ?_
    refine l_step (y_loadB agg_65 sz_65 (et (gS rfl (gS rfl (gS rfl g0))) rfl) (by first | (simp only [Value.cells, hV, aV, bV, wV, wL, List.size_toArray, length_bL, length_uL, length_be, size_spl, List.length_cons, List.length_nil, List.length_replicate, Nat.zero_add, Nat.reduceAdd, Nat.reduceLeDiff, Nat.le_refl]; done) | rfl) (at1B k3)) ?_
    refine l_effN (e_store sz_65 (et (gS rfl (gS rfl (gS rfl g0))) rfl) (cellsV (et g0 rfl) rfl) (by first | (simp only [Value.cells, hV, aV, bV, wV, wL, List.size_toArray, length_bL, length_uL, length_be, size_spl, List.length_cons, List.length_nil, List.length_replicate, Nat.zero_add, Nat.reduceAdd, Nat.reduceLeDiff, Nat.le_refl]; done) | rfl) (by first | exact one_bL _ | exact one_uL _ | (intro v hv; simp at hv; subst hv; rfl)) k4 (by first | (simp only [Value.cells, hV, aV, bV, wV, wL, List.size_toArray, length_bL, length_uL, length_be, size_spl, List.length_cons, List.length_nil, List.length_replicate, Nat.zero_add, Nat.reduceAdd, Nat.reduceLeDiff, Nat.le_refl]; done) | exact Nat.le_of_ble_eq_true rfl | simp | omega)) (fun v11 w11 h11 => ?_)
    obtain ⟨rfl, x11⟩ := h11
    replace k2 := k2.ch x11.ch (by omega)
    replace k3 := k3.ch x11.ch (by omega)
    replace k4 := x11.blk.full (by first | (simp only [Value.cells, hV, aV, bV, wV, wL, List.size_toArray, length_bL, length_uL, length_be, size_spl, List.length_cons, List.length_nil, List.length_replicate, Nat.zero_add, Nat.reduceAdd, Nat.reduceLeDiff, Nat.le_refl]; done) | rfl)
    replace U := U.st x11 f4
    refine l_nil ?_
    refine hK10 _ _ ?_
    refine fg1 4 (gS rfl (gS rfl (gS rfl g0))) (fun g => ?_)
    refine c_ret ?_
    refine ret1 rfl (res_blk agg_65 sz_65 (et g0 rfl) (by first | (simp only [Value.cells, hV, aV, bV, wV, wL, List.size_toArray, length_bL, length_uL, length_be, size_spl, List.length_cons, List.length_nil, List.length_replicate, Nat.zero_add, Nat.reduceAdd, Nat.reduceLeDiff, Nat.le_refl]; done) | rfl) k4) ?_
    refine ⟨?_, U⟩
    unfold eSext
    rw [if_neg (by omega)]
    rfl
  · skip
    
    have hA : a < 18446744073709551616 ∧ a < 31 := by simpa using cB1
    have hxa := hx6 hA.1
    subst hxa
    replace k3 : Blk w6 b3 (uF (limb b)) := k3
    refine c_skip ?_
    refine hK7 _ _ ?_
    refine fg3 3 4 5 (gS rfl (gS rfl (gS rfl g0))) (gS rfl (gS rfl g0)) (gS rfl g0) (fun g => ?_)
    refine c_seq (fun K12 hK12 => ?_)
    refine c_region ?_
    refine l_step (y_moveV (et g0 rfl)) ?_
    refine l_step (y_mul rfl (et g0 rfl) (wrapU_mulN (a := 8) uk64 ?_)) ?_
    omega
    refine l_step (y_add (et g0 rfl) rfl (wrapU_addN (b := 7) uk64 ?_)) ?_
    omega
    refine l_step (y_quo (et g0 rfl) rfl (by decide) (quoU (b := 64) uk64 ?_)) ?_
    omega
    refine l_step (y_assignV (et g0 rfl)) ?_
    refine l_nil ?_
    refine hK12 _ _ ?_
    refine fg4 3 4 5 7 (gS rfl (gS rfl (gS rfl (gS rfl (gS rfl (gS rfl (gS rfl g0))))))) (gS rfl (gS rfl (gS rfl (gS rfl (gS rfl (gS rfl g0)))))) (gS rfl (gS rfl (gS rfl (gS rfl (gS rfl g0))))) g0 (fun g => ?_)
    refine c_seq (fun K13 hK13 => ?_)
    refine c_region ?_
    refine l_step (y_moveV (et (gS rfl g0) rfl)) ?_
    refine l_step (y_mul rfl (et g0 rfl) (wrapU_mulN (a := 8) uk64 ?_)) ?_
    omega
    refine l_step (y_add (et g0 rfl) rfl (wrapU_addN (b := 7) uk64 ?_)) ?_
    omega
    refine l_step (y_rem (et g0 rfl) rfl (by decide) (remN (b := 64))) ?_
    refine l_step (y_sub rfl (et g0 rfl) (wrapU_subN (a := 63) uk64 ?_ ?_)) ?_
    omega
    omega
    refine l_step (y_assignV (et g0 rfl)) ?_
    refine l_nil ?_
    refine hK13 _ _ ?_
    refine fg4 3 4 7 8 (gS rfl (gS rfl (gS rfl (gS rfl (gS rfl (gS rfl (gS rfl (gS rfl (gS rfl g0))))))))) (gS rfl (gS rfl (gS rfl (gS rfl (gS rfl (gS rfl (gS rfl (gS rfl g0)))))))) (gS rfl (gS rfl (gS rfl (gS rfl (gS rfl (gS rfl g0)))))) g0 (fun g => ?_)
    refine c_seq (fun K14 hK14 => ?_)
    refine c_region ?_
    refine l_step (y_moveV (et (gS rfl g0) rfl)) ?_
    refine l_step (y_moveV (et (gS rfl (gS rfl g0)) rfl)) ?_
    refine l_step (y_idxA Hvaa.underlying65 sz_26 (et (gS rfl (gS rfl (gS rfl (gS rfl (gS rfl g0))))) rfl) (et g0 rfl) ?_ ?_) ?_
    omega
    omega
    refine l_step (y_load1 one_26 (et g0 rfl) (at1 (k3.cell (uF_getE (limb b) _ ((8 * x6 + 7) / 64) (by omega) (by omega))))) ?_
    refine l_step (y_moveV (et (gS rfl (gS rfl (gS rfl (gS rfl g0)))) rfl)) ?_
    refine l_step (y_shl (et (gS rfl g0) rfl) (et g0 rfl) ?_ (shlV ?_)) ?_
    omega
    omega
    refine l_step (y_conv Hvaa.underlying26 Hvaa.underlying2 (et g0 rfl) rfl) ?_
    refine l_step (y_moveV (et (gS rfl (gS rfl (gS rfl (gS rfl (gS rfl (gS rfl (gS rfl g0))))))) rfl)) ?_
    refine l_step (y_shr (et (gS rfl g0) rfl) (et g0 rfl) ?_ rfl) ?_
    omega
    refine l_step (y_conv Hvaa.underlying2 Hvaa.underlying26 (et g0 rfl) (sx64 _ _ ?_)) ?_
    omega
    refine l_step (y_idxA Hvaa.underlying65 sz_26 (et (gS rfl (gS rfl (gS rfl (gS rfl (gS rfl (gS rfl (gS rfl (gS rfl (gS rfl (gS rfl (gS rfl (gS rfl (gS rfl g0))))))))))))) rfl) (et (gS rfl (gS rfl (gS rfl (gS rfl (gS rfl (gS rfl (gS rfl (gS rfl (gS rfl g0))))))))) rfl) ?_ ?_) ?_
    omega
    omega
    refine l_effN (e_store sz_26 (et g0 rfl) (cellsV (et (gS rfl g0) rfl) rfl) rfl (by first | exact one_bL _ | exact one_uL _ | (intro v hv; simp at hv; subst hv; rfl)) k3 (by simp only [uF_size, List.length_singleton]; omega)) (fun v15 w15 h15 => ?_)
    obtain ⟨rfl, x15⟩ := h15
    replace k2 := k2.ch x15.ch (by omega)
    replace k4 := k4.ch x15.ch (by omega)
    replace k3 := x15.blk
    replace U := U.st x15 f3
    obtain ⟨f2, hf2, k3⟩ := k3.setF (i := ((8 * x6 + 7) / 64)) (by omega) (by omega)
    refine l_nil ?_
    refine hK14 _ _ ?_
    refine fg3 3 4 7 (gS rfl (gS rfl (gS rfl (gS rfl (gS rfl (gS rfl (gS rfl (gS rfl (gS rfl (gS rfl (gS rfl (gS rfl (gS rfl (gS rfl g0)))))))))))))) (gS rfl (gS rfl (gS rfl (gS rfl (gS rfl (gS rfl (gS rfl (gS rfl (gS rfl (gS rfl (gS rfl (gS rfl (gS rfl g0))))))))))))) (gS rfl (gS rfl (gS rfl (gS rfl (gS rfl (gS rfl (gS rfl (gS rfl (gS rfl (gS rfl (gS rfl (gS rfl g0)))))))))))) (fun g => ?_)
    refine c_seq (fun K16 hK16 => ?_)
    refine c_region ?_
    refine l_step (y_moveV (et g0 rfl)) ?_
    refine l_step (y_idxA Hvaa.underlying65 sz_26 (et (gS rfl (gS rfl (gS rfl g0))) rfl) (et g0 rfl) ?_ ?_) ?_
    omega
    omega
    refine l_step (y_load1 one_26 (et g0 rfl) (at1 (k3.cell (uF_getE f2 _ ((8 * x6 + 7) / 64) (by omega) (by omega))))) ?_
    refine l_step (y_conv Hvaa.underlying26 Hvaa.underlying2 (et g0 rfl) rfl) ?_
    refine l_step (y_shr (et g0 rfl) rfl (by decide) rfl) ?_
    refine l_step (y_conv Hvaa.underlying2 Hvaa.underlying26 (et g0 rfl) (sarF_eq _ ?_)) ?_
    (rw [hf2, if_pos rfl]; exact sxt_lt _ _ _ (Nat.two_pow_pos _) (Nat.pow_le_pow_right (n := 2) (j := 64) (by decide) (by omega)))
    refine l_step (y_assignV (et g0 rfl)) ?_
    refine l_nil ?_
    refine hK16 _ _ ?_
    refine fg4 3 4 7 9 (gS rfl (gS rfl (gS rfl (gS rfl (gS rfl (gS rfl (gS rfl (gS rfl (gS rfl g0))))))))) (gS rfl (gS rfl (gS rfl (gS rfl (gS rfl (gS rfl (gS rfl (gS rfl g0)))))))) (gS rfl (gS rfl (gS rfl (gS rfl (gS rfl (gS rfl (gS rfl g0))))))) g0 (fun g => ?_)
    refine c_seq (fun K17 hK17 => ?_)
    refine c_seq (fun K18 hK18 => ?_)
    refine c_region ?_
    refine l_step (y_moveV (et (gS rfl g0) rfl)) ?_
    refine l_step (y_add (et g0 rfl) rfl (wrapU_addN (b := 1) uk64 ?_)) ?_
    omega
    refine l_step (y_assignV (et g0 rfl)) ?_
    refine l_nil ?_
    refine hK18 _ _ ?_
    refine fg4 3 4 9 10 (gS rfl (gS rfl (gS rfl (gS rfl (gS rfl (gS rfl g0)))))) (gS rfl (gS rfl (gS rfl (gS rfl (gS rfl g0))))) (gS rfl (gS rfl (gS rfl g0))) g0 (fun g => ?_)
    refine c_block (fun Q19 hQ19 => ?_)
    refine fg4 3 4 9 10 (gS rfl (gS rfl (gS rfl g0))) (gS rfl (gS rfl g0)) (gS rfl g0) g0 (fun g => ?_)
    have hT : 2 ^ (64 - (63 - (8 * x6 + 7) % 64)) = 2 ^ ((8 * x6 + 7) % 64 + 1) := by congr 1; omega
    have hf0 : ∀ j, j < 4 → f2 j = if j < ((8 * x6 + 7) / 64) + 1 then limb (eSext x6 b) j else limb b j := by
      intro j hj
      rw [hf2]
      by_cases h1 : j = ((8 * x6 + 7) / 64)
      · rw [if_pos h1, if_pos (by omega), eSext_limb _ _ hA.2 hb j hj]
        unfold sxF
        rw [if_neg (by omega), if_pos h1, hT]
      · rw [if_neg h1]
        split
        · rw [eSext_limb _ _ hA.2 hb j hj]
          unfold sxF
          rw [if_pos (by omega)]
        · rfl
    have hfl : (if 9223372036854775808 ≤ f2 ((8 * x6 + 7) / 64) then 18446744073709551615 else 0 : Nat) = if 2 ^ ((8 * x6 + 7) % 64 + 1) ≤ 2 * (limb b ((8 * x6 + 7) / 64) % 2 ^ ((8 * x6 + 7) % 64 + 1)) then 18446744073709551615 else 0 := by
      rw [hf2, if_pos rfl, sxt_top _ _ (by omega), hT]
    refine c_loop (fun k s W20 => ∃ (g : Nat → Value) (i : Nat) (f : Nat → Nat), s = (upd (upd (upd (upd g 3 (.pointer (some ⟨b3, 0, none⟩))) 4 (.pointer (some ⟨b4, 0, none⟩))) 9 (.int .u64 ((if 9223372036854775808 ≤ f2 ((8 * x6 + 7) / 64) then 18446744073709551615 else 0 : Nat) : Nat))) 10 (.int .u64 (i : Nat))) ∧ 4 - i = k ∧ (((8 * x6 + 7) / 64) + 1 ≤ i) ∧ (i ≤ 4) ∧ (∀ j, j < 4 → f j = if j < i then limb (eSext x6 b) j else limb b j) ∧ Blk W20 b3 (uF f) ∧ Ch (fun k => k = b3) w15 W20) (4 - (((8 * x6 + 7) / 64) + 1)) ?_ ?_
    · exact ⟨g, ((8 * x6 + 7) / 64) + 1, f2, rfl, rfl, Nat.le_refl _, by omega, hf0, k3, Ch.refl _ _⟩
    · skip
      intro k s W20 hI K20 hK20
      obtain ⟨g, i, f, rfl, rfl, hq, hi4, hf, nk3, V20⟩ := hI
      replace k2 := k2.ch V20 (by omega)
      replace k4 := k4.ch V20 (by omega)
      replace k3 := nk3
      replace U := U.cc V20 (by intro b hb; first | omega | (simp at hb ⊢; omega))
      refine c_seq (fun K21 hK21 => ?_)
      refine c_seq (fun K22 hK22 => ?_)
      refine c_region ?_
      refine l_step (y_moveV (et g0 rfl)) ?_
      refine l_step (y_lss (et g0 rfl) rfl) ?_
      refine l_nil ?_
      refine hK22 _ _ ?_
      refine fg5 3 4 9 10 48 (gS rfl (gS rfl (gS rfl (gS rfl (gS rfl g0))))) (gS rfl (gS rfl (gS rfl (gS rfl g0)))) (gS rfl (gS rfl (gS rfl g0))) (gS rfl (gS rfl g0)) g0 (fun g => ?_)
      refine c_cond (et g0 rfl) (fun cB2 => ?_) (fun cB2 => ?_)
      · skip
        simp only [decide_eq_true_eq, decide_eq_false_iff_not, Int.not_lt, Int.not_le, Bool.not_eq_true', Bool.not_eq_false', Bool.not_eq_eq_eq_not, Bool.not_true, Bool.not_false] at cB2
        refine c_skip ?_
        refine hK21 _ _ ?_
        refine fg4 3 4 9 10 (gS rfl (gS rfl (gS rfl (gS rfl g0)))) (gS rfl (gS rfl (gS rfl g0))) (gS rfl (gS rfl g0)) (gS rfl g0) (fun g => ?_)
        refine c_seq (fun K24 hK24 => ?_)
        refine c_block (fun Q25 hQ25 => ?_)
        refine c_region ?_
        refine l_step (y_moveV (et g0 rfl)) ?_
        refine l_step (y_moveV (et (gS rfl (gS rfl g0)) rfl)) ?_
        refine l_step (y_idxA Hvaa.underlying65 sz_26 (et (gS rfl (gS rfl (gS rfl (gS rfl (gS rfl g0))))) rfl) (et (gS rfl g0) rfl) ?_ ?_) ?_
        omega
        omega
        refine l_effN (e_store sz_26 (et g0 rfl) (cellsV (et (gS rfl g0) rfl) rfl) rfl (by first | exact one_bL _ | exact one_uL _ | (intro v hv; simp at hv; subst hv; rfl)) k3 (by simp only [uF_size, List.length_singleton]; omega)) (fun v26 w26 h26 => ?_)
        obtain ⟨rfl, x26⟩ := h26
        replace k2 := k2.ch x26.ch (by omega)
        replace k4 := k4.ch x26.ch (by omega)
        replace k3 := x26.blk
        replace U := U.st x26 f3
        replace V20 := V20.st x26 (by omega)
        obtain ⟨f3, hf3, k3⟩ := k3.setF (i := i) (by omega) (by omega)
        have hfN : ∀ j, j < 4 → f3 j = if j < i + 1 then limb (eSext x6 b) j else limb b j := by
          intro j hj
          rw [hf3]
          by_cases h1 : j = i
          · rw [if_pos h1, if_pos (show j < i + 1 by omega), eSext_limb _ _ hA.2 hb j hj, hfl]
            unfold sxF
            rw [if_neg (show ¬ j < ((8 * x6 + 7) / 64) by omega), if_neg (show ¬ j = ((8 * x6 + 7) / 64) by omega)]
          · rw [if_neg h1, hf j hj]
            by_cases h2 : j < i
            · rw [if_pos h2, if_pos (by omega)]
            · rw [if_neg h2, if_neg (by omega)]
        refine l_nil ?_
        refine hQ25 _ _ _ (in_normal ?_)
        refine hK24 _ _ ?_
        refine fg4 3 4 9 10 (gS rfl (gS rfl (gS rfl (gS rfl (gS rfl (gS rfl g0)))))) (gS rfl (gS rfl (gS rfl (gS rfl (gS rfl g0))))) (gS rfl (gS rfl (gS rfl (gS rfl g0)))) (gS rfl (gS rfl (gS rfl g0))) (fun g => ?_)
        refine c_region ?_
        refine l_step (y_moveV (et g0 rfl)) ?_
        refine l_step (y_add (et g0 rfl) rfl (wrapU_addN (b := 1) uk64 ?_)) ?_
        omega
        refine l_step (y_assignV (et g0 rfl)) ?_
        refine l_nil ?_
        refine fK4 3 4 9 10 (gS rfl (gS rfl (gS rfl (gS rfl (gS rfl (gS rfl g0)))))) (gS rfl (gS rfl (gS rfl (gS rfl (gS rfl g0))))) (gS rfl (gS rfl (gS rfl (gS rfl g0)))) g0 (fun g => ?_)
        exact hK20 (4 - (i + 1)) _ _ (by omega) ⟨g, i + 1, _, rfl, rfl, by omega, by omega, hfN, k3, V20⟩
      · skip
        simp only [decide_eq_true_eq, decide_eq_false_iff_not, Int.not_lt, Int.not_le, Bool.not_eq_true', Bool.not_eq_false', Bool.not_eq_eq_eq_not, Bool.not_true, Bool.not_false] at cB2
        refine c_exit ?_
        refine hQ19 _ _ _ (in_exit ?_)
        refine hK17 _ _ ?_
        refine fg2 3 4 (gS rfl (gS rfl (gS rfl (gS rfl g0)))) (gS rfl (gS rfl (gS rfl g0))) (fun g => ?_)
        refine c_seq (fun K27 hK27 => ?_)
        refine c_region ?_
        refine l_step (y_loadB agg_65 sz_65 (et (gS rfl g0) rfl) rfl (at1B k3)) ?_
        refine l_effN (e_store sz_65 (et (gS rfl g0) rfl) (cellsV (et g0 rfl) rfl) (by first | (simp only [Value.cells, hV, aV, bV, wV, wL, List.size_toArray, length_bL, length_uL, length_be, size_spl, List.length_cons, List.length_nil, List.length_replicate, Nat.zero_add, Nat.reduceAdd, Nat.reduceLeDiff, Nat.le_refl]; done) | rfl) (by first | exact one_bL _ | exact one_uL _ | (intro v hv; simp at hv; subst hv; rfl)) k4 (by first | (simp only [Value.cells, hV, aV, bV, wV, wL, List.size_toArray, length_bL, length_uL, length_be, size_spl, List.length_cons, List.length_nil, List.length_replicate, Nat.zero_add, Nat.reduceAdd, Nat.reduceLeDiff, Nat.le_refl]; done) | exact Nat.le_of_ble_eq_true rfl | simp | omega)) (fun v28 w28 h28 => ?_)
        obtain ⟨rfl, x28⟩ := h28
        replace k2 := k2.ch x28.ch (by omega)
        replace k3 := k3.ch x28.ch (by omega)
        replace k4 := x28.blk.full (by first | (simp only [Value.cells, hV, aV, bV, wV, wL, List.size_toArray, length_bL, length_uL, length_be, size_spl, List.length_cons, List.length_nil, List.length_replicate, Nat.zero_add, Nat.reduceAdd, Nat.reduceLeDiff, Nat.le_refl]; done) | rfl)
        replace U := U.st x28 f4
        refine l_nil ?_
        refine hK27 _ _ ?_
        refine fg1 4 (gS rfl g0) (fun g => ?_)
        refine c_ret ?_
        refine ret1 rfl (res_blk agg_65 sz_65 (et g0 rfl) (by first | (simp only [Value.cells, hV, aV, bV, wV, wL, List.size_toArray, length_bL, length_uL, length_be, size_spl, List.length_cons, List.length_nil, List.length_replicate, Nat.zero_add, Nat.reduceAdd, Nat.reduceLeDiff, Nat.le_refl]; done) | rfl) k4) ?_
        refine ⟨wV_uF (fun j hj => ?_), U⟩
        rw [hf j hj, if_pos (by omega)]
end Go.Proofs.YgvaawGreat
