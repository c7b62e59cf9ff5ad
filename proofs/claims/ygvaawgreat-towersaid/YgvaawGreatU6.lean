import Derived.Test.YgvaawGreatU5
set_option maxRecDepth 100000
set_option linter.unusedSimpArgs false
set_option linter.unusedVariables false
namespace Go.Proofs.YgvaawGreat
open Go
theorem modW (p0 p1 p2 x y z : Nat) (h0 : p0 < 18446744073709551616) (h1 : p1 < 18446744073709551616) (h2 : p2 < 18446744073709551616) (h : p0 + p1 * 18446744073709551616 + p2 * 340282366920938463463374607431768211456 + x * 6277101735386680763835789423207666416102355444464034512896 + y * 115792089237316195423570985008687907853269984665640564039457584007913129639936 = z) : ofL p0 p1 p2 (x % 18446744073709551616) = z % W256 := by
  unfold ofL W256; omega
theorem mul_lin (a0 a1 a2 a3 b0 b1 b2 b3 p6 q6 p8 q8 p10 q10 s12 c12 s14 c14 p17 q17 p19 q19 s21 c21 s23 c23 s26 c26 p29 q29 s31 c31 z : Nat) (he6 : p6 * 18446744073709551616 + q6 = a0 * b0) (he8 : p8 * 18446744073709551616 + q8 = a0 * b1) (he10 : p10 * 18446744073709551616 + q10 = a0 * b2) (he12 : s12 + c12 * 18446744073709551616 = p6 + q8 + 0) (he14 : s14 + c14 * 18446744073709551616 = p8 + q10 + c12) (he17 : p17 * 18446744073709551616 + q17 = a1 * b0) (he19 : p19 * 18446744073709551616 + q19 = a1 * b1) (he21 : s21 + c21 * 18446744073709551616 = s12 + q17 + 0) (he23 : s23 + c23 * 18446744073709551616 = s14 + q19 + c21) (he26 : s26 + c26 * 18446744073709551616 = s23 + p17 + 0) (he29 : p29 * 18446744073709551616 + q29 = a2 * b0) (he31 : s31 + c31 * 18446744073709551616 = s26 + q29 + 0) : q6 + s21 * 18446744073709551616 + s31 * 340282366920938463463374607431768211456 + (p10 + a0 * b3 + c14 + (p19 + a1 * b2 + c23) + c26 + (p29 + a2 * b1 + c31 + a3 * b0)) * 6277101735386680763835789423207666416102355444464034512896 + z * 115792089237316195423570985008687907853269984665640564039457584007913129639936 = a0 * b0 + a0 * b1 * 18446744073709551616 + a0 * b2 * 340282366920938463463374607431768211456 + a0 * b3 * 6277101735386680763835789423207666416102355444464034512896 + a1 * b0 * 18446744073709551616 + a1 * b1 * 340282366920938463463374607431768211456 + a1 * b2 * 6277101735386680763835789423207666416102355444464034512896 + a2 * b0 * 340282366920938463463374607431768211456 + a2 * b1 * 6277101735386680763835789423207666416102355444464034512896 + a3 * b0 * 6277101735386680763835789423207666416102355444464034512896 + z * 115792089237316195423570985008687907853269984665640564039457584007913129639936 := by
  omega
theorem mul_spec (a b : Nat) (w : World) (ha : a < W256) (hb : b < W256) :
    Ret 95 [wV a, wV b] w (fun v w' => v = wV (a * b % W256) ∧ Up w w') := by
  have La := ofL_limb a ha
  have la0 := limb_lt a 0
  have la1 := limb_lt a 1
  have la2 := limb_lt a 2
  have la3 := limb_lt a 3
  generalize hla0 : limb a 0 = xa0 at *
  generalize hla1 : limb a 1 = xa1 at *
  generalize hla2 : limb a 2 = xa2 at *
  generalize hla3 : limb a 3 = xa3 at *
  have ea : wV a = .agg (uL [xa0, xa1, xa2, xa3]).toArray := by unfold wV wL; rw [hla0, hla1, hla2, hla3]
  rw [ea]
  clear hla0 hla1 hla2 hla3 ea
  have Lb := ofL_limb b hb
  have lb0 := limb_lt b 0
  have lb1 := limb_lt b 1
  have lb2 := limb_lt b 2
  have lb3 := limb_lt b 3
  generalize hlb0 : limb b 0 = xb0 at *
  generalize hlb1 : limb b 1 = xb1 at *
  generalize hlb2 : limb b 2 = xb2 at *
  generalize hlb3 : limb b 3 = xb3 at *
  have eb : wV b = .agg (uL [xb0, xb1, xb2, xb3]).toArray := by unfold wV wL; rw [hlb0, hlb1, hlb2, hlb3]
  rw [eb]
  clear hlb0 hlb1 hlb2 hlb3 eb
  refine enter (n := 147) Hvaa.func95 rfl rfl (Nat.le_of_ble_eq_true rfl) ?_
  have U := Up.refl w
  refine c_seq (fun K1 hK1 => ?_)
  refine c_region ?_
  refine l_eff (e_boxV (et g0 rfl)) (fun v2 w2 h2 => ?_)
  obtain ⟨b2, rfl, n2⟩ := h2
  have f2 : w.heap.size ≤ b2 := Nat.le_trans U.size n2.fresh
  replace U := U.tr n2.up
  have k2 := n2.blk
  refine l_eff (e_boxV (et (gS rfl (gS rfl g0)) rfl)) (fun v3 w3 h3 => ?_)
  obtain ⟨b3, rfl, n3⟩ := h3
  have d2_3 : b2 < b3 := Nat.lt_of_lt_of_le k2.lt n3.fresh
  have f3 : w.heap.size ≤ b3 := Nat.le_trans U.size n3.fresh
  replace k2 := k2.up n3.up
  replace U := U.tr n3.up
  have k3 := n3.blk
  refine l_eff (e_alloc zr_65) (fun v4 w4 h4 => ?_)
  obtain ⟨b4, rfl, n4⟩ := h4
  have d2_4 : b2 < b4 := Nat.lt_of_lt_of_le k2.lt n4.fresh
  have d3_4 : b3 < b4 := Nat.lt_of_lt_of_le k3.lt n4.fresh
  have f4 : w.heap.size ≤ b4 := Nat.le_trans U.size n4.fresh
  replace k2 := k2.up n4.up
  replace k3 := k3.up n4.up
  replace U := U.tr n4.up
  have k4 := n4.blk
  refine l_nil ?_
  refine hK1 _ _ ?_
  refine fg3 2 3 4 (gS rfl (gS rfl g0)) (gS rfl g0) g0 (fun g => ?_)
  refine c_seq (fun K5 hK5 => ?_)
  refine c_region ?_
  refine l_step (y_idxAC 0 0 Hvaa.underlying65 sz_26 (et (gS rfl (gS rfl g0)) rfl) rfl rfl rfl) ?_
  refine l_step (y_load1 one_26 (et g0 rfl) (at1 (k2.cell rfl))) ?_
  refine l_step (y_idxAC 0 0 Hvaa.underlying65 sz_26 (et (gS rfl (gS rfl (gS rfl g0))) rfl) rfl rfl rfl) ?_
  refine l_step (y_load1 one_26 (et g0 rfl) (at1 (k3.cell rfl))) ?_
  refine l_eff (e_callV cal_168 (aC (et (gS rfl (gS rfl g0)) rfl) (aC (et g0 rfl) aN)) (mul64_r _ _ _ (by assumption) (by assumption))) (fun v6 w6 h6 => ?_)
  obtain ⟨p6, q6, rfl, hp6, hq6, he6, u6⟩ := h6
  replace k2 := k2.up u6
  replace k3 := k3.up u6
  replace k4 := k4.up u6
  replace U := U.tr u6
  refine l_step (y_moveV (et g0 rfl)) ?_
  refine l_step (y_ext (et g0 rfl) rfl) ?_
  refine l_step (y_ext (et (gS rfl g0) rfl) rfl) ?_
  refine l_step (y_assignV (et (gS rfl g0) rfl)) ?_
  refine l_step (y_assignV (et (gS rfl g0) rfl)) ?_
  refine l_nil ?_
  refine hK5 _ _ ?_
  refine fg5 2 3 4 5 6 (gS rfl (gS rfl (gS rfl (gS rfl (gS rfl (gS rfl (gS rfl (gS rfl (gS rfl (gS rfl (gS rfl (gS rfl g0)))))))))))) (gS rfl (gS rfl (gS rfl (gS rfl (gS rfl (gS rfl (gS rfl (gS rfl (gS rfl (gS rfl (gS rfl g0))))))))))) (gS rfl (gS rfl (gS rfl (gS rfl (gS rfl (gS rfl (gS rfl (gS rfl (gS rfl (gS rfl g0)))))))))) (gS rfl g0) g0 (fun g => ?_)
  refine c_seq (fun K7 hK7 => ?_)
  refine c_region ?_
  refine l_step (y_idxAC 0 0 Hvaa.underlying65 sz_26 (et (gS rfl (gS rfl (gS rfl (gS rfl g0)))) rfl) rfl rfl rfl) ?_
  refine l_step (y_load1 one_26 (et g0 rfl) (at1 (k2.cell rfl))) ?_
  refine l_step (y_idxAC 1 1 Hvaa.underlying65 sz_26 (et (gS rfl (gS rfl (gS rfl (gS rfl (gS rfl g0))))) rfl) rfl rfl rfl) ?_
  refine l_step (y_load1 one_26 (et g0 rfl) (at1 (k3.cell rfl))) ?_
  refine l_eff (e_callV cal_168 (aC (et (gS rfl (gS rfl g0)) rfl) (aC (et g0 rfl) aN)) (mul64_r _ _ _ (by assumption) (by assumption))) (fun v8 w8 h8 => ?_)
  obtain ⟨p8, q8, rfl, hp8, hq8, he8, u8⟩ := h8
  replace k2 := k2.up u8
  replace k3 := k3.up u8
  replace k4 := k4.up u8
  replace U := U.tr u8
  refine l_step (y_moveV (et g0 rfl)) ?_
  refine l_step (y_ext (et g0 rfl) rfl) ?_
  refine l_step (y_ext (et (gS rfl g0) rfl) rfl) ?_
  refine l_step (y_assignV (et (gS rfl g0) rfl)) ?_
  refine l_step (y_assignV (et (gS rfl g0) rfl)) ?_
  refine l_nil ?_
  refine hK7 _ _ ?_
  refine fg7 2 3 4 5 6 7 8 (gS rfl (gS rfl (gS rfl (gS rfl (gS rfl (gS rfl (gS rfl (gS rfl (gS rfl (gS rfl (gS rfl (gS rfl (gS rfl (gS rfl g0)))))))))))))) (gS rfl (gS rfl (gS rfl (gS rfl (gS rfl (gS rfl (gS rfl (gS rfl (gS rfl (gS rfl (gS rfl (gS rfl (gS rfl g0))))))))))))) (gS rfl (gS rfl (gS rfl (gS rfl (gS rfl (gS rfl (gS rfl (gS rfl (gS rfl (gS rfl (gS rfl (gS rfl g0)))))))))))) (gS rfl (gS rfl (gS rfl (gS rfl (gS rfl (gS rfl (gS rfl (gS rfl (gS rfl (gS rfl (gS rfl g0))))))))))) (gS rfl (gS rfl (gS rfl (gS rfl (gS rfl (gS rfl (gS rfl (gS rfl (gS rfl (gS rfl g0)))))))))) (gS rfl g0) g0 (fun g => ?_)
  refine c_seq (fun K9 hK9 => ?_)
  refine c_region ?_
  refine l_step (y_idxAC 0 0 Hvaa.underlying65 sz_26 (et (gS rfl (gS rfl (gS rfl (gS rfl (gS rfl (gS rfl g0)))))) rfl) rfl rfl rfl) ?_
  refine l_step (y_load1 one_26 (et g0 rfl) (at1 (k2.cell rfl))) ?_
  refine l_step (y_idxAC 2 2 Hvaa.underlying65 sz_26 (et (gS rfl (gS rfl (gS rfl (gS rfl (gS rfl (gS rfl (gS rfl g0))))))) rfl) rfl rfl rfl) ?_
  refine l_step (y_load1 one_26 (et g0 rfl) (at1 (k3.cell rfl))) ?_
  refine l_eff (e_callV cal_168 (aC (et (gS rfl (gS rfl g0)) rfl) (aC (et g0 rfl) aN)) (mul64_r _ _ _ (by assumption) (by assumption))) (fun v10 w10 h10 => ?_)
  obtain ⟨p10, q10, rfl, hp10, hq10, he10, u10⟩ := h10
  replace k2 := k2.up u10
  replace k3 := k3.up u10
  replace k4 := k4.up u10
  replace U := U.tr u10
  refine l_step (y_moveV (et g0 rfl)) ?_
  refine l_step (y_ext (et g0 rfl) rfl) ?_
  refine l_step (y_ext (et (gS rfl g0) rfl) rfl) ?_
  refine l_step (y_assignV (et (gS rfl g0) rfl)) ?_
  refine l_step (y_assignV (et (gS rfl g0) rfl)) ?_
  refine l_nil ?_
  refine hK9 _ _ ?_
  refine fg9 2 3 4 5 6 7 8 9 10 (gS rfl (gS rfl (gS rfl (gS rfl (gS rfl (gS rfl (gS rfl (gS rfl (gS rfl (gS rfl (gS rfl (gS rfl (gS rfl (gS rfl (gS rfl (gS rfl g0)))))))))))))))) (gS rfl (gS rfl (gS rfl (gS rfl (gS rfl (gS rfl (gS rfl (gS rfl (gS rfl (gS rfl (gS rfl (gS rfl (gS rfl (gS rfl (gS rfl g0))))))))))))))) (gS rfl (gS rfl (gS rfl (gS rfl (gS rfl (gS rfl (gS rfl (gS rfl (gS rfl (gS rfl (gS rfl (gS rfl (gS rfl (gS rfl g0)))))))))))))) (gS rfl (gS rfl (gS rfl (gS rfl (gS rfl (gS rfl (gS rfl (gS rfl (gS rfl (gS rfl (gS rfl (gS rfl (gS rfl g0))))))))))))) (gS rfl (gS rfl (gS rfl (gS rfl (gS rfl (gS rfl (gS rfl (gS rfl (gS rfl (gS rfl (gS rfl (gS rfl g0)))))))))))) (gS rfl (gS rfl (gS rfl (gS rfl (gS rfl (gS rfl (gS rfl (gS rfl (gS rfl (gS rfl (gS rfl g0))))))))))) (gS rfl (gS rfl (gS rfl (gS rfl (gS rfl (gS rfl (gS rfl (gS rfl (gS rfl (gS rfl g0)))))))))) (gS rfl g0) g0 (fun g => ?_)
  refine c_seq (fun K11 hK11 => ?_)
  refine c_region ?_
  refine l_step (y_moveV (et (gS rfl (gS rfl (gS rfl (gS rfl (gS rfl g0))))) rfl)) ?_
  refine l_step (y_moveV (et (gS rfl (gS rfl (gS rfl g0))) rfl)) ?_
  refine l_eff (e_callV cal_169 (aC (et (gS rfl g0) rfl) (aC (et g0 rfl) (aC (v := .int .u64 ((0 : Nat) : Int)) rfl aN))) (add64_r _ _ _ _ (by first | assumption | omega) (by first | assumption | omega) (by first | assumption | decide))) (fun v12 w12 h12 => ?_)
  obtain ⟨s12, c12, rfl, hs12, hc12, he12, u12⟩ := h12
  replace k2 := k2.up u12
  replace k3 := k3.up u12
  replace k4 := k4.up u12
  replace U := U.tr u12
  refine l_step (y_moveV (et g0 rfl)) ?_
  refine l_step (y_ext (et g0 rfl) rfl) ?_
  refine l_step (y_ext (et (gS rfl g0) rfl) rfl) ?_
  refine l_step (y_assignV (et (gS rfl g0) rfl)) ?_
  refine l_step (y_assignV (et (gS rfl g0) rfl)) ?_
  refine l_nil ?_
  refine hK11 _ _ ?_
  refine fg9 2 3 4 5 6 7 9 10 11 (gS rfl (gS rfl (gS rfl (gS rfl (gS rfl (gS rfl (gS rfl (gS rfl (gS rfl (gS rfl (gS rfl (gS rfl (gS rfl (gS rfl (gS rfl (gS rfl g0)))))))))))))))) (gS rfl (gS rfl (gS rfl (gS rfl (gS rfl (gS rfl (gS rfl (gS rfl (gS rfl (gS rfl (gS rfl (gS rfl (gS rfl (gS rfl (gS rfl g0))))))))))))))) (gS rfl (gS rfl (gS rfl (gS rfl (gS rfl (gS rfl (gS rfl (gS rfl (gS rfl (gS rfl (gS rfl (gS rfl (gS rfl (gS rfl g0)))))))))))))) (gS rfl g0) (gS rfl (gS rfl (gS rfl (gS rfl (gS rfl (gS rfl (gS rfl (gS rfl (gS rfl (gS rfl (gS rfl (gS rfl g0)))))))))))) (gS rfl (gS rfl (gS rfl (gS rfl (gS rfl (gS rfl (gS rfl (gS rfl (gS rfl (gS rfl (gS rfl g0))))))))))) (gS rfl (gS rfl (gS rfl (gS rfl (gS rfl (gS rfl (gS rfl (gS rfl (gS rfl g0))))))))) (gS rfl (gS rfl (gS rfl (gS rfl (gS rfl (gS rfl (gS rfl (gS rfl g0)))))))) g0 (fun g => ?_)
  refine c_seq (fun K13 hK13 => ?_)
  refine c_region ?_
  refine l_step (y_moveV (et (gS rfl (gS rfl (gS rfl g0))) rfl)) ?_
  refine l_step (y_moveV (et (gS rfl (gS rfl g0)) rfl)) ?_
  refine l_step (y_moveV (et (gS rfl (gS rfl g0)) rfl)) ?_
  refine l_eff (e_callV cal_169 (aC (et (gS rfl (gS rfl g0)) rfl) (aC (et (gS rfl g0) rfl) (aC (et g0 rfl) aN))) (add64_r _ _ _ _ (by first | assumption | omega) (by first | assumption | omega) (by first | assumption | decide))) (fun v14 w14 h14 => ?_)
  obtain ⟨s14, c14, rfl, hs14, hc14, he14, u14⟩ := h14
  replace k2 := k2.up u14
  replace k3 := k3.up u14
  replace k4 := k4.up u14
  replace U := U.tr u14
  refine l_step (y_moveV (et g0 rfl)) ?_
  refine l_step (y_ext (et g0 rfl) rfl) ?_
  refine l_step (y_ext (et (gS rfl g0) rfl) rfl) ?_
  refine l_step (y_assignV (et (gS rfl g0) rfl)) ?_
  refine l_step (y_assignV (et (gS rfl g0) rfl)) ?_
  refine l_nil ?_
  refine hK13 _ _ ?_
  refine fg8 2 3 4 5 6 9 11 12 (gS rfl (gS rfl (gS rfl (gS rfl (gS rfl (gS rfl (gS rfl (gS rfl (gS rfl (gS rfl (gS rfl (gS rfl (gS rfl (gS rfl (gS rfl (gS rfl (gS rfl g0))))))))))))))))) (gS rfl (gS rfl (gS rfl (gS rfl (gS rfl (gS rfl (gS rfl (gS rfl (gS rfl (gS rfl (gS rfl (gS rfl (gS rfl (gS rfl (gS rfl (gS rfl g0)))))))))))))))) (gS rfl (gS rfl (gS rfl (gS rfl (gS rfl (gS rfl (gS rfl (gS rfl (gS rfl (gS rfl (gS rfl (gS rfl (gS rfl (gS rfl (gS rfl g0))))))))))))))) (gS rfl (gS rfl (gS rfl (gS rfl (gS rfl (gS rfl (gS rfl (gS rfl (gS rfl (gS rfl (gS rfl (gS rfl (gS rfl (gS rfl g0)))))))))))))) (gS rfl (gS rfl (gS rfl (gS rfl (gS rfl (gS rfl (gS rfl (gS rfl (gS rfl (gS rfl (gS rfl (gS rfl (gS rfl g0))))))))))))) (gS rfl (gS rfl (gS rfl (gS rfl (gS rfl (gS rfl (gS rfl (gS rfl (gS rfl (gS rfl (gS rfl g0))))))))))) g0 (gS rfl g0) (fun g => ?_)
  refine c_seq (fun K15 hK15 => ?_)
  refine c_region ?_
  refine l_step (y_moveV (et (gS rfl (gS rfl g0)) rfl)) ?_
  refine l_step (y_idxAC 0 0 Hvaa.underlying65 sz_26 (et (gS rfl (gS rfl (gS rfl (gS rfl (gS rfl (gS rfl (gS rfl (gS rfl g0)))))))) rfl) rfl rfl rfl) ?_
  refine l_step (y_load1 one_26 (et g0 rfl) (at1 (k2.cell rfl))) ?_
  refine l_step (y_idxAC 3 3 Hvaa.underlying65 sz_26 (et (gS rfl (gS rfl (gS rfl (gS rfl (gS rfl (gS rfl (gS rfl (gS rfl (gS rfl g0))))))))) rfl) rfl rfl rfl) ?_
  refine l_step (y_load1 one_26 (et g0 rfl) (at1 (k3.cell rfl))) ?_
  refine l_step (y_mul (et (gS rfl (gS rfl g0)) rfl) (et g0 rfl) (wrapU_mul uk64)) ?_
  refine l_step (y_add (et (gS rfl (gS rfl (gS rfl (gS rfl (gS rfl g0))))) rfl) (et g0 rfl) (wrapU_add uk64)) ?_
  refine l_step (y_moveV (et (gS rfl (gS rfl (gS rfl (gS rfl (gS rfl (gS rfl (gS rfl (gS rfl g0)))))))) rfl)) ?_
  refine l_step (y_add (et (gS rfl g0) rfl) (et g0 rfl) (wrapU_add uk64)) ?_
  refine l_step (y_assignV (et g0 rfl)) ?_
  refine l_nil ?_
  refine hK15 _ _ ?_
  refine fg7 2 3 4 5 6 12 13 (gS rfl (gS rfl (gS rfl (gS rfl (gS rfl (gS rfl (gS rfl (gS rfl (gS rfl (gS rfl (gS rfl (gS rfl (gS rfl (gS rfl (gS rfl (gS rfl (gS rfl g0))))))))))))))))) (gS rfl (gS rfl (gS rfl (gS rfl (gS rfl (gS rfl (gS rfl (gS rfl (gS rfl (gS rfl (gS rfl (gS rfl (gS rfl (gS rfl (gS rfl (gS rfl g0)))))))))))))))) (gS rfl (gS rfl (gS rfl (gS rfl (gS rfl (gS rfl (gS rfl (gS rfl (gS rfl (gS rfl (gS rfl (gS rfl (gS rfl (gS rfl (gS rfl g0))))))))))))))) (gS rfl (gS rfl (gS rfl (gS rfl (gS rfl (gS rfl (gS rfl (gS rfl (gS rfl (gS rfl (gS rfl (gS rfl (gS rfl (gS rfl g0)))))))))))))) (gS rfl (gS rfl (gS rfl (gS rfl (gS rfl (gS rfl (gS rfl (gS rfl (gS rfl (gS rfl (gS rfl (gS rfl (gS rfl g0))))))))))))) (gS rfl (gS rfl (gS rfl (gS rfl (gS rfl (gS rfl (gS rfl (gS rfl (gS rfl (gS rfl g0)))))))))) g0 (fun g => ?_)
  refine c_seq (fun K16 hK16 => ?_)
  refine c_region ?_
  refine l_step (y_idxAC 1 1 Hvaa.underlying65 sz_26 (et (gS rfl (gS rfl (gS rfl (gS rfl (gS rfl (gS rfl g0)))))) rfl) rfl rfl rfl) ?_
  refine l_step (y_load1 one_26 (et g0 rfl) (at1 (k2.cell rfl))) ?_
  refine l_step (y_idxAC 0 0 Hvaa.underlying65 sz_26 (et (gS rfl (gS rfl (gS rfl (gS rfl (gS rfl (gS rfl (gS rfl g0))))))) rfl) rfl rfl rfl) ?_
  refine l_step (y_load1 one_26 (et g0 rfl) (at1 (k3.cell rfl))) ?_
  refine l_eff (e_callV cal_168 (aC (et (gS rfl (gS rfl g0)) rfl) (aC (et g0 rfl) aN)) (mul64_r _ _ _ (by assumption) (by assumption))) (fun v17 w17 h17 => ?_)
  obtain ⟨p17, q17, rfl, hp17, hq17, he17, u17⟩ := h17
  replace k2 := k2.up u17
  replace k3 := k3.up u17
  replace k4 := k4.up u17
  replace U := U.tr u17
  refine l_step (y_moveV (et g0 rfl)) ?_
  refine l_step (y_ext (et g0 rfl) rfl) ?_
  refine l_step (y_ext (et (gS rfl g0) rfl) rfl) ?_
  refine l_step (y_assignV (et (gS rfl g0) rfl)) ?_
  refine l_step (y_assignV (et (gS rfl g0) rfl)) ?_
  refine l_nil ?_
  refine hK16 _ _ ?_
  refine fg9 2 3 4 5 6 12 13 14 15 (gS rfl (gS rfl (gS rfl (gS rfl (gS rfl (gS rfl (gS rfl (gS rfl (gS rfl (gS rfl (gS rfl (gS rfl (gS rfl (gS rfl (gS rfl (gS rfl g0)))))))))))))))) (gS rfl (gS rfl (gS rfl (gS rfl (gS rfl (gS rfl (gS rfl (gS rfl (gS rfl (gS rfl (gS rfl (gS rfl (gS rfl (gS rfl (gS rfl g0))))))))))))))) (gS rfl (gS rfl (gS rfl (gS rfl (gS rfl (gS rfl (gS rfl (gS rfl (gS rfl (gS rfl (gS rfl (gS rfl (gS rfl (gS rfl g0)))))))))))))) (gS rfl (gS rfl (gS rfl (gS rfl (gS rfl (gS rfl (gS rfl (gS rfl (gS rfl (gS rfl (gS rfl (gS rfl (gS rfl g0))))))))))))) (gS rfl (gS rfl (gS rfl (gS rfl (gS rfl (gS rfl (gS rfl (gS rfl (gS rfl (gS rfl (gS rfl (gS rfl g0)))))))))))) (gS rfl (gS rfl (gS rfl (gS rfl (gS rfl (gS rfl (gS rfl (gS rfl (gS rfl (gS rfl (gS rfl g0))))))))))) (gS rfl (gS rfl (gS rfl (gS rfl (gS rfl (gS rfl (gS rfl (gS rfl (gS rfl (gS rfl g0)))))))))) (gS rfl g0) g0 (fun g => ?_)
  refine c_seq (fun K18 hK18 => ?_)
  refine c_region ?_
  refine l_step (y_idxAC 1 1 Hvaa.underlying65 sz_26 (et (gS rfl (gS rfl (gS rfl (gS rfl (gS rfl (gS rfl (gS rfl (gS rfl g0)))))))) rfl) rfl rfl rfl) ?_
  refine l_step (y_load1 one_26 (et g0 rfl) (at1 (k2.cell rfl))) ?_
  refine l_step (y_idxAC 1 1 Hvaa.underlying65 sz_26 (et (gS rfl (gS rfl (gS rfl (gS rfl (gS rfl (gS rfl (gS rfl (gS rfl (gS rfl g0))))))))) rfl) rfl rfl rfl) ?_
  refine l_step (y_load1 one_26 (et g0 rfl) (at1 (k3.cell rfl))) ?_
  refine l_eff (e_callV cal_168 (aC (et (gS rfl (gS rfl g0)) rfl) (aC (et g0 rfl) aN)) (mul64_r _ _ _ (by assumption) (by assumption))) (fun v19 w19 h19 => ?_)
  obtain ⟨p19, q19, rfl, hp19, hq19, he19, u19⟩ := h19
  replace k2 := k2.up u19
  replace k3 := k3.up u19
  replace k4 := k4.up u19
  replace U := U.tr u19
  refine l_step (y_moveV (et g0 rfl)) ?_
  refine l_step (y_ext (et g0 rfl) rfl) ?_
  refine l_step (y_ext (et (gS rfl g0) rfl) rfl) ?_
  refine l_step (y_assignV (et (gS rfl g0) rfl)) ?_
  refine l_step (y_assignV (et (gS rfl g0) rfl)) ?_
  refine l_nil ?_
  refine hK18 _ _ ?_
  refine fg11 2 3 4 5 6 12 13 14 15 7 8 (gS rfl (gS rfl (gS rfl (gS rfl (gS rfl (gS rfl (gS rfl (gS rfl (gS rfl (gS rfl (gS rfl (gS rfl (gS rfl (gS rfl (gS rfl (gS rfl (gS rfl (gS rfl g0)))))))))))))))))) (gS rfl (gS rfl (gS rfl (gS rfl (gS rfl (gS rfl (gS rfl (gS rfl (gS rfl (gS rfl (gS rfl (gS rfl (gS rfl (gS rfl (gS rfl (gS rfl (gS rfl g0))))))))))))))))) (gS rfl (gS rfl (gS rfl (gS rfl (gS rfl (gS rfl (gS rfl (gS rfl (gS rfl (gS rfl (gS rfl (gS rfl (gS rfl (gS rfl (gS rfl (gS rfl g0)))))))))))))))) (gS rfl (gS rfl (gS rfl (gS rfl (gS rfl (gS rfl (gS rfl (gS rfl (gS rfl (gS rfl (gS rfl (gS rfl (gS rfl (gS rfl (gS rfl g0))))))))))))))) (gS rfl (gS rfl (gS rfl (gS rfl (gS rfl (gS rfl (gS rfl (gS rfl (gS rfl (gS rfl (gS rfl (gS rfl (gS rfl (gS rfl g0)))))))))))))) (gS rfl (gS rfl (gS rfl (gS rfl (gS rfl (gS rfl (gS rfl (gS rfl (gS rfl (gS rfl (gS rfl (gS rfl (gS rfl g0))))))))))))) (gS rfl (gS rfl (gS rfl (gS rfl (gS rfl (gS rfl (gS rfl (gS rfl (gS rfl (gS rfl (gS rfl (gS rfl g0)))))))))))) (gS rfl (gS rfl (gS rfl (gS rfl (gS rfl (gS rfl (gS rfl (gS rfl (gS rfl (gS rfl (gS rfl g0))))))))))) (gS rfl (gS rfl (gS rfl (gS rfl (gS rfl (gS rfl (gS rfl (gS rfl (gS rfl (gS rfl g0)))))))))) (gS rfl g0) g0 (fun g => ?_)
  refine c_seq (fun K20 hK20 => ?_)
  refine c_region ?_
  refine l_step (y_moveV (et (gS rfl (gS rfl (gS rfl (gS rfl (gS rfl (gS rfl (gS rfl g0))))))) rfl)) ?_
  refine l_step (y_moveV (et (gS rfl (gS rfl (gS rfl g0))) rfl)) ?_
  refine l_eff (e_callV cal_169 (aC (et (gS rfl g0) rfl) (aC (et g0 rfl) (aC (v := .int .u64 ((0 : Nat) : Int)) rfl aN))) (add64_r _ _ _ _ (by first | assumption | omega) (by first | assumption | omega) (by first | assumption | decide))) (fun v21 w21 h21 => ?_)
  obtain ⟨s21, c21, rfl, hs21, hc21, he21, u21⟩ := h21
  replace k2 := k2.up u21
  replace k3 := k3.up u21
  replace k4 := k4.up u21
  replace U := U.tr u21
  refine l_step (y_moveV (et g0 rfl)) ?_
  refine l_step (y_ext (et g0 rfl) rfl) ?_
  refine l_step (y_ext (et (gS rfl g0) rfl) rfl) ?_
  refine l_step (y_assignV (et (gS rfl g0) rfl)) ?_
  refine l_step (y_assignV (et (gS rfl g0) rfl)) ?_
  refine l_nil ?_
  refine hK20 _ _ ?_
  refine fg11 2 3 4 5 6 12 13 14 7 8 11 (gS rfl (gS rfl (gS rfl (gS rfl (gS rfl (gS rfl (gS rfl (gS rfl (gS rfl (gS rfl (gS rfl (gS rfl (gS rfl (gS rfl (gS rfl (gS rfl (gS rfl (gS rfl g0)))))))))))))))))) (gS rfl (gS rfl (gS rfl (gS rfl (gS rfl (gS rfl (gS rfl (gS rfl (gS rfl (gS rfl (gS rfl (gS rfl (gS rfl (gS rfl (gS rfl (gS rfl (gS rfl g0))))))))))))))))) (gS rfl (gS rfl (gS rfl (gS rfl (gS rfl (gS rfl (gS rfl (gS rfl (gS rfl (gS rfl (gS rfl (gS rfl (gS rfl (gS rfl (gS rfl (gS rfl g0)))))))))))))))) (gS rfl g0) (gS rfl (gS rfl (gS rfl (gS rfl (gS rfl (gS rfl (gS rfl (gS rfl (gS rfl (gS rfl (gS rfl (gS rfl (gS rfl (gS rfl g0)))))))))))))) (gS rfl (gS rfl (gS rfl (gS rfl (gS rfl (gS rfl (gS rfl (gS rfl (gS rfl (gS rfl (gS rfl (gS rfl (gS rfl g0))))))))))))) (gS rfl (gS rfl (gS rfl (gS rfl (gS rfl (gS rfl (gS rfl (gS rfl (gS rfl (gS rfl (gS rfl (gS rfl g0)))))))))))) (gS rfl (gS rfl (gS rfl (gS rfl (gS rfl (gS rfl (gS rfl (gS rfl (gS rfl (gS rfl (gS rfl g0))))))))))) (gS rfl (gS rfl (gS rfl (gS rfl (gS rfl (gS rfl (gS rfl (gS rfl (gS rfl g0))))))))) (gS rfl (gS rfl (gS rfl (gS rfl (gS rfl (gS rfl (gS rfl (gS rfl g0)))))))) g0 (fun g => ?_)
  refine c_seq (fun K22 hK22 => ?_)
  refine c_region ?_
  refine l_step (y_moveV (et (gS rfl (gS rfl (gS rfl (gS rfl (gS rfl g0))))) rfl)) ?_
  refine l_step (y_moveV (et (gS rfl (gS rfl g0)) rfl)) ?_
  refine l_step (y_moveV (et (gS rfl (gS rfl g0)) rfl)) ?_
  refine l_eff (e_callV cal_169 (aC (et (gS rfl (gS rfl g0)) rfl) (aC (et (gS rfl g0) rfl) (aC (et g0 rfl) aN))) (add64_r _ _ _ _ (by first | assumption | omega) (by first | assumption | omega) (by first | assumption | decide))) (fun v23 w23 h23 => ?_)
  obtain ⟨s23, c23, rfl, hs23, hc23, he23, u23⟩ := h23
  replace k2 := k2.up u23
  replace k3 := k3.up u23
  replace k4 := k4.up u23
  replace U := U.tr u23
  refine l_step (y_moveV (et g0 rfl)) ?_
  refine l_step (y_ext (et g0 rfl) rfl) ?_
  refine l_step (y_ext (et (gS rfl g0) rfl) rfl) ?_
  refine l_step (y_assignV (et (gS rfl g0) rfl)) ?_
  refine l_step (y_assignV (et (gS rfl g0) rfl)) ?_
  refine l_nil ?_
  refine hK22 _ _ ?_
  refine fg10 2 3 4 5 6 12 13 14 7 11 (gS rfl (gS rfl (gS rfl (gS rfl (gS rfl (gS rfl (gS rfl (gS rfl (gS rfl (gS rfl (gS rfl (gS rfl (gS rfl (gS rfl (gS rfl (gS rfl (gS rfl (gS rfl (gS rfl g0))))))))))))))))))) (gS rfl (gS rfl (gS rfl (gS rfl (gS rfl (gS rfl (gS rfl (gS rfl (gS rfl (gS rfl (gS rfl (gS rfl (gS rfl (gS rfl (gS rfl (gS rfl (gS rfl (gS rfl g0)))))))))))))))))) (gS rfl (gS rfl (gS rfl (gS rfl (gS rfl (gS rfl (gS rfl (gS rfl (gS rfl (gS rfl (gS rfl (gS rfl (gS rfl (gS rfl (gS rfl (gS rfl (gS rfl g0))))))))))))))))) (gS rfl (gS rfl (gS rfl (gS rfl (gS rfl (gS rfl (gS rfl (gS rfl (gS rfl (gS rfl (gS rfl (gS rfl (gS rfl (gS rfl (gS rfl (gS rfl g0)))))))))))))))) (gS rfl (gS rfl (gS rfl (gS rfl (gS rfl (gS rfl (gS rfl (gS rfl (gS rfl (gS rfl (gS rfl (gS rfl (gS rfl (gS rfl (gS rfl g0))))))))))))))) (gS rfl g0) (gS rfl (gS rfl (gS rfl (gS rfl (gS rfl (gS rfl (gS rfl (gS rfl (gS rfl (gS rfl (gS rfl (gS rfl (gS rfl g0))))))))))))) (gS rfl (gS rfl (gS rfl (gS rfl (gS rfl (gS rfl (gS rfl (gS rfl (gS rfl (gS rfl (gS rfl (gS rfl g0)))))))))))) (gS rfl (gS rfl (gS rfl (gS rfl (gS rfl (gS rfl (gS rfl (gS rfl (gS rfl (gS rfl (gS rfl g0))))))))))) g0 (fun g => ?_)
  refine c_seq (fun K24 hK24 => ?_)
  refine c_region ?_
  refine l_step (y_moveV (et (gS rfl (gS rfl (gS rfl g0))) rfl)) ?_
  refine l_step (y_moveV (et (gS rfl (gS rfl g0)) rfl)) ?_
  refine l_step (y_idxAC 1 1 Hvaa.underlying65 sz_26 (et (gS rfl (gS rfl (gS rfl (gS rfl (gS rfl (gS rfl (gS rfl (gS rfl (gS rfl (gS rfl (gS rfl g0))))))))))) rfl) rfl rfl rfl) ?_
  refine l_step (y_load1 one_26 (et g0 rfl) (at1 (k2.cell rfl))) ?_
  refine l_step (y_idxAC 2 2 Hvaa.underlying65 sz_26 (et (gS rfl (gS rfl (gS rfl (gS rfl (gS rfl (gS rfl (gS rfl (gS rfl (gS rfl (gS rfl (gS rfl (gS rfl g0)))))))))))) rfl) rfl rfl rfl) ?_
  refine l_step (y_load1 one_26 (et g0 rfl) (at1 (k3.cell rfl))) ?_
  refine l_step (y_mul (et (gS rfl (gS rfl g0)) rfl) (et g0 rfl) (wrapU_mul uk64)) ?_
  refine l_step (y_add (et (gS rfl (gS rfl (gS rfl (gS rfl (gS rfl g0))))) rfl) (et g0 rfl) (wrapU_add uk64)) ?_
  refine l_step (y_moveV (et (gS rfl (gS rfl (gS rfl (gS rfl (gS rfl (gS rfl (gS rfl (gS rfl g0)))))))) rfl)) ?_
  refine l_step (y_add (et (gS rfl g0) rfl) (et g0 rfl) (wrapU_add uk64)) ?_
  refine l_step (y_add (et (gS rfl (gS rfl (gS rfl (gS rfl (gS rfl (gS rfl (gS rfl (gS rfl (gS rfl g0))))))))) rfl) (et g0 rfl) (wrapU_add uk64)) ?_
  refine l_step (y_assignV (et g0 rfl)) ?_
  refine l_nil ?_
  refine hK24 _ _ ?_
  refine fg8 2 3 4 5 6 12 13 14 (gS rfl (gS rfl (gS rfl (gS rfl (gS rfl (gS rfl (gS rfl (gS rfl (gS rfl (gS rfl (gS rfl (gS rfl (gS rfl (gS rfl (gS rfl (gS rfl (gS rfl (gS rfl (gS rfl (gS rfl (gS rfl g0))))))))))))))))))))) (gS rfl (gS rfl (gS rfl (gS rfl (gS rfl (gS rfl (gS rfl (gS rfl (gS rfl (gS rfl (gS rfl (gS rfl (gS rfl (gS rfl (gS rfl (gS rfl (gS rfl (gS rfl (gS rfl (gS rfl g0)))))))))))))))))))) (gS rfl (gS rfl (gS rfl (gS rfl (gS rfl (gS rfl (gS rfl (gS rfl (gS rfl (gS rfl (gS rfl (gS rfl (gS rfl (gS rfl (gS rfl (gS rfl (gS rfl (gS rfl (gS rfl g0))))))))))))))))))) (gS rfl (gS rfl (gS rfl (gS rfl (gS rfl (gS rfl (gS rfl (gS rfl (gS rfl (gS rfl (gS rfl (gS rfl (gS rfl (gS rfl (gS rfl (gS rfl (gS rfl (gS rfl g0)))))))))))))))))) (gS rfl (gS rfl (gS rfl (gS rfl (gS rfl (gS rfl (gS rfl (gS rfl (gS rfl (gS rfl (gS rfl (gS rfl (gS rfl (gS rfl (gS rfl (gS rfl (gS rfl g0))))))))))))))))) (gS rfl (gS rfl (gS rfl (gS rfl (gS rfl (gS rfl (gS rfl (gS rfl (gS rfl (gS rfl (gS rfl (gS rfl (gS rfl (gS rfl (gS rfl (gS rfl g0)))))))))))))))) g0 (gS rfl (gS rfl (gS rfl (gS rfl (gS rfl (gS rfl (gS rfl (gS rfl (gS rfl (gS rfl (gS rfl (gS rfl (gS rfl (gS rfl g0)))))))))))))) (fun g => ?_)
  refine c_seq (fun K25 hK25 => ?_)
  refine c_region ?_
  refine l_step (y_moveV (et (gS rfl (gS rfl g0)) rfl)) ?_
  refine l_step (y_moveV (et (gS rfl g0) rfl)) ?_
  refine l_eff (e_callV cal_169 (aC (et (gS rfl g0) rfl) (aC (et g0 rfl) (aC (v := .int .u64 ((0 : Nat) : Int)) rfl aN))) (add64_r _ _ _ _ (by first | assumption | omega) (by first | assumption | omega) (by first | assumption | decide))) (fun v26 w26 h26 => ?_)
  obtain ⟨s26, c26, rfl, hs26, hc26, he26, u26⟩ := h26
  replace k2 := k2.up u26
  replace k3 := k3.up u26
  replace k4 := k4.up u26
  replace U := U.tr u26
  refine l_step (y_moveV (et g0 rfl)) ?_
  refine l_step (y_ext (et g0 rfl) rfl) ?_
  refine l_step (y_ext (et (gS rfl g0) rfl) rfl) ?_
  refine l_step (y_assignV (et (gS rfl g0) rfl)) ?_
  refine l_step (y_assignV (et (gS rfl g0) rfl)) ?_
  refine l_nil ?_
  refine hK25 _ _ ?_
  refine fg8 2 3 4 5 6 12 13 11 (gS rfl (gS rfl (gS rfl (gS rfl (gS rfl (gS rfl (gS rfl (gS rfl (gS rfl (gS rfl (gS rfl (gS rfl (gS rfl (gS rfl (gS rfl g0))))))))))))))) (gS rfl (gS rfl (gS rfl (gS rfl (gS rfl (gS rfl (gS rfl (gS rfl (gS rfl (gS rfl (gS rfl (gS rfl (gS rfl (gS rfl g0)))))))))))))) (gS rfl (gS rfl (gS rfl (gS rfl (gS rfl (gS rfl (gS rfl (gS rfl (gS rfl (gS rfl (gS rfl (gS rfl (gS rfl g0))))))))))))) (gS rfl (gS rfl (gS rfl (gS rfl (gS rfl (gS rfl (gS rfl (gS rfl (gS rfl (gS rfl (gS rfl (gS rfl g0)))))))))))) (gS rfl (gS rfl (gS rfl (gS rfl (gS rfl (gS rfl (gS rfl (gS rfl (gS rfl (gS rfl (gS rfl g0))))))))))) (gS rfl g0) (gS rfl (gS rfl (gS rfl (gS rfl (gS rfl (gS rfl (gS rfl (gS rfl (gS rfl g0))))))))) g0 (fun g => ?_)
  refine c_seq (fun K27 hK27 => ?_)
  refine c_region ?_
  refine l_step (y_moveV (et (gS rfl g0) rfl)) ?_
  refine l_step (y_moveV (et (gS rfl g0) rfl)) ?_
  refine l_step (y_add (et (gS rfl g0) rfl) (et g0 rfl) (wrapU_add uk64)) ?_
  refine l_step (y_assignV (et g0 rfl)) ?_
  refine l_nil ?_
  refine hK27 _ _ ?_
  refine fg7 2 3 4 5 6 12 13 (gS rfl (gS rfl (gS rfl (gS rfl (gS rfl (gS rfl (gS rfl (gS rfl (gS rfl (gS rfl (gS rfl g0))))))))))) (gS rfl (gS rfl (gS rfl (gS rfl (gS rfl (gS rfl (gS rfl (gS rfl (gS rfl (gS rfl g0)))))))))) (gS rfl (gS rfl (gS rfl (gS rfl (gS rfl (gS rfl (gS rfl (gS rfl (gS rfl g0))))))))) (gS rfl (gS rfl (gS rfl (gS rfl (gS rfl (gS rfl (gS rfl (gS rfl g0)))))))) (gS rfl (gS rfl (gS rfl (gS rfl (gS rfl (gS rfl (gS rfl g0))))))) (gS rfl (gS rfl (gS rfl (gS rfl (gS rfl (gS rfl g0)))))) g0 (fun g => ?_)
  refine c_seq (fun K28 hK28 => ?_)
  refine c_region ?_
  refine l_step (y_idxAC 2 2 Hvaa.underlying65 sz_26 (et (gS rfl (gS rfl (gS rfl (gS rfl (gS rfl (gS rfl g0)))))) rfl) rfl rfl rfl) ?_
  refine l_step (y_load1 one_26 (et g0 rfl) (at1 (k2.cell rfl))) ?_
  refine l_step (y_idxAC 0 0 Hvaa.underlying65 sz_26 (et (gS rfl (gS rfl (gS rfl (gS rfl (gS rfl (gS rfl (gS rfl g0))))))) rfl) rfl rfl rfl) ?_
  refine l_step (y_load1 one_26 (et g0 rfl) (at1 (k3.cell rfl))) ?_
  refine l_eff (e_callV cal_168 (aC (et (gS rfl (gS rfl g0)) rfl) (aC (et g0 rfl) aN)) (mul64_r _ _ _ (by assumption) (by assumption))) (fun v29 w29 h29 => ?_)
  obtain ⟨p29, q29, rfl, hp29, hq29, he29, u29⟩ := h29
  replace k2 := k2.up u29
  replace k3 := k3.up u29
  replace k4 := k4.up u29
  replace U := U.tr u29
  refine l_step (y_moveV (et g0 rfl)) ?_
  refine l_step (y_ext (et g0 rfl) rfl) ?_
  refine l_step (y_ext (et (gS rfl g0) rfl) rfl) ?_
  refine l_step (y_assignV (et (gS rfl g0) rfl)) ?_
  refine l_step (y_assignV (et (gS rfl g0) rfl)) ?_
  refine l_nil ?_
  refine hK28 _ _ ?_
  refine fg9 2 3 4 5 6 12 13 14 15 (gS rfl (gS rfl (gS rfl (gS rfl (gS rfl (gS rfl (gS rfl (gS rfl (gS rfl (gS rfl (gS rfl (gS rfl (gS rfl (gS rfl (gS rfl (gS rfl g0)))))))))))))))) (gS rfl (gS rfl (gS rfl (gS rfl (gS rfl (gS rfl (gS rfl (gS rfl (gS rfl (gS rfl (gS rfl (gS rfl (gS rfl (gS rfl (gS rfl g0))))))))))))))) (gS rfl (gS rfl (gS rfl (gS rfl (gS rfl (gS rfl (gS rfl (gS rfl (gS rfl (gS rfl (gS rfl (gS rfl (gS rfl (gS rfl g0)))))))))))))) (gS rfl (gS rfl (gS rfl (gS rfl (gS rfl (gS rfl (gS rfl (gS rfl (gS rfl (gS rfl (gS rfl (gS rfl (gS rfl g0))))))))))))) (gS rfl (gS rfl (gS rfl (gS rfl (gS rfl (gS rfl (gS rfl (gS rfl (gS rfl (gS rfl (gS rfl (gS rfl g0)))))))))))) (gS rfl (gS rfl (gS rfl (gS rfl (gS rfl (gS rfl (gS rfl (gS rfl (gS rfl (gS rfl (gS rfl g0))))))))))) (gS rfl (gS rfl (gS rfl (gS rfl (gS rfl (gS rfl (gS rfl (gS rfl (gS rfl (gS rfl g0)))))))))) (gS rfl g0) g0 (fun g => ?_)
  refine c_seq (fun K30 hK30 => ?_)
  refine c_region ?_
  refine l_step (y_moveV (et (gS rfl (gS rfl (gS rfl g0))) rfl)) ?_
  refine l_step (y_moveV (et (gS rfl g0) rfl)) ?_
  refine l_eff (e_callV cal_169 (aC (et (gS rfl g0) rfl) (aC (et g0 rfl) (aC (v := .int .u64 ((0 : Nat) : Int)) rfl aN))) (add64_r _ _ _ _ (by first | assumption | omega) (by first | assumption | omega) (by first | assumption | decide))) (fun v31 w31 h31 => ?_)
  obtain ⟨s31, c31, rfl, hs31, hc31, he31, u31⟩ := h31
  replace k2 := k2.up u31
  replace k3 := k3.up u31
  replace k4 := k4.up u31
  replace U := U.tr u31
  refine l_step (y_moveV (et g0 rfl)) ?_
  refine l_step (y_ext (et g0 rfl) rfl) ?_
  refine l_step (y_ext (et (gS rfl g0) rfl) rfl) ?_
  refine l_step (y_assignV (et (gS rfl g0) rfl)) ?_
  refine l_step (y_assignV (et (gS rfl g0) rfl)) ?_
  refine l_nil ?_
  refine hK30 _ _ ?_
  refine fg9 2 3 4 5 6 12 13 14 11 (gS rfl (gS rfl (gS rfl (gS rfl (gS rfl (gS rfl (gS rfl (gS rfl (gS rfl (gS rfl (gS rfl (gS rfl (gS rfl (gS rfl (gS rfl (gS rfl g0)))))))))))))))) (gS rfl (gS rfl (gS rfl (gS rfl (gS rfl (gS rfl (gS rfl (gS rfl (gS rfl (gS rfl (gS rfl (gS rfl (gS rfl (gS rfl (gS rfl g0))))))))))))))) (gS rfl (gS rfl (gS rfl (gS rfl (gS rfl (gS rfl (gS rfl (gS rfl (gS rfl (gS rfl (gS rfl (gS rfl (gS rfl (gS rfl g0)))))))))))))) (gS rfl (gS rfl (gS rfl (gS rfl (gS rfl (gS rfl (gS rfl (gS rfl (gS rfl (gS rfl (gS rfl (gS rfl (gS rfl g0))))))))))))) (gS rfl (gS rfl (gS rfl (gS rfl (gS rfl (gS rfl (gS rfl (gS rfl (gS rfl (gS rfl (gS rfl (gS rfl g0)))))))))))) (gS rfl g0) (gS rfl (gS rfl (gS rfl (gS rfl (gS rfl (gS rfl (gS rfl (gS rfl (gS rfl (gS rfl g0)))))))))) (gS rfl (gS rfl (gS rfl (gS rfl (gS rfl (gS rfl (gS rfl (gS rfl (gS rfl g0))))))))) g0 (fun g => ?_)
  refine c_seq (fun K32 hK32 => ?_)
  refine c_region ?_
  refine l_step (y_moveV (et (gS rfl (gS rfl g0)) rfl)) ?_
  refine l_step (y_moveV (et (gS rfl (gS rfl g0)) rfl)) ?_
  refine l_step (y_idxAC 2 2 Hvaa.underlying65 sz_26 (et (gS rfl (gS rfl (gS rfl (gS rfl (gS rfl (gS rfl (gS rfl (gS rfl (gS rfl (gS rfl g0)))))))))) rfl) rfl rfl rfl) ?_
  refine l_step (y_load1 one_26 (et g0 rfl) (at1 (k2.cell rfl))) ?_
  refine l_step (y_idxAC 1 1 Hvaa.underlying65 sz_26 (et (gS rfl (gS rfl (gS rfl (gS rfl (gS rfl (gS rfl (gS rfl (gS rfl (gS rfl (gS rfl (gS rfl g0))))))))))) rfl) rfl rfl rfl) ?_
  refine l_step (y_load1 one_26 (et g0 rfl) (at1 (k3.cell rfl))) ?_
  refine l_step (y_mul (et (gS rfl (gS rfl g0)) rfl) (et g0 rfl) (wrapU_mul uk64)) ?_
  refine l_step (y_add (et (gS rfl (gS rfl (gS rfl (gS rfl (gS rfl g0))))) rfl) (et g0 rfl) (wrapU_add uk64)) ?_
  refine l_step (y_moveV (et (gS rfl (gS rfl (gS rfl (gS rfl (gS rfl (gS rfl (gS rfl (gS rfl g0)))))))) rfl)) ?_
  refine l_step (y_add (et (gS rfl g0) rfl) (et g0 rfl) (wrapU_add uk64)) ?_
  refine l_step (y_idxAC 3 3 Hvaa.underlying65 sz_26 (et (gS rfl (gS rfl (gS rfl (gS rfl (gS rfl (gS rfl (gS rfl (gS rfl (gS rfl (gS rfl (gS rfl (gS rfl (gS rfl (gS rfl (gS rfl (gS rfl (gS rfl (gS rfl g0)))))))))))))))))) rfl) rfl rfl rfl) ?_
  refine l_step (y_load1 one_26 (et g0 rfl) (at1 (k2.cell rfl))) ?_
  refine l_step (y_idxAC 0 0 Hvaa.underlying65 sz_26 (et (gS rfl (gS rfl (gS rfl (gS rfl (gS rfl (gS rfl (gS rfl (gS rfl (gS rfl (gS rfl (gS rfl (gS rfl (gS rfl (gS rfl (gS rfl (gS rfl (gS rfl (gS rfl (gS rfl g0))))))))))))))))))) rfl) rfl rfl rfl) ?_
  refine l_step (y_load1 one_26 (et g0 rfl) (at1 (k3.cell rfl))) ?_
  refine l_step (y_mul (et (gS rfl (gS rfl g0)) rfl) (et g0 rfl) (wrapU_mul uk64)) ?_
  refine l_step (y_add (et (gS rfl (gS rfl (gS rfl (gS rfl (gS rfl g0))))) rfl) (et g0 rfl) (wrapU_add uk64)) ?_
  refine l_step (y_add (et (gS rfl (gS rfl (gS rfl (gS rfl (gS rfl (gS rfl (gS rfl (gS rfl (gS rfl (gS rfl (gS rfl (gS rfl (gS rfl (gS rfl (gS rfl g0))))))))))))))) rfl) (et g0 rfl) (wrapU_add uk64)) ?_
  refine l_step (y_assignV (et g0 rfl)) ?_
  refine l_nil ?_
  refine hK32 _ _ ?_
  refine fg5 4 5 6 12 13 (gS rfl (gS rfl (gS rfl (gS rfl (gS rfl (gS rfl (gS rfl (gS rfl (gS rfl (gS rfl (gS rfl (gS rfl (gS rfl (gS rfl (gS rfl (gS rfl (gS rfl (gS rfl (gS rfl (gS rfl (gS rfl (gS rfl (gS rfl (gS rfl g0)))))))))))))))))))))))) (gS rfl (gS rfl (gS rfl (gS rfl (gS rfl (gS rfl (gS rfl (gS rfl (gS rfl (gS rfl (gS rfl (gS rfl (gS rfl (gS rfl (gS rfl (gS rfl (gS rfl (gS rfl (gS rfl (gS rfl (gS rfl (gS rfl (gS rfl g0))))))))))))))))))))))) (gS rfl (gS rfl (gS rfl (gS rfl (gS rfl (gS rfl (gS rfl (gS rfl (gS rfl (gS rfl (gS rfl (gS rfl (gS rfl (gS rfl (gS rfl (gS rfl (gS rfl (gS rfl (gS rfl (gS rfl (gS rfl (gS rfl g0)))))))))))))))))))))) (gS rfl (gS rfl (gS rfl (gS rfl (gS rfl (gS rfl (gS rfl (gS rfl (gS rfl (gS rfl (gS rfl (gS rfl (gS rfl (gS rfl (gS rfl (gS rfl (gS rfl (gS rfl (gS rfl (gS rfl (gS rfl g0))))))))))))))))))))) g0 (fun g => ?_)
  refine c_seq (fun K33 hK33 => ?_)
  refine c_region ?_
  refine l_step (y_moveV (et (gS rfl (gS rfl g0)) rfl)) ?_
  refine l_step (y_moveV (et (gS rfl (gS rfl (gS rfl (gS rfl g0)))) rfl)) ?_
  refine l_step (y_moveV (et (gS rfl (gS rfl (gS rfl g0))) rfl)) ?_
  refine l_step (y_moveV (et (gS rfl (gS rfl (gS rfl g0))) rfl)) ?_
  refine l_step (y_bld (bC (et (gS rfl (gS rfl (gS rfl g0))) rfl) (bC (et (gS rfl (gS rfl g0)) rfl) (bC (et (gS rfl g0) rfl) (bC (et g0 rfl) bN)))) (bld65_4 _ _ _ _)) ?_
  refine l_effN (e_store sz_65 (et (gS rfl (gS rfl (gS rfl (gS rfl (gS rfl (gS rfl (gS rfl (gS rfl (gS rfl g0))))))))) rfl) (cellsV (et g0 rfl) rfl) (by first | (simp only [Value.cells, hV, aV, bV, wV, wL, List.size_toArray, length_bL, length_uL, length_be, size_spl, List.length_cons, List.length_nil, List.length_replicate, Nat.zero_add, Nat.reduceAdd, Nat.reduceLeDiff, Nat.le_refl]; done) | rfl) (by first | exact one_bL _ | exact one_uL _ | (intro v hv; simp at hv; subst hv; rfl)) k4 (by first | (simp only [Value.cells, hV, aV, bV, wV, wL, List.size_toArray, length_bL, length_uL, length_be, size_spl, List.length_cons, List.length_nil, List.length_replicate, Nat.zero_add, Nat.reduceAdd, Nat.reduceLeDiff, Nat.le_refl]; done) | exact Nat.le_of_ble_eq_true rfl | simp | omega)) (fun v34 w34 h34 => ?_)
  obtain ⟨rfl, x34⟩ := h34
  replace k2 := k2.ch x34.ch (by omega)
  replace k3 := k3.ch x34.ch (by omega)
  replace k4 := x34.blk.full (by first | (simp only [Value.cells, hV, aV, bV, wV, wL, List.size_toArray, length_bL, length_uL, length_be, size_spl, List.length_cons, List.length_nil, List.length_replicate, Nat.zero_add, Nat.reduceAdd, Nat.reduceLeDiff, Nat.le_refl]; done) | rfl)
  replace U := U.st x34 f4
  refine l_nil ?_
  refine hK33 _ _ ?_
  refine fg1 4 (gS rfl (gS rfl (gS rfl (gS rfl (gS rfl (gS rfl (gS rfl (gS rfl (gS rfl g0))))))))) (fun g => ?_)
  refine c_ret ?_
  refine ret1 rfl (res_blk agg_65 sz_65 (et g0 rfl) (by first | (simp only [Value.cells, hV, aV, bV, wV, wL, List.size_toArray, length_bL, length_uL, length_be, size_spl, List.length_cons, List.length_nil, List.length_replicate, Nat.zero_add, Nat.reduceAdd, Nat.reduceLeDiff, Nat.le_refl]; done) | rfl) k4) ?_
  refine ⟨?_, U⟩
  rw [← La, ← Lb, ofL_mul]
  refine wV_of _ _ _ _ _ (by assumption) (by assumption) (by assumption) (Nat.mod_lt _ (by decide)) ?_
  simp only [Nat.add_mod_mod, Nat.mod_add_mod, Nat.mod_mod]
  refine (modW _ _ _ _ (xa1 * xb3 + xa2 * xb2 + xa3 * xb1 + xa2 * xb3 * 18446744073709551616 + xa3 * xb2 * 18446744073709551616 + xa3 * xb3 * 340282366920938463463374607431768211456) _ (by assumption) (by assumption) (by assumption) ?_)
  refine (mul_lin xa0 xa1 xa2 xa3 xb0 xb1 xb2 xb3 _ _ _ _ _ _ _ _ _ _ _ _ _ _ _ _ _ _ _ _ _ _ _ _ _ he6 he8 he10 he12 he14 he17 he19 he21 he23 he26 he29 he31).trans ?_
  grind
section
variable {S : World → Prop} {n : Nat} {s : Nat → Value} {d : Option Nat} {ty : TypeId} {pos : String} {af : Array Edge} {g : Option (Nat × Bool)}
theorem y_orT {x y : Operand} {T T' : Nat} {k : IntKind} {m p M : Nat} (i : Nat) (hU : UK k M) (hx : ev n s x = .int k p) (hy : ev n s y = .int k m) (hm : m < 2 ^ i) (hp : p % 2 ^ i = 0) (hpM : p < M) (hmM : m < M) : Yv S n s ⟨d, .binOp .or T x y T', ty, pos, af, g⟩ (.int k ((p + m : Nat) : Int)) := by
  have := y_or (S := S) (T := T) (T' := T') (d := d) (ty := ty) (pos := pos) (af := af) (g := g) hU hx hy hpM hmM
  rw [Nat.or_comm, or_add hm hp, Nat.add_comm] at this
  exact this
end
theorem sqTop (h m k c : Nat) : (h + (m * 2 % 18446744073709551616 + k) + c) % 18446744073709551616 = (h + (m * 2 + k) + c) % 18446744073709551616 := by omega
theorem sq_lin (a0 a1 a2 a3 h1 l1 h2 l2 m2 c h0 p0 h3 l3 p1 c6 p2 c7 k1 k2 l n z : Nat) (e1 : h1 * 18446744073709551616 + l1 = a0 * a1) (e2 : h2 * 18446744073709551616 + l2 = a0 * a2) (e3 : m2 + c * 18446744073709551616 = h1 + l2 + 0) (e4 : h0 * 18446744073709551616 + p0 = a0 * a0) (e5 : h3 * 18446744073709551616 + l3 = a1 * a1) (e6 : p1 + c6 * 18446744073709551616 = h0 + l + 0) (e7 : p2 + c7 * 18446744073709551616 = l3 + (n + k1) + c6) (e8 : l1 * 2 = l + 18446744073709551616 * k1) (e9 : m2 * 2 = n + 18446744073709551616 * k2) : p0 + p1 * 18446744073709551616 + p2 * 340282366920938463463374607431768211456 + (h3 + ((h2 + a0 * a3 + a1 * a2 + c) * 2 + k2) + c7) * 6277101735386680763835789423207666416102355444464034512896 + z * 115792089237316195423570985008687907853269984665640564039457584007913129639936 = a0 * a0 + a0 * a1 * 36893488147419103232 + a0 * a2 * 680564733841876926926749214863536422912 + a0 * a3 * 12554203470773361527671578846415332832204710888928069025792 + a1 * a1 * 340282366920938463463374607431768211456 + a1 * a2 * 12554203470773361527671578846415332832204710888928069025792 + z * 115792089237316195423570985008687907853269984665640564039457584007913129639936 := by
  omega
theorem square_spec (a : Nat) (w : World) (ha : a < W256) :
    Ret 377 [wV a] w (fun v w' => v = wV (a * a % W256) ∧ Up w w') := by
  have La := ofL_limb a ha
  have la0 := limb_lt a 0
  have la1 := limb_lt a 1
  have la2 := limb_lt a 2
  have la3 := limb_lt a 3
  generalize hla0 : limb a 0 = xa0 at *
  generalize hla1 : limb a 1 = xa1 at *
  generalize hla2 : limb a 2 = xa2 at *
  generalize hla3 : limb a 3 = xa3 at *
  have ea : wV a = .agg (uL [xa0, xa1, xa2, xa3]).toArray := by unfold wV wL; rw [hla0, hla1, hla2, hla3]
  rw [ea]
  clear hla0 hla1 hla2 hla3 ea
  refine enter (n := 102) Hvaa.func377 rfl rfl (Nat.le_of_ble_eq_true rfl) ?_
  have U := Up.refl w
  refine c_seq (fun K1 hK1 => ?_)
  refine c_region ?_
  refine l_eff (e_boxV (et g0 rfl)) (fun v2 w2 h2 => ?_)
  obtain ⟨b2, rfl, n2⟩ := h2
  have f2 : w.heap.size ≤ b2 := Nat.le_trans U.size n2.fresh
  replace U := U.tr n2.up
  have k2 := n2.blk
  refine l_eff (e_alloc zr_65) (fun v3 w3 h3 => ?_)
  obtain ⟨b3, rfl, n3⟩ := h3
  have d2_3 : b2 < b3 := Nat.lt_of_lt_of_le k2.lt n3.fresh
  have f3 : w.heap.size ≤ b3 := Nat.le_trans U.size n3.fresh
  replace k2 := k2.up n3.up
  replace U := U.tr n3.up
  have k3 := n3.blk
  refine l_nil ?_
  refine hK1 _ _ ?_
  refine fg2 1 2 (gS rfl g0) g0 (fun g => ?_)
  refine c_seq (fun K4 hK4 => ?_)
  refine c_region ?_
  refine l_step (y_idxAC 0 0 Hvaa.underlying65 sz_26 (et (gS rfl g0) rfl) rfl rfl rfl) ?_
  refine l_step (y_load1 one_26 (et g0 rfl) (at1 (k2.cell rfl))) ?_
  refine l_step (y_idxAC 1 1 Hvaa.underlying65 sz_26 (et (gS rfl (gS rfl (gS rfl g0))) rfl) rfl rfl rfl) ?_
  refine l_step (y_load1 one_26 (et g0 rfl) (at1 (k2.cell rfl))) ?_
  refine l_eff (e_callV cal_168 (aC (et (gS rfl (gS rfl g0)) rfl) (aC (et g0 rfl) aN)) (mul64_r _ _ _ (by assumption) (by assumption))) (fun v5 w5 h5 => ?_)
  obtain ⟨p5, q5, rfl, hp5, hq5, he5, u5⟩ := h5
  replace k2 := k2.up u5
  replace k3 := k3.up u5
  replace U := U.tr u5
  refine l_step (y_moveV (et g0 rfl)) ?_
  refine l_step (y_ext (et g0 rfl) rfl) ?_
  refine l_step (y_ext (et (gS rfl g0) rfl) rfl) ?_
  refine l_step (y_assignV (et (gS rfl g0) rfl)) ?_
  refine l_step (y_assignV (et (gS rfl g0) rfl)) ?_
  refine l_nil ?_
  refine hK4 _ _ ?_
  refine fg4 1 2 3 4 (gS rfl (gS rfl (gS rfl (gS rfl (gS rfl (gS rfl (gS rfl (gS rfl (gS rfl (gS rfl (gS rfl g0))))))))))) (gS rfl (gS rfl (gS rfl (gS rfl (gS rfl (gS rfl (gS rfl (gS rfl (gS rfl (gS rfl g0)))))))))) (gS rfl g0) g0 (fun g => ?_)
  refine c_seq (fun K6 hK6 => ?_)
  refine c_region ?_
  refine l_step (y_idxAC 0 0 Hvaa.underlying65 sz_26 (et (gS rfl (gS rfl (gS rfl g0))) rfl) rfl rfl rfl) ?_
  refine l_step (y_load1 one_26 (et g0 rfl) (at1 (k2.cell rfl))) ?_
  refine l_step (y_idxAC 2 2 Hvaa.underlying65 sz_26 (et (gS rfl (gS rfl (gS rfl (gS rfl (gS rfl g0))))) rfl) rfl rfl rfl) ?_
  refine l_step (y_load1 one_26 (et g0 rfl) (at1 (k2.cell rfl))) ?_
  refine l_eff (e_callV cal_168 (aC (et (gS rfl (gS rfl g0)) rfl) (aC (et g0 rfl) aN)) (mul64_r _ _ _ (by assumption) (by assumption))) (fun v7 w7 h7 => ?_)
  obtain ⟨p7, q7, rfl, hp7, hq7, he7, u7⟩ := h7
  replace k2 := k2.up u7
  replace k3 := k3.up u7
  replace U := U.tr u7
  refine l_step (y_moveV (et g0 rfl)) ?_
  refine l_step (y_ext (et g0 rfl) rfl) ?_
  refine l_step (y_ext (et (gS rfl g0) rfl) rfl) ?_
  refine l_step (y_assignV (et (gS rfl g0) rfl)) ?_
  refine l_step (y_assignV (et (gS rfl g0) rfl)) ?_
  refine l_nil ?_
  refine hK6 _ _ ?_
  refine fg6 1 2 3 4 5 6 (gS rfl (gS rfl (gS rfl (gS rfl (gS rfl (gS rfl (gS rfl (gS rfl (gS rfl (gS rfl (gS rfl (gS rfl (gS rfl g0))))))))))))) (gS rfl (gS rfl (gS rfl (gS rfl (gS rfl (gS rfl (gS rfl (gS rfl (gS rfl (gS rfl (gS rfl (gS rfl g0)))))))))))) (gS rfl (gS rfl (gS rfl (gS rfl (gS rfl (gS rfl (gS rfl (gS rfl (gS rfl (gS rfl (gS rfl g0))))))))))) (gS rfl (gS rfl (gS rfl (gS rfl (gS rfl (gS rfl (gS rfl (gS rfl (gS rfl (gS rfl g0)))))))))) (gS rfl g0) g0 (fun g => ?_)
  refine c_seq (fun K8 hK8 => ?_)
  refine c_region ?_
  refine l_step (y_moveV (et (gS rfl (gS rfl (gS rfl g0))) rfl)) ?_
  refine l_step (y_moveV (et (gS rfl g0) rfl)) ?_
  refine l_eff (e_callV cal_169 (aC (et (gS rfl g0) rfl) (aC (et g0 rfl) (aC (v := .int .u64 ((0 : Nat) : Int)) rfl aN))) (add64_r _ _ _ _ (by first | assumption | omega) (by first | assumption | omega) (by first | assumption | decide))) (fun v9 w9 h9 => ?_)
  obtain ⟨s9, c9, rfl, hs9, hc9, he9, u9⟩ := h9
  replace k2 := k2.up u9
  replace k3 := k3.up u9
  replace U := U.tr u9
  refine l_step (y_moveV (et g0 rfl)) ?_
  refine l_step (y_ext (et g0 rfl) rfl) ?_
  refine l_step (y_ext (et (gS rfl g0) rfl) rfl) ?_
  refine l_step (y_assignV (et (gS rfl g0) rfl)) ?_
  refine l_step (y_assignV (et (gS rfl g0) rfl)) ?_
  refine l_nil ?_
  refine hK8 _ _ ?_
  refine fg6 1 2 4 5 7 8 (gS rfl (gS rfl (gS rfl (gS rfl (gS rfl (gS rfl (gS rfl (gS rfl (gS rfl (gS rfl (gS rfl (gS rfl (gS rfl g0))))))))))))) (gS rfl (gS rfl (gS rfl (gS rfl (gS rfl (gS rfl (gS rfl (gS rfl (gS rfl (gS rfl (gS rfl (gS rfl g0)))))))))))) (gS rfl (gS rfl (gS rfl (gS rfl (gS rfl (gS rfl (gS rfl (gS rfl (gS rfl (gS rfl g0)))))))))) (gS rfl (gS rfl (gS rfl (gS rfl (gS rfl (gS rfl (gS rfl (gS rfl (gS rfl g0))))))))) (gS rfl g0) g0 (fun g => ?_)
  refine c_seq (fun K10 hK10 => ?_)
  refine c_region ?_
  refine l_step (y_moveV (et (gS rfl (gS rfl g0)) rfl)) ?_
  refine l_step (y_idxAC 0 0 Hvaa.underlying65 sz_26 (et (gS rfl (gS rfl (gS rfl (gS rfl (gS rfl (gS rfl g0)))))) rfl) rfl rfl rfl) ?_
  refine l_step (y_load1 one_26 (et g0 rfl) (at1 (k2.cell rfl))) ?_
  refine l_step (y_idxAC 3 3 Hvaa.underlying65 sz_26 (et (gS rfl (gS rfl (gS rfl (gS rfl (gS rfl (gS rfl (gS rfl (gS rfl g0)))))))) rfl) rfl rfl rfl) ?_
  refine l_step (y_load1 one_26 (et g0 rfl) (at1 (k2.cell rfl))) ?_
  refine l_step (y_mul (et (gS rfl (gS rfl g0)) rfl) (et g0 rfl) (wrapU_mul uk64)) ?_
  refine l_step (y_add (et (gS rfl (gS rfl (gS rfl (gS rfl (gS rfl g0))))) rfl) (et g0 rfl) (wrapU_add uk64)) ?_
  refine l_step (y_idxAC 1 1 Hvaa.underlying65 sz_26 (et (gS rfl (gS rfl (gS rfl (gS rfl (gS rfl (gS rfl (gS rfl (gS rfl (gS rfl (gS rfl (gS rfl (gS rfl g0)))))))))))) rfl) rfl rfl rfl) ?_
  refine l_step (y_load1 one_26 (et g0 rfl) (at1 (k2.cell rfl))) ?_
  refine l_step (y_idxAC 2 2 Hvaa.underlying65 sz_26 (et (gS rfl (gS rfl (gS rfl (gS rfl (gS rfl (gS rfl (gS rfl (gS rfl (gS rfl (gS rfl (gS rfl (gS rfl (gS rfl (gS rfl g0)))))))))))))) rfl) rfl rfl rfl) ?_
  refine l_step (y_load1 one_26 (et g0 rfl) (at1 (k2.cell rfl))) ?_
  refine l_step (y_mul (et (gS rfl (gS rfl g0)) rfl) (et g0 rfl) (wrapU_mul uk64)) ?_
  refine l_step (y_add (et (gS rfl (gS rfl (gS rfl (gS rfl (gS rfl g0))))) rfl) (et g0 rfl) (wrapU_add uk64)) ?_
  refine l_step (y_moveV (et (gS rfl (gS rfl (gS rfl (gS rfl (gS rfl (gS rfl (gS rfl (gS rfl (gS rfl (gS rfl (gS rfl (gS rfl (gS rfl g0))))))))))))) rfl)) ?_
  refine l_step (y_add (et (gS rfl g0) rfl) (et g0 rfl) (wrapU_add uk64)) ?_
  refine l_step (y_assignV (et g0 rfl)) ?_
  refine l_nil ?_
  refine hK10 _ _ ?_
  refine fg5 1 2 4 7 9 (gS rfl (gS rfl (gS rfl (gS rfl (gS rfl (gS rfl (gS rfl (gS rfl (gS rfl (gS rfl (gS rfl (gS rfl (gS rfl (gS rfl (gS rfl (gS rfl (gS rfl (gS rfl (gS rfl (gS rfl (gS rfl g0))))))))))))))))))))) (gS rfl (gS rfl (gS rfl (gS rfl (gS rfl (gS rfl (gS rfl (gS rfl (gS rfl (gS rfl (gS rfl (gS rfl (gS rfl (gS rfl (gS rfl (gS rfl (gS rfl (gS rfl (gS rfl (gS rfl g0)))))))))))))))))))) (gS rfl (gS rfl (gS rfl (gS rfl (gS rfl (gS rfl (gS rfl (gS rfl (gS rfl (gS rfl (gS rfl (gS rfl (gS rfl (gS rfl (gS rfl (gS rfl (gS rfl (gS rfl (gS rfl g0))))))))))))))))))) (gS rfl (gS rfl (gS rfl (gS rfl (gS rfl (gS rfl (gS rfl (gS rfl (gS rfl (gS rfl (gS rfl (gS rfl (gS rfl (gS rfl (gS rfl (gS rfl (gS rfl g0))))))))))))))))) g0 (fun g => ?_)
  refine c_seq (fun K11 hK11 => ?_)
  refine c_region ?_
  refine l_step (y_idxAC 0 0 Hvaa.underlying65 sz_26 (et (gS rfl (gS rfl (gS rfl (gS rfl g0)))) rfl) rfl rfl rfl) ?_
  refine l_step (y_load1 one_26 (et g0 rfl) (at1 (k2.cell rfl))) ?_
  refine l_step (y_idxAC 0 0 Hvaa.underlying65 sz_26 (et (gS rfl (gS rfl (gS rfl (gS rfl (gS rfl (gS rfl g0)))))) rfl) rfl rfl rfl) ?_
  refine l_step (y_load1 one_26 (et g0 rfl) (at1 (k2.cell rfl))) ?_
  refine l_eff (e_callV cal_168 (aC (et (gS rfl (gS rfl g0)) rfl) (aC (et g0 rfl) aN)) (mul64_r _ _ _ (by assumption) (by assumption))) (fun v12 w12 h12 => ?_)
  obtain ⟨p12, q12, rfl, hp12, hq12, he12, u12⟩ := h12
  replace k2 := k2.up u12
  replace k3 := k3.up u12
  replace U := U.tr u12
  refine l_step (y_moveV (et g0 rfl)) ?_
  refine l_step (y_ext (et g0 rfl) rfl) ?_
  refine l_step (y_ext (et (gS rfl g0) rfl) rfl) ?_
  refine l_step (y_assignV (et (gS rfl g0) rfl)) ?_
  refine l_step (y_assignV (et (gS rfl g0) rfl)) ?_
  refine l_nil ?_
  refine hK11 _ _ ?_
  refine fg7 1 2 4 7 9 10 11 (gS rfl (gS rfl (gS rfl (gS rfl (gS rfl (gS rfl (gS rfl (gS rfl (gS rfl (gS rfl (gS rfl (gS rfl (gS rfl (gS rfl g0)))))))))))))) (gS rfl (gS rfl (gS rfl (gS rfl (gS rfl (gS rfl (gS rfl (gS rfl (gS rfl (gS rfl (gS rfl (gS rfl (gS rfl g0))))))))))))) (gS rfl (gS rfl (gS rfl (gS rfl (gS rfl (gS rfl (gS rfl (gS rfl (gS rfl (gS rfl (gS rfl (gS rfl g0)))))))))))) (gS rfl (gS rfl (gS rfl (gS rfl (gS rfl (gS rfl (gS rfl (gS rfl (gS rfl (gS rfl (gS rfl g0))))))))))) (gS rfl (gS rfl (gS rfl (gS rfl (gS rfl (gS rfl (gS rfl (gS rfl (gS rfl (gS rfl g0)))))))))) (gS rfl g0) g0 (fun g => ?_)
  refine c_seq (fun K13 hK13 => ?_)
  refine c_region ?_
  refine l_step (y_idxAC 1 1 Hvaa.underlying65 sz_26 (et (gS rfl (gS rfl (gS rfl (gS rfl (gS rfl (gS rfl g0)))))) rfl) rfl rfl rfl) ?_
  refine l_step (y_load1 one_26 (et g0 rfl) (at1 (k2.cell rfl))) ?_
  refine l_step (y_idxAC 1 1 Hvaa.underlying65 sz_26 (et (gS rfl (gS rfl (gS rfl (gS rfl (gS rfl (gS rfl (gS rfl (gS rfl g0)))))))) rfl) rfl rfl rfl) ?_
  refine l_step (y_load1 one_26 (et g0 rfl) (at1 (k2.cell rfl))) ?_
  refine l_eff (e_callV cal_168 (aC (et (gS rfl (gS rfl g0)) rfl) (aC (et g0 rfl) aN)) (mul64_r _ _ _ (by assumption) (by assumption))) (fun v14 w14 h14 => ?_)
  obtain ⟨p14, q14, rfl, hp14, hq14, he14, u14⟩ := h14
  replace k2 := k2.up u14
  replace k3 := k3.up u14
  replace U := U.tr u14
  refine l_step (y_moveV (et g0 rfl)) ?_
  refine l_step (y_ext (et g0 rfl) rfl) ?_
  refine l_step (y_ext (et (gS rfl g0) rfl) rfl) ?_
  refine l_step (y_assignV (et (gS rfl g0) rfl)) ?_
  refine l_step (y_assignV (et (gS rfl g0) rfl)) ?_
  refine l_nil ?_
  refine hK13 _ _ ?_
  refine fg8 2 4 7 9 10 11 12 13 (gS rfl (gS rfl (gS rfl (gS rfl (gS rfl (gS rfl (gS rfl (gS rfl (gS rfl (gS rfl (gS rfl (gS rfl (gS rfl (gS rfl (gS rfl g0))))))))))))))) (gS rfl (gS rfl (gS rfl (gS rfl (gS rfl (gS rfl (gS rfl (gS rfl (gS rfl (gS rfl (gS rfl (gS rfl (gS rfl (gS rfl g0)))))))))))))) (gS rfl (gS rfl (gS rfl (gS rfl (gS rfl (gS rfl (gS rfl (gS rfl (gS rfl (gS rfl (gS rfl (gS rfl (gS rfl g0))))))))))))) (gS rfl (gS rfl (gS rfl (gS rfl (gS rfl (gS rfl (gS rfl (gS rfl (gS rfl (gS rfl (gS rfl (gS rfl g0)))))))))))) (gS rfl (gS rfl (gS rfl (gS rfl (gS rfl (gS rfl (gS rfl (gS rfl (gS rfl (gS rfl (gS rfl g0))))))))))) (gS rfl (gS rfl (gS rfl (gS rfl (gS rfl (gS rfl (gS rfl (gS rfl (gS rfl (gS rfl g0)))))))))) (gS rfl g0) g0 (fun g => ?_)
  refine c_seq (fun K15 hK15 => ?_)
  refine c_region ?_
  refine l_step (y_moveV (et (gS rfl (gS rfl (gS rfl g0))) rfl)) ?_
  refine l_step (y_moveV (et (gS rfl (gS rfl (gS rfl (gS rfl (gS rfl (gS rfl (gS rfl g0))))))) rfl)) ?_
  refine l_step (y_shl (et g0 rfl) rfl (by decide) (shl64C 1 2 (by decide) rfl)) ?_
  refine l_eff (e_callV cal_169 (aC (et (gS rfl (gS rfl g0)) rfl) (aC (et g0 rfl) (aC (v := .int .u64 ((0 : Nat) : Int)) rfl aN))) (add64_r _ _ _ _ (by first | assumption | omega) (by first | assumption | omega) (by first | assumption | decide))) (fun v16 w16 h16 => ?_)
  obtain ⟨s16, c16, rfl, hs16, hc16, he16, u16⟩ := h16
  replace k2 := k2.up u16
  replace k3 := k3.up u16
  replace U := U.tr u16
  refine l_step (y_moveV (et g0 rfl)) ?_
  refine l_step (y_ext (et g0 rfl) rfl) ?_
  refine l_step (y_ext (et (gS rfl g0) rfl) rfl) ?_
  refine l_step (y_assignV (et (gS rfl g0) rfl)) ?_
  refine l_step (y_assignV (et (gS rfl g0) rfl)) ?_
  refine l_nil ?_
  refine hK15 _ _ ?_
  refine fg9 2 4 7 9 11 12 13 14 8 (gS rfl (gS rfl (gS rfl (gS rfl (gS rfl (gS rfl (gS rfl (gS rfl (gS rfl (gS rfl (gS rfl (gS rfl (gS rfl (gS rfl (gS rfl (gS rfl g0)))))))))))))))) (gS rfl (gS rfl (gS rfl (gS rfl (gS rfl (gS rfl (gS rfl (gS rfl (gS rfl (gS rfl (gS rfl (gS rfl (gS rfl (gS rfl (gS rfl g0))))))))))))))) (gS rfl (gS rfl (gS rfl (gS rfl (gS rfl (gS rfl (gS rfl (gS rfl (gS rfl (gS rfl (gS rfl (gS rfl (gS rfl (gS rfl g0)))))))))))))) (gS rfl (gS rfl (gS rfl (gS rfl (gS rfl (gS rfl (gS rfl (gS rfl (gS rfl (gS rfl (gS rfl (gS rfl (gS rfl g0))))))))))))) (gS rfl (gS rfl (gS rfl (gS rfl (gS rfl (gS rfl (gS rfl (gS rfl (gS rfl (gS rfl (gS rfl g0))))))))))) (gS rfl (gS rfl (gS rfl (gS rfl (gS rfl (gS rfl (gS rfl (gS rfl (gS rfl (gS rfl g0)))))))))) (gS rfl (gS rfl (gS rfl (gS rfl (gS rfl (gS rfl (gS rfl (gS rfl (gS rfl g0))))))))) (gS rfl g0) g0 (fun g => ?_)
  refine c_seq (fun K17 hK17 => ?_)
  refine c_region ?_
  refine l_step (y_moveV (et (gS rfl (gS rfl g0)) rfl)) ?_
  refine l_step (y_moveV (et (gS rfl (gS rfl (gS rfl (gS rfl (gS rfl (gS rfl (gS rfl g0))))))) rfl)) ?_
  refine l_step (y_shl (et g0 rfl) rfl (by decide) (shl64C 1 2 (by decide) rfl)) ?_
  refine l_step (y_moveV (et (gS rfl (gS rfl (gS rfl (gS rfl (gS rfl (gS rfl (gS rfl (gS rfl (gS rfl (gS rfl g0)))))))))) rfl)) ?_
  refine l_step (y_shr (et g0 rfl) rfl (by decide) (shr64C 63 9223372036854775808 (by decide) rfl)) ?_
  refine l_step (y_orT 1 uk64 (et (gS rfl (gS rfl g0)) rfl) (et g0 rfl) ?_ ?_ ?_ ?_) ?_
  omega
  omega
  omega
  omega
  refine l_step (y_moveV (et (gS rfl (gS rfl (gS rfl (gS rfl (gS rfl (gS rfl g0)))))) rfl)) ?_
  refine l_eff (e_callV cal_169 (aC (et (gS rfl (gS rfl (gS rfl (gS rfl (gS rfl (gS rfl g0)))))) rfl) (aC (et (gS rfl g0) rfl) (aC (et g0 rfl) aN))) (add64_r _ _ _ _ (by first | assumption | omega) (by first | assumption | omega) (by first | assumption | decide))) (fun v18 w18 h18 => ?_)
  obtain ⟨s18, c18, rfl, hs18, hc18, he18, u18⟩ := h18
  replace k2 := k2.up u18
  replace k3 := k3.up u18
  replace U := U.tr u18
  refine l_step (y_moveV (et g0 rfl)) ?_
  refine l_step (y_ext (et g0 rfl) rfl) ?_
  refine l_step (y_ext (et (gS rfl g0) rfl) rfl) ?_
  refine l_step (y_assignV (et (gS rfl g0) rfl)) ?_
  refine l_step (y_assignV (et (gS rfl g0) rfl)) ?_
  refine l_nil ?_
  refine hK17 _ _ ?_
  refine fg8 2 7 9 11 12 14 8 15 (gS rfl (gS rfl (gS rfl (gS rfl (gS rfl (gS rfl (gS rfl (gS rfl (gS rfl (gS rfl (gS rfl (gS rfl (gS rfl (gS rfl (gS rfl (gS rfl (gS rfl (gS rfl (gS rfl (gS rfl (gS rfl g0))))))))))))))))))))) (gS rfl (gS rfl (gS rfl (gS rfl (gS rfl (gS rfl (gS rfl (gS rfl (gS rfl (gS rfl (gS rfl (gS rfl (gS rfl (gS rfl (gS rfl (gS rfl (gS rfl (gS rfl (gS rfl g0))))))))))))))))))) (gS rfl (gS rfl (gS rfl (gS rfl (gS rfl (gS rfl (gS rfl (gS rfl (gS rfl (gS rfl (gS rfl (gS rfl (gS rfl (gS rfl (gS rfl (gS rfl (gS rfl (gS rfl g0)))))))))))))))))) (gS rfl (gS rfl (gS rfl (gS rfl (gS rfl (gS rfl (gS rfl (gS rfl (gS rfl (gS rfl (gS rfl (gS rfl (gS rfl (gS rfl (gS rfl (gS rfl (gS rfl g0))))))))))))))))) (gS rfl (gS rfl (gS rfl (gS rfl (gS rfl (gS rfl (gS rfl (gS rfl (gS rfl (gS rfl (gS rfl (gS rfl (gS rfl (gS rfl (gS rfl (gS rfl g0)))))))))))))))) (gS rfl (gS rfl (gS rfl (gS rfl (gS rfl (gS rfl (gS rfl (gS rfl (gS rfl (gS rfl (gS rfl (gS rfl (gS rfl (gS rfl g0)))))))))))))) g0 (gS rfl g0) (fun g => ?_)
  refine c_seq (fun K19 hK19 => ?_)
  refine c_region ?_
  refine l_step (y_moveV (et (gS rfl (gS rfl (gS rfl g0))) rfl)) ?_
  refine l_step (y_moveV (et (gS rfl (gS rfl (gS rfl (gS rfl (gS rfl (gS rfl g0)))))) rfl)) ?_
  refine l_step (y_shl (et g0 rfl) rfl (by decide) (shl64C 1 2 (by decide) rfl)) ?_
  refine l_step (y_moveV (et (gS rfl (gS rfl (gS rfl (gS rfl (gS rfl (gS rfl (gS rfl (gS rfl (gS rfl g0))))))))) rfl)) ?_
  refine l_step (y_shr (et g0 rfl) rfl (by decide) (shr64C 63 9223372036854775808 (by decide) rfl)) ?_
  refine l_step (y_orT 1 uk64 (et (gS rfl (gS rfl g0)) rfl) (et g0 rfl) ?_ ?_ ?_ ?_) ?_
  omega
  omega
  omega
  omega
  refine l_step (y_add (et (gS rfl (gS rfl (gS rfl (gS rfl (gS rfl g0))))) rfl) (et g0 rfl) (wrapU_add uk64)) ?_
  refine l_step (y_moveV (et (gS rfl (gS rfl (gS rfl (gS rfl (gS rfl (gS rfl (gS rfl (gS rfl g0)))))))) rfl)) ?_
  refine l_step (y_add (et (gS rfl g0) rfl) (et g0 rfl) (wrapU_add uk64)) ?_
  refine l_step (y_assignV (et g0 rfl)) ?_
  refine l_nil ?_
  refine hK19 _ _ ?_
  refine fg5 2 11 14 15 16 (gS rfl (gS rfl (gS rfl (gS rfl (gS rfl (gS rfl (gS rfl (gS rfl (gS rfl (gS rfl (gS rfl (gS rfl (gS rfl (gS rfl (gS rfl (gS rfl (gS rfl g0))))))))))))))))) (gS rfl (gS rfl (gS rfl (gS rfl (gS rfl (gS rfl (gS rfl (gS rfl (gS rfl (gS rfl (gS rfl (gS rfl (gS rfl (gS rfl g0)))))))))))))) (gS rfl (gS rfl (gS rfl (gS rfl (gS rfl (gS rfl (gS rfl (gS rfl (gS rfl (gS rfl (gS rfl (gS rfl g0)))))))))))) (gS rfl (gS rfl (gS rfl (gS rfl (gS rfl (gS rfl (gS rfl (gS rfl (gS rfl (gS rfl g0)))))))))) g0 (fun g => ?_)
  refine c_seq (fun K20 hK20 => ?_)
  refine c_region ?_
  refine l_step (y_moveV (et (gS rfl (gS rfl (gS rfl g0))) rfl)) ?_
  refine l_step (y_moveV (et (gS rfl (gS rfl (gS rfl g0))) rfl)) ?_
  refine l_step (y_moveV (et (gS rfl (gS rfl (gS rfl g0))) rfl)) ?_
  refine l_step (y_moveV (et (gS rfl (gS rfl (gS rfl g0))) rfl)) ?_
  refine l_step (y_bld (bC (et (gS rfl (gS rfl (gS rfl g0))) rfl) (bC (et (gS rfl (gS rfl g0)) rfl) (bC (et (gS rfl g0) rfl) (bC (et g0 rfl) bN)))) (bld65_4 _ _ _ _)) ?_
  refine l_effN (e_store sz_65 (et (gS rfl (gS rfl (gS rfl (gS rfl (gS rfl (gS rfl (gS rfl (gS rfl (gS rfl g0))))))))) rfl) (cellsV (et g0 rfl) rfl) (by first | (simp only [Value.cells, hV, aV, bV, wV, wL, List.size_toArray, length_bL, length_uL, length_be, size_spl, List.length_cons, List.length_nil, List.length_replicate, Nat.zero_add, Nat.reduceAdd, Nat.reduceLeDiff, Nat.le_refl]; done) | rfl) (by first | exact one_bL _ | exact one_uL _ | (intro v hv; simp at hv; subst hv; rfl)) k3 (by first | (simp only [Value.cells, hV, aV, bV, wV, wL, List.size_toArray, length_bL, length_uL, length_be, size_spl, List.length_cons, List.length_nil, List.length_replicate, Nat.zero_add, Nat.reduceAdd, Nat.reduceLeDiff, Nat.le_refl]; done) | exact Nat.le_of_ble_eq_true rfl | simp | omega)) (fun v21 w21 h21 => ?_)
  obtain ⟨rfl, x21⟩ := h21
  replace k2 := k2.ch x21.ch (by omega)
  replace k3 := x21.blk.full (by first | (simp only [Value.cells, hV, aV, bV, wV, wL, List.size_toArray, length_bL, length_uL, length_be, size_spl, List.length_cons, List.length_nil, List.length_replicate, Nat.zero_add, Nat.reduceAdd, Nat.reduceLeDiff, Nat.le_refl]; done) | rfl)
  replace U := U.st x21 f3
  refine l_nil ?_
  refine hK20 _ _ ?_
  refine fg1 2 (gS rfl (gS rfl (gS rfl (gS rfl (gS rfl (gS rfl (gS rfl (gS rfl (gS rfl g0))))))))) (fun g => ?_)
  refine c_ret ?_
  refine ret1 rfl (res_blk agg_65 sz_65 (et g0 rfl) (by first | (simp only [Value.cells, hV, aV, bV, wV, wL, List.size_toArray, length_bL, length_uL, length_be, size_spl, List.length_cons, List.length_nil, List.length_replicate, Nat.zero_add, Nat.reduceAdd, Nat.reduceLeDiff, Nat.le_refl]; done) | rfl) k3) ?_
  refine ⟨?_, U⟩
  rw [← La, ofL_mul]
  refine wV_of _ _ _ _ _ (by assumption) (by assumption) (by assumption) (Nat.mod_lt _ (by decide)) ?_
  simp only [Nat.add_mod_mod, Nat.mod_add_mod, Nat.mod_mod, Nat.mod_mul_mod]
  rw [sqTop]
  refine (modW _ _ _ _ (xa1 * xa3 * 2 + xa2 * xa2 + xa2 * xa3 * 36893488147419103232 + xa3 * xa3 * 340282366920938463463374607431768211456) _ (by assumption) (by assumption) (by assumption) ?_)
  refine (sq_lin xa0 xa1 xa2 xa3 _ _ _ _ _ _ _ _ _ _ _ _ _ _ _ _ _ _ _ he5 he7 he9 he12 he14 he16 he18 (by omega) (by omega)).trans ?_
  grind
theorem below_spec (a n : Nat) (w : World) (ha : a < W256) :
    Ret 378 [wV a, .int .u64 n] w (fun v w' => ∃ x : Nat, v = .tuple #[.int .u64 x, .bool (decide (a < 18446744073709551616 ∧ a < n))] ∧ (a < 18446744073709551616 → x = a) ∧ Up w w') := by
  refine enter (n := 20) Hvaa.func378 rfl rfl (Nat.le_of_ble_eq_true rfl) ?_
  have U := Up.refl w
  refine c_seq (fun K1 hK1 => ?_)
  refine c_region ?_
  refine l_eff (e_boxV (et g0 rfl)) (fun v2 w2 h2 => ?_)
  obtain ⟨b2, rfl, n2⟩ := h2
  have f2 : w.heap.size ≤ b2 := Nat.le_trans U.size n2.fresh
  replace U := U.tr n2.up
  have k2 := n2.blk
  refine l_step y_assignC ?_
  refine l_step y_assignC ?_
  refine l_nil ?_
  refine hK1 _ _ ?_
  refine fg2 1 2 (gS rfl (gS rfl (gS rfl (gS rfl g0)))) (gS rfl (gS rfl g0)) (fun g => ?_)
  refine c_seq (fun K3 hK3 => ?_)
  refine c_region ?_
  refine l_step (y_loadB agg_65 sz_65 (et g0 rfl) (by first | (simp only [Value.cells, hV, aV, bV, wV, wL, List.size_toArray, length_bL, length_uL, length_be, size_spl, List.length_cons, List.length_nil, List.length_replicate, Nat.zero_add, Nat.reduceAdd, Nat.reduceLeDiff, Nat.le_refl]; done) | rfl) (at1B k2)) ?_
  refine l_eff (e_callV cal_300 (aC (et g0 rfl) aN) (wU64_spec _ _ (by assumption))) (fun v4 w4 h4 => ?_)
  obtain ⟨rfl, u4⟩ := h4
  replace k2 := k2.up u4
  replace U := U.tr u4
  refine l_step (y_moveV (et g0 rfl)) ?_
  refine l_step (y_ext (et g0 rfl) rfl) ?_
  refine l_step (y_ext (et (gS rfl g0) rfl) rfl) ?_
  refine l_step (y_assignV (et (gS rfl g0) rfl)) ?_
  refine l_step (y_assignV (et (gS rfl g0) rfl)) ?_
  refine l_nil ?_
  refine hK3 _ _ ?_
  refine fg3 1 6 7 (gS rfl (gS rfl (gS rfl (gS rfl (gS rfl (gS rfl (gS rfl (gS rfl g0)))))))) (gS rfl g0) g0 (fun g => ?_)
  refine c_seq (fun K5 hK5 => ?_)
  refine c_region ?_
  refine l_step (y_moveV (et (gS rfl g0) rfl)) ?_
  refine l_step (y_moveV (et (gS rfl g0) rfl)) ?_
  refine l_step (y_moveV (et g0 rfl)) ?_
  refine gsplitL (i := 15) g0 (fun q6 => ?_) (fun q6 => ?_)
  · skip
    have hq := of_decide_eq_true q6
    refine l_gstep (j := 2) (t := 15) (by exact rfl) (by exact rfl) (et g0 rfl) (by decide) (y_moveV (et (gS rfl (gS rfl (gS rfl (gS rfl (gS rfl g0))))) rfl)) ?_
    refine l_gstep (j := 2) (t := 15) (by exact rfl) (by exact rfl) (et (gS rfl g0) rfl) (by decide) (y_moveV (et (gS rfl (gS rfl (gS rfl (gS rfl (gS rfl (gS rfl (gS rfl g0))))))) rfl)) ?_
    refine l_gstep (j := 2) (t := 15) (by exact rfl) (by exact rfl) (et (gS rfl (gS rfl g0)) rfl) (by decide) (y_lss (et (gS rfl g0) rfl) (et g0 rfl)) ?_
    refine l_step (y_pickT (et (gS rfl (gS rfl (gS rfl g0))) rfl) (et g0 rfl)) ?_
    refine l_step (y_assignV (et (gS rfl (gS rfl (gS rfl (gS rfl (gS rfl (gS rfl (gS rfl g0))))))) rfl)) ?_
    refine l_step (y_assignV (et (gS rfl g0) rfl)) ?_
    refine l_nil ?_
    refine hK5 _ _ ?_
    refine fg2 4 5 (gS rfl g0) g0 (fun g => ?_)
    refine c_ret ?_
    refine ret2 rfl (res_tmp (et (gS rfl g0) rfl)) (res_tmp (et g0 rfl)) ?_
    refine ⟨_, tup2 rfl ?_, fun h => if_pos h, U⟩
    first
      | (refine boolD ?_; rw [if_pos hq]; omega)
      | (show Value.bool false = _; rw [decide_eq_false]; omega)
  · skip
    have hq := of_decide_eq_false q6
    refine l_gskip (j := 2) (t := 15) (by exact rfl) (by exact rfl) (et g0 rfl) (by decide) (by decide) ?_
    refine l_gskip (j := 2) (t := 15) (by exact rfl) (by exact rfl) (et (gS rfl g0) rfl) (by decide) (by decide) ?_
    refine l_gskip (j := 2) (t := 15) (by exact rfl) (by exact rfl) (et (gS rfl (gS rfl g0)) rfl) (by decide) (by decide) ?_
    refine l_step (y_pickF (et (gS rfl (gS rfl (gS rfl g0))) rfl) rfl) ?_
    refine l_step (y_assignV (et (gS rfl (gS rfl (gS rfl (gS rfl (gS rfl (gS rfl (gS rfl g0))))))) rfl)) ?_
    refine l_step (y_assignV (et (gS rfl g0) rfl)) ?_
    refine l_nil ?_
    refine hK5 _ _ ?_
    refine fg2 4 5 (gS rfl g0) g0 (fun g => ?_)
    refine c_ret ?_
    refine ret2 rfl (res_tmp (et (gS rfl g0) rfl)) (res_tmp (et g0 rfl)) ?_
    refine ⟨_, tup2 rfl ?_, fun h => if_pos h, U⟩
    first
      | (refine boolD ?_; rw [if_pos hq]; omega)
      | (show Value.bool false = _; rw [decide_eq_false]; omega)
end Go.Proofs.YgvaawGreat
