import Derived.Test.YgvaawGreatWord
set_option linter.unusedSimpArgs false
set_option linter.unusedVariables false
namespace Go.Proofs.YgvaawGreat
open Go
theorem tup2 {a a' b b' : Value} (h1 : a = a') (h2 : b = b') : Value.tuple #[a, b] = .tuple #[a', b'] := by rw [h1, h2]
theorem boolD {p q : Prop} [Decidable p] [Decidable q] (h : p ↔ q) : Value.bool (decide p) = .bool (decide q) := by rw [decide_eq_decide.2 h]
theorem add_val (a0 a1 a2 a3 b0 b1 b2 b3 : Nat) (ha0 : a0 < 18446744073709551616) (ha1 : a1 < 18446744073709551616) (ha2 : a2 < 18446744073709551616) (ha3 : a3 < 18446744073709551616) (hb0 : b0 < 18446744073709551616) (hb1 : b1 < 18446744073709551616) (hb2 : b2 < 18446744073709551616) (hb3 : b3 < 18446744073709551616) : Value.tuple #[.agg (uL [(a0 + b0 + 0) % 18446744073709551616, (a1 + b1 + (a0 + b0 + 0) / 18446744073709551616) % 18446744073709551616, (a2 + b2 + (a1 + b1 + (a0 + b0 + 0) / 18446744073709551616) / 18446744073709551616) % 18446744073709551616, (a3 + b3 + (a2 + b2 + (a1 + b1 + (a0 + b0 + 0) / 18446744073709551616) / 18446744073709551616) / 18446744073709551616) % 18446744073709551616]).toArray, .bool (decide (((((a3 + b3 + (a2 + b2 + (a1 + b1 + (a0 + b0 + 0) / 18446744073709551616) / 18446744073709551616) / 18446744073709551616) / 18446744073709551616) : Nat) : Int) ≠ 0))] = .tuple #[wV ((ofL a0 a1 a2 a3 + ofL b0 b1 b2 b3) % W256), .bool (decide (W256 ≤ ofL a0 a1 a2 a3 + ofL b0 b1 b2 b3))] := by
  refine tup2 ?_ (boolD ?_)
  · refine wV_of _ _ _ _ _ (Nat.mod_lt _ (by decide)) (Nat.mod_lt _ (by decide)) (Nat.mod_lt _ (by decide)) (Nat.mod_lt _ (by decide)) ?_
    unfold ofL W256; omega
  · unfold ofL W256; omega
theorem sub_val (a0 a1 a2 a3 b0 b1 b2 b3 : Nat) (ha0 : a0 < 18446744073709551616) (ha1 : a1 < 18446744073709551616) (ha2 : a2 < 18446744073709551616) (ha3 : a3 < 18446744073709551616) (hb0 : b0 < 18446744073709551616) (hb1 : b1 < 18446744073709551616) (hb2 : b2 < 18446744073709551616) (hb3 : b3 < 18446744073709551616) : Value.tuple #[.agg (uL [sub64 a0 b0 0, sub64 a1 b1 (bor64 a0 b0 0), sub64 a2 b2 (bor64 a1 b1 (bor64 a0 b0 0)), sub64 a3 b3 (bor64 a2 b2 (bor64 a1 b1 (bor64 a0 b0 0)))]).toArray, .bool (decide (((((bor64 a3 b3 (bor64 a2 b2 (bor64 a1 b1 (bor64 a0 b0 0))))) : Nat) : Int) ≠ 0))] = .tuple #[wV ((ofL a0 a1 a2 a3 + W256 - ofL b0 b1 b2 b3) % W256), .bool (decide (ofL a0 a1 a2 a3 < ofL b0 b1 b2 b3))] := by
  have e0 := sub64_eq a0 b0 0 ha0 hb0 (by decide)
  have e1 := sub64_eq a1 b1 (bor64 a0 b0 0) ha1 hb1 (bor64_le _ _ _)
  have e2 := sub64_eq a2 b2 (bor64 a1 b1 (bor64 a0 b0 0)) ha2 hb2 (bor64_le _ _ _)
  have e3 := sub64_eq a3 b3 (bor64 a2 b2 (bor64 a1 b1 (bor64 a0 b0 0))) ha3 hb3 (bor64_le _ _ _)
  have s0 := sub64_lt a0 b0 0
  have s1 := sub64_lt a1 b1 (bor64 a0 b0 0)
  have s2 := sub64_lt a2 b2 (bor64 a1 b1 (bor64 a0 b0 0))
  have s3 := sub64_lt a3 b3 (bor64 a2 b2 (bor64 a1 b1 (bor64 a0 b0 0)))
  have t0 := bor64_le a0 b0 0
  have t1 := bor64_le a1 b1 (bor64 a0 b0 0)
  have t2 := bor64_le a2 b2 (bor64 a1 b1 (bor64 a0 b0 0))
  have t3 := bor64_le a3 b3 (bor64 a2 b2 (bor64 a1 b1 (bor64 a0 b0 0)))
  generalize sub64 a3 b3 (bor64 a2 b2 (bor64 a1 b1 (bor64 a0 b0 0))) = z3 at *
  generalize bor64 a3 b3 (bor64 a2 b2 (bor64 a1 b1 (bor64 a0 b0 0))) = c3 at *
  generalize sub64 a2 b2 (bor64 a1 b1 (bor64 a0 b0 0)) = z2 at *
  generalize bor64 a2 b2 (bor64 a1 b1 (bor64 a0 b0 0)) = c2 at *
  generalize sub64 a1 b1 (bor64 a0 b0 0) = z1 at *
  generalize bor64 a1 b1 (bor64 a0 b0 0) = c1 at *
  generalize sub64 a0 b0 0 = z0 at *
  generalize bor64 a0 b0 0 = c0 at *
  refine tup2 (wV_of _ _ _ _ _ s0 s1 s2 s3 ?_) (boolD ?_)
  · unfold ofL W256; omega
  · unfold ofL; omega
theorem ite01 (p : Prop) [Decidable p] : (if p then 1 else 0 : Nat) ≤ 1 := by split <;> decide
theorem carry1 (x y c : Nat) (hx : x < 18446744073709551616) (hy : y < 18446744073709551616) (hc : c ≤ 1) : (x + y + c) / 18446744073709551616 ≤ 1 := by omega
theorem addOver_spec (a b : Nat) (w : World) (ha : a < W256) (hb : b < W256) :
    Ret 164 [wV a, wV b] w (fun v w' => v = .tuple #[wV ((a + b) % W256), .bool (decide (W256 ≤ a + b))] ∧ Up w w') := by
  have La := ofL_limb a ha
  have la0 := limb_lt a 0
  have la1 := limb_lt a 1
  have la2 := limb_lt a 2
  have la3 := limb_lt a 3
  generalize hla0 : limb a 0 = a0 at *
  generalize hla1 : limb a 1 = a1 at *
  generalize hla2 : limb a 2 = a2 at *
  generalize hla3 : limb a 3 = a3 at *
  have ea : wV a = .agg (uL [a0, a1, a2, a3]).toArray := by unfold wV wL; rw [hla0, hla1, hla2, hla3]
  rw [ea]
  clear hla0 hla1 hla2 hla3 ea
  have Lb := ofL_limb b hb
  have lb0 := limb_lt b 0
  have lb1 := limb_lt b 1
  have lb2 := limb_lt b 2
  have lb3 := limb_lt b 3
  generalize hlb0 : limb b 0 = b0 at *
  generalize hlb1 : limb b 1 = b1 at *
  generalize hlb2 : limb b 2 = b2 at *
  generalize hlb3 : limb b 3 = b3 at *
  have eb : wV b = .agg (uL [b0, b1, b2, b3]).toArray := by unfold wV wL; rw [hlb0, hlb1, hlb2, hlb3]
  rw [eb]
  clear hlb0 hlb1 hlb2 hlb3 eb
  refine enter (n := 53) Hvaa.func164 rfl rfl (Nat.le_of_ble_eq_true rfl) ?_
  have U := Up.refl w
  refine c_seq (fun K1 hK1 => ?_)
  refine c_region ?_
  refine l_eff (e_boxV (et g0 rfl)) (fun v2 w2 h2 => ?_)
  obtain ⟨b2, rfl, n2⟩ := h2
  have f2 : w.heap.size ≤ b2 := Nat.le_trans U.size n2.fresh
  replace U := U.tr n2.up
  have k2 := n2.blk
  refine l_eff (e_boxV (et (gS rfl (gS rfl g0)) rfl)) (fun v3 w3 h3 => ?_)
  obtain ⟨b3, rfl, n3⟩ := h3
  have d2_3 : b2 < b3 := Nat.lt_of_lt_of_le k2.lt n3.fresh
  have f3 : w.heap.size ≤ b3 := Nat.le_trans U.size n3.fresh
  replace k2 := k2.up n3.up
  replace U := U.tr n3.up
  have k3 := n3.blk
  refine l_eff (e_alloc zr_65) (fun v4 w4 h4 => ?_)
  obtain ⟨b4, rfl, n4⟩ := h4
  have d2_4 : b2 < b4 := Nat.lt_of_lt_of_le k2.lt n4.fresh
  have d3_4 : b3 < b4 := Nat.lt_of_lt_of_le k3.lt n4.fresh
  have f4 : w.heap.size ≤ b4 := Nat.le_trans U.size n4.fresh
  replace k2 := k2.up n4.up
  replace k3 := k3.up n4.up
  replace U := U.tr n4.up
  have k4 := n4.blk
  refine l_step y_assignC ?_
  refine l_nil ?_
  refine hK1 _ _ ?_
  refine fg3 2 3 4 (gS rfl (gS rfl (gS rfl g0))) (gS rfl (gS rfl g0)) (gS rfl g0) (fun g => ?_)
  refine c_seq (fun K5 hK5 => ?_)
  refine c_region ?_
  refine l_step (y_idxAC 0 0 Hvaa.underlying65 sz_26 (et (gS rfl (gS rfl g0)) rfl) rfl rfl rfl) ?_
  refine l_step (y_load1 one_26 (et g0 rfl) (at1 (k2.cell rfl))) ?_
  refine l_step (y_idxAC 0 0 Hvaa.underlying65 sz_26 (et (gS rfl (gS rfl (gS rfl g0))) rfl) rfl rfl rfl) ?_
  refine l_step (y_load1 one_26 (et g0 rfl) (at1 (k3.cell rfl))) ?_
  refine l_eff (e_callV cal_169 (aC (et (gS rfl (gS rfl g0)) rfl) (aC (et g0 rfl) (aC (v := .int .u64 ((0 : Nat) : Int)) rfl aN))) (add64_spec _ _ _ _ (by decide))) (fun v6 w6 h6 => ?_)
  obtain ⟨rfl, u6⟩ := h6
  replace k2 := k2.up u6
  replace k3 := k3.up u6
  replace k4 := k4.up u6
  replace U := U.tr u6
  refine l_step (y_moveV (et g0 rfl)) ?_
  refine l_step (y_ext (et g0 rfl) rfl) ?_
  refine l_step (y_ext (et (gS rfl g0) rfl) rfl) ?_
  refine l_step (y_assignV (et (gS rfl g0) rfl)) ?_
  refine l_step (y_assignV (et (gS rfl g0) rfl)) ?_
  refine l_nil ?_
  refine hK5 _ _ ?_
  refine fg5 2 3 4 6 7 (gS rfl (gS rfl (gS rfl (gS rfl (gS rfl (gS rfl (gS rfl (gS rfl (gS rfl (gS rfl (gS rfl (gS rfl g0)))))))))))) (gS rfl (gS rfl (gS rfl (gS rfl (gS rfl (gS rfl (gS rfl (gS rfl (gS rfl (gS rfl (gS rfl g0))))))))))) (gS rfl (gS rfl (gS rfl (gS rfl (gS rfl (gS rfl (gS rfl (gS rfl (gS rfl (gS rfl g0)))))))))) (gS rfl g0) g0 (fun g => ?_)
  refine c_seq (fun K7 hK7 => ?_)
  refine c_region ?_
  refine l_step (y_idxAC 1 1 Hvaa.underlying65 sz_26 (et (gS rfl (gS rfl (gS rfl (gS rfl g0)))) rfl) rfl rfl rfl) ?_
  refine l_step (y_load1 one_26 (et g0 rfl) (at1 (k2.cell rfl))) ?_
  refine l_step (y_idxAC 1 1 Hvaa.underlying65 sz_26 (et (gS rfl (gS rfl (gS rfl (gS rfl (gS rfl g0))))) rfl) rfl rfl rfl) ?_
  refine l_step (y_load1 one_26 (et g0 rfl) (at1 (k3.cell rfl))) ?_
  refine l_step (y_moveV (et (gS rfl (gS rfl (gS rfl (gS rfl g0)))) rfl)) ?_
  refine l_eff (e_callV cal_169 (aC (et (gS rfl (gS rfl (gS rfl g0))) rfl) (aC (et (gS rfl g0) rfl) (aC (et g0 rfl) aN))) (add64_spec _ _ _ _ (carry1 _ _ _ la0 lb0 (by decide)))) (fun v8 w8 h8 => ?_)
  obtain ⟨rfl, u8⟩ := h8
  replace k2 := k2.up u8
  replace k3 := k3.up u8
  replace k4 := k4.up u8
  replace U := U.tr u8
  refine l_step (y_moveV (et g0 rfl)) ?_
  refine l_step (y_ext (et g0 rfl) rfl) ?_
  refine l_step (y_ext (et (gS rfl g0) rfl) rfl) ?_
  refine l_step (y_assignV (et (gS rfl g0) rfl)) ?_
  refine l_step (y_assignV (et (gS rfl g0) rfl)) ?_
  refine l_nil ?_
  refine hK7 _ _ ?_
  refine fg6 2 3 4 6 7 8 (gS rfl (gS rfl (gS rfl (gS rfl (gS rfl (gS rfl (gS rfl (gS rfl (gS rfl (gS rfl (gS rfl (gS rfl (gS rfl (gS rfl (gS rfl g0))))))))))))))) (gS rfl (gS rfl (gS rfl (gS rfl (gS rfl (gS rfl (gS rfl (gS rfl (gS rfl (gS rfl (gS rfl (gS rfl (gS rfl (gS rfl g0)))))))))))))) (gS rfl (gS rfl (gS rfl (gS rfl (gS rfl (gS rfl (gS rfl (gS rfl (gS rfl (gS rfl (gS rfl (gS rfl (gS rfl g0))))))))))))) (gS rfl (gS rfl (gS rfl (gS rfl (gS rfl (gS rfl (gS rfl (gS rfl (gS rfl (gS rfl (gS rfl (gS rfl g0)))))))))))) g0 (gS rfl g0) (fun g => ?_)
  refine c_seq (fun K9 hK9 => ?_)
  refine c_region ?_
  refine l_step (y_idxAC 2 2 Hvaa.underlying65 sz_26 (et (gS rfl (gS rfl (gS rfl (gS rfl (gS rfl g0))))) rfl) rfl rfl rfl) ?_
  refine l_step (y_load1 one_26 (et g0 rfl) (at1 (k2.cell rfl))) ?_
  refine l_step (y_idxAC 2 2 Hvaa.underlying65 sz_26 (et (gS rfl (gS rfl (gS rfl (gS rfl (gS rfl (gS rfl g0)))))) rfl) rfl rfl rfl) ?_
  refine l_step (y_load1 one_26 (et g0 rfl) (at1 (k3.cell rfl))) ?_
  refine l_step (y_moveV (et (gS rfl (gS rfl (gS rfl (gS rfl (gS rfl g0))))) rfl)) ?_
  refine l_eff (e_callV cal_169 (aC (et (gS rfl (gS rfl (gS rfl g0))) rfl) (aC (et (gS rfl g0) rfl) (aC (et g0 rfl) aN))) (add64_spec _ _ _ _ (carry1 _ _ _ la1 lb1 (carry1 _ _ _ la0 lb0 (by decide))))) (fun v10 w10 h10 => ?_)
  obtain ⟨rfl, u10⟩ := h10
  replace k2 := k2.up u10
  replace k3 := k3.up u10
  replace k4 := k4.up u10
  replace U := U.tr u10
  refine l_step (y_moveV (et g0 rfl)) ?_
  refine l_step (y_ext (et g0 rfl) rfl) ?_
  refine l_step (y_ext (et (gS rfl g0) rfl) rfl) ?_
  refine l_step (y_assignV (et (gS rfl g0) rfl)) ?_
  refine l_step (y_assignV (et (gS rfl g0) rfl)) ?_
  refine l_nil ?_
  refine hK9 _ _ ?_
  refine fg7 2 3 4 6 7 8 9 (gS rfl (gS rfl (gS rfl (gS rfl (gS rfl (gS rfl (gS rfl (gS rfl (gS rfl (gS rfl (gS rfl (gS rfl (gS rfl (gS rfl (gS rfl (gS rfl g0)))))))))))))))) (gS rfl (gS rfl (gS rfl (gS rfl (gS rfl (gS rfl (gS rfl (gS rfl (gS rfl (gS rfl (gS rfl (gS rfl (gS rfl (gS rfl (gS rfl g0))))))))))))))) (gS rfl (gS rfl (gS rfl (gS rfl (gS rfl (gS rfl (gS rfl (gS rfl (gS rfl (gS rfl (gS rfl (gS rfl (gS rfl (gS rfl g0)))))))))))))) (gS rfl (gS rfl (gS rfl (gS rfl (gS rfl (gS rfl (gS rfl (gS rfl (gS rfl (gS rfl (gS rfl (gS rfl (gS rfl g0))))))))))))) g0 (gS rfl (gS rfl (gS rfl (gS rfl (gS rfl (gS rfl (gS rfl (gS rfl (gS rfl (gS rfl (gS rfl g0))))))))))) (gS rfl g0) (fun g => ?_)
  refine c_seq (fun K11 hK11 => ?_)
  refine c_region ?_
  refine l_step (y_idxAC 3 3 Hvaa.underlying65 sz_26 (et (gS rfl (gS rfl (gS rfl (gS rfl (gS rfl (gS rfl g0)))))) rfl) rfl rfl rfl) ?_
  refine l_step (y_load1 one_26 (et g0 rfl) (at1 (k2.cell rfl))) ?_
  refine l_step (y_idxAC 3 3 Hvaa.underlying65 sz_26 (et (gS rfl (gS rfl (gS rfl (gS rfl (gS rfl (gS rfl (gS rfl g0))))))) rfl) rfl rfl rfl) ?_
  refine l_step (y_load1 one_26 (et g0 rfl) (at1 (k3.cell rfl))) ?_
  refine l_step (y_moveV (et (gS rfl (gS rfl (gS rfl (gS rfl (gS rfl (gS rfl g0)))))) rfl)) ?_
  refine l_eff (e_callV cal_169 (aC (et (gS rfl (gS rfl (gS rfl g0))) rfl) (aC (et (gS rfl g0) rfl) (aC (et g0 rfl) aN))) (add64_spec _ _ _ _ (carry1 _ _ _ la2 lb2 (carry1 _ _ _ la1 lb1 (carry1 _ _ _ la0 lb0 (by decide)))))) (fun v12 w12 h12 => ?_)
  obtain ⟨rfl, u12⟩ := h12
  replace k2 := k2.up u12
  replace k3 := k3.up u12
  replace k4 := k4.up u12
  replace U := U.tr u12
  refine l_step (y_moveV (et g0 rfl)) ?_
  refine l_step (y_ext (et g0 rfl) rfl) ?_
  refine l_step (y_ext (et (gS rfl g0) rfl) rfl) ?_
  refine l_step (y_assignV (et (gS rfl g0) rfl)) ?_
  refine l_step (y_assignV (et (gS rfl g0) rfl)) ?_
  refine l_nil ?_
  refine hK11 _ _ ?_
  refine fg6 4 6 7 8 9 10 (gS rfl (gS rfl (gS rfl (gS rfl (gS rfl (gS rfl (gS rfl (gS rfl (gS rfl (gS rfl (gS rfl (gS rfl (gS rfl (gS rfl (gS rfl g0))))))))))))))) (gS rfl (gS rfl (gS rfl (gS rfl (gS rfl (gS rfl (gS rfl (gS rfl (gS rfl (gS rfl (gS rfl (gS rfl (gS rfl (gS rfl g0)))))))))))))) g0 (gS rfl (gS rfl (gS rfl (gS rfl (gS rfl (gS rfl (gS rfl (gS rfl (gS rfl (gS rfl (gS rfl (gS rfl g0)))))))))))) (gS rfl (gS rfl (gS rfl (gS rfl (gS rfl (gS rfl (gS rfl (gS rfl (gS rfl (gS rfl (gS rfl g0))))))))))) (gS rfl g0) (fun g => ?_)
  refine c_seq (fun K13 hK13 => ?_)
  refine c_region ?_
  refine l_step (y_moveV (et (gS rfl (gS rfl (gS rfl (gS rfl g0)))) rfl)) ?_
  refine l_step (y_moveV (et (gS rfl (gS rfl (gS rfl g0))) rfl)) ?_
  refine l_step (y_moveV (et (gS rfl (gS rfl (gS rfl g0))) rfl)) ?_
  refine l_step (y_moveV (et (gS rfl (gS rfl (gS rfl g0))) rfl)) ?_
  refine l_step (y_bld (bC (et (gS rfl (gS rfl (gS rfl g0))) rfl) (bC (et (gS rfl (gS rfl g0)) rfl) (bC (et (gS rfl g0) rfl) (bC (et g0 rfl) bN)))) (bld65_4 _ _ _ _)) ?_
  refine l_step (y_moveV (et (gS rfl (gS rfl (gS rfl (gS rfl (gS rfl (gS rfl (gS rfl (gS rfl g0)))))))) rfl)) ?_
  refine l_step (y_neq (et g0 rfl) rfl) ?_
  refine l_effN (e_store sz_65 (et (gS rfl (gS rfl (gS rfl (gS rfl (gS rfl (gS rfl (gS rfl (gS rfl (gS rfl (gS rfl (gS rfl (gS rfl g0)))))))))))) rfl) (cellsV (et (gS rfl (gS rfl g0)) rfl) rfl) rfl (by first | exact one_bL _ | exact one_uL _ | (intro v hv; simp at hv; subst hv; rfl)) k4 (by first | exact Nat.le_of_ble_eq_true rfl | simp | omega)) (fun v14 w14 h14 => ?_)
  obtain ⟨rfl, x14⟩ := h14
  replace k2 := k2.ch x14.ch (by omega)
  replace k3 := k3.ch x14.ch (by omega)
  replace k4 := x14.blk.full (by first | (simp [Value.cells, uL, bL]; done) | rfl)
  replace U := U.st x14 f4
  refine l_step (y_assignV (et g0 rfl)) ?_
  refine l_nil ?_
  refine hK13 _ _ ?_
  refine fg2 4 5 (gS rfl (gS rfl (gS rfl (gS rfl (gS rfl (gS rfl (gS rfl (gS rfl (gS rfl (gS rfl (gS rfl (gS rfl (gS rfl g0))))))))))))) g0 (fun g => ?_)
  refine c_ret ?_
  refine ret2 rfl (res_blk agg_65 sz_65 (et (gS rfl g0) rfl) (by first | (simp [Value.cells, uL, bL]; done) | rfl) k4) (res_tmp (et g0 rfl)) ?_
  refine ⟨?_, U⟩
  rw [← La, ← Lb]
  exact add_val _ _ _ _ _ _ _ _ la0 la1 la2 la3 lb0 lb1 lb2 lb3
theorem subUnder_spec (a b : Nat) (w : World) (ha : a < W256) (hb : b < W256) :
    Ret 171 [wV a, wV b] w (fun v w' => v = .tuple #[wV ((a + W256 - b) % W256), .bool (decide (a < b))] ∧ Up w w') := by
  have La := ofL_limb a ha
  have la0 := limb_lt a 0
  have la1 := limb_lt a 1
  have la2 := limb_lt a 2
  have la3 := limb_lt a 3
  generalize hla0 : limb a 0 = a0 at *
  generalize hla1 : limb a 1 = a1 at *
  generalize hla2 : limb a 2 = a2 at *
  generalize hla3 : limb a 3 = a3 at *
  have ea : wV a = .agg (uL [a0, a1, a2, a3]).toArray := by unfold wV wL; rw [hla0, hla1, hla2, hla3]
  rw [ea]
  clear hla0 hla1 hla2 hla3 ea
  have Lb := ofL_limb b hb
  have lb0 := limb_lt b 0
  have lb1 := limb_lt b 1
  have lb2 := limb_lt b 2
  have lb3 := limb_lt b 3
  generalize hlb0 : limb b 0 = b0 at *
  generalize hlb1 : limb b 1 = b1 at *
  generalize hlb2 : limb b 2 = b2 at *
  generalize hlb3 : limb b 3 = b3 at *
  have eb : wV b = .agg (uL [b0, b1, b2, b3]).toArray := by unfold wV wL; rw [hlb0, hlb1, hlb2, hlb3]
  rw [eb]
  clear hlb0 hlb1 hlb2 hlb3 eb
  refine enter (n := 53) Hvaa.func171 rfl rfl (Nat.le_of_ble_eq_true rfl) ?_
  have U := Up.refl w
  refine c_seq (fun K1 hK1 => ?_)
  refine c_region ?_
  refine l_eff (e_boxV (et g0 rfl)) (fun v2 w2 h2 => ?_)
  obtain ⟨b2, rfl, n2⟩ := h2
  have f2 : w.heap.size ≤ b2 := Nat.le_trans U.size n2.fresh
  replace U := U.tr n2.up
  have k2 := n2.blk
  refine l_eff (e_boxV (et (gS rfl (gS rfl g0)) rfl)) (fun v3 w3 h3 => ?_)
  obtain ⟨b3, rfl, n3⟩ := h3
  have d2_3 : b2 < b3 := Nat.lt_of_lt_of_le k2.lt n3.fresh
  have f3 : w.heap.size ≤ b3 := Nat.le_trans U.size n3.fresh
  replace k2 := k2.up n3.up
  replace U := U.tr n3.up
  have k3 := n3.blk
  refine l_eff (e_alloc zr_65) (fun v4 w4 h4 => ?_)
  obtain ⟨b4, rfl, n4⟩ := h4
  have d2_4 : b2 < b4 := Nat.lt_of_lt_of_le k2.lt n4.fresh
  have d3_4 : b3 < b4 := Nat.lt_of_lt_of_le k3.lt n4.fresh
  have f4 : w.heap.size ≤ b4 := Nat.le_trans U.size n4.fresh
  replace k2 := k2.up n4.up
  replace k3 := k3.up n4.up
  replace U := U.tr n4.up
  have k4 := n4.blk
  refine l_step y_assignC ?_
  refine l_nil ?_
  refine hK1 _ _ ?_
  refine fg3 2 3 4 (gS rfl (gS rfl (gS rfl g0))) (gS rfl (gS rfl g0)) (gS rfl g0) (fun g => ?_)
  refine c_seq (fun K5 hK5 => ?_)
  refine c_region ?_
  refine l_step (y_idxAC 0 0 Hvaa.underlying65 sz_26 (et (gS rfl (gS rfl g0)) rfl) rfl rfl rfl) ?_
  refine l_step (y_load1 one_26 (et g0 rfl) (at1 (k2.cell rfl))) ?_
  refine l_step (y_idxAC 0 0 Hvaa.underlying65 sz_26 (et (gS rfl (gS rfl (gS rfl g0))) rfl) rfl rfl rfl) ?_
  refine l_step (y_load1 one_26 (et g0 rfl) (at1 (k3.cell rfl))) ?_
  refine l_eff (e_callV cal_246 (aC (et (gS rfl (gS rfl g0)) rfl) (aC (et g0 rfl) (aC (v := .int .u64 ((0 : Nat) : Int)) rfl aN))) (sub64_spec _ _ _ _ (by decide))) (fun v6 w6 h6 => ?_)
  obtain ⟨rfl, u6⟩ := h6
  replace k2 := k2.up u6
  replace k3 := k3.up u6
  replace k4 := k4.up u6
  replace U := U.tr u6
  refine l_step (y_moveV (et g0 rfl)) ?_
  refine l_step (y_ext (et g0 rfl) rfl) ?_
  refine l_step (y_ext (et (gS rfl g0) rfl) rfl) ?_
  refine l_step (y_assignV (et (gS rfl g0) rfl)) ?_
  refine l_step (y_assignV (et (gS rfl g0) rfl)) ?_
  refine l_nil ?_
  refine hK5 _ _ ?_
  refine fg5 2 3 4 6 7 (gS rfl (gS rfl (gS rfl (gS rfl (gS rfl (gS rfl (gS rfl (gS rfl (gS rfl (gS rfl (gS rfl (gS rfl g0)))))))))))) (gS rfl (gS rfl (gS rfl (gS rfl (gS rfl (gS rfl (gS rfl (gS rfl (gS rfl (gS rfl (gS rfl g0))))))))))) (gS rfl (gS rfl (gS rfl (gS rfl (gS rfl (gS rfl (gS rfl (gS rfl (gS rfl (gS rfl g0)))))))))) (gS rfl g0) g0 (fun g => ?_)
  refine c_seq (fun K7 hK7 => ?_)
  refine c_region ?_
  refine l_step (y_idxAC 1 1 Hvaa.underlying65 sz_26 (et (gS rfl (gS rfl (gS rfl (gS rfl g0)))) rfl) rfl rfl rfl) ?_
  refine l_step (y_load1 one_26 (et g0 rfl) (at1 (k2.cell rfl))) ?_
  refine l_step (y_idxAC 1 1 Hvaa.underlying65 sz_26 (et (gS rfl (gS rfl (gS rfl (gS rfl (gS rfl g0))))) rfl) rfl rfl rfl) ?_
  refine l_step (y_load1 one_26 (et g0 rfl) (at1 (k3.cell rfl))) ?_
  refine l_step (y_moveV (et (gS rfl (gS rfl (gS rfl (gS rfl g0)))) rfl)) ?_
  refine l_eff (e_callV cal_246 (aC (et (gS rfl (gS rfl (gS rfl g0))) rfl) (aC (et (gS rfl g0) rfl) (aC (et g0 rfl) aN))) (sub64_spec _ _ _ _ (bor64_le _ _ _))) (fun v8 w8 h8 => ?_)
  obtain ⟨rfl, u8⟩ := h8
  replace k2 := k2.up u8
  replace k3 := k3.up u8
  replace k4 := k4.up u8
  replace U := U.tr u8
  refine l_step (y_moveV (et g0 rfl)) ?_
  refine l_step (y_ext (et g0 rfl) rfl) ?_
  refine l_step (y_ext (et (gS rfl g0) rfl) rfl) ?_
  refine l_step (y_assignV (et (gS rfl g0) rfl)) ?_
  refine l_step (y_assignV (et (gS rfl g0) rfl)) ?_
  refine l_nil ?_
  refine hK7 _ _ ?_
  refine fg6 2 3 4 6 7 8 (gS rfl (gS rfl (gS rfl (gS rfl (gS rfl (gS rfl (gS rfl (gS rfl (gS rfl (gS rfl (gS rfl (gS rfl (gS rfl (gS rfl (gS rfl g0))))))))))))))) (gS rfl (gS rfl (gS rfl (gS rfl (gS rfl (gS rfl (gS rfl (gS rfl (gS rfl (gS rfl (gS rfl (gS rfl (gS rfl (gS rfl g0)))))))))))))) (gS rfl (gS rfl (gS rfl (gS rfl (gS rfl (gS rfl (gS rfl (gS rfl (gS rfl (gS rfl (gS rfl (gS rfl (gS rfl g0))))))))))))) (gS rfl (gS rfl (gS rfl (gS rfl (gS rfl (gS rfl (gS rfl (gS rfl (gS rfl (gS rfl (gS rfl (gS rfl g0)))))))))))) g0 (gS rfl g0) (fun g => ?_)
  refine c_seq (fun K9 hK9 => ?_)
  refine c_region ?_
  refine l_step (y_idxAC 2 2 Hvaa.underlying65 sz_26 (et (gS rfl (gS rfl (gS rfl (gS rfl (gS rfl g0))))) rfl) rfl rfl rfl) ?_
  refine l_step (y_load1 one_26 (et g0 rfl) (at1 (k2.cell rfl))) ?_
  refine l_step (y_idxAC 2 2 Hvaa.underlying65 sz_26 (et (gS rfl (gS rfl (gS rfl (gS rfl (gS rfl (gS rfl g0)))))) rfl) rfl rfl rfl) ?_
  refine l_step (y_load1 one_26 (et g0 rfl) (at1 (k3.cell rfl))) ?_
  refine l_step (y_moveV (et (gS rfl (gS rfl (gS rfl (gS rfl (gS rfl g0))))) rfl)) ?_
  refine l_eff (e_callV cal_246 (aC (et (gS rfl (gS rfl (gS rfl g0))) rfl) (aC (et (gS rfl g0) rfl) (aC (et g0 rfl) aN))) (sub64_spec _ _ _ _ (bor64_le _ _ _))) (fun v10 w10 h10 => ?_)
  obtain ⟨rfl, u10⟩ := h10
  replace k2 := k2.up u10
  replace k3 := k3.up u10
  replace k4 := k4.up u10
  replace U := U.tr u10
  refine l_step (y_moveV (et g0 rfl)) ?_
  refine l_step (y_ext (et g0 rfl) rfl) ?_
  refine l_step (y_ext (et (gS rfl g0) rfl) rfl) ?_
  refine l_step (y_assignV (et (gS rfl g0) rfl)) ?_
  refine l_step (y_assignV (et (gS rfl g0) rfl)) ?_
  refine l_nil ?_
  refine hK9 _ _ ?_
  refine fg7 2 3 4 6 7 8 9 (gS rfl (gS rfl (gS rfl (gS rfl (gS rfl (gS rfl (gS rfl (gS rfl (gS rfl (gS rfl (gS rfl (gS rfl (gS rfl (gS rfl (gS rfl (gS rfl g0)))))))))))))))) (gS rfl (gS rfl (gS rfl (gS rfl (gS rfl (gS rfl (gS rfl (gS rfl (gS rfl (gS rfl (gS rfl (gS rfl (gS rfl (gS rfl (gS rfl g0))))))))))))))) (gS rfl (gS rfl (gS rfl (gS rfl (gS rfl (gS rfl (gS rfl (gS rfl (gS rfl (gS rfl (gS rfl (gS rfl (gS rfl (gS rfl g0)))))))))))))) (gS rfl (gS rfl (gS rfl (gS rfl (gS rfl (gS rfl (gS rfl (gS rfl (gS rfl (gS rfl (gS rfl (gS rfl (gS rfl g0))))))))))))) g0 (gS rfl (gS rfl (gS rfl (gS rfl (gS rfl (gS rfl (gS rfl (gS rfl (gS rfl (gS rfl (gS rfl g0))))))))))) (gS rfl g0) (fun g => ?_)
  refine c_seq (fun K11 hK11 => ?_)
  refine c_region ?_
  refine l_step (y_idxAC 3 3 Hvaa.underlying65 sz_26 (et (gS rfl (gS rfl (gS rfl (gS rfl (gS rfl (gS rfl g0)))))) rfl) rfl rfl rfl) ?_
  refine l_step (y_load1 one_26 (et g0 rfl) (at1 (k2.cell rfl))) ?_
  refine l_step (y_idxAC 3 3 Hvaa.underlying65 sz_26 (et (gS rfl (gS rfl (gS rfl (gS rfl (gS rfl (gS rfl (gS rfl g0))))))) rfl) rfl rfl rfl) ?_
  refine l_step (y_load1 one_26 (et g0 rfl) (at1 (k3.cell rfl))) ?_
  refine l_step (y_moveV (et (gS rfl (gS rfl (gS rfl (gS rfl (gS rfl (gS rfl g0)))))) rfl)) ?_
  refine l_eff (e_callV cal_246 (aC (et (gS rfl (gS rfl (gS rfl g0))) rfl) (aC (et (gS rfl g0) rfl) (aC (et g0 rfl) aN))) (sub64_spec _ _ _ _ (bor64_le _ _ _))) (fun v12 w12 h12 => ?_)
  obtain ⟨rfl, u12⟩ := h12
  replace k2 := k2.up u12
  replace k3 := k3.up u12
  replace k4 := k4.up u12
  replace U := U.tr u12
  refine l_step (y_moveV (et g0 rfl)) ?_
  refine l_step (y_ext (et g0 rfl) rfl) ?_
  refine l_step (y_ext (et (gS rfl g0) rfl) rfl) ?_
  refine l_step (y_assignV (et (gS rfl g0) rfl)) ?_
  refine l_step (y_assignV (et (gS rfl g0) rfl)) ?_
  refine l_nil ?_
  refine hK11 _ _ ?_
  refine fg6 4 6 7 8 9 10 (gS rfl (gS rfl (gS rfl (gS rfl (gS rfl (gS rfl (gS rfl (gS rfl (gS rfl (gS rfl (gS rfl (gS rfl (gS rfl (gS rfl (gS rfl g0))))))))))))))) (gS rfl (gS rfl (gS rfl (gS rfl (gS rfl (gS rfl (gS rfl (gS rfl (gS rfl (gS rfl (gS rfl (gS rfl (gS rfl (gS rfl g0)))))))))))))) g0 (gS rfl (gS rfl (gS rfl (gS rfl (gS rfl (gS rfl (gS rfl (gS rfl (gS rfl (gS rfl (gS rfl (gS rfl g0)))))))))))) (gS rfl (gS rfl (gS rfl (gS rfl (gS rfl (gS rfl (gS rfl (gS rfl (gS rfl (gS rfl (gS rfl g0))))))))))) (gS rfl g0) (fun g => ?_)
  refine c_seq (fun K13 hK13 => ?_)
  refine c_region ?_
  refine l_step (y_moveV (et (gS rfl (gS rfl (gS rfl (gS rfl g0)))) rfl)) ?_
  refine l_step (y_moveV (et (gS rfl (gS rfl (gS rfl g0))) rfl)) ?_
  refine l_step (y_moveV (et (gS rfl (gS rfl (gS rfl g0))) rfl)) ?_
  refine l_step (y_moveV (et (gS rfl (gS rfl (gS rfl g0))) rfl)) ?_
  refine l_step (y_bld (bC (et (gS rfl (gS rfl (gS rfl g0))) rfl) (bC (et (gS rfl (gS rfl g0)) rfl) (bC (et (gS rfl g0) rfl) (bC (et g0 rfl) bN)))) (bld65_4 _ _ _ _)) ?_
  refine l_step (y_moveV (et (gS rfl (gS rfl (gS rfl (gS rfl (gS rfl (gS rfl (gS rfl (gS rfl g0)))))))) rfl)) ?_
  refine l_step (y_neq (et g0 rfl) rfl) ?_
  refine l_effN (e_store sz_65 (et (gS rfl (gS rfl (gS rfl (gS rfl (gS rfl (gS rfl (gS rfl (gS rfl (gS rfl (gS rfl (gS rfl (gS rfl g0)))))))))))) rfl) (cellsV (et (gS rfl (gS rfl g0)) rfl) rfl) rfl (by first | exact one_bL _ | exact one_uL _ | (intro v hv; simp at hv; subst hv; rfl)) k4 (by first | exact Nat.le_of_ble_eq_true rfl | simp | omega)) (fun v14 w14 h14 => ?_)
  obtain ⟨rfl, x14⟩ := h14
  replace k2 := k2.ch x14.ch (by omega)
  replace k3 := k3.ch x14.ch (by omega)
  replace k4 := x14.blk.full (by first | (simp [Value.cells, uL, bL]; done) | rfl)
  replace U := U.st x14 f4
  refine l_step (y_assignV (et g0 rfl)) ?_
  refine l_nil ?_
  refine hK13 _ _ ?_
  refine fg2 4 5 (gS rfl (gS rfl (gS rfl (gS rfl (gS rfl (gS rfl (gS rfl (gS rfl (gS rfl (gS rfl (gS rfl (gS rfl (gS rfl g0))))))))))))) g0 (fun g => ?_)
  refine c_ret ?_
  refine ret2 rfl (res_blk agg_65 sz_65 (et (gS rfl g0) rfl) (by first | (simp [Value.cells, uL, bL]; done) | rfl) k4) (res_tmp (et g0 rfl)) ?_
  refine ⟨?_, U⟩
  rw [← La, ← Lb]
  exact sub_val _ _ _ _ _ _ _ _ la0 la1 la2 la3 lb0 lb1 lb2 lb3
end Go.Proofs.YgvaawGreat
