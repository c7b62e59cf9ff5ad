import Derived.Test.YgvaawGreatY15
import Derived.Test.YgvaawGreatO3
set_option maxRecDepth 100000
set_option maxHeartbeats 4000000
set_option linter.unusedSimpArgs false
set_option linter.unusedVariables false
namespace Go.Proofs.YgvaawGreat
open Go
theorem bd_copy {x a : Nat} (h : x < 256 ^ a) (ha : 1 ≤ a) : copyN x < 256 ^ (1 + a) := by
  unfold copyN; exact bd_mul (a := 1) (show 3 < 256 ^ 1 by decide) (bd_words h ha) (Nat.le_refl _)
theorem yp_copyCost {w : World} {H : Store} {v1 : Value} {x : Nat} (hF : Fz w H) (h1 : NV H v1 x) (s1 : x < 256 ^ 100) :
    Ret 332 [v1] w (fun v w' => ∃ H', Go No w H w' H' ∧ NV H' v (copyN x)) := by
  refine enter (n := 7) Hvaa.func332 rfl rfl (Nat.le_of_ble_eq_true rfl) ?_
  have U := Up.refl w
  have G : Go (No) w H w H := Go.refl hF
  refine c_seq (fun K1 hK1 => ?_)
  refine c_region ?_
  refine l_step y_assignC ?_
  refine l_nil ?_
  refine hK1 _ _ ?_
  refine fg1 0 (gS rfl g0) (fun g => ?_)
  refine c_seq (fun K2 hK2 => ?_)
  refine c_region ?_
  refine l_eff (e_callV cal_32 (aC (v := .int .u64 ((3 : Nat) : Int)) rfl aN) (yp_num (x := 3) hF (by decide))) (fun v3 w3 h3 => ?_)
  obtain ⟨H3, g3, n3⟩ := h3
  have hlew3 := g3.le
  replace h1 := h1.mono hlew3
  replace U := U.tr g3.up
  replace G := G.tr g3
  replace hF := g3.fz
  have q3 : 3 < 256 ^ 1 := by decide
  refine l_step (y_moveV (et (gS rfl g0) rfl)) ?_
  refine l_eff (e_callV cal_126 (aC (et g0 rfl) aN) (yp_words' hF h1 s1 (by decide))) (fun v4 w4 h4 => ?_)
  obtain ⟨H4, g4, n4⟩ := h4
  have hlew4 := g4.le
  replace h1 := h1.mono hlew4
  replace n3 := n3.mono hlew4
  replace U := U.tr g4.up
  replace G := G.tr g4
  replace hF := g4.fz
  have q4 := bd_words s1 (by decide)
  refine l_eff (e_callV cal_50 (aC (et (gS rfl (gS rfl g0)) rfl) (aC (et g0 rfl) aN)) (nat_mul hF n3 n4 (bd_sm q3 (by decide)) (bd_sm q4 (by decide)))) (fun v5 w5 h5 => ?_)
  obtain ⟨H5, g5, n5⟩ := h5
  have hlew5 := g5.le
  replace h1 := h1.mono hlew5
  replace n3 := n3.mono hlew5
  replace n4 := n4.mono hlew5
  replace U := U.tr g5.up
  replace G := G.tr g5
  replace hF := g5.fz
  have q5 := bd_mul (c := 101) q3 q4 (by decide)
  refine l_step (y_assignV (et g0 rfl)) ?_
  refine l_nil ?_
  refine hK2 _ _ ?_
  refine fg1 2 g0 (fun g => ?_)
  refine c_ret ?_
  refine ret1 rfl (res_tmp (et g0 rfl)) ?_
  exact ⟨_, G, n5⟩
theorem yp_sentGas {w : World} {H : Store} {v1 v2 : Value} {x y : Nat} (hF : Fz w H) (h1 : NV H v1 x) (h2 : NV H v2 y) (s1 : x < 256 ^ 32) (s2 : y < 256 ^ 32) :
    Ret 226 [v1, v2] w (fun v w' => ∃ H', Go No w H w' H' ∧ NV H' v (sentN x y)) := by
  refine enter (n := 11) Hvaa.func226 rfl rfl (Nat.le_of_ble_eq_true rfl) ?_
  have U := Up.refl w
  have G : Go (No) w H w H := Go.refl hF
  refine c_seq (fun K1 hK1 => ?_)
  refine c_region ?_
  refine l_step y_assignC ?_
  refine l_nil ?_
  refine hK1 _ _ ?_
  refine fg2 1 0 (gS rfl (gS rfl g0)) (gS rfl g0) (fun g => ?_)
  refine c_seq (fun K2 hK2 => ?_)
  refine c_region ?_
  refine l_step (y_moveV (et (gS rfl g0) rfl)) ?_
  refine l_step (y_moveV (et (gS rfl g0) rfl)) ?_
  refine l_step (y_moveV (et (gS rfl (gS rfl g0)) rfl)) ?_
  refine l_eff (e_callV cal_69 (aC (et g0 rfl) (aC (v := .int .u64 ((64 : Nat) : Int)) rfl aN)) (yp_divided 64 (by decide) (by decide) hF h1 (bd_sm s1 (by decide)))) (fun v3 w3 h3 => ?_)
  obtain ⟨H3, g3, n3⟩ := h3
  have hlew3 := g3.le
  replace h1 := h1.mono hlew3
  replace h2 := h2.mono hlew3
  replace U := U.tr g3.up
  replace G := G.tr g3
  replace hF := g3.fz
  have q3 := bd_div (y := 64) s1
  refine l_eff (e_callV cal_45 (aC (et (gS rfl (gS rfl g0)) rfl) (aC (et g0 rfl) aN)) (yp_less hF h1 n3 (bd_sm s1 (by decide)) (bd_sm q3 (by decide)))) (fun v4 w4 h4 => ?_)
  obtain ⟨H4, g4, n4⟩ := h4
  have hlew4 := g4.le
  replace h1 := h1.mono hlew4
  replace h2 := h2.mono hlew4
  replace n3 := n3.mono hlew4
  replace U := U.tr g4.up
  replace G := G.tr g4
  replace hF := g4.fz
  have q4 := bd_sub' n4 s1
  refine l_eff (e_callV cal_68 (aC (et (gS rfl (gS rfl (gS rfl (gS rfl g0)))) rfl) (aC (et g0 rfl) aN)) (yp_min hF h2 n4 (bd_sm s2 (by decide)) (bd_sm q4 (by decide)))) (fun v5 w5 h5 => ?_)
  obtain ⟨H5, g5, n5⟩ := h5
  have hlew5 := g5.le
  replace h1 := h1.mono hlew5
  replace h2 := h2.mono hlew5
  replace n3 := n3.mono hlew5
  replace n4 := n4.mono hlew5
  replace U := U.tr g5.up
  replace G := G.tr g5
  replace hF := g5.fz
  have q5 := bd_min' n5 q4
  refine l_step (y_assignV (et g0 rfl)) ?_
  refine l_nil ?_
  refine hK2 _ _ ?_
  refine fg1 4 g0 (fun g => ?_)
  refine c_ret ?_
  refine ret1 rfl (res_tmp (et g0 rfl)) ?_
  exact ⟨_, G, n5⟩
theorem yp_end {w : World} {H : Store} {v1 v2 : Value} {x y : Nat} (hF : Fz w H) (h1 : NV H v1 x) (h2 : NV H v2 y) (s1 : x < 256 ^ 33) (s2 : y < 256 ^ 33) :
    Ret 144 [v1, v2] w (fun v w' => ∃ H', Go No w H w' H' ∧ NV H' v (endN x y)) := by
  refine enter (n := 10) Hvaa.func144 rfl rfl (Nat.le_of_ble_eq_true rfl) ?_
  have U := Up.refl w
  have G : Go (No) w H w H := Go.refl hF
  refine c_seq (fun K1 hK1 => ?_)
  refine c_region ?_
  refine l_step y_assignC ?_
  refine l_nil ?_
  refine hK1 _ _ ?_
  refine fg2 1 0 (gS rfl (gS rfl g0)) (gS rfl g0) (fun g => ?_)
  refine c_seq (fun K2 hK2 => ?_)
  refine c_seq (fun K3 hK3 => ?_)
  refine c_region ?_
  refine l_step (y_moveV (et (gS rfl g0) rfl)) ?_
  refine l_eff (e_callV cal_79 (aC (et g0 rfl) aN) (yp_isZero hF h2 (bd_sm s2 (by decide)))) (fun v4 w4 h4 => ?_)
  obtain ⟨rfl, u4⟩ := h4
  replace G := G.tr (Go.ofUp hF u4)
  replace hF := hF.up u4
  replace U := U.tr u4
  refine l_nil ?_
  refine hK3 _ _ ?_
  refine fg3 1 0 6 (gS rfl (gS rfl (gS rfl g0))) (gS rfl (gS rfl g0)) g0 (fun g => ?_)
  refine c_cond (et g0 rfl) (fun cB1 => ?_) (fun cB1 => ?_)
  · skip
    
    have hz : y = 0 := of_decide_eq_true cB1
    refine c_seq (fun K6 hK6 => ?_)
    refine c_region ?_
    refine l_step y_assignC ?_
    refine l_nil ?_
    refine hK6 _ _ ?_
    refine fg1 4 g0 (fun g => ?_)
    refine c_ret ?_
    refine ret1 rfl (res_tmp (et g0 rfl)) ?_
    exact ⟨_, G, (NV.nil _).to (by rw [endN, if_pos hz])⟩
  · skip
    
    have hz : y ≠ 0 := of_decide_eq_false cB1
    refine c_skip ?_
    refine hK2 _ _ ?_
    refine fg2 1 0 (gS rfl (gS rfl g0)) (gS rfl g0) (fun g => ?_)
    refine c_seq (fun K7 hK7 => ?_)
    refine c_region ?_
    refine l_step (y_moveV (et g0 rfl)) ?_
    refine l_step (y_moveV (et (gS rfl (gS rfl g0)) rfl)) ?_
    refine l_eff (e_callV cal_34 (aC (et (gS rfl g0) rfl) (aC (et g0 rfl) aN)) (nat_add hF h1 h2 (bd_sm s1 (by decide)) (bd_sm s2 (by decide)))) (fun v8 w8 h8 => ?_)
    obtain ⟨H8, g8, n8⟩ := h8
    have hlew8 := g8.le
    replace h1 := h1.mono hlew8
    replace h2 := h2.mono hlew8
    replace U := U.tr g8.up
    replace G := G.tr g8
    replace hF := g8.fz
    have q8 := bd_add (c := 34) s1 s2 (by decide)
    refine l_step (y_assignV (et g0 rfl)) ?_
    refine l_nil ?_
    refine hK7 _ _ ?_
    refine fg1 4 g0 (fun g => ?_)
    refine c_ret ?_
    refine ret1 rfl (res_tmp (et g0 rfl)) ?_
    exact ⟨_, G, n8.to (by rw [endN, if_neg hz])⟩
theorem bd_end {x y a b c : Nat} (h : x < 256 ^ a) (k : y < 256 ^ b) (hc : max a b + 1 ≤ c) : endN x y < 256 ^ c := by
  unfold endN; split
  · exact Nat.pow_pos (by decide)
  · exact bd_add h k hc
theorem yp_small {w : World} {H : Store} {v1 : Value} {x : Nat} (hF : Fz w H) (h1 : NV H v1 x) (s1 : Sm x) :
    Ret 24 [v1] w (fun v w' => v = .int .u64 (lo64 x : Nat) ∧ Up w w') := by
  refine enter (n := 11) Hvaa.func24 rfl rfl (Nat.le_of_ble_eq_true rfl) ?_
  have U := Up.refl w
  have G : Go (No) w H w H := Go.refl hF
  refine c_seq (fun K1 hK1 => ?_)
  refine c_region ?_
  refine l_step y_assignC ?_
  refine l_nil ?_
  refine hK1 _ _ ?_
  refine fg1 0 (gS rfl g0) (fun g => ?_)
  refine c_seq (fun K2 hK2 => ?_)
  refine c_region ?_
  refine l_step (y_moveV (et g0 rfl)) ?_
  refine l_eff (e_callV cal_80 (aC (et g0 rfl) aN) (nat_u64 hF h1 (bd_sm s1 (by decide)))) (fun v3 w3 h3 => ?_)
  obtain ⟨rfl, u3⟩ := h3
  replace G := G.tr (Go.ofUp hF u3)
  replace hF := hF.up u3
  replace U := U.tr u3
  refine l_step (y_moveV (et g0 rfl)) ?_
  refine l_step (y_ext (et g0 rfl) rfl) ?_
  refine l_step (y_ext (et (gS rfl g0) rfl) rfl) ?_
  refine l_step (y_assignV (et (gS rfl g0) rfl)) ?_
  refine l_step (y_assignV (et (gS rfl g0) rfl)) ?_
  refine l_nil ?_
  refine hK2 _ _ ?_
  refine fg1 3 (gS rfl g0) (fun g => ?_)
  refine c_seq (fun K4 hK4 => ?_)
  refine c_region ?_
  refine l_step (y_moveV (et g0 rfl)) ?_
  refine l_step (y_assignV (et g0 rfl)) ?_
  refine l_nil ?_
  refine hK4 _ _ ?_
  refine fg1 2 g0 (fun g => ?_)
  refine c_ret ?_
  refine ret1 rfl (res_tmp (et g0 rfl)) ?_
  exact ⟨rfl, U⟩
theorem yp_word {w : World} {H : Store} {v1 : Value} {x : Nat} (hF : Fz w H) (h1 : NV H v1 x) (s1 : x < 256 ^ 32) :
    Ret 25 [v1] w (fun v w' => v = hV x ∧ Up w w') := by
  refine enter (n := 11) Hvaa.func25 rfl rfl (Nat.le_of_ble_eq_true rfl) ?_
  have U := Up.refl w
  have G : Go (No) w H w H := Go.refl hF
  refine c_seq (fun K1 hK1 => ?_)
  refine c_region ?_
  refine l_eff (e_alloc zr_28) (fun v2 w2 h2 => ?_)
  obtain ⟨b2, rfl, n2⟩ := h2
  have f2 : w.heap.size ≤ b2 := Nat.le_trans U.size n2.fresh
  have nb2 := hF.nb n2.fresh
  replace G := G.tr (Go.ofUp hF n2.up)
  replace hF := hF.up n2.up
  replace U := U.tr n2.up
  have k2 := n2.blk
  refine l_nil ?_
  refine hK1 _ _ ?_
  refine c_seq (fun K3 hK3 => ?_)
  refine c_region ?_
  refine l_step (y_moveV (et (gS rfl g0) rfl)) ?_
  refine l_eff (e_callV cal_81 (aC (et g0 rfl) aN) (nat_be32 hF h1 (W_bd s1))) (fun v4 w4 h4 => ?_)
  obtain ⟨rfl, u4⟩ := h4
  replace G := G.tr (Go.ofUp hF u4)
  replace hF := hF.up u4
  replace k2 := k2.up u4
  replace U := U.tr u4
  refine l_step (y_moveV (et g0 rfl)) ?_
  refine l_step (y_ext (et g0 rfl) rfl) ?_
  refine l_step (y_ext (et (gS rfl g0) rfl) rfl) ?_
  refine l_eff (e_alloc zr_27) (fun v5 w5 h5 => ?_)
  obtain ⟨b5, rfl, n5⟩ := h5
  have d2_5 : b2 < b5 := Nat.lt_of_lt_of_le k2.lt n5.fresh
  have f5 : w.heap.size ≤ b5 := Nat.le_trans U.size n5.fresh
  have nb5 := hF.nb n5.fresh
  replace G := G.tr (Go.ofUp hF n5.up)
  replace hF := hF.up n5.up
  replace k2 := k2.up n5.up
  replace U := U.tr n5.up
  have k5 := n5.blk
  refine l_effN (e_store sz_27 (et g0 rfl) (cellsV (et (gS rfl (gS rfl g0)) rfl) rfl) (by rw [length_bL, length_be]) (by exact one_bL _) k5 (by exact Nat.le_of_ble_eq_true rfl)) (fun v6 w6 h6 => ?_)
  obtain ⟨rfl, x6⟩ := h6
  replace k2 := k2.ch x6.ch (by omega)
  replace k5 := x6.blk.full (by rw [length_bL, length_be]; rfl)
  replace G := G.wr x6 (by first | exact .inr f5 | omega | (simp; omega)) nb5
  replace hF := G.fz
  replace U := U.st x6 f5
  refine l_step (y_assignV (et (gS rfl g0) rfl)) ?_
  refine l_nil ?_
  refine hK3 _ _ ?_
  refine fg2 2 3 (gS rfl (gS rfl (gS rfl (gS rfl (gS rfl (gS rfl (gS rfl g0))))))) (gS rfl g0) (fun g => ?_)
  refine c_seq (fun K7 hK7 => ?_)
  refine c_region ?_
  refine l_step (y_loadB agg_27 sz_27 (et g0 rfl) (by first | (simp only [Value.cells, hV, aV, bV, wV, wL, List.size_toArray, length_bL, length_uL, length_be, size_spl, List.length_cons, List.length_nil, List.length_replicate, Nat.zero_add, Nat.reduceAdd, Nat.reduceLeDiff, Nat.le_refl]; done) | rfl) (at1B k5)) ?_
  refine l_effN (e_store sz_28 (et (gS rfl (gS rfl g0)) rfl) (cellsV (et g0 rfl) rfl) (by rw [length_bL, length_be]) (by exact one_bL _) k2 (by exact Nat.le_of_ble_eq_true rfl)) (fun v8 w8 h8 => ?_)
  obtain ⟨rfl, x8⟩ := h8
  replace k5 := k5.ch x8.ch (by omega)
  replace k2 := x8.blk.full (by rw [length_bL, length_be]; rfl)
  replace G := G.wr x8 (by first | exact .inr f2 | omega | (simp; omega)) nb2
  replace hF := G.fz
  replace U := U.st x8 f2
  refine l_nil ?_
  refine hK7 _ _ ?_
  refine fg1 2 (gS rfl (gS rfl g0)) (fun g => ?_)
  refine c_ret ?_
  refine ret1 rfl (res_blk agg_28 sz_28 (et g0 rfl) (by first | (simp only [Value.cells, hV, aV, bV, wV, wL, List.size_toArray, length_bL, length_uL, length_be, size_spl, List.length_cons, List.length_nil, List.length_replicate, Nat.zero_add, Nat.reduceAdd, Nat.reduceLeDiff, Nat.le_refl]; done) | rfl) k2) ?_
  exact ⟨rfl, U⟩
def placeN (x n : Nat) : Nat := if x < n then x else 0
theorem lo_small {x : Nat} (h : x < 18446744073709551616) : lo64 x = x := by rw [lo64, if_pos h]
theorem yp_place {w : World} {H : Store} {v1 : Value} {x : Nat} (hF : Fz w H) (h1 : NV H v1 x) (s1 : Sm x) (n : Nat) (hn : n < 9223372036854775808) :
    Ret 136 [v1, .int .i64 n] w (fun v w' => v = .tuple #[.int .i64 (placeN x n : Nat), .bool (decide (x < n))] ∧ Up w w') := by
  refine enter (n := 23) Hvaa.func136 rfl rfl (Nat.le_of_ble_eq_true rfl) ?_
  have U := Up.refl w
  have G : Go (No) w H w H := Go.refl hF
  refine c_seq (fun K1 hK1 => ?_)
  refine c_region ?_
  refine l_step y_assignC ?_
  refine l_step y_assignC ?_
  refine l_nil ?_
  refine hK1 _ _ ?_
  refine fg2 1 0 (gS rfl (gS rfl (gS rfl g0))) (gS rfl (gS rfl g0)) (fun g => ?_)
  refine c_seq (fun K2 hK2 => ?_)
  refine c_region ?_
  refine l_step (y_moveV (et g0 rfl)) ?_
  refine l_eff (e_callV cal_80 (aC (et g0 rfl) aN) (nat_u64 hF h1 (bd_sm s1 (by decide)))) (fun v3 w3 h3 => ?_)
  obtain ⟨rfl, u3⟩ := h3
  replace G := G.tr (Go.ofUp hF u3)
  replace hF := hF.up u3
  replace U := U.tr u3
  refine l_step (y_moveV (et g0 rfl)) ?_
  refine l_step (y_ext (et g0 rfl) rfl) ?_
  refine l_step (y_ext (et (gS rfl g0) rfl) rfl) ?_
  refine l_step (y_assignV (et (gS rfl g0) rfl)) ?_
  refine l_step (y_assignV (et (gS rfl g0) rfl)) ?_
  refine l_nil ?_
  refine hK2 _ _ ?_
  refine fg3 1 6 7 (gS rfl (gS rfl (gS rfl (gS rfl (gS rfl (gS rfl (gS rfl (gS rfl g0)))))))) (gS rfl g0) g0 (fun g => ?_)
  refine c_seq (fun K4 hK4 => ?_)
  refine c_seq (fun K5 hK5 => ?_)
  refine c_region ?_
  refine l_step (y_moveV (et g0 rfl)) ?_
  refine l_step (y_not (et g0 rfl)) ?_
  refine l_step (y_moveV (et g0 rfl)) ?_
  refine gsplitL (i := 15) g0 (fun q6 => ?_) (fun q6 => ?_)
  · skip
    have c14 : ¬ x < 18446744073709551616 := by simpa using q6
    refine l_gskip (j := 2) (t := 15) (by exact rfl) (by exact rfl) (et g0 rfl) (by decide) (by decide) ?_
    refine l_gskip (j := 2) (t := 15) (by exact rfl) (by exact rfl) (et (gS rfl g0) rfl) (by decide) (by decide) ?_
    refine l_gskip (j := 2) (t := 15) (by exact rfl) (by exact rfl) (et (gS rfl (gS rfl g0)) rfl) (by decide) (by decide) ?_
    refine l_gskip (j := 2) (t := 15) (by exact rfl) (by exact rfl) (et (gS rfl (gS rfl (gS rfl g0))) rfl) (by decide) (by decide) ?_
    refine l_step (y_pickT (et (gS rfl (gS rfl (gS rfl (gS rfl g0)))) rfl) rfl) ?_
    refine l_nil ?_
    refine hK5 _ _ ?_
    refine fg2 6 20 (gS rfl (gS rfl (gS rfl (gS rfl (gS rfl (gS rfl (gS rfl (gS rfl (gS rfl (gS rfl g0)))))))))) g0 (fun g => ?_)
    refine c_true (et g0 rfl) rfl ?_
    refine c_seq (fun K8 hK8 => ?_)
    refine c_region ?_
    refine l_step y_assignC ?_
    refine l_step y_assignC ?_
    refine l_nil ?_
    refine hK8 _ _ ?_
    refine fg2 4 5 (gS rfl g0) g0 (fun g => ?_)
    refine c_ret ?_
    refine ret2 rfl (res_tmp (et (gS rfl g0) rfl)) (res_tmp (et g0 rfl)) ?_
    exact ⟨by rw [placeN, if_neg (by omega), decide_eq_false (by omega)]; rfl, U⟩
  · skip
    have c14 : x < 18446744073709551616 := by simpa using q6
    rw [lo_small c14]
    refine l_gstep (j := 2) (t := 15) (by exact rfl) (by exact rfl) (et g0 rfl) (by decide) (y_moveV (et (gS rfl (gS rfl (gS rfl (gS rfl (gS rfl g0))))) rfl)) ?_
    refine l_gstep (j := 2) (t := 15) (by exact rfl) (by exact rfl) (et (gS rfl g0) rfl) (by decide) (y_moveV (et (gS rfl (gS rfl (gS rfl (gS rfl (gS rfl (gS rfl (gS rfl g0))))))) rfl)) ?_
    refine l_gstep (j := 2) (t := 15) (by exact rfl) (by exact rfl) (et (gS rfl (gS rfl g0)) rfl) (by decide) (y_conv Hvaa.underlying3 Hvaa.underlying26 (et g0 rfl) (wrapU_id uk64 ?_)) ?_
    omega
    refine l_gstep (j := 2) (t := 15) (by exact rfl) (by exact rfl) (et (gS rfl (gS rfl (gS rfl g0))) rfl) (by decide) (y_geq (et (gS rfl (gS rfl g0)) rfl) (et g0 rfl)) ?_
    refine l_step (y_pickF (et (gS rfl (gS rfl (gS rfl (gS rfl g0)))) rfl) (et g0 rfl)) ?_
    refine l_nil ?_
    refine hK5 _ _ ?_
    refine fg2 6 20 (gS rfl (gS rfl (gS rfl (gS rfl (gS rfl (gS rfl (gS rfl (gS rfl (gS rfl (gS rfl g0)))))))))) g0 (fun g => ?_)
    refine c_cond (et g0 rfl) (fun cB1 => ?_) (fun cB1 => ?_)
    · skip
      
      have hge : ¬ x < n := by have := of_decide_eq_true cB1; omega
      refine c_seq (fun K10 hK10 => ?_)
      refine c_region ?_
      refine l_step y_assignC ?_
      refine l_step y_assignC ?_
      refine l_nil ?_
      refine hK10 _ _ ?_
      refine fg2 4 5 (gS rfl g0) g0 (fun g => ?_)
      refine c_ret ?_
      refine ret2 rfl (res_tmp (et (gS rfl g0) rfl)) (res_tmp (et g0 rfl)) ?_
      exact ⟨by rw [placeN, if_neg (by omega), decide_eq_false (by omega)]; rfl, U⟩
    · skip
      
      have hlt : x < n := by have := of_decide_eq_false cB1; omega
      refine c_skip ?_
      refine hK4 _ _ ?_
      refine fg1 6 (gS rfl g0) (fun g => ?_)
      refine c_seq (fun K11 hK11 => ?_)
      refine c_region ?_
      refine l_step (y_moveV (et g0 rfl)) ?_
      refine l_step (y_conv Hvaa.underlying26 Hvaa.underlying3 (et g0 rfl) (wrapIN ?_)) ?_
      omega
      refine l_step (y_assignV (et g0 rfl)) ?_
      refine l_step y_assignC ?_
      refine l_nil ?_
      refine hK11 _ _ ?_
      refine fg2 4 5 (gS rfl g0) g0 (fun g => ?_)
      refine c_ret ?_
      refine ret2 rfl (res_tmp (et (gS rfl g0) rfl)) (res_tmp (et g0 rfl)) ?_
      exact ⟨by rw [placeN, if_pos hlt, decide_eq_true hlt], U⟩
def crN (k : Nat) : Bool := decide (k = 1) || decide (k = 5) || decide (k = 6)
theorem cast_dec {k c : Nat} : decide (((k : Nat) : Int) = ((c : Nat) : Int)) = decide (k = c) := by rw [Bool.eq_iff_iff]; simp; omega
theorem yp_creates (k : Nat) (w : World) :
    Ret 132 [.int .u8 k] w (fun v w' => v = .bool (crN k) ∧ Up w w') := by
  refine enter (n := 13) Hvaa.func132 rfl rfl (Nat.le_of_ble_eq_true rfl) ?_
  have U := Up.refl w
  refine c_seq (fun K1 hK1 => ?_)
  refine c_region ?_
  refine l_step y_assignC ?_
  refine l_nil ?_
  refine hK1 _ _ ?_
  refine fg1 0 (gS rfl g0) (fun g => ?_)
  refine c_seq (fun K2 hK2 => ?_)
  refine c_region ?_
  refine l_step (y_moveV (et g0 rfl)) ?_
  refine l_step ((y_eql (et g0 rfl) rfl).to (congrArg Value.bool (cast_dec (k := k) (c := 1)))) ?_
  refine l_step (y_moveV (et g0 rfl)) ?_
  refine l_gpure (j := 2) (t := 5) (by exact rfl) (by exact rfl) (et g0 rfl) rfl (fun hc => (y_moveV (et (gS rfl (gS rfl (gS rfl g0))) rfl))) ?_
  refine l_gpure (j := 2) (t := 5) (by exact rfl) (by exact rfl) (et (gS rfl g0) rfl) rfl (fun hc => ((y_eql (et (cT g0 hc) rfl) rfl).to (congrArg Value.bool (cast_dec (k := k) (c := 5))))) ?_
  refine l_step (y_pickO (et (gS rfl (gS rfl g0)) rfl) rfl (et g0 rfl)) ?_
  refine l_step (y_moveV (et g0 rfl)) ?_
  refine l_gpure (j := 6) (t := 9) (by exact rfl) (by exact rfl) (et g0 rfl) rfl (fun hc => (y_moveV (et (gS rfl (gS rfl (gS rfl (gS rfl (gS rfl (gS rfl (gS rfl g0))))))) rfl))) ?_
  refine l_gpure (j := 6) (t := 9) (by exact rfl) (by exact rfl) (et (gS rfl g0) rfl) rfl (fun hc => ((y_eql (et (cT g0 hc) rfl) rfl).to (congrArg Value.bool (cast_dec (k := k) (c := 6))))) ?_
  refine l_step (y_pickO (et (gS rfl (gS rfl g0)) rfl) rfl (et g0 rfl)) ?_
  refine l_step (y_assignV (et g0 rfl)) ?_
  refine l_nil ?_
  refine hK2 _ _ ?_
  refine fg1 2 g0 (fun g => ?_)
  refine c_ret ?_
  refine ret1 rfl (res_tmp (et g0 rfl)) ?_
  exact ⟨rfl, U⟩
theorem mach_creates (k : Nat) (w : World) :
    Ret 180 [.int .u8 k] w (fun v w' => v = .bool (crN k) ∧ Up w w') := by
  refine enter (n := 13) Hvaa.func180 rfl rfl (Nat.le_of_ble_eq_true rfl) ?_
  have U := Up.refl w
  refine c_seq (fun K1 hK1 => ?_)
  refine c_region ?_
  refine l_step y_assignC ?_
  refine l_nil ?_
  refine hK1 _ _ ?_
  refine fg1 0 (gS rfl g0) (fun g => ?_)
  refine c_seq (fun K2 hK2 => ?_)
  refine c_region ?_
  refine l_step (y_moveV (et g0 rfl)) ?_
  refine l_step ((y_eql (et g0 rfl) rfl).to (congrArg Value.bool (cast_dec (k := k) (c := 1)))) ?_
  refine l_step (y_moveV (et g0 rfl)) ?_
  refine l_gpure (j := 2) (t := 5) (by exact rfl) (by exact rfl) (et g0 rfl) rfl (fun hc => (y_moveV (et (gS rfl (gS rfl (gS rfl g0))) rfl))) ?_
  refine l_gpure (j := 2) (t := 5) (by exact rfl) (by exact rfl) (et (gS rfl g0) rfl) rfl (fun hc => ((y_eql (et (cT g0 hc) rfl) rfl).to (congrArg Value.bool (cast_dec (k := k) (c := 5))))) ?_
  refine l_step (y_pickO (et (gS rfl (gS rfl g0)) rfl) rfl (et g0 rfl)) ?_
  refine l_step (y_moveV (et g0 rfl)) ?_
  refine l_gpure (j := 6) (t := 9) (by exact rfl) (by exact rfl) (et g0 rfl) rfl (fun hc => (y_moveV (et (gS rfl (gS rfl (gS rfl (gS rfl (gS rfl (gS rfl (gS rfl g0))))))) rfl))) ?_
  refine l_gpure (j := 6) (t := 9) (by exact rfl) (by exact rfl) (et (gS rfl g0) rfl) rfl (fun hc => ((y_eql (et (cT g0 hc) rfl) rfl).to (congrArg Value.bool (cast_dec (k := k) (c := 6))))) ?_
  refine l_step (y_pickO (et (gS rfl (gS rfl g0)) rfl) rfl (et g0 rfl)) ?_
  refine l_step (y_assignV (et g0 rfl)) ?_
  refine l_nil ?_
  refine hK2 _ _ ?_
  refine fg1 2 g0 (fun g => ?_)
  refine c_ret ?_
  refine ret1 rfl (res_tmp (et g0 rfl)) ?_
  exact ⟨rfl, U⟩
end Go.Proofs.YgvaawGreat
