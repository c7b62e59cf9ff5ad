import Derived.Test.YgvaawGreatY0
set_option maxRecDepth 100000
set_option maxHeartbeats 4000000
set_option linter.unusedSimpArgs false
set_option linter.unusedVariables false
namespace Go.Proofs.YgvaawGreat
open Go
theorem yp_num {w : World} {H : Store} {x : Nat} (hF : Fz w H) (hx : x < 18446744073709551616) :
    Ret 32 [.int .u64 x] w (fun v w' => ∃ H', Go No w H w' H' ∧ NV H' v x) := by
  refine enter (n := 5) Hvaa.func32 rfl rfl (Nat.le_of_ble_eq_true rfl) ?_
  have U := Up.refl w
  have G : Go (No) w H w H := Go.refl hF
  refine c_seq (fun K1 hK1 => ?_)
  refine c_region ?_
  refine l_step y_assignC ?_
  refine l_nil ?_
  refine hK1 _ _ ?_
  refine fg1 0 (gS rfl g0) (fun g => ?_)
  refine c_seq (fun K2 hK2 => ?_)
  refine c_region ?_
  refine l_step (y_moveV (et g0 rfl)) ?_
  refine l_eff (e_callV cal_87 (aC (et g0 rfl) aN) (nat_fromU64 hF (hx))) (fun v3 w3 h3 => ?_)
  obtain ⟨H3, g3, n3⟩ := h3
  have hlew3 := g3.le
  replace U := U.tr g3.up
  replace G := G.tr g3
  replace hF := g3.fz
  have q3 := bd_64 (hx)
  refine l_step (y_assignV (et g0 rfl)) ?_
  refine l_nil ?_
  refine hK2 _ _ ?_
  refine fg1 2 g0 (fun g => ?_)
  refine c_ret ?_
  refine ret1 rfl (res_tmp (et g0 rfl)) ?_
  exact ⟨_, G, n3⟩
theorem yp_min {w : World} {H : Store} {v1 v2 : Value} {x y : Nat} (hF : Fz w H) (h1 : NV H v1 x) (h2 : NV H v2 y) (s1 : Sm x) (s2 : Sm y) :
    Ret 68 [v1, v2] w (fun v w' => ∃ H', Go No w H w' H' ∧ NV H' v (min x y)) := by
  refine enter (n := 11) Hvaa.func68 rfl rfl (Nat.le_of_ble_eq_true rfl) ?_
  have U := Up.refl w
  have G : Go (No) w H w H := Go.refl hF
  refine c_seq (fun K1 hK1 => ?_)
  refine c_region ?_
  refine l_step y_assignC ?_
  refine l_nil ?_
  refine hK1 _ _ ?_
  refine fg2 1 0 (gS rfl (gS rfl g0)) (gS rfl g0) (fun g => ?_)
  refine c_seq (fun K2 hK2 => ?_)
  refine c_seq (fun K3 hK3 => ?_)
  refine c_region ?_
  refine l_step (y_moveV (et g0 rfl)) ?_
  refine l_step (y_moveV (et (gS rfl (gS rfl g0)) rfl)) ?_
  refine l_eff (e_callV cal_121 (aC (et (gS rfl g0) rfl) (aC (et g0 rfl) aN)) (nat_cmp hF h1 h2 (bd_sm s1 (by decide)) (bd_sm s2 (by decide)))) (fun v4 w4 h4 => ?_)
  obtain ⟨rfl, u4⟩ := h4
  replace G := G.tr (Go.ofUp hF u4)
  replace hF := hF.up u4
  replace U := U.tr u4
  refine l_step (y_lss (et g0 rfl) rfl) ?_
  refine l_nil ?_
  refine hK3 _ _ ?_
  refine fg3 1 0 8 (gS rfl (gS rfl (gS rfl (gS rfl (gS rfl g0))))) (gS rfl (gS rfl (gS rfl (gS rfl g0)))) g0 (fun g => ?_)
  refine c_cond (et g0 rfl) (fun cB1 => ?_) (fun cB1 => ?_)
  · skip
    rw [cmp_lt0] at cB1
    have c1 : x < y := of_decide_eq_true cB1
    refine c_seq (fun K6 hK6 => ?_)
    refine c_region ?_
    refine l_step (y_moveV (et (gS rfl g0) rfl)) ?_
    refine l_step (y_assignV (et g0 rfl)) ?_
    refine l_nil ?_
    refine hK6 _ _ ?_
    refine fg1 4 g0 (fun g => ?_)
    refine c_ret ?_
    refine ret1 rfl (res_tmp (et g0 rfl)) ?_
    exact ⟨_, G, by rw [Nat.min_eq_left (by omega)]; exact h1⟩
  · skip
    rw [cmp_lt0] at cB1
    have c1 : y ≤ x := by have := of_decide_eq_false cB1; omega
    refine c_skip ?_
    refine hK2 _ _ ?_
    refine fg1 1 (gS rfl (gS rfl g0)) (fun g => ?_)
    refine c_seq (fun K7 hK7 => ?_)
    refine c_region ?_
    refine l_step (y_moveV (et g0 rfl)) ?_
    refine l_step (y_assignV (et g0 rfl)) ?_
    refine l_nil ?_
    refine hK7 _ _ ?_
    refine fg1 4 g0 (fun g => ?_)
    refine c_ret ?_
    refine ret1 rfl (res_tmp (et g0 rfl)) ?_
    exact ⟨_, G, by rw [Nat.min_eq_right (by omega)]; exact h2⟩
theorem yp_max {w : World} {H : Store} {v1 v2 : Value} {x y : Nat} (hF : Fz w H) (h1 : NV H v1 x) (h2 : NV H v2 y) (s1 : Sm x) (s2 : Sm y) :
    Ret 145 [v1, v2] w (fun v w' => ∃ H', Go No w H w' H' ∧ NV H' v (max x y)) := by
  refine enter (n := 11) Hvaa.func145 rfl rfl (Nat.le_of_ble_eq_true rfl) ?_
  have U := Up.refl w
  have G : Go (No) w H w H := Go.refl hF
  refine c_seq (fun K1 hK1 => ?_)
  refine c_region ?_
  refine l_step y_assignC ?_
  refine l_nil ?_
  refine hK1 _ _ ?_
  refine fg2 1 0 (gS rfl (gS rfl g0)) (gS rfl g0) (fun g => ?_)
  refine c_seq (fun K2 hK2 => ?_)
  refine c_seq (fun K3 hK3 => ?_)
  refine c_region ?_
  refine l_step (y_moveV (et g0 rfl)) ?_
  refine l_step (y_moveV (et (gS rfl (gS rfl g0)) rfl)) ?_
  refine l_eff (e_callV cal_121 (aC (et (gS rfl g0) rfl) (aC (et g0 rfl) aN)) (nat_cmp hF h1 h2 (bd_sm s1 (by decide)) (bd_sm s2 (by decide)))) (fun v4 w4 h4 => ?_)
  obtain ⟨rfl, u4⟩ := h4
  replace G := G.tr (Go.ofUp hF u4)
  replace hF := hF.up u4
  replace U := U.tr u4
  refine l_step (y_gtr (et g0 rfl) rfl) ?_
  refine l_nil ?_
  refine hK3 _ _ ?_
  refine fg3 1 0 8 (gS rfl (gS rfl (gS rfl (gS rfl (gS rfl g0))))) (gS rfl (gS rfl (gS rfl (gS rfl g0)))) g0 (fun g => ?_)
  refine c_cond (et g0 rfl) (fun cB1 => ?_) (fun cB1 => ?_)
  · skip
    rw [cmp_gt0] at cB1
    have c1 : y < x := of_decide_eq_true cB1
    refine c_seq (fun K6 hK6 => ?_)
    refine c_region ?_
    refine l_step (y_moveV (et (gS rfl g0) rfl)) ?_
    refine l_step (y_assignV (et g0 rfl)) ?_
    refine l_nil ?_
    refine hK6 _ _ ?_
    refine fg1 4 g0 (fun g => ?_)
    refine c_ret ?_
    refine ret1 rfl (res_tmp (et g0 rfl)) ?_
    exact ⟨_, G, by rw [Nat.max_eq_left (by omega)]; exact h1⟩
  · skip
    rw [cmp_gt0] at cB1
    have c1 : x ≤ y := by have := of_decide_eq_false cB1; omega
    refine c_skip ?_
    refine hK2 _ _ ?_
    refine fg1 1 (gS rfl (gS rfl g0)) (fun g => ?_)
    refine c_seq (fun K7 hK7 => ?_)
    refine c_region ?_
    refine l_step (y_moveV (et g0 rfl)) ?_
    refine l_step (y_assignV (et g0 rfl)) ?_
    refine l_nil ?_
    refine hK7 _ _ ?_
    refine fg1 4 g0 (fun g => ?_)
    refine c_ret ?_
    refine ret1 rfl (res_tmp (et g0 rfl)) ?_
    exact ⟨_, G, by rw [Nat.max_eq_right (by omega)]; exact h2⟩
theorem yp_less {w : World} {H : Store} {v1 v2 : Value} {x y : Nat} (hF : Fz w H) (h1 : NV H v1 x) (h2 : NV H v2 y) (s1 : Sm x) (s2 : Sm y) :
    Ret 45 [v1, v2] w (fun v w' => ∃ H', Go No w H w' H' ∧ NV H' v (x - y)) := by
  refine enter (n := 14) Hvaa.func45 rfl rfl (Nat.le_of_ble_eq_true rfl) ?_
  have U := Up.refl w
  have G : Go (No) w H w H := Go.refl hF
  refine c_seq (fun K1 hK1 => ?_)
  refine c_region ?_
  refine l_step y_assignC ?_
  refine l_nil ?_
  refine hK1 _ _ ?_
  refine fg2 1 0 (gS rfl (gS rfl g0)) (gS rfl g0) (fun g => ?_)
  refine c_seq (fun K2 hK2 => ?_)
  refine c_region ?_
  refine l_step (y_moveV (et g0 rfl)) ?_
  refine l_step (y_moveV (et (gS rfl (gS rfl g0)) rfl)) ?_
  refine l_eff (e_callV cal_125 (aC (et (gS rfl g0) rfl) (aC (et g0 rfl) aN)) (nat_sub hF h1 h2 (bd_sm s1 (by decide)) (bd_sm s2 (by decide)))) (fun v3 w3 h3 => ?_)
  obtain ⟨z3, H3, rfl, g3, n3⟩ := h3
  have hlew3 := g3.le
  replace h1 := h1.mono hlew3
  replace h2 := h2.mono hlew3
  replace U := U.tr g3.up
  replace G := G.tr g3
  replace hF := g3.fz
  have q3 := bd_sub' n3 s1
  refine l_step (y_moveV (et g0 rfl)) ?_
  refine l_step (y_ext (et g0 rfl) rfl) ?_
  refine l_step (y_ext (et (gS rfl g0) rfl) rfl) ?_
  refine l_step (y_assignV (et (gS rfl g0) rfl)) ?_
  refine l_step (y_assignV (et (gS rfl g0) rfl)) ?_
  refine l_nil ?_
  refine hK2 _ _ ?_
  refine fg1 5 (gS rfl g0) (fun g => ?_)
  refine c_seq (fun K4 hK4 => ?_)
  refine c_region ?_
  refine l_step (y_moveV (et g0 rfl)) ?_
  refine l_step (y_assignV (et g0 rfl)) ?_
  refine l_nil ?_
  refine hK4 _ _ ?_
  refine fg1 4 g0 (fun g => ?_)
  refine c_ret ?_
  refine ret1 rfl (res_tmp (et g0 rfl)) ?_
  exact ⟨_, G, n3⟩
theorem yp_divided (c : Nat) (hc0 : 0 < c) (hc : c < 18446744073709551616) {w : World} {H : Store} {v1 : Value} {x : Nat} (hF : Fz w H) (h1 : NV H v1 x) (s1 : Sm x) :
    Ret 69 [v1, .int .u64 c] w (fun v w' => ∃ H', Go No w H w' H' ∧ NV H' v (x / c)) := by
  refine enter (n := 17) Hvaa.func69 rfl rfl (Nat.le_of_ble_eq_true rfl) ?_
  have U := Up.refl w
  have G : Go (No) w H w H := Go.refl hF
  refine c_seq (fun K1 hK1 => ?_)
  refine c_region ?_
  refine l_step y_assignC ?_
  refine l_nil ?_
  refine hK1 _ _ ?_
  refine fg2 1 0 (gS rfl (gS rfl g0)) (gS rfl g0) (fun g => ?_)
  refine c_seq (fun K2 hK2 => ?_)
  refine c_region ?_
  refine l_step (y_moveV (et g0 rfl)) ?_
  refine l_step (y_moveV (et (gS rfl (gS rfl g0)) rfl)) ?_
  refine l_eff (e_callV cal_32 (aC (et g0 rfl) aN) (yp_num hF (hc))) (fun v3 w3 h3 => ?_)
  obtain ⟨H3, g3, n3⟩ := h3
  have hlew3 := g3.le
  replace h1 := h1.mono hlew3
  replace U := U.tr g3.up
  replace G := G.tr g3
  replace hF := g3.fz
  have q3 := bd_64 (hc)
  refine l_eff (e_callV cal_155 (aC (et (gS rfl (gS rfl g0)) rfl) (aC (et g0 rfl) aN)) (nat_divmod hF h1 n3 (bd_sm s1 (by decide)) (bd_sm q3 (by decide)))) (fun v4 w4 h4 => ?_)
  obtain ⟨z4, y4, H4, rfl, g4, n4, m4⟩ := h4
  have hlew4 := g4.le
  replace h1 := h1.mono hlew4
  replace n3 := n3.mono hlew4
  replace U := U.tr g4.up
  replace G := G.tr g4
  replace hF := g4.fz
  have q4 := bd_div' n4 s1
  have p4 := bd_mod' m4 q3
  refine l_step (y_moveV (et g0 rfl)) ?_
  refine l_step (y_ext (et g0 rfl) rfl) ?_
  refine l_step (y_ext (et (gS rfl g0) rfl) rfl) ?_
  refine l_step (y_ext (et (gS rfl (gS rfl g0)) rfl) rfl) ?_
  refine l_step (y_assignV (et (gS rfl (gS rfl g0)) rfl)) ?_
  refine l_step (y_assignV (et (gS rfl (gS rfl g0)) rfl)) ?_
  refine l_step (y_assignV (et (gS rfl (gS rfl g0)) rfl)) ?_
  refine l_nil ?_
  refine hK2 _ _ ?_
  refine fg1 5 (gS rfl (gS rfl g0)) (fun g => ?_)
  refine c_seq (fun K5 hK5 => ?_)
  refine c_region ?_
  refine l_step (y_moveV (et g0 rfl)) ?_
  refine l_step (y_assignV (et g0 rfl)) ?_
  refine l_nil ?_
  refine hK5 _ _ ?_
  refine fg1 4 g0 (fun g => ?_)
  refine c_ret ?_
  refine ret1 rfl (res_tmp (et g0 rfl)) ?_
  exact ⟨_, G, n4⟩
theorem yp_words {w : World} {H : Store} {v1 : Value} {x : Nat} (hF : Fz w H) (h1 : NV H v1 x) (s1 : x < 256 ^ 150) :
    Ret 126 [v1] w (fun v w' => ∃ H', Go No w H w' H' ∧ NV H' v (wordsN x)) := by
  refine enter (n := 7) Hvaa.func126 rfl rfl (Nat.le_of_ble_eq_true rfl) ?_
  have U := Up.refl w
  have G : Go (No) w H w H := Go.refl hF
  refine c_seq (fun K1 hK1 => ?_)
  refine c_region ?_
  refine l_step y_assignC ?_
  refine l_nil ?_
  refine hK1 _ _ ?_
  refine fg1 0 (gS rfl g0) (fun g => ?_)
  refine c_seq (fun K2 hK2 => ?_)
  refine c_region ?_
  refine l_step (y_moveV (et g0 rfl)) ?_
  refine l_eff (e_callV cal_32 (aC (v := .int .u64 ((31 : Nat) : Int)) rfl aN) (yp_num (x := 31) hF (by decide))) (fun v3 w3 h3 => ?_)
  obtain ⟨H3, g3, n3⟩ := h3
  have hlew3 := g3.le
  replace h1 := h1.mono hlew3
  replace U := U.tr g3.up
  replace G := G.tr g3
  replace hF := g3.fz
  have q3 : 31 < 256 ^ 1 := by decide
  refine l_eff (e_callV cal_34 (aC (et (gS rfl g0) rfl) (aC (et g0 rfl) aN)) (nat_add hF h1 n3 (bd_sm s1 (by decide)) (bd_sm q3 (by decide)))) (fun v4 w4 h4 => ?_)
  obtain ⟨H4, g4, n4⟩ := h4
  have hlew4 := g4.le
  replace h1 := h1.mono hlew4
  replace n3 := n3.mono hlew4
  replace U := U.tr g4.up
  replace G := G.tr g4
  replace hF := g4.fz
  have q4 := bd_add (c := 151) s1 q3 (by decide)
  refine l_eff (e_callV cal_69 (aC (et g0 rfl) (aC (v := .int .u64 ((32 : Nat) : Int)) rfl aN)) (yp_divided 32 (by decide) (by decide) hF n4 (bd_sm q4 (by decide)))) (fun v5 w5 h5 => ?_)
  obtain ⟨H5, g5, n5⟩ := h5
  have hlew5 := g5.le
  replace h1 := h1.mono hlew5
  replace n3 := n3.mono hlew5
  replace n4 := n4.mono hlew5
  replace U := U.tr g5.up
  replace G := G.tr g5
  replace hF := g5.fz
  have q5 := bd_div (y := 32) q4
  refine l_step (y_assignV (et g0 rfl)) ?_
  refine l_nil ?_
  refine hK2 _ _ ?_
  refine fg1 2 g0 (fun g => ?_)
  refine c_ret ?_
  refine ret1 rfl (res_tmp (et g0 rfl)) ?_
  exact ⟨_, G, n5⟩
theorem bd_words {x a : Nat} (h : x < 256 ^ a) (ha : 1 ≤ a) : wordsN x < 256 ^ a := by
  unfold wordsN
  have h1 : 256 ^ 1 ≤ 256 ^ a := Nat.pow_le_pow_right (by decide) ha
  have h2 : (256 : Nat) ^ 1 = 256 := rfl
  omega
theorem yp_words' {w : World} {H : Store} {v1 : Value} {x a : Nat} (hF : Fz w H) (h1 : NV H v1 x) (hb : x < 256 ^ a) (ha : a ≤ 150) : Ret 126 [v1] w (fun v w' => ∃ H', Go No w H w' H' ∧ NV H' v (wordsN x)) := yp_words hF h1 (bd_up hb ha)
theorem yp_isZero {w : World} {H : Store} {v1 : Value} {x : Nat} (hF : Fz w H) (h1 : NV H v1 x) (s1 : Sm x) :
    Ret 79 [v1] w (fun v w' => v = .bool (decide (x = 0)) ∧ Up w w') := by
  refine enter (n := 6) Hvaa.func79 rfl rfl (Nat.le_of_ble_eq_true rfl) ?_
  have U := Up.refl w
  have G : Go (No) w H w H := Go.refl hF
  refine c_seq (fun K1 hK1 => ?_)
  refine c_region ?_
  refine l_step y_assignC ?_
  refine l_nil ?_
  refine hK1 _ _ ?_
  refine fg1 0 (gS rfl g0) (fun g => ?_)
  refine c_seq (fun K2 hK2 => ?_)
  refine c_region ?_
  refine l_step (y_moveV (et g0 rfl)) ?_
  have ez : NV H (.slice none 0 0) 0 := NV.nil H
  refine l_eff (e_callV cal_121 (aC (et g0 rfl) (aC rfl aN)) (nat_cmp hF h1 (NV.nil _) (bd_sm s1 (by decide)) (bd_sm bd_zero (by decide)))) (fun v3 w3 h3 => ?_)
  obtain ⟨rfl, u3⟩ := h3
  replace G := G.tr (Go.ofUp hF u3)
  replace hF := hF.up u3
  replace U := U.tr u3
  refine l_step ((y_eql (et g0 rfl) rfl).to (congrArg Value.bool (cmp_eq0 x 0))) ?_
  refine l_step (y_assignV (et g0 rfl)) ?_
  refine l_nil ?_
  refine hK2 _ _ ?_
  refine fg1 2 g0 (fun g => ?_)
  refine c_ret ?_
  refine ret1 rfl (res_tmp (et g0 rfl)) ?_
  exact ⟨rfl, U⟩
theorem yp_memCost {w : World} {H : Store} {v1 : Value} {x : Nat} (hF : Fz w H) (h1 : NV H v1 x) (s1 : x < 256 ^ 80) :
    Ret 224 [v1] w (fun v w' => ∃ H', Go No w H w' H' ∧ NV H' v (memN x)) := by
  refine enter (n := 11) Hvaa.func224 rfl rfl (Nat.le_of_ble_eq_true rfl) ?_
  have U := Up.refl w
  have G : Go (No) w H w H := Go.refl hF
  refine c_seq (fun K1 hK1 => ?_)
  refine c_region ?_
  refine l_step y_assignC ?_
  refine l_nil ?_
  refine hK1 _ _ ?_
  refine fg1 0 (gS rfl g0) (fun g => ?_)
  refine c_seq (fun K2 hK2 => ?_)
  refine c_region ?_
  refine l_eff (e_callV cal_32 (aC (v := .int .u64 ((3 : Nat) : Int)) rfl aN) (yp_num (x := 3) hF (by decide))) (fun v3 w3 h3 => ?_)
  obtain ⟨H3, g3, n3⟩ := h3
  have hlew3 := g3.le
  replace h1 := h1.mono hlew3
  replace U := U.tr g3.up
  replace G := G.tr g3
  replace hF := g3.fz
  have q3 : 3 < 256 ^ 1 := by decide
  refine l_step (y_moveV (et (gS rfl g0) rfl)) ?_
  refine l_eff (e_callV cal_50 (aC (et (gS rfl g0) rfl) (aC (et g0 rfl) aN)) (nat_mul hF n3 h1 (bd_sm q3 (by decide)) (bd_sm s1 (by decide)))) (fun v4 w4 h4 => ?_)
  obtain ⟨H4, g4, n4⟩ := h4
  have hlew4 := g4.le
  replace h1 := h1.mono hlew4
  replace n3 := n3.mono hlew4
  replace U := U.tr g4.up
  replace G := G.tr g4
  replace hF := g4.fz
  have q4 := bd_mul (c := 81) q3 s1 (by decide)
  refine l_step (y_moveV (et (gS rfl (gS rfl (gS rfl g0))) rfl)) ?_
  refine l_step (y_moveV (et (gS rfl (gS rfl (gS rfl (gS rfl g0)))) rfl)) ?_
  refine l_eff (e_callV cal_50 (aC (et (gS rfl g0) rfl) (aC (et g0 rfl) aN)) (nat_mul hF h1 h1 (bd_sm s1 (by decide)) (bd_sm s1 (by decide)))) (fun v5 w5 h5 => ?_)
  obtain ⟨H5, g5, n5⟩ := h5
  have hlew5 := g5.le
  replace h1 := h1.mono hlew5
  replace n3 := n3.mono hlew5
  replace n4 := n4.mono hlew5
  replace U := U.tr g5.up
  replace G := G.tr g5
  replace hF := g5.fz
  have q5 := bd_mul (c := 160) s1 s1 (by decide)
  refine l_eff (e_callV cal_69 (aC (et g0 rfl) (aC (v := .int .u64 ((512 : Nat) : Int)) rfl aN)) (yp_divided 512 (by decide) (by decide) hF n5 (bd_sm q5 (by decide)))) (fun v6 w6 h6 => ?_)
  obtain ⟨H6, g6, n6⟩ := h6
  have hlew6 := g6.le
  replace h1 := h1.mono hlew6
  replace n3 := n3.mono hlew6
  replace n4 := n4.mono hlew6
  replace n5 := n5.mono hlew6
  replace U := U.tr g6.up
  replace G := G.tr g6
  replace hF := g6.fz
  have q6 := bd_div (y := 512) q5
  refine l_eff (e_callV cal_34 (aC (et (gS rfl (gS rfl (gS rfl (gS rfl g0)))) rfl) (aC (et g0 rfl) aN)) (nat_add hF n4 n6 (bd_sm q4 (by decide)) (bd_sm q6 (by decide)))) (fun v7 w7 h7 => ?_)
  obtain ⟨H7, g7, n7⟩ := h7
  have hlew7 := g7.le
  replace h1 := h1.mono hlew7
  replace n3 := n3.mono hlew7
  replace n4 := n4.mono hlew7
  replace n5 := n5.mono hlew7
  replace n6 := n6.mono hlew7
  replace U := U.tr g7.up
  replace G := G.tr g7
  replace hF := g7.fz
  have q7 := bd_add (c := 161) q4 q6 (by decide)
  refine l_step (y_assignV (et g0 rfl)) ?_
  refine l_nil ?_
  refine hK2 _ _ ?_
  refine fg1 2 g0 (fun g => ?_)
  refine c_ret ?_
  refine ret1 rfl (res_tmp (et g0 rfl)) ?_
  exact ⟨_, G, n7⟩
end Go.Proofs.YgvaawGreat
