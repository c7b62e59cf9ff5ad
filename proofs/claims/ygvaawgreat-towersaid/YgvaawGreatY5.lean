import Derived.Test.YgvaawGreatY4
set_option maxRecDepth 100000
set_option maxHeartbeats 4000000
set_option linter.unusedSimpArgs false
set_option linter.unusedVariables false
namespace Go.Proofs.YgvaawGreat
open Go
theorem yp_shl {w : World} {H : Store} {v1 v2 : Value} {x y : Nat} (hF : Fz w H) (h1 : NV H v1 x) (h2 : NV H v2 y) (s1 : x < 256 ^ 32) (s2 : y < 256 ^ 32) :
    Ret 348 [.int .u8 27, v1, v2] w (fun v w' => ∃ H', Go No w H w' H' ∧ NV H' v (eShl x y)) := by
  refine enter (n := 60) Hvaa.func348 rfl rfl (Nat.le_of_ble_eq_true rfl) ?_
  have U := Up.refl w
  have G : Go (No) w H w H := Go.refl hF
  refine c_seq (fun K1 hK1 => ?_)
  refine c_region ?_
  refine l_step y_assignC ?_
  refine l_nil ?_
  refine hK1 _ _ ?_
  refine fg3 2 1 0 (gS rfl (gS rfl (gS rfl g0))) (gS rfl (gS rfl g0)) (gS rfl g0) (fun g => ?_)
  refine c_seq (fun K2 hK2 => ?_)
  refine c_region ?_
  refine l_step (y_moveV (et (gS rfl g0) rfl)) ?_
  refine l_eff (e_callV cal_80 (aC (et g0 rfl) aN) (nat_u64 hF h1 (bd_sm s1 (by decide)))) (fun v3 w3 h3 => ?_)
  obtain ⟨rfl, u3⟩ := h3
  replace G := G.tr (Go.ofUp hF u3)
  replace hF := hF.up u3
  replace U := U.tr u3
  refine l_step (y_moveV (et g0 rfl)) ?_
  refine l_step (y_ext (et g0 rfl) rfl) ?_
  refine l_step (y_ext (et (gS rfl g0) rfl) rfl) ?_
  refine l_step (y_assignV (et (gS rfl g0) rfl)) ?_
  refine l_step (y_assignV (et (gS rfl g0) rfl)) ?_
  refine l_nil ?_
  refine hK2 _ _ ?_
  refine fg4 2 0 7 8 (gS rfl (gS rfl (gS rfl (gS rfl (gS rfl (gS rfl (gS rfl (gS rfl (gS rfl g0))))))))) (gS rfl (gS rfl (gS rfl (gS rfl (gS rfl (gS rfl (gS rfl g0))))))) (gS rfl g0) g0 (fun g => ?_)
  refine c_seq (fun K4 hK4 => ?_)
  refine c_seq (fun K5 hK5 => ?_)
  refine c_region ?_
  refine l_step (y_moveV (et g0 rfl)) ?_
  refine l_step (y_not (et g0 rfl)) ?_
  refine l_step (y_moveV (et g0 rfl)) ?_
  refine gsplitL (i := 23) g0 (fun q6 => ?_) (fun q6 => ?_)
  · skip
    have c14 : ¬ x < 18446744073709551616 := by simpa using q6
    refine l_gskip (j := 2) (t := 23) (by exact rfl) (by exact rfl) (et g0 rfl) (by decide) (by decide) ?_
    refine l_gskip (j := 2) (t := 23) (by exact rfl) (by exact rfl) (et (gS rfl g0) rfl) (by decide) (by decide) ?_
    refine l_step (y_pickT (et (gS rfl (gS rfl g0)) rfl) rfl) ?_
    refine l_nil ?_
    refine hK5 _ _ ?_
    refine fg4 2 0 7 26 (gS rfl (gS rfl (gS rfl (gS rfl (gS rfl (gS rfl (gS rfl (gS rfl (gS rfl (gS rfl g0)))))))))) (gS rfl (gS rfl (gS rfl (gS rfl (gS rfl (gS rfl (gS rfl (gS rfl (gS rfl g0))))))))) (gS rfl (gS rfl (gS rfl (gS rfl (gS rfl (gS rfl (gS rfl (gS rfl g0)))))))) g0 (fun g => ?_)
    have hmin : min x 256 = 256 := by omega
    refine c_true (et g0 rfl) rfl ?_
    refine c_region ?_
    refine l_step y_assignC ?_
    refine l_nil ?_
    refine hK4 _ _ ?_
    refine fg3 2 0 7 (gS rfl (gS rfl (gS rfl (gS rfl g0)))) (gS rfl (gS rfl (gS rfl g0))) g0 (fun g => ?_)
    refine c_seq (fun K8 hK8 => ?_)
    refine c_region ?_
    refine l_step (y_moveV (et g0 rfl)) ?_
    refine l_step (y_conv Hvaa.underlying26 Hvaa.underlying67 (et g0 rfl) ((wrapU_id (a := 256) uk16 (by decide)))) ?_
    refine l_eff (e_callV cal_396 (aC (et g0 rfl) aN) (nat_pow2 hF _ (Nat.lt_of_le_of_lt (m := 256) (by omega) (by decide)))) (fun v9 w9 h9 => ?_)
    obtain ⟨H9, g9, n9⟩ := h9
    have hlew9 := g9.le
    replace h1 := h1.mono hlew9
    replace h2 := h2.mono hlew9
    replace U := U.tr g9.up
    replace G := G.tr g9
    replace hF := g9.fz
    have q9 := bd_pow2 n9 (by omega)
    refine l_step (y_assignV (et g0 rfl)) ?_
    refine l_nil ?_
    refine hK8 _ _ ?_
    refine fg3 2 0 9 (gS rfl (gS rfl (gS rfl (gS rfl (gS rfl (gS rfl g0)))))) (gS rfl (gS rfl (gS rfl (gS rfl (gS rfl g0))))) g0 (fun g => ?_)
    refine c_seq (fun K10 hK10 => ?_)
    refine c_seq (fun K11 hK11 => ?_)
    refine c_region ?_
    refine l_step (y_moveV (et (gS rfl g0) rfl)) ?_
    refine l_step (y_eql (et g0 rfl) rfl) ?_
    refine l_nil ?_
    refine hK11 _ _ ?_
    refine fg4 2 0 9 31 (gS rfl (gS rfl (gS rfl (gS rfl g0)))) (gS rfl (gS rfl (gS rfl g0))) (gS rfl (gS rfl g0)) g0 (fun g => ?_)
    refine c_true (et g0 rfl) (by rfl) ?_
    refine c_seq (fun K13 hK13 => ?_)
    refine c_region ?_
    refine l_step (y_moveV (et (gS rfl (gS rfl (gS rfl g0))) rfl)) ?_
    refine l_step (y_moveV (et (gS rfl (gS rfl g0)) rfl)) ?_
    refine l_eff (e_callV cal_50 (aC (et (gS rfl g0) rfl) (aC (et g0 rfl) aN)) (nat_mul hF h2 n9 (bd_sm s2 (by decide)) (bd_sm q9 (by decide)))) (fun v14 w14 h14 => ?_)
    obtain ⟨H14, g14, n14⟩ := h14
    have hlew14 := g14.le
    replace h1 := h1.mono hlew14
    replace h2 := h2.mono hlew14
    replace n9 := n9.mono hlew14
    replace U := U.tr g14.up
    replace G := G.tr g14
    replace hF := g14.fz
    have q14 := bd_mul (c := 65) s2 q9 (by decide)
    refine l_eff (e_callV cal_337 (aC (et g0 rfl) aN) (yp_wrapped hF n14 (bd_sm q14 (by decide)))) (fun v15 w15 h15 => ?_)
    obtain ⟨H15, g15, n15⟩ := h15
    have hlew15 := g15.le
    replace h1 := h1.mono hlew15
    replace h2 := h2.mono hlew15
    replace n9 := n9.mono hlew15
    replace n14 := n14.mono hlew15
    replace U := U.tr g15.up
    replace G := G.tr g15
    replace hF := g15.fz
    have q15 := bd_wrap' n15
    refine l_step (y_assignV (et g0 rfl)) ?_
    refine l_nil ?_
    refine hK13 _ _ ?_
    refine fg1 6 g0 (fun g => ?_)
    refine c_ret ?_
    refine ret1 rfl (res_tmp (et g0 rfl)) ?_
    exact ⟨_, G, n15.to (by rw [eShl, hmin])⟩
  · skip
    have c14 : x < 18446744073709551616 := by simpa using q6
    have el : lo64 x = x := by rw [lo64, if_pos c14]
    rw [el]
    refine l_gstep (j := 2) (t := 23) (by exact rfl) (by exact rfl) (et g0 rfl) (by decide) (y_moveV (et (gS rfl (gS rfl (gS rfl (gS rfl (gS rfl g0))))) rfl)) ?_
    refine l_gstep (j := 2) (t := 23) (by exact rfl) (by exact rfl) (et (gS rfl g0) rfl) (by decide) (y_gtr (et g0 rfl) rfl) ?_
    refine l_step (y_pickF (et (gS rfl (gS rfl g0)) rfl) (et g0 rfl)) ?_
    refine l_nil ?_
    refine hK5 _ _ ?_
    refine fg4 2 0 7 26 (gS rfl (gS rfl (gS rfl (gS rfl (gS rfl (gS rfl (gS rfl (gS rfl (gS rfl (gS rfl g0)))))))))) (gS rfl (gS rfl (gS rfl (gS rfl (gS rfl (gS rfl (gS rfl (gS rfl (gS rfl g0))))))))) (gS rfl (gS rfl (gS rfl (gS rfl (gS rfl (gS rfl (gS rfl (gS rfl g0)))))))) g0 (fun g => ?_)
    refine c_cond (et g0 rfl) (fun cB1 => ?_) (fun cB1 => ?_)
    · skip
      
      have hmin : min x 256 = 256 := by first | omega | (have := of_decide_eq_true cB1; omega)
      refine c_region ?_
      refine l_step y_assignC ?_
      refine l_nil ?_
      refine hK4 _ _ ?_
      refine fg3 2 0 7 (gS rfl (gS rfl (gS rfl (gS rfl g0)))) (gS rfl (gS rfl (gS rfl g0))) g0 (fun g => ?_)
      refine c_seq (fun K17 hK17 => ?_)
      refine c_region ?_
      refine l_step (y_moveV (et g0 rfl)) ?_
      refine l_step (y_conv Hvaa.underlying26 Hvaa.underlying67 (et g0 rfl) ((wrapU_id (a := 256) uk16 (by decide)))) ?_
      refine l_eff (e_callV cal_396 (aC (et g0 rfl) aN) (nat_pow2 hF _ (Nat.lt_of_le_of_lt (m := 256) (by omega) (by decide)))) (fun v18 w18 h18 => ?_)
      obtain ⟨H18, g18, n18⟩ := h18
      have hlew18 := g18.le
      replace h1 := h1.mono hlew18
      replace h2 := h2.mono hlew18
      replace U := U.tr g18.up
      replace G := G.tr g18
      replace hF := g18.fz
      have q18 := bd_pow2 n18 (by omega)
      refine l_step (y_assignV (et g0 rfl)) ?_
      refine l_nil ?_
      refine hK17 _ _ ?_
      refine fg3 2 0 9 (gS rfl (gS rfl (gS rfl (gS rfl (gS rfl (gS rfl g0)))))) (gS rfl (gS rfl (gS rfl (gS rfl (gS rfl g0))))) g0 (fun g => ?_)
      refine c_seq (fun K19 hK19 => ?_)
      refine c_seq (fun K20 hK20 => ?_)
      refine c_region ?_
      refine l_step (y_moveV (et (gS rfl g0) rfl)) ?_
      refine l_step (y_eql (et g0 rfl) rfl) ?_
      refine l_nil ?_
      refine hK20 _ _ ?_
      refine fg4 2 0 9 31 (gS rfl (gS rfl (gS rfl (gS rfl g0)))) (gS rfl (gS rfl (gS rfl g0))) (gS rfl (gS rfl g0)) g0 (fun g => ?_)
      refine c_true (et g0 rfl) (by rfl) ?_
      refine c_seq (fun K22 hK22 => ?_)
      refine c_region ?_
      refine l_step (y_moveV (et (gS rfl (gS rfl (gS rfl g0))) rfl)) ?_
      refine l_step (y_moveV (et (gS rfl (gS rfl g0)) rfl)) ?_
      refine l_eff (e_callV cal_50 (aC (et (gS rfl g0) rfl) (aC (et g0 rfl) aN)) (nat_mul hF h2 n18 (bd_sm s2 (by decide)) (bd_sm q18 (by decide)))) (fun v23 w23 h23 => ?_)
      obtain ⟨H23, g23, n23⟩ := h23
      have hlew23 := g23.le
      replace h1 := h1.mono hlew23
      replace h2 := h2.mono hlew23
      replace n18 := n18.mono hlew23
      replace U := U.tr g23.up
      replace G := G.tr g23
      replace hF := g23.fz
      have q23 := bd_mul (c := 65) s2 q18 (by decide)
      refine l_eff (e_callV cal_337 (aC (et g0 rfl) aN) (yp_wrapped hF n23 (bd_sm q23 (by decide)))) (fun v24 w24 h24 => ?_)
      obtain ⟨H24, g24, n24⟩ := h24
      have hlew24 := g24.le
      replace h1 := h1.mono hlew24
      replace h2 := h2.mono hlew24
      replace n18 := n18.mono hlew24
      replace n23 := n23.mono hlew24
      replace U := U.tr g24.up
      replace G := G.tr g24
      replace hF := g24.fz
      have q24 := bd_wrap' n24
      refine l_step (y_assignV (et g0 rfl)) ?_
      refine l_nil ?_
      refine hK22 _ _ ?_
      refine fg1 6 g0 (fun g => ?_)
      refine c_ret ?_
      refine ret1 rfl (res_tmp (et g0 rfl)) ?_
      exact ⟨_, G, n24.to (by rw [eShl, hmin])⟩
    · skip
      
      have hmin : min x 256 = x := by have := of_decide_eq_false cB1; omega
      refine c_skip ?_
      refine hK4 _ _ ?_
      refine fg3 2 0 7 (gS rfl (gS rfl (gS rfl g0))) (gS rfl (gS rfl g0)) (gS rfl g0) (fun g => ?_)
      refine c_seq (fun K25 hK25 => ?_)
      refine c_region ?_
      refine l_step (y_moveV (et g0 rfl)) ?_
      refine l_step (y_conv Hvaa.underlying26 Hvaa.underlying67 (et g0 rfl) (wrapU_id uk16 ?_)) ?_
      omega
      refine l_eff (e_callV cal_396 (aC (et g0 rfl) aN) (nat_pow2 hF _ (Nat.lt_of_le_of_lt (m := 256) (by omega) (by decide)))) (fun v26 w26 h26 => ?_)
      obtain ⟨H26, g26, n26⟩ := h26
      have hlew26 := g26.le
      replace h1 := h1.mono hlew26
      replace h2 := h2.mono hlew26
      replace U := U.tr g26.up
      replace G := G.tr g26
      replace hF := g26.fz
      have q26 := bd_pow2 n26 (by omega)
      refine l_step (y_assignV (et g0 rfl)) ?_
      refine l_nil ?_
      refine hK25 _ _ ?_
      refine fg3 2 0 9 (gS rfl (gS rfl (gS rfl (gS rfl (gS rfl (gS rfl g0)))))) (gS rfl (gS rfl (gS rfl (gS rfl (gS rfl g0))))) g0 (fun g => ?_)
      refine c_seq (fun K27 hK27 => ?_)
      refine c_seq (fun K28 hK28 => ?_)
      refine c_region ?_
      refine l_step (y_moveV (et (gS rfl g0) rfl)) ?_
      refine l_step (y_eql (et g0 rfl) rfl) ?_
      refine l_nil ?_
      refine hK28 _ _ ?_
      refine fg4 2 0 9 31 (gS rfl (gS rfl (gS rfl (gS rfl g0)))) (gS rfl (gS rfl (gS rfl g0))) (gS rfl (gS rfl g0)) g0 (fun g => ?_)
      refine c_true (et g0 rfl) (by rfl) ?_
      refine c_seq (fun K30 hK30 => ?_)
      refine c_region ?_
      refine l_step (y_moveV (et (gS rfl (gS rfl (gS rfl g0))) rfl)) ?_
      refine l_step (y_moveV (et (gS rfl (gS rfl g0)) rfl)) ?_
      refine l_eff (e_callV cal_50 (aC (et (gS rfl g0) rfl) (aC (et g0 rfl) aN)) (nat_mul hF h2 n26 (bd_sm s2 (by decide)) (bd_sm q26 (by decide)))) (fun v31 w31 h31 => ?_)
      obtain ⟨H31, g31, n31⟩ := h31
      have hlew31 := g31.le
      replace h1 := h1.mono hlew31
      replace h2 := h2.mono hlew31
      replace n26 := n26.mono hlew31
      replace U := U.tr g31.up
      replace G := G.tr g31
      replace hF := g31.fz
      have q31 := bd_mul (c := 65) s2 q26 (by decide)
      refine l_eff (e_callV cal_337 (aC (et g0 rfl) aN) (yp_wrapped hF n31 (bd_sm q31 (by decide)))) (fun v32 w32 h32 => ?_)
      obtain ⟨H32, g32, n32⟩ := h32
      have hlew32 := g32.le
      replace h1 := h1.mono hlew32
      replace h2 := h2.mono hlew32
      replace n26 := n26.mono hlew32
      replace n31 := n31.mono hlew32
      replace U := U.tr g32.up
      replace G := G.tr g32
      replace hF := g32.fz
      have q32 := bd_wrap' n32
      refine l_step (y_assignV (et g0 rfl)) ?_
      refine l_nil ?_
      refine hK30 _ _ ?_
      refine fg1 6 g0 (fun g => ?_)
      refine c_ret ?_
      refine ret1 rfl (res_tmp (et g0 rfl)) ?_
      exact ⟨_, G, n32.to (by rw [eShl, hmin])⟩
theorem yp_shr {w : World} {H : Store} {v1 v2 : Value} {x y : Nat} (hF : Fz w H) (h1 : NV H v1 x) (h2 : NV H v2 y) (s1 : x < 256 ^ 32) (s2 : y < 256 ^ 32) :
    Ret 348 [.int .u8 28, v1, v2] w (fun v w' => ∃ H', Go No w H w' H' ∧ NV H' v (eShr x y)) := by
  refine enter (n := 60) Hvaa.func348 rfl rfl (Nat.le_of_ble_eq_true rfl) ?_
  have U := Up.refl w
  have G : Go (No) w H w H := Go.refl hF
  refine c_seq (fun K1 hK1 => ?_)
  refine c_region ?_
  refine l_step y_assignC ?_
  refine l_nil ?_
  refine hK1 _ _ ?_
  refine fg3 2 1 0 (gS rfl (gS rfl (gS rfl g0))) (gS rfl (gS rfl g0)) (gS rfl g0) (fun g => ?_)
  refine c_seq (fun K2 hK2 => ?_)
  refine c_region ?_
  refine l_step (y_moveV (et (gS rfl g0) rfl)) ?_
  refine l_eff (e_callV cal_80 (aC (et g0 rfl) aN) (nat_u64 hF h1 (bd_sm s1 (by decide)))) (fun v3 w3 h3 => ?_)
  obtain ⟨rfl, u3⟩ := h3
  replace G := G.tr (Go.ofUp hF u3)
  replace hF := hF.up u3
  replace U := U.tr u3
  refine l_step (y_moveV (et g0 rfl)) ?_
  refine l_step (y_ext (et g0 rfl) rfl) ?_
  refine l_step (y_ext (et (gS rfl g0) rfl) rfl) ?_
  refine l_step (y_assignV (et (gS rfl g0) rfl)) ?_
  refine l_step (y_assignV (et (gS rfl g0) rfl)) ?_
  refine l_nil ?_
  refine hK2 _ _ ?_
  refine fg4 2 0 7 8 (gS rfl (gS rfl (gS rfl (gS rfl (gS rfl (gS rfl (gS rfl (gS rfl (gS rfl g0))))))))) (gS rfl (gS rfl (gS rfl (gS rfl (gS rfl (gS rfl (gS rfl g0))))))) (gS rfl g0) g0 (fun g => ?_)
  refine c_seq (fun K4 hK4 => ?_)
  refine c_seq (fun K5 hK5 => ?_)
  refine c_region ?_
  refine l_step (y_moveV (et g0 rfl)) ?_
  refine l_step (y_not (et g0 rfl)) ?_
  refine l_step (y_moveV (et g0 rfl)) ?_
  refine gsplitL (i := 23) g0 (fun q6 => ?_) (fun q6 => ?_)
  · skip
    have c14 : ¬ x < 18446744073709551616 := by simpa using q6
    refine l_gskip (j := 2) (t := 23) (by exact rfl) (by exact rfl) (et g0 rfl) (by decide) (by decide) ?_
    refine l_gskip (j := 2) (t := 23) (by exact rfl) (by exact rfl) (et (gS rfl g0) rfl) (by decide) (by decide) ?_
    refine l_step (y_pickT (et (gS rfl (gS rfl g0)) rfl) rfl) ?_
    refine l_nil ?_
    refine hK5 _ _ ?_
    refine fg4 2 0 7 26 (gS rfl (gS rfl (gS rfl (gS rfl (gS rfl (gS rfl (gS rfl (gS rfl (gS rfl (gS rfl g0)))))))))) (gS rfl (gS rfl (gS rfl (gS rfl (gS rfl (gS rfl (gS rfl (gS rfl (gS rfl g0))))))))) (gS rfl (gS rfl (gS rfl (gS rfl (gS rfl (gS rfl (gS rfl (gS rfl g0)))))))) g0 (fun g => ?_)
    have hmin : min x 256 = 256 := by omega
    refine c_true (et g0 rfl) rfl ?_
    refine c_region ?_
    refine l_step y_assignC ?_
    refine l_nil ?_
    refine hK4 _ _ ?_
    refine fg3 2 0 7 (gS rfl (gS rfl (gS rfl (gS rfl g0)))) (gS rfl (gS rfl (gS rfl g0))) g0 (fun g => ?_)
    refine c_seq (fun K8 hK8 => ?_)
    refine c_region ?_
    refine l_step (y_moveV (et g0 rfl)) ?_
    refine l_step (y_conv Hvaa.underlying26 Hvaa.underlying67 (et g0 rfl) ((wrapU_id (a := 256) uk16 (by decide)))) ?_
    refine l_eff (e_callV cal_396 (aC (et g0 rfl) aN) (nat_pow2 hF _ (Nat.lt_of_le_of_lt (m := 256) (by omega) (by decide)))) (fun v9 w9 h9 => ?_)
    obtain ⟨H9, g9, n9⟩ := h9
    have hlew9 := g9.le
    replace h1 := h1.mono hlew9
    replace h2 := h2.mono hlew9
    replace U := U.tr g9.up
    replace G := G.tr g9
    replace hF := g9.fz
    have q9 := bd_pow2 n9 (by omega)
    refine l_step (y_assignV (et g0 rfl)) ?_
    refine l_nil ?_
    refine hK8 _ _ ?_
    refine fg3 2 0 9 (gS rfl (gS rfl (gS rfl (gS rfl (gS rfl (gS rfl g0)))))) (gS rfl (gS rfl (gS rfl (gS rfl (gS rfl g0))))) g0 (fun g => ?_)
    refine c_seq (fun K10 hK10 => ?_)
    refine c_seq (fun K11 hK11 => ?_)
    refine c_region ?_
    refine l_step (y_moveV (et (gS rfl g0) rfl)) ?_
    refine l_step (y_eql (et g0 rfl) rfl) ?_
    refine l_nil ?_
    refine hK11 _ _ ?_
    refine fg4 2 0 9 31 (gS rfl (gS rfl (gS rfl (gS rfl g0)))) (gS rfl (gS rfl (gS rfl g0))) (gS rfl (gS rfl g0)) g0 (fun g => ?_)
    refine c_false (et g0 rfl) (by rfl) ?_
    refine c_skip ?_
    refine hK10 _ _ ?_
    refine fg3 2 0 9 (gS rfl (gS rfl (gS rfl g0))) (gS rfl (gS rfl g0)) (gS rfl g0) (fun g => ?_)
    refine c_seq (fun K13 hK13 => ?_)
    refine c_seq (fun K14 hK14 => ?_)
    refine c_region ?_
    refine l_step (y_moveV (et (gS rfl g0) rfl)) ?_
    refine l_step (y_eql (et g0 rfl) rfl) ?_
    refine l_step (y_moveV (et g0 rfl)) ?_
    refine gsplitL (i := 38) g0 (fun q15 => ?_) (fun q15 => ?_)
    · skip
      exact absurd q15 (by decide)
    · skip
      refine l_gskip (j := 2) (t := 38) (by exact rfl) (by exact rfl) (et g0 rfl) (by decide) (by decide) ?_
      refine l_gskip (j := 2) (t := 38) (by exact rfl) (by exact rfl) (et (gS rfl g0) rfl) (by decide) (by decide) ?_
      refine l_step (y_pickF (et (gS rfl (gS rfl g0)) rfl) rfl) ?_
      refine l_nil ?_
      refine hK14 _ _ ?_
      refine fg3 2 9 41 (gS rfl (gS rfl (gS rfl (gS rfl (gS rfl (gS rfl (gS rfl (gS rfl (gS rfl g0))))))))) (gS rfl (gS rfl (gS rfl (gS rfl (gS rfl (gS rfl (gS rfl g0))))))) g0 (fun g => ?_)
      refine c_false (et g0 rfl) rfl ?_
      refine c_skip ?_
      refine hK13 _ _ ?_
      refine fg2 2 9 (gS rfl (gS rfl g0)) (gS rfl g0) (fun g => ?_)
      refine c_seq (fun K17 hK17 => ?_)
      refine c_region ?_
      refine l_step (y_moveV (et (gS rfl g0) rfl)) ?_
      refine l_step (y_moveV (et (gS rfl g0) rfl)) ?_
      refine l_eff (e_callV cal_155 (aC (et (gS rfl g0) rfl) (aC (et g0 rfl) aN)) (nat_divmod hF h2 n9 (bd_sm s2 (by decide)) (bd_sm q9 (by decide)))) (fun v18 w18 h18 => ?_)
      obtain ⟨z18, y18, H18, rfl, g18, n18, m18⟩ := h18
      have hlew18 := g18.le
      replace h1 := h1.mono hlew18
      replace h2 := h2.mono hlew18
      replace n9 := n9.mono hlew18
      replace U := U.tr g18.up
      replace G := G.tr g18
      replace hF := g18.fz
      have q18 := bd_div' n18 s2
      have p18 := bd_mod' m18 q9
      refine l_step (y_moveV (et g0 rfl)) ?_
      refine l_step (y_ext (et g0 rfl) rfl) ?_
      refine l_step (y_ext (et (gS rfl g0) rfl) rfl) ?_
      refine l_step (y_ext (et (gS rfl (gS rfl g0)) rfl) rfl) ?_
      refine l_step (y_assignV (et (gS rfl (gS rfl g0)) rfl)) ?_
      refine l_step (y_assignV (et (gS rfl (gS rfl g0)) rfl)) ?_
      refine l_step (y_assignV (et (gS rfl (gS rfl g0)) rfl)) ?_
      refine l_nil ?_
      refine hK17 _ _ ?_
      refine fg1 13 (gS rfl (gS rfl g0)) (fun g => ?_)
      refine c_seq (fun K19 hK19 => ?_)
      refine c_region ?_
      refine l_step (y_moveV (et g0 rfl)) ?_
      refine l_step (y_assignV (et g0 rfl)) ?_
      refine l_nil ?_
      refine hK19 _ _ ?_
      refine fg1 6 g0 (fun g => ?_)
      refine c_ret ?_
      refine ret1 rfl (res_tmp (et g0 rfl)) ?_
      exact ⟨_, G, n18.to (by rw [eShr, hmin])⟩
  · skip
    have c14 : x < 18446744073709551616 := by simpa using q6
    have el : lo64 x = x := by rw [lo64, if_pos c14]
    rw [el]
    refine l_gstep (j := 2) (t := 23) (by exact rfl) (by exact rfl) (et g0 rfl) (by decide) (y_moveV (et (gS rfl (gS rfl (gS rfl (gS rfl (gS rfl g0))))) rfl)) ?_
    refine l_gstep (j := 2) (t := 23) (by exact rfl) (by exact rfl) (et (gS rfl g0) rfl) (by decide) (y_gtr (et g0 rfl) rfl) ?_
    refine l_step (y_pickF (et (gS rfl (gS rfl g0)) rfl) (et g0 rfl)) ?_
    refine l_nil ?_
    refine hK5 _ _ ?_
    refine fg4 2 0 7 26 (gS rfl (gS rfl (gS rfl (gS rfl (gS rfl (gS rfl (gS rfl (gS rfl (gS rfl (gS rfl g0)))))))))) (gS rfl (gS rfl (gS rfl (gS rfl (gS rfl (gS rfl (gS rfl (gS rfl (gS rfl g0))))))))) (gS rfl (gS rfl (gS rfl (gS rfl (gS rfl (gS rfl (gS rfl (gS rfl g0)))))))) g0 (fun g => ?_)
    refine c_cond (et g0 rfl) (fun cB1 => ?_) (fun cB1 => ?_)
    · skip
      
      have hmin : min x 256 = 256 := by first | omega | (have := of_decide_eq_true cB1; omega)
      refine c_region ?_
      refine l_step y_assignC ?_
      refine l_nil ?_
      refine hK4 _ _ ?_
      refine fg3 2 0 7 (gS rfl (gS rfl (gS rfl (gS rfl g0)))) (gS rfl (gS rfl (gS rfl g0))) g0 (fun g => ?_)
      refine c_seq (fun K21 hK21 => ?_)
      refine c_region ?_
      refine l_step (y_moveV (et g0 rfl)) ?_
      refine l_step (y_conv Hvaa.underlying26 Hvaa.underlying67 (et g0 rfl) ((wrapU_id (a := 256) uk16 (by decide)))) ?_
      refine l_eff (e_callV cal_396 (aC (et g0 rfl) aN) (nat_pow2 hF _ (Nat.lt_of_le_of_lt (m := 256) (by omega) (by decide)))) (fun v22 w22 h22 => ?_)
      obtain ⟨H22, g22, n22⟩ := h22
      have hlew22 := g22.le
      replace h1 := h1.mono hlew22
      replace h2 := h2.mono hlew22
      replace U := U.tr g22.up
      replace G := G.tr g22
      replace hF := g22.fz
      have q22 := bd_pow2 n22 (by omega)
      refine l_step (y_assignV (et g0 rfl)) ?_
      refine l_nil ?_
      refine hK21 _ _ ?_
      refine fg3 2 0 9 (gS rfl (gS rfl (gS rfl (gS rfl (gS rfl (gS rfl g0)))))) (gS rfl (gS rfl (gS rfl (gS rfl (gS rfl g0))))) g0 (fun g => ?_)
      refine c_seq (fun K23 hK23 => ?_)
      refine c_seq (fun K24 hK24 => ?_)
      refine c_region ?_
      refine l_step (y_moveV (et (gS rfl g0) rfl)) ?_
      refine l_step (y_eql (et g0 rfl) rfl) ?_
      refine l_nil ?_
      refine hK24 _ _ ?_
      refine fg4 2 0 9 31 (gS rfl (gS rfl (gS rfl (gS rfl g0)))) (gS rfl (gS rfl (gS rfl g0))) (gS rfl (gS rfl g0)) g0 (fun g => ?_)
      refine c_false (et g0 rfl) (by rfl) ?_
      refine c_skip ?_
      refine hK23 _ _ ?_
      refine fg3 2 0 9 (gS rfl (gS rfl (gS rfl g0))) (gS rfl (gS rfl g0)) (gS rfl g0) (fun g => ?_)
      refine c_seq (fun K26 hK26 => ?_)
      refine c_seq (fun K27 hK27 => ?_)
      refine c_region ?_
      refine l_step (y_moveV (et (gS rfl g0) rfl)) ?_
      refine l_step (y_eql (et g0 rfl) rfl) ?_
      refine l_step (y_moveV (et g0 rfl)) ?_
      refine gsplitL (i := 38) g0 (fun q28 => ?_) (fun q28 => ?_)
      · skip
        exact absurd q28 (by decide)
      · skip
        refine l_gskip (j := 2) (t := 38) (by exact rfl) (by exact rfl) (et g0 rfl) (by decide) (by decide) ?_
        refine l_gskip (j := 2) (t := 38) (by exact rfl) (by exact rfl) (et (gS rfl g0) rfl) (by decide) (by decide) ?_
        refine l_step (y_pickF (et (gS rfl (gS rfl g0)) rfl) rfl) ?_
        refine l_nil ?_
        refine hK27 _ _ ?_
        refine fg3 2 9 41 (gS rfl (gS rfl (gS rfl (gS rfl (gS rfl (gS rfl (gS rfl (gS rfl (gS rfl g0))))))))) (gS rfl (gS rfl (gS rfl (gS rfl (gS rfl (gS rfl (gS rfl g0))))))) g0 (fun g => ?_)
        refine c_false (et g0 rfl) rfl ?_
        refine c_skip ?_
        refine hK26 _ _ ?_
        refine fg2 2 9 (gS rfl (gS rfl g0)) (gS rfl g0) (fun g => ?_)
        refine c_seq (fun K30 hK30 => ?_)
        refine c_region ?_
        refine l_step (y_moveV (et (gS rfl g0) rfl)) ?_
        refine l_step (y_moveV (et (gS rfl g0) rfl)) ?_
        refine l_eff (e_callV cal_155 (aC (et (gS rfl g0) rfl) (aC (et g0 rfl) aN)) (nat_divmod hF h2 n22 (bd_sm s2 (by decide)) (bd_sm q22 (by decide)))) (fun v31 w31 h31 => ?_)
        obtain ⟨z31, y31, H31, rfl, g31, n31, m31⟩ := h31
        have hlew31 := g31.le
        replace h1 := h1.mono hlew31
        replace h2 := h2.mono hlew31
        replace n22 := n22.mono hlew31
        replace U := U.tr g31.up
        replace G := G.tr g31
        replace hF := g31.fz
        have q31 := bd_div' n31 s2
        have p31 := bd_mod' m31 q22
        refine l_step (y_moveV (et g0 rfl)) ?_
        refine l_step (y_ext (et g0 rfl) rfl) ?_
        refine l_step (y_ext (et (gS rfl g0) rfl) rfl) ?_
        refine l_step (y_ext (et (gS rfl (gS rfl g0)) rfl) rfl) ?_
        refine l_step (y_assignV (et (gS rfl (gS rfl g0)) rfl)) ?_
        refine l_step (y_assignV (et (gS rfl (gS rfl g0)) rfl)) ?_
        refine l_step (y_assignV (et (gS rfl (gS rfl g0)) rfl)) ?_
        refine l_nil ?_
        refine hK30 _ _ ?_
        refine fg1 13 (gS rfl (gS rfl g0)) (fun g => ?_)
        refine c_seq (fun K32 hK32 => ?_)
        refine c_region ?_
        refine l_step (y_moveV (et g0 rfl)) ?_
        refine l_step (y_assignV (et g0 rfl)) ?_
        refine l_nil ?_
        refine hK32 _ _ ?_
        refine fg1 6 g0 (fun g => ?_)
        refine c_ret ?_
        refine ret1 rfl (res_tmp (et g0 rfl)) ?_
        exact ⟨_, G, n31.to (by rw [eShr, hmin])⟩
    · skip
      
      have hmin : min x 256 = x := by have := of_decide_eq_false cB1; omega
      refine c_skip ?_
      refine hK4 _ _ ?_
      refine fg3 2 0 7 (gS rfl (gS rfl (gS rfl g0))) (gS rfl (gS rfl g0)) (gS rfl g0) (fun g => ?_)
      refine c_seq (fun K33 hK33 => ?_)
      refine c_region ?_
      refine l_step (y_moveV (et g0 rfl)) ?_
      refine l_step (y_conv Hvaa.underlying26 Hvaa.underlying67 (et g0 rfl) (wrapU_id uk16 ?_)) ?_
      omega
      refine l_eff (e_callV cal_396 (aC (et g0 rfl) aN) (nat_pow2 hF _ (Nat.lt_of_le_of_lt (m := 256) (by omega) (by decide)))) (fun v34 w34 h34 => ?_)
      obtain ⟨H34, g34, n34⟩ := h34
      have hlew34 := g34.le
      replace h1 := h1.mono hlew34
      replace h2 := h2.mono hlew34
      replace U := U.tr g34.up
      replace G := G.tr g34
      replace hF := g34.fz
      have q34 := bd_pow2 n34 (by omega)
      refine l_step (y_assignV (et g0 rfl)) ?_
      refine l_nil ?_
      refine hK33 _ _ ?_
      refine fg3 2 0 9 (gS rfl (gS rfl (gS rfl (gS rfl (gS rfl (gS rfl g0)))))) (gS rfl (gS rfl (gS rfl (gS rfl (gS rfl g0))))) g0 (fun g => ?_)
      refine c_seq (fun K35 hK35 => ?_)
      refine c_seq (fun K36 hK36 => ?_)
      refine c_region ?_
      refine l_step (y_moveV (et (gS rfl g0) rfl)) ?_
      refine l_step (y_eql (et g0 rfl) rfl) ?_
      refine l_nil ?_
      refine hK36 _ _ ?_
      refine fg4 2 0 9 31 (gS rfl (gS rfl (gS rfl (gS rfl g0)))) (gS rfl (gS rfl (gS rfl g0))) (gS rfl (gS rfl g0)) g0 (fun g => ?_)
      refine c_false (et g0 rfl) (by rfl) ?_
      refine c_skip ?_
      refine hK35 _ _ ?_
      refine fg3 2 0 9 (gS rfl (gS rfl (gS rfl g0))) (gS rfl (gS rfl g0)) (gS rfl g0) (fun g => ?_)
      refine c_seq (fun K38 hK38 => ?_)
      refine c_seq (fun K39 hK39 => ?_)
      refine c_region ?_
      refine l_step (y_moveV (et (gS rfl g0) rfl)) ?_
      refine l_step (y_eql (et g0 rfl) rfl) ?_
      refine l_step (y_moveV (et g0 rfl)) ?_
      refine gsplitL (i := 38) g0 (fun q40 => ?_) (fun q40 => ?_)
      · skip
        exact absurd q40 (by decide)
      · skip
        refine l_gskip (j := 2) (t := 38) (by exact rfl) (by exact rfl) (et g0 rfl) (by decide) (by decide) ?_
        refine l_gskip (j := 2) (t := 38) (by exact rfl) (by exact rfl) (et (gS rfl g0) rfl) (by decide) (by decide) ?_
        refine l_step (y_pickF (et (gS rfl (gS rfl g0)) rfl) rfl) ?_
        refine l_nil ?_
        refine hK39 _ _ ?_
        refine fg3 2 9 41 (gS rfl (gS rfl (gS rfl (gS rfl (gS rfl (gS rfl (gS rfl (gS rfl (gS rfl g0))))))))) (gS rfl (gS rfl (gS rfl (gS rfl (gS rfl (gS rfl (gS rfl g0))))))) g0 (fun g => ?_)
        refine c_false (et g0 rfl) rfl ?_
        refine c_skip ?_
        refine hK38 _ _ ?_
        refine fg2 2 9 (gS rfl (gS rfl g0)) (gS rfl g0) (fun g => ?_)
        refine c_seq (fun K42 hK42 => ?_)
        refine c_region ?_
        refine l_step (y_moveV (et (gS rfl g0) rfl)) ?_
        refine l_step (y_moveV (et (gS rfl g0) rfl)) ?_
        refine l_eff (e_callV cal_155 (aC (et (gS rfl g0) rfl) (aC (et g0 rfl) aN)) (nat_divmod hF h2 n34 (bd_sm s2 (by decide)) (bd_sm q34 (by decide)))) (fun v43 w43 h43 => ?_)
        obtain ⟨z43, y43, H43, rfl, g43, n43, m43⟩ := h43
        have hlew43 := g43.le
        replace h1 := h1.mono hlew43
        replace h2 := h2.mono hlew43
        replace n34 := n34.mono hlew43
        replace U := U.tr g43.up
        replace G := G.tr g43
        replace hF := g43.fz
        have q43 := bd_div' n43 s2
        have p43 := bd_mod' m43 q34
        refine l_step (y_moveV (et g0 rfl)) ?_
        refine l_step (y_ext (et g0 rfl) rfl) ?_
        refine l_step (y_ext (et (gS rfl g0) rfl) rfl) ?_
        refine l_step (y_ext (et (gS rfl (gS rfl g0)) rfl) rfl) ?_
        refine l_step (y_assignV (et (gS rfl (gS rfl g0)) rfl)) ?_
        refine l_step (y_assignV (et (gS rfl (gS rfl g0)) rfl)) ?_
        refine l_step (y_assignV (et (gS rfl (gS rfl g0)) rfl)) ?_
        refine l_nil ?_
        refine hK42 _ _ ?_
        refine fg1 13 (gS rfl (gS rfl g0)) (fun g => ?_)
        refine c_seq (fun K44 hK44 => ?_)
        refine c_region ?_
        refine l_step (y_moveV (et g0 rfl)) ?_
        refine l_step (y_assignV (et g0 rfl)) ?_
        refine l_nil ?_
        refine hK44 _ _ ?_
        refine fg1 6 g0 (fun g => ?_)
        refine c_ret ?_
        refine ret1 rfl (res_tmp (et g0 rfl)) ?_
        exact ⟨_, G, n43.to (by rw [eShr, hmin])⟩
theorem sar_pos {x y m : Nat} (h : neg y = false) (hm : min x 256 = m) : y / 2 ^ m = eSar x y := by
  unfold neg at h
  have := of_decide_eq_false h
  rw [eSar, if_pos (by omega), hm]
theorem sar_neg {x y m : Nat} (h : neg y = true) (hm : min x 256 = m) : bwN 25 (bwN 25 y 0 / 2 ^ m) 0 = eSar x y := by
  unfold neg at h
  have := of_decide_eq_true h
  rw [eSar, if_neg (by omega), hm]; rfl
theorem yp_sar {w : World} {H : Store} {v1 v2 : Value} {x y : Nat} (hF : Fz w H) (h1 : NV H v1 x) (h2 : NV H v2 y) (s1 : x < 256 ^ 32) (s2 : y < 256 ^ 32) :
    Ret 348 [.int .u8 29, v1, v2] w (fun v w' => ∃ H', Go No w H w' H' ∧ NV H' v (eSar x y)) := by
  refine enter (n := 60) Hvaa.func348 rfl rfl (Nat.le_of_ble_eq_true rfl) ?_
  have U := Up.refl w
  have G : Go (No) w H w H := Go.refl hF
  refine c_seq (fun K1 hK1 => ?_)
  refine c_region ?_
  refine l_step y_assignC ?_
  refine l_nil ?_
  refine hK1 _ _ ?_
  refine fg3 2 1 0 (gS rfl (gS rfl (gS rfl g0))) (gS rfl (gS rfl g0)) (gS rfl g0) (fun g => ?_)
  refine c_seq (fun K2 hK2 => ?_)
  refine c_region ?_
  refine l_step (y_moveV (et (gS rfl g0) rfl)) ?_
  refine l_eff (e_callV cal_80 (aC (et g0 rfl) aN) (nat_u64 hF h1 (bd_sm s1 (by decide)))) (fun v3 w3 h3 => ?_)
  obtain ⟨rfl, u3⟩ := h3
  replace G := G.tr (Go.ofUp hF u3)
  replace hF := hF.up u3
  replace U := U.tr u3
  refine l_step (y_moveV (et g0 rfl)) ?_
  refine l_step (y_ext (et g0 rfl) rfl) ?_
  refine l_step (y_ext (et (gS rfl g0) rfl) rfl) ?_
  refine l_step (y_assignV (et (gS rfl g0) rfl)) ?_
  refine l_step (y_assignV (et (gS rfl g0) rfl)) ?_
  refine l_nil ?_
  refine hK2 _ _ ?_
  refine fg4 2 0 7 8 (gS rfl (gS rfl (gS rfl (gS rfl (gS rfl (gS rfl (gS rfl (gS rfl (gS rfl g0))))))))) (gS rfl (gS rfl (gS rfl (gS rfl (gS rfl (gS rfl (gS rfl g0))))))) (gS rfl g0) g0 (fun g => ?_)
  refine c_seq (fun K4 hK4 => ?_)
  refine c_seq (fun K5 hK5 => ?_)
  refine c_region ?_
  refine l_step (y_moveV (et g0 rfl)) ?_
  refine l_step (y_not (et g0 rfl)) ?_
  refine l_step (y_moveV (et g0 rfl)) ?_
  refine gsplitL (i := 23) g0 (fun q6 => ?_) (fun q6 => ?_)
  · skip
    have c14 : ¬ x < 18446744073709551616 := by simpa using q6
    refine l_gskip (j := 2) (t := 23) (by exact rfl) (by exact rfl) (et g0 rfl) (by decide) (by decide) ?_
    refine l_gskip (j := 2) (t := 23) (by exact rfl) (by exact rfl) (et (gS rfl g0) rfl) (by decide) (by decide) ?_
    refine l_step (y_pickT (et (gS rfl (gS rfl g0)) rfl) rfl) ?_
    refine l_nil ?_
    refine hK5 _ _ ?_
    refine fg4 2 0 7 26 (gS rfl (gS rfl (gS rfl (gS rfl (gS rfl (gS rfl (gS rfl (gS rfl (gS rfl (gS rfl g0)))))))))) (gS rfl (gS rfl (gS rfl (gS rfl (gS rfl (gS rfl (gS rfl (gS rfl (gS rfl g0))))))))) (gS rfl (gS rfl (gS rfl (gS rfl (gS rfl (gS rfl (gS rfl (gS rfl g0)))))))) g0 (fun g => ?_)
    have hmin : min x 256 = 256 := by omega
    refine c_true (et g0 rfl) rfl ?_
    refine c_region ?_
    refine l_step y_assignC ?_
    refine l_nil ?_
    refine hK4 _ _ ?_
    refine fg3 2 0 7 (gS rfl (gS rfl (gS rfl (gS rfl g0)))) (gS rfl (gS rfl (gS rfl g0))) g0 (fun g => ?_)
    refine c_seq (fun K8 hK8 => ?_)
    refine c_region ?_
    refine l_step (y_moveV (et g0 rfl)) ?_
    refine l_step (y_conv Hvaa.underlying26 Hvaa.underlying67 (et g0 rfl) ((wrapU_id (a := 256) uk16 (by decide)))) ?_
    refine l_eff (e_callV cal_396 (aC (et g0 rfl) aN) (nat_pow2 hF _ (Nat.lt_of_le_of_lt (m := 256) (by omega) (by decide)))) (fun v9 w9 h9 => ?_)
    obtain ⟨H9, g9, n9⟩ := h9
    have hlew9 := g9.le
    replace h1 := h1.mono hlew9
    replace h2 := h2.mono hlew9
    replace U := U.tr g9.up
    replace G := G.tr g9
    replace hF := g9.fz
    have q9 := bd_pow2 n9 (by omega)
    refine l_step (y_assignV (et g0 rfl)) ?_
    refine l_nil ?_
    refine hK8 _ _ ?_
    refine fg3 2 0 9 (gS rfl (gS rfl (gS rfl (gS rfl (gS rfl (gS rfl g0)))))) (gS rfl (gS rfl (gS rfl (gS rfl (gS rfl g0))))) g0 (fun g => ?_)
    refine c_seq (fun K10 hK10 => ?_)
    refine c_seq (fun K11 hK11 => ?_)
    refine c_region ?_
    refine l_step (y_moveV (et (gS rfl g0) rfl)) ?_
    refine l_step (y_eql (et g0 rfl) rfl) ?_
    refine l_nil ?_
    refine hK11 _ _ ?_
    refine fg4 2 0 9 31 (gS rfl (gS rfl (gS rfl (gS rfl g0)))) (gS rfl (gS rfl (gS rfl g0))) (gS rfl (gS rfl g0)) g0 (fun g => ?_)
    refine c_false (et g0 rfl) (by rfl) ?_
    refine c_skip ?_
    refine hK10 _ _ ?_
    refine fg3 2 0 9 (gS rfl (gS rfl (gS rfl g0))) (gS rfl (gS rfl g0)) (gS rfl g0) (fun g => ?_)
    refine c_seq (fun K13 hK13 => ?_)
    refine c_seq (fun K14 hK14 => ?_)
    refine c_region ?_
    refine l_step (y_moveV (et (gS rfl g0) rfl)) ?_
    refine l_step (y_eql (et g0 rfl) rfl) ?_
    refine l_step (y_moveV (et g0 rfl)) ?_
    refine gsplitL (i := 38) g0 (fun q15 => ?_) (fun q15 => ?_)
    · skip
      refine l_gstep (j := 2) (t := 38) (by exact rfl) (by exact rfl) (et g0 rfl) (by decide) (y_moveV (et (gS rfl (gS rfl (gS rfl (gS rfl (gS rfl (gS rfl g0)))))) rfl)) ?_
      refine l_geff (j := 2) (t := 38) (by exact rfl) (by exact rfl) (et (gS rfl g0) rfl) rfl (e_callV cal_341 (aC (et g0 rfl) aN) (yp_isNeg hF h2 (bd_up s2 (by decide)))) (fun v16 w16 h16 => ?_)
      obtain ⟨rfl, u16⟩ := h16
      replace G := G.tr (Go.ofUp hF u16)
      replace hF := hF.up u16
      replace U := U.tr u16
      refine l_step (y_pickT (et (gS rfl (gS rfl g0)) rfl) (et g0 rfl)) ?_
      refine l_nil ?_
      refine hK14 _ _ ?_
      refine fg3 2 9 41 (gS rfl (gS rfl (gS rfl (gS rfl (gS rfl (gS rfl (gS rfl (gS rfl (gS rfl g0))))))))) (gS rfl (gS rfl (gS rfl (gS rfl (gS rfl (gS rfl (gS rfl g0))))))) g0 (fun g => ?_)
      refine c_cond (et g0 rfl) (fun cB3 => ?_) (fun cB3 => ?_)
      · skip
        
        refine c_seq (fun K18 hK18 => ?_)
        refine c_region ?_
        refine l_step (y_moveV (et (gS rfl (gS rfl g0)) rfl)) ?_
        refine l_eff (e_callV cal_346 (aC (v := .int .u8 ((25 : Nat) : Int)) rfl (aC (et g0 rfl) (aC rfl aN))) (yp_bitwise 25 (by decide) hF h2 (NV.nil _) (bd_up s2 (by decide)) (bd_up bd_zero (by decide)))) (fun v19 w19 h19 => ?_)
        obtain ⟨H19, g19, n19⟩ := h19
        have hlew19 := g19.le
        replace h1 := h1.mono hlew19
        replace h2 := h2.mono hlew19
        replace n9 := n9.mono hlew19
        replace U := U.tr g19.up
        replace G := G.tr g19
        replace hF := g19.fz
        have q19 := bd_bw n19 (bd_up (b := 32) s2 (by decide)) (bd_up (b := 32) bd_zero (by decide))
        refine l_step (y_moveV (et (gS rfl (gS rfl (gS rfl g0))) rfl)) ?_
        refine l_eff (e_callV cal_155 (aC (et (gS rfl g0) rfl) (aC (et g0 rfl) aN)) (nat_divmod hF n19 n9 (bd_sm q19 (by decide)) (bd_sm q9 (by decide)))) (fun v20 w20 h20 => ?_)
        obtain ⟨z20, y20, H20, rfl, g20, n20, m20⟩ := h20
        have hlew20 := g20.le
        replace h1 := h1.mono hlew20
        replace h2 := h2.mono hlew20
        replace n9 := n9.mono hlew20
        replace n19 := n19.mono hlew20
        replace U := U.tr g20.up
        replace G := G.tr g20
        replace hF := g20.fz
        have q20 := bd_div' n20 q19
        have p20 := bd_mod' m20 q9
        refine l_step (y_moveV (et g0 rfl)) ?_
        refine l_step (y_ext (et g0 rfl) rfl) ?_
        refine l_step (y_ext (et (gS rfl g0) rfl) rfl) ?_
        refine l_step (y_ext (et (gS rfl (gS rfl g0)) rfl) rfl) ?_
        refine l_step (y_assignV (et (gS rfl (gS rfl g0)) rfl)) ?_
        refine l_step (y_assignV (et (gS rfl (gS rfl g0)) rfl)) ?_
        refine l_step (y_assignV (et (gS rfl (gS rfl g0)) rfl)) ?_
        refine l_nil ?_
        refine hK18 _ _ ?_
        refine fg1 10 (gS rfl (gS rfl g0)) (fun g => ?_)
        refine c_seq (fun K21 hK21 => ?_)
        refine c_region ?_
        refine l_step (y_moveV (et g0 rfl)) ?_
        refine l_eff (e_callV cal_346 (aC (v := .int .u8 ((25 : Nat) : Int)) rfl (aC (et g0 rfl) (aC rfl aN))) (yp_bitwise 25 (by decide) hF n20 (NV.nil _) (bd_up q20 (by decide)) (bd_up bd_zero (by decide)))) (fun v22 w22 h22 => ?_)
        obtain ⟨H22, g22, n22⟩ := h22
        have hlew22 := g22.le
        replace h1 := h1.mono hlew22
        replace h2 := h2.mono hlew22
        replace n9 := n9.mono hlew22
        replace n19 := n19.mono hlew22
        replace n20 := n20.mono hlew22
        replace m20 := m20.mono hlew22
        replace U := U.tr g22.up
        replace G := G.tr g22
        replace hF := g22.fz
        have q22 := bd_bw n22 (bd_up (b := 32) q20 (by decide)) (bd_up (b := 32) bd_zero (by decide))
        refine l_step (y_assignV (et g0 rfl)) ?_
        refine l_nil ?_
        refine hK21 _ _ ?_
        refine fg1 6 g0 (fun g => ?_)
        refine c_ret ?_
        refine ret1 rfl (res_tmp (et g0 rfl)) ?_
        first | exact ⟨_, G, n22.to (sar_neg cB3 hmin)⟩ | exact ⟨_, G, n22.to (sar_pos cB3 hmin)⟩
      · skip
        
        refine c_skip ?_
        refine hK13 _ _ ?_
        refine fg2 2 9 (gS rfl (gS rfl g0)) (gS rfl g0) (fun g => ?_)
        refine c_seq (fun K23 hK23 => ?_)
        refine c_region ?_
        refine l_step (y_moveV (et (gS rfl g0) rfl)) ?_
        refine l_step (y_moveV (et (gS rfl g0) rfl)) ?_
        refine l_eff (e_callV cal_155 (aC (et (gS rfl g0) rfl) (aC (et g0 rfl) aN)) (nat_divmod hF h2 n9 (bd_sm s2 (by decide)) (bd_sm q9 (by decide)))) (fun v24 w24 h24 => ?_)
        obtain ⟨z24, y24, H24, rfl, g24, n24, m24⟩ := h24
        have hlew24 := g24.le
        replace h1 := h1.mono hlew24
        replace h2 := h2.mono hlew24
        replace n9 := n9.mono hlew24
        replace U := U.tr g24.up
        replace G := G.tr g24
        replace hF := g24.fz
        have q24 := bd_div' n24 s2
        have p24 := bd_mod' m24 q9
        refine l_step (y_moveV (et g0 rfl)) ?_
        refine l_step (y_ext (et g0 rfl) rfl) ?_
        refine l_step (y_ext (et (gS rfl g0) rfl) rfl) ?_
        refine l_step (y_ext (et (gS rfl (gS rfl g0)) rfl) rfl) ?_
        refine l_step (y_assignV (et (gS rfl (gS rfl g0)) rfl)) ?_
        refine l_step (y_assignV (et (gS rfl (gS rfl g0)) rfl)) ?_
        refine l_step (y_assignV (et (gS rfl (gS rfl g0)) rfl)) ?_
        refine l_nil ?_
        refine hK23 _ _ ?_
        refine fg1 13 (gS rfl (gS rfl g0)) (fun g => ?_)
        refine c_seq (fun K25 hK25 => ?_)
        refine c_region ?_
        refine l_step (y_moveV (et g0 rfl)) ?_
        refine l_step (y_assignV (et g0 rfl)) ?_
        refine l_nil ?_
        refine hK25 _ _ ?_
        refine fg1 6 g0 (fun g => ?_)
        refine c_ret ?_
        refine ret1 rfl (res_tmp (et g0 rfl)) ?_
        first | exact ⟨_, G, n24.to (sar_neg cB3 hmin)⟩ | exact ⟨_, G, n24.to (sar_pos cB3 hmin)⟩
    · skip
      exact absurd q15 (by decide)
  · skip
    have c14 : x < 18446744073709551616 := by simpa using q6
    have el : lo64 x = x := by rw [lo64, if_pos c14]
    rw [el]
    refine l_gstep (j := 2) (t := 23) (by exact rfl) (by exact rfl) (et g0 rfl) (by decide) (y_moveV (et (gS rfl (gS rfl (gS rfl (gS rfl (gS rfl g0))))) rfl)) ?_
    refine l_gstep (j := 2) (t := 23) (by exact rfl) (by exact rfl) (et (gS rfl g0) rfl) (by decide) (y_gtr (et g0 rfl) rfl) ?_
    refine l_step (y_pickF (et (gS rfl (gS rfl g0)) rfl) (et g0 rfl)) ?_
    refine l_nil ?_
    refine hK5 _ _ ?_
    refine fg4 2 0 7 26 (gS rfl (gS rfl (gS rfl (gS rfl (gS rfl (gS rfl (gS rfl (gS rfl (gS rfl (gS rfl g0)))))))))) (gS rfl (gS rfl (gS rfl (gS rfl (gS rfl (gS rfl (gS rfl (gS rfl (gS rfl g0))))))))) (gS rfl (gS rfl (gS rfl (gS rfl (gS rfl (gS rfl (gS rfl (gS rfl g0)))))))) g0 (fun g => ?_)
    refine c_cond (et g0 rfl) (fun cB1 => ?_) (fun cB1 => ?_)
    · skip
      
      have hmin : min x 256 = 256 := by first | omega | (have := of_decide_eq_true cB1; omega)
      refine c_region ?_
      refine l_step y_assignC ?_
      refine l_nil ?_
      refine hK4 _ _ ?_
      refine fg3 2 0 7 (gS rfl (gS rfl (gS rfl (gS rfl g0)))) (gS rfl (gS rfl (gS rfl g0))) g0 (fun g => ?_)
      refine c_seq (fun K27 hK27 => ?_)
      refine c_region ?_
      refine l_step (y_moveV (et g0 rfl)) ?_
      refine l_step (y_conv Hvaa.underlying26 Hvaa.underlying67 (et g0 rfl) ((wrapU_id (a := 256) uk16 (by decide)))) ?_
      refine l_eff (e_callV cal_396 (aC (et g0 rfl) aN) (nat_pow2 hF _ (Nat.lt_of_le_of_lt (m := 256) (by omega) (by decide)))) (fun v28 w28 h28 => ?_)
      obtain ⟨H28, g28, n28⟩ := h28
      have hlew28 := g28.le
      replace h1 := h1.mono hlew28
      replace h2 := h2.mono hlew28
      replace U := U.tr g28.up
      replace G := G.tr g28
      replace hF := g28.fz
      have q28 := bd_pow2 n28 (by omega)
      refine l_step (y_assignV (et g0 rfl)) ?_
      refine l_nil ?_
      refine hK27 _ _ ?_
      refine fg3 2 0 9 (gS rfl (gS rfl (gS rfl (gS rfl (gS rfl (gS rfl g0)))))) (gS rfl (gS rfl (gS rfl (gS rfl (gS rfl g0))))) g0 (fun g => ?_)
      refine c_seq (fun K29 hK29 => ?_)
      refine c_seq (fun K30 hK30 => ?_)
      refine c_region ?_
      refine l_step (y_moveV (et (gS rfl g0) rfl)) ?_
      refine l_step (y_eql (et g0 rfl) rfl) ?_
      refine l_nil ?_
      refine hK30 _ _ ?_
      refine fg4 2 0 9 31 (gS rfl (gS rfl (gS rfl (gS rfl g0)))) (gS rfl (gS rfl (gS rfl g0))) (gS rfl (gS rfl g0)) g0 (fun g => ?_)
      refine c_false (et g0 rfl) (by rfl) ?_
      refine c_skip ?_
      refine hK29 _ _ ?_
      refine fg3 2 0 9 (gS rfl (gS rfl (gS rfl g0))) (gS rfl (gS rfl g0)) (gS rfl g0) (fun g => ?_)
      refine c_seq (fun K32 hK32 => ?_)
      refine c_seq (fun K33 hK33 => ?_)
      refine c_region ?_
      refine l_step (y_moveV (et (gS rfl g0) rfl)) ?_
      refine l_step (y_eql (et g0 rfl) rfl) ?_
      refine l_step (y_moveV (et g0 rfl)) ?_
      refine gsplitL (i := 38) g0 (fun q34 => ?_) (fun q34 => ?_)
      · skip
        refine l_gstep (j := 2) (t := 38) (by exact rfl) (by exact rfl) (et g0 rfl) (by decide) (y_moveV (et (gS rfl (gS rfl (gS rfl (gS rfl (gS rfl (gS rfl g0)))))) rfl)) ?_
        refine l_geff (j := 2) (t := 38) (by exact rfl) (by exact rfl) (et (gS rfl g0) rfl) rfl (e_callV cal_341 (aC (et g0 rfl) aN) (yp_isNeg hF h2 (bd_up s2 (by decide)))) (fun v35 w35 h35 => ?_)
        obtain ⟨rfl, u35⟩ := h35
        replace G := G.tr (Go.ofUp hF u35)
        replace hF := hF.up u35
        replace U := U.tr u35
        refine l_step (y_pickT (et (gS rfl (gS rfl g0)) rfl) (et g0 rfl)) ?_
        refine l_nil ?_
        refine hK33 _ _ ?_
        refine fg3 2 9 41 (gS rfl (gS rfl (gS rfl (gS rfl (gS rfl (gS rfl (gS rfl (gS rfl (gS rfl g0))))))))) (gS rfl (gS rfl (gS rfl (gS rfl (gS rfl (gS rfl (gS rfl g0))))))) g0 (fun g => ?_)
        refine c_cond (et g0 rfl) (fun cB3 => ?_) (fun cB3 => ?_)
        · skip
          
          refine c_seq (fun K37 hK37 => ?_)
          refine c_region ?_
          refine l_step (y_moveV (et (gS rfl (gS rfl g0)) rfl)) ?_
          refine l_eff (e_callV cal_346 (aC (v := .int .u8 ((25 : Nat) : Int)) rfl (aC (et g0 rfl) (aC rfl aN))) (yp_bitwise 25 (by decide) hF h2 (NV.nil _) (bd_up s2 (by decide)) (bd_up bd_zero (by decide)))) (fun v38 w38 h38 => ?_)
          obtain ⟨H38, g38, n38⟩ := h38
          have hlew38 := g38.le
          replace h1 := h1.mono hlew38
          replace h2 := h2.mono hlew38
          replace n28 := n28.mono hlew38
          replace U := U.tr g38.up
          replace G := G.tr g38
          replace hF := g38.fz
          have q38 := bd_bw n38 (bd_up (b := 32) s2 (by decide)) (bd_up (b := 32) bd_zero (by decide))
          refine l_step (y_moveV (et (gS rfl (gS rfl (gS rfl g0))) rfl)) ?_
          refine l_eff (e_callV cal_155 (aC (et (gS rfl g0) rfl) (aC (et g0 rfl) aN)) (nat_divmod hF n38 n28 (bd_sm q38 (by decide)) (bd_sm q28 (by decide)))) (fun v39 w39 h39 => ?_)
          obtain ⟨z39, y39, H39, rfl, g39, n39, m39⟩ := h39
          have hlew39 := g39.le
          replace h1 := h1.mono hlew39
          replace h2 := h2.mono hlew39
          replace n28 := n28.mono hlew39
          replace n38 := n38.mono hlew39
          replace U := U.tr g39.up
          replace G := G.tr g39
          replace hF := g39.fz
          have q39 := bd_div' n39 q38
          have p39 := bd_mod' m39 q28
          refine l_step (y_moveV (et g0 rfl)) ?_
          refine l_step (y_ext (et g0 rfl) rfl) ?_
          refine l_step (y_ext (et (gS rfl g0) rfl) rfl) ?_
          refine l_step (y_ext (et (gS rfl (gS rfl g0)) rfl) rfl) ?_
          refine l_step (y_assignV (et (gS rfl (gS rfl g0)) rfl)) ?_
          refine l_step (y_assignV (et (gS rfl (gS rfl g0)) rfl)) ?_
          refine l_step (y_assignV (et (gS rfl (gS rfl g0)) rfl)) ?_
          refine l_nil ?_
          refine hK37 _ _ ?_
          refine fg1 10 (gS rfl (gS rfl g0)) (fun g => ?_)
          refine c_seq (fun K40 hK40 => ?_)
          refine c_region ?_
          refine l_step (y_moveV (et g0 rfl)) ?_
          refine l_eff (e_callV cal_346 (aC (v := .int .u8 ((25 : Nat) : Int)) rfl (aC (et g0 rfl) (aC rfl aN))) (yp_bitwise 25 (by decide) hF n39 (NV.nil _) (bd_up q39 (by decide)) (bd_up bd_zero (by decide)))) (fun v41 w41 h41 => ?_)
          obtain ⟨H41, g41, n41⟩ := h41
          have hlew41 := g41.le
          replace h1 := h1.mono hlew41
          replace h2 := h2.mono hlew41
          replace n28 := n28.mono hlew41
          replace n38 := n38.mono hlew41
          replace n39 := n39.mono hlew41
          replace m39 := m39.mono hlew41
          replace U := U.tr g41.up
          replace G := G.tr g41
          replace hF := g41.fz
          have q41 := bd_bw n41 (bd_up (b := 32) q39 (by decide)) (bd_up (b := 32) bd_zero (by decide))
          refine l_step (y_assignV (et g0 rfl)) ?_
          refine l_nil ?_
          refine hK40 _ _ ?_
          refine fg1 6 g0 (fun g => ?_)
          refine c_ret ?_
          refine ret1 rfl (res_tmp (et g0 rfl)) ?_
          first | exact ⟨_, G, n41.to (sar_neg cB3 hmin)⟩ | exact ⟨_, G, n41.to (sar_pos cB3 hmin)⟩
        · skip
          
          refine c_skip ?_
          refine hK32 _ _ ?_
          refine fg2 2 9 (gS rfl (gS rfl g0)) (gS rfl g0) (fun g => ?_)
          refine c_seq (fun K42 hK42 => ?_)
          refine c_region ?_
          refine l_step (y_moveV (et (gS rfl g0) rfl)) ?_
          refine l_step (y_moveV (et (gS rfl g0) rfl)) ?_
          refine l_eff (e_callV cal_155 (aC (et (gS rfl g0) rfl) (aC (et g0 rfl) aN)) (nat_divmod hF h2 n28 (bd_sm s2 (by decide)) (bd_sm q28 (by decide)))) (fun v43 w43 h43 => ?_)
          obtain ⟨z43, y43, H43, rfl, g43, n43, m43⟩ := h43
          have hlew43 := g43.le
          replace h1 := h1.mono hlew43
          replace h2 := h2.mono hlew43
          replace n28 := n28.mono hlew43
          replace U := U.tr g43.up
          replace G := G.tr g43
          replace hF := g43.fz
          have q43 := bd_div' n43 s2
          have p43 := bd_mod' m43 q28
          refine l_step (y_moveV (et g0 rfl)) ?_
          refine l_step (y_ext (et g0 rfl) rfl) ?_
          refine l_step (y_ext (et (gS rfl g0) rfl) rfl) ?_
          refine l_step (y_ext (et (gS rfl (gS rfl g0)) rfl) rfl) ?_
          refine l_step (y_assignV (et (gS rfl (gS rfl g0)) rfl)) ?_
          refine l_step (y_assignV (et (gS rfl (gS rfl g0)) rfl)) ?_
          refine l_step (y_assignV (et (gS rfl (gS rfl g0)) rfl)) ?_
          refine l_nil ?_
          refine hK42 _ _ ?_
          refine fg1 13 (gS rfl (gS rfl g0)) (fun g => ?_)
          refine c_seq (fun K44 hK44 => ?_)
          refine c_region ?_
          refine l_step (y_moveV (et g0 rfl)) ?_
          refine l_step (y_assignV (et g0 rfl)) ?_
          refine l_nil ?_
          refine hK44 _ _ ?_
          refine fg1 6 g0 (fun g => ?_)
          refine c_ret ?_
          refine ret1 rfl (res_tmp (et g0 rfl)) ?_
          first | exact ⟨_, G, n43.to (sar_neg cB3 hmin)⟩ | exact ⟨_, G, n43.to (sar_pos cB3 hmin)⟩
      · skip
        exact absurd q34 (by decide)
    · skip
      
      have hmin : min x 256 = x := by have := of_decide_eq_false cB1; omega
      refine c_skip ?_
      refine hK4 _ _ ?_
      refine fg3 2 0 7 (gS rfl (gS rfl (gS rfl g0))) (gS rfl (gS rfl g0)) (gS rfl g0) (fun g => ?_)
      refine c_seq (fun K45 hK45 => ?_)
      refine c_region ?_
      refine l_step (y_moveV (et g0 rfl)) ?_
      refine l_step (y_conv Hvaa.underlying26 Hvaa.underlying67 (et g0 rfl) (wrapU_id uk16 ?_)) ?_
      omega
      refine l_eff (e_callV cal_396 (aC (et g0 rfl) aN) (nat_pow2 hF _ (Nat.lt_of_le_of_lt (m := 256) (by omega) (by decide)))) (fun v46 w46 h46 => ?_)
      obtain ⟨H46, g46, n46⟩ := h46
      have hlew46 := g46.le
      replace h1 := h1.mono hlew46
      replace h2 := h2.mono hlew46
      replace U := U.tr g46.up
      replace G := G.tr g46
      replace hF := g46.fz
      have q46 := bd_pow2 n46 (by omega)
      refine l_step (y_assignV (et g0 rfl)) ?_
      refine l_nil ?_
      refine hK45 _ _ ?_
      refine fg3 2 0 9 (gS rfl (gS rfl (gS rfl (gS rfl (gS rfl (gS rfl g0)))))) (gS rfl (gS rfl (gS rfl (gS rfl (gS rfl g0))))) g0 (fun g => ?_)
      refine c_seq (fun K47 hK47 => ?_)
      refine c_seq (fun K48 hK48 => ?_)
      refine c_region ?_
      refine l_step (y_moveV (et (gS rfl g0) rfl)) ?_
      refine l_step (y_eql (et g0 rfl) rfl) ?_
      refine l_nil ?_
      refine hK48 _ _ ?_
      refine fg4 2 0 9 31 (gS rfl (gS rfl (gS rfl (gS rfl g0)))) (gS rfl (gS rfl (gS rfl g0))) (gS rfl (gS rfl g0)) g0 (fun g => ?_)
      refine c_false (et g0 rfl) (by rfl) ?_
      refine c_skip ?_
      refine hK47 _ _ ?_
      refine fg3 2 0 9 (gS rfl (gS rfl (gS rfl g0))) (gS rfl (gS rfl g0)) (gS rfl g0) (fun g => ?_)
      refine c_seq (fun K50 hK50 => ?_)
      refine c_seq (fun K51 hK51 => ?_)
      refine c_region ?_
      refine l_step (y_moveV (et (gS rfl g0) rfl)) ?_
      refine l_step (y_eql (et g0 rfl) rfl) ?_
      refine l_step (y_moveV (et g0 rfl)) ?_
      refine gsplitL (i := 38) g0 (fun q52 => ?_) (fun q52 => ?_)
      · skip
        refine l_gstep (j := 2) (t := 38) (by exact rfl) (by exact rfl) (et g0 rfl) (by decide) (y_moveV (et (gS rfl (gS rfl (gS rfl (gS rfl (gS rfl (gS rfl g0)))))) rfl)) ?_
        refine l_geff (j := 2) (t := 38) (by exact rfl) (by exact rfl) (et (gS rfl g0) rfl) rfl (e_callV cal_341 (aC (et g0 rfl) aN) (yp_isNeg hF h2 (bd_up s2 (by decide)))) (fun v53 w53 h53 => ?_)
        obtain ⟨rfl, u53⟩ := h53
        replace G := G.tr (Go.ofUp hF u53)
        replace hF := hF.up u53
        replace U := U.tr u53
        refine l_step (y_pickT (et (gS rfl (gS rfl g0)) rfl) (et g0 rfl)) ?_
        refine l_nil ?_
        refine hK51 _ _ ?_
        refine fg3 2 9 41 (gS rfl (gS rfl (gS rfl (gS rfl (gS rfl (gS rfl (gS rfl (gS rfl (gS rfl g0))))))))) (gS rfl (gS rfl (gS rfl (gS rfl (gS rfl (gS rfl (gS rfl g0))))))) g0 (fun g => ?_)
        refine c_cond (et g0 rfl) (fun cB3 => ?_) (fun cB3 => ?_)
        · skip
          
          refine c_seq (fun K55 hK55 => ?_)
          refine c_region ?_
          refine l_step (y_moveV (et (gS rfl (gS rfl g0)) rfl)) ?_
          refine l_eff (e_callV cal_346 (aC (v := .int .u8 ((25 : Nat) : Int)) rfl (aC (et g0 rfl) (aC rfl aN))) (yp_bitwise 25 (by decide) hF h2 (NV.nil _) (bd_up s2 (by decide)) (bd_up bd_zero (by decide)))) (fun v56 w56 h56 => ?_)
          obtain ⟨H56, g56, n56⟩ := h56
          have hlew56 := g56.le
          replace h1 := h1.mono hlew56
          replace h2 := h2.mono hlew56
          replace n46 := n46.mono hlew56
          replace U := U.tr g56.up
          replace G := G.tr g56
          replace hF := g56.fz
          have q56 := bd_bw n56 (bd_up (b := 32) s2 (by decide)) (bd_up (b := 32) bd_zero (by decide))
          refine l_step (y_moveV (et (gS rfl (gS rfl (gS rfl g0))) rfl)) ?_
          refine l_eff (e_callV cal_155 (aC (et (gS rfl g0) rfl) (aC (et g0 rfl) aN)) (nat_divmod hF n56 n46 (bd_sm q56 (by decide)) (bd_sm q46 (by decide)))) (fun v57 w57 h57 => ?_)
          obtain ⟨z57, y57, H57, rfl, g57, n57, m57⟩ := h57
          have hlew57 := g57.le
          replace h1 := h1.mono hlew57
          replace h2 := h2.mono hlew57
          replace n46 := n46.mono hlew57
          replace n56 := n56.mono hlew57
          replace U := U.tr g57.up
          replace G := G.tr g57
          replace hF := g57.fz
          have q57 := bd_div' n57 q56
          have p57 := bd_mod' m57 q46
          refine l_step (y_moveV (et g0 rfl)) ?_
          refine l_step (y_ext (et g0 rfl) rfl) ?_
          refine l_step (y_ext (et (gS rfl g0) rfl) rfl) ?_
          refine l_step (y_ext (et (gS rfl (gS rfl g0)) rfl) rfl) ?_
          refine l_step (y_assignV (et (gS rfl (gS rfl g0)) rfl)) ?_
          refine l_step (y_assignV (et (gS rfl (gS rfl g0)) rfl)) ?_
          refine l_step (y_assignV (et (gS rfl (gS rfl g0)) rfl)) ?_
          refine l_nil ?_
          refine hK55 _ _ ?_
          refine fg1 10 (gS rfl (gS rfl g0)) (fun g => ?_)
          refine c_seq (fun K58 hK58 => ?_)
          refine c_region ?_
          refine l_step (y_moveV (et g0 rfl)) ?_
          refine l_eff (e_callV cal_346 (aC (v := .int .u8 ((25 : Nat) : Int)) rfl (aC (et g0 rfl) (aC rfl aN))) (yp_bitwise 25 (by decide) hF n57 (NV.nil _) (bd_up q57 (by decide)) (bd_up bd_zero (by decide)))) (fun v59 w59 h59 => ?_)
          obtain ⟨H59, g59, n59⟩ := h59
          have hlew59 := g59.le
          replace h1 := h1.mono hlew59
          replace h2 := h2.mono hlew59
          replace n46 := n46.mono hlew59
          replace n56 := n56.mono hlew59
          replace n57 := n57.mono hlew59
          replace m57 := m57.mono hlew59
          replace U := U.tr g59.up
          replace G := G.tr g59
          replace hF := g59.fz
          have q59 := bd_bw n59 (bd_up (b := 32) q57 (by decide)) (bd_up (b := 32) bd_zero (by decide))
          refine l_step (y_assignV (et g0 rfl)) ?_
          refine l_nil ?_
          refine hK58 _ _ ?_
          refine fg1 6 g0 (fun g => ?_)
          refine c_ret ?_
          refine ret1 rfl (res_tmp (et g0 rfl)) ?_
          first | exact ⟨_, G, n59.to (sar_neg cB3 hmin)⟩ | exact ⟨_, G, n59.to (sar_pos cB3 hmin)⟩
        · skip
          
          refine c_skip ?_
          refine hK50 _ _ ?_
          refine fg2 2 9 (gS rfl (gS rfl g0)) (gS rfl g0) (fun g => ?_)
          refine c_seq (fun K60 hK60 => ?_)
          refine c_region ?_
          refine l_step (y_moveV (et (gS rfl g0) rfl)) ?_
          refine l_step (y_moveV (et (gS rfl g0) rfl)) ?_
          refine l_eff (e_callV cal_155 (aC (et (gS rfl g0) rfl) (aC (et g0 rfl) aN)) (nat_divmod hF h2 n46 (bd_sm s2 (by decide)) (bd_sm q46 (by decide)))) (fun v61 w61 h61 => ?_)
          obtain ⟨z61, y61, H61, rfl, g61, n61, m61⟩ := h61
          have hlew61 := g61.le
          replace h1 := h1.mono hlew61
          replace h2 := h2.mono hlew61
          replace n46 := n46.mono hlew61
          replace U := U.tr g61.up
          replace G := G.tr g61
          replace hF := g61.fz
          have q61 := bd_div' n61 s2
          have p61 := bd_mod' m61 q46
          refine l_step (y_moveV (et g0 rfl)) ?_
          refine l_step (y_ext (et g0 rfl) rfl) ?_
          refine l_step (y_ext (et (gS rfl g0) rfl) rfl) ?_
          refine l_step (y_ext (et (gS rfl (gS rfl g0)) rfl) rfl) ?_
          refine l_step (y_assignV (et (gS rfl (gS rfl g0)) rfl)) ?_
          refine l_step (y_assignV (et (gS rfl (gS rfl g0)) rfl)) ?_
          refine l_step (y_assignV (et (gS rfl (gS rfl g0)) rfl)) ?_
          refine l_nil ?_
          refine hK60 _ _ ?_
          refine fg1 13 (gS rfl (gS rfl g0)) (fun g => ?_)
          refine c_seq (fun K62 hK62 => ?_)
          refine c_region ?_
          refine l_step (y_moveV (et g0 rfl)) ?_
          refine l_step (y_assignV (et g0 rfl)) ?_
          refine l_nil ?_
          refine hK62 _ _ ?_
          refine fg1 6 g0 (fun g => ?_)
          refine c_ret ?_
          refine ret1 rfl (res_tmp (et g0 rfl)) ?_
          first | exact ⟨_, G, n61.to (sar_neg cB3 hmin)⟩ | exact ⟨_, G, n61.to (sar_pos cB3 hmin)⟩
      · skip
        exact absurd q52 (by decide)
/-- the meaning of the arithmetic instructions -/
def aluN (o a b c : Nat) : Nat :=
  if o = 1 then (a + b) % W256 else if o = 2 then a * b % W256 else if o = 3 then (a + sgn b true) % W256 else if o = 4 then a / b else if o = 5 then eSdiv a b
  else if o = 6 then (if b = 0 then 0 else a % b) else if o = 7 then eSmod a b else if o = 8 then eAddmod a b c else if o = 9 then eMulmod a b c else if o = 10 then eExp a b
  else if o = 11 then eSext a b else if o = 16 then (if decide (a < b) then 1 else 0) else if o = 17 then (if decide (b < a) then 1 else 0) else if o = 18 then (if slt a b then 1 else 0)
  else if o = 19 then (if slt b a then 1 else 0) else if o = 20 then (if decide (a = b) then 1 else 0) else if o = 21 then (if decide (a = 0) then 1 else 0)
  else if o = 22 then a &&& b else if o = 23 then a ||| b else if o = 24 then a ^^^ b else if o = 25 then W256 - 1 - a else if o = 26 then eByte a b
  else if o = 27 then eShl a b else if o = 28 then eShr a b else if o = 29 then eSar a b else 0
theorem yp_alu {w : World} {H : Store} {v1 v2 v3 : Value} {x y z : Nat} (o : Nat) (hF : Fz w H) (h1 : NV H v1 x) (h2 : NV H v2 y) (h3 : NV H v3 z) (s1 : x < 256 ^ 32) (s2 : y < 256 ^ 32) (s3 : z < 256 ^ 32) :
    Ret 229 [.int .u8 o, v1, v2, v3] w (fun v w' => ∃ H', Go No w H w' H' ∧ NV H' v (aluN o x y z)) := by
  refine enter (n := 195) Hvaa.func229 rfl rfl (Nat.le_of_ble_eq_true rfl) ?_
  have U := Up.refl w
  have G : Go (No) w H w H := Go.refl hF
  refine c_seq (fun K1 hK1 => ?_)
  refine c_region ?_
  refine l_step y_assignC ?_
  refine l_nil ?_
  refine hK1 _ _ ?_
  refine fg4 3 2 1 0 (gS rfl (gS rfl (gS rfl (gS rfl g0)))) (gS rfl (gS rfl (gS rfl g0))) (gS rfl (gS rfl g0)) (gS rfl g0) (fun g => ?_)
  refine c_seq (fun K2 hK2 => ?_)
  refine c_seq (fun K3 hK3 => ?_)
  refine c_region ?_
  refine l_step (y_moveV (et g0 rfl)) ?_
  refine l_nil ?_
  refine hK3 _ _ ?_
  refine c_block (fun Q4 hQ4 => ?_)
  refine c_seq (fun K5 hK5 => ?_)
  refine c_region ?_
  refine l_step (y_eql (et g0 rfl) rfl) ?_
  refine l_step (y_assignV (et g0 rfl)) ?_
  refine l_nil ?_
  refine hK5 _ _ ?_
  refine fg6 3 2 1 0 27 28 (gS rfl (gS rfl (gS rfl (gS rfl (gS rfl (gS rfl g0)))))) (gS rfl (gS rfl (gS rfl (gS rfl (gS rfl g0))))) (gS rfl (gS rfl (gS rfl (gS rfl g0)))) (gS rfl (gS rfl (gS rfl g0))) (gS rfl (gS rfl g0)) g0 (fun g => ?_)
  refine c_cond (et g0 rfl) (fun cB1 => ?_) (fun cB1 => ?_)
  · skip
    
    have ho : o = 1 := by have := of_decide_eq_true cB1; omega
    refine c_seq (fun K7 hK7 => ?_)
    refine c_region ?_
    refine l_step (y_moveV (et (gS rfl (gS rfl (gS rfl g0))) rfl)) ?_
    refine l_step (y_moveV (et (gS rfl (gS rfl (gS rfl (gS rfl (gS rfl g0))))) rfl)) ?_
    refine l_eff (e_callV cal_34 (aC (et (gS rfl g0) rfl) (aC (et g0 rfl) aN)) (nat_add hF h1 h2 (bd_sm s1 (by decide)) (bd_sm s2 (by decide)))) (fun v8 w8 h8 => ?_)
    obtain ⟨H8, g8, n8⟩ := h8
    have hlew8 := g8.le
    replace h1 := h1.mono hlew8
    replace h2 := h2.mono hlew8
    replace h3 := h3.mono hlew8
    replace U := U.tr g8.up
    replace G := G.tr g8
    replace hF := g8.fz
    have q8 := bd_add (c := 33) s1 s2 (by decide)
    refine l_eff (e_callV cal_337 (aC (et g0 rfl) aN) (yp_wrapped hF n8 (bd_sm q8 (by decide)))) (fun v9 w9 h9 => ?_)
    obtain ⟨H9, g9, n9⟩ := h9
    have hlew9 := g9.le
    replace h1 := h1.mono hlew9
    replace h2 := h2.mono hlew9
    replace h3 := h3.mono hlew9
    replace n8 := n8.mono hlew9
    replace U := U.tr g9.up
    replace G := G.tr g9
    replace hF := g9.fz
    have q9 := bd_wrap' n9
    refine l_step (y_assignV (et g0 rfl)) ?_
    refine l_nil ?_
    refine hK7 _ _ ?_
    refine fg1 8 g0 (fun g => ?_)
    refine c_ret ?_
    refine hQ4 _ _ _ (in_ret ?_)
    refine ret1 rfl (res_tmp (et g0 rfl)) ?_
    first | (subst ho; exact ⟨_, G, n9⟩) | exact ⟨_, G, n9⟩
  · skip
    
    have hn1 : o ≠ 1 := by have := of_decide_eq_false cB1; omega
    refine c_seq (fun K10 hK10 => ?_)
    refine c_region ?_
    refine l_step (y_eql (et (gS rfl g0) rfl) rfl) ?_
    refine l_step (y_assignV (et g0 rfl)) ?_
    refine l_nil ?_
    refine hK10 _ _ ?_
    refine fg6 3 2 1 0 27 34 (gS rfl (gS rfl (gS rfl (gS rfl (gS rfl (gS rfl (gS rfl g0))))))) (gS rfl (gS rfl (gS rfl (gS rfl (gS rfl (gS rfl g0)))))) (gS rfl (gS rfl (gS rfl (gS rfl (gS rfl g0))))) (gS rfl (gS rfl (gS rfl (gS rfl g0)))) (gS rfl (gS rfl (gS rfl g0))) g0 (fun g => ?_)
    refine c_cond (et g0 rfl) (fun cB2 => ?_) (fun cB2 => ?_)
    · skip
      
      have ho : o = 2 := by have := of_decide_eq_true cB2; omega
      refine c_seq (fun K12 hK12 => ?_)
      refine c_region ?_
      refine l_step (y_moveV (et (gS rfl (gS rfl (gS rfl g0))) rfl)) ?_
      refine l_step (y_moveV (et (gS rfl (gS rfl (gS rfl (gS rfl (gS rfl g0))))) rfl)) ?_
      refine l_eff (e_callV cal_50 (aC (et (gS rfl g0) rfl) (aC (et g0 rfl) aN)) (nat_mul hF h1 h2 (bd_sm s1 (by decide)) (bd_sm s2 (by decide)))) (fun v13 w13 h13 => ?_)
      obtain ⟨H13, g13, n13⟩ := h13
      have hlew13 := g13.le
      replace h1 := h1.mono hlew13
      replace h2 := h2.mono hlew13
      replace h3 := h3.mono hlew13
      replace U := U.tr g13.up
      replace G := G.tr g13
      replace hF := g13.fz
      have q13 := bd_mul (c := 64) s1 s2 (by decide)
      refine l_eff (e_callV cal_337 (aC (et g0 rfl) aN) (yp_wrapped hF n13 (bd_sm q13 (by decide)))) (fun v14 w14 h14 => ?_)
      obtain ⟨H14, g14, n14⟩ := h14
      have hlew14 := g14.le
      replace h1 := h1.mono hlew14
      replace h2 := h2.mono hlew14
      replace h3 := h3.mono hlew14
      replace n13 := n13.mono hlew14
      replace U := U.tr g14.up
      replace G := G.tr g14
      replace hF := g14.fz
      have q14 := bd_wrap' n14
      refine l_step (y_assignV (et g0 rfl)) ?_
      refine l_nil ?_
      refine hK12 _ _ ?_
      refine fg1 8 g0 (fun g => ?_)
      refine c_ret ?_
      refine hQ4 _ _ _ (in_ret ?_)
      refine ret1 rfl (res_tmp (et g0 rfl)) ?_
      first | (subst ho; exact ⟨_, G, n14⟩) | exact ⟨_, G, n14⟩
    · skip
      
      have hn2 : o ≠ 2 := by have := of_decide_eq_false cB2; omega
      refine c_seq (fun K15 hK15 => ?_)
      refine c_region ?_
      refine l_step (y_eql (et (gS rfl g0) rfl) rfl) ?_
      refine l_step (y_assignV (et g0 rfl)) ?_
      refine l_nil ?_
      refine hK15 _ _ ?_
      refine fg6 3 2 1 0 27 40 (gS rfl (gS rfl (gS rfl (gS rfl (gS rfl (gS rfl (gS rfl g0))))))) (gS rfl (gS rfl (gS rfl (gS rfl (gS rfl (gS rfl g0)))))) (gS rfl (gS rfl (gS rfl (gS rfl (gS rfl g0))))) (gS rfl (gS rfl (gS rfl (gS rfl g0)))) (gS rfl (gS rfl (gS rfl g0))) g0 (fun g => ?_)
      refine c_cond (et g0 rfl) (fun cB3 => ?_) (fun cB3 => ?_)
      · skip
        
        have ho : o = 3 := by have := of_decide_eq_true cB3; omega
        refine c_seq (fun K17 hK17 => ?_)
        refine c_region ?_
        refine l_step (y_moveV (et (gS rfl (gS rfl (gS rfl g0))) rfl)) ?_
        refine l_step (y_moveV (et (gS rfl (gS rfl (gS rfl (gS rfl (gS rfl g0))))) rfl)) ?_
        refine l_eff (e_callV cal_338 (aC (et g0 rfl) aN) (yp_negated hF h2 (bd_up s2 (by decide)))) (fun v18 w18 h18 => ?_)
        obtain ⟨H18, g18, n18⟩ := h18
        have hlew18 := g18.le
        replace h1 := h1.mono hlew18
        replace h2 := h2.mono hlew18
        replace h3 := h3.mono hlew18
        replace U := U.tr g18.up
        replace G := G.tr g18
        replace hF := g18.fz
        have q18 := bd_sgn' n18
        refine l_eff (e_callV cal_34 (aC (et (gS rfl (gS rfl g0)) rfl) (aC (et g0 rfl) aN)) (nat_add hF h1 n18 (bd_sm s1 (by decide)) (bd_sm q18 (by decide)))) (fun v19 w19 h19 => ?_)
        obtain ⟨H19, g19, n19⟩ := h19
        have hlew19 := g19.le
        replace h1 := h1.mono hlew19
        replace h2 := h2.mono hlew19
        replace h3 := h3.mono hlew19
        replace n18 := n18.mono hlew19
        replace U := U.tr g19.up
        replace G := G.tr g19
        replace hF := g19.fz
        have q19 := bd_add (c := 33) s1 q18 (by decide)
        refine l_eff (e_callV cal_337 (aC (et g0 rfl) aN) (yp_wrapped hF n19 (bd_sm q19 (by decide)))) (fun v20 w20 h20 => ?_)
        obtain ⟨H20, g20, n20⟩ := h20
        have hlew20 := g20.le
        replace h1 := h1.mono hlew20
        replace h2 := h2.mono hlew20
        replace h3 := h3.mono hlew20
        replace n18 := n18.mono hlew20
        replace n19 := n19.mono hlew20
        replace U := U.tr g20.up
        replace G := G.tr g20
        replace hF := g20.fz
        have q20 := bd_wrap' n20
        refine l_step (y_assignV (et g0 rfl)) ?_
        refine l_nil ?_
        refine hK17 _ _ ?_
        refine fg1 8 g0 (fun g => ?_)
        refine c_ret ?_
        refine hQ4 _ _ _ (in_ret ?_)
        refine ret1 rfl (res_tmp (et g0 rfl)) ?_
        first | (subst ho; exact ⟨_, G, n20⟩) | exact ⟨_, G, n20⟩
      · skip
        
        have hn3 : o ≠ 3 := by have := of_decide_eq_false cB3; omega
        refine c_seq (fun K21 hK21 => ?_)
        refine c_region ?_
        refine l_step (y_eql (et (gS rfl g0) rfl) rfl) ?_
        refine l_step (y_assignV (et g0 rfl)) ?_
        refine l_nil ?_
        refine hK21 _ _ ?_
        refine fg6 3 2 1 0 27 47 (gS rfl (gS rfl (gS rfl (gS rfl (gS rfl (gS rfl (gS rfl g0))))))) (gS rfl (gS rfl (gS rfl (gS rfl (gS rfl (gS rfl g0)))))) (gS rfl (gS rfl (gS rfl (gS rfl (gS rfl g0))))) (gS rfl (gS rfl (gS rfl (gS rfl g0)))) (gS rfl (gS rfl (gS rfl g0))) g0 (fun g => ?_)
        refine c_cond (et g0 rfl) (fun cB4 => ?_) (fun cB4 => ?_)
        · skip
          
          have ho : o = 4 := by have := of_decide_eq_true cB4; omega
          refine c_seq (fun K23 hK23 => ?_)
          refine c_region ?_
          refine l_step (y_moveV (et (gS rfl (gS rfl (gS rfl g0))) rfl)) ?_
          refine l_step (y_moveV (et (gS rfl (gS rfl (gS rfl (gS rfl (gS rfl g0))))) rfl)) ?_
          refine l_eff (e_callV cal_155 (aC (et (gS rfl g0) rfl) (aC (et g0 rfl) aN)) (nat_divmod hF h1 h2 (bd_sm s1 (by decide)) (bd_sm s2 (by decide)))) (fun v24 w24 h24 => ?_)
          obtain ⟨z24, y24, H24, rfl, g24, n24, m24⟩ := h24
          have hlew24 := g24.le
          replace h1 := h1.mono hlew24
          replace h2 := h2.mono hlew24
          replace h3 := h3.mono hlew24
          replace U := U.tr g24.up
          replace G := G.tr g24
          replace hF := g24.fz
          have q24 := bd_div' n24 s1
          have p24 := bd_mod' m24 s2
          refine l_step (y_moveV (et g0 rfl)) ?_
          refine l_step (y_ext (et g0 rfl) rfl) ?_
          refine l_step (y_ext (et (gS rfl g0) rfl) rfl) ?_
          refine l_step (y_ext (et (gS rfl (gS rfl g0)) rfl) rfl) ?_
          refine l_step (y_assignV (et (gS rfl (gS rfl g0)) rfl)) ?_
          refine l_step (y_assignV (et (gS rfl (gS rfl g0)) rfl)) ?_
          refine l_step (y_assignV (et (gS rfl (gS rfl g0)) rfl)) ?_
          refine l_nil ?_
          refine hK23 _ _ ?_
          refine fg1 9 (gS rfl (gS rfl g0)) (fun g => ?_)
          refine c_seq (fun K25 hK25 => ?_)
          refine c_region ?_
          refine l_step (y_moveV (et g0 rfl)) ?_
          refine l_step (y_assignV (et g0 rfl)) ?_
          refine l_nil ?_
          refine hK25 _ _ ?_
          refine fg1 8 g0 (fun g => ?_)
          refine c_ret ?_
          refine hQ4 _ _ _ (in_ret ?_)
          refine ret1 rfl (res_tmp (et g0 rfl)) ?_
          first | (subst ho; exact ⟨_, G, n24⟩) | exact ⟨_, G, n24⟩
        · skip
          
          have hn4 : o ≠ 4 := by have := of_decide_eq_false cB4; omega
          refine c_seq (fun K26 hK26 => ?_)
          refine c_region ?_
          refine l_step (y_eql (et (gS rfl g0) rfl) rfl) ?_
          refine l_step (y_assignV (et g0 rfl)) ?_
          refine l_nil ?_
          refine hK26 _ _ ?_
          refine fg6 3 2 1 0 27 57 (gS rfl (gS rfl (gS rfl (gS rfl (gS rfl (gS rfl (gS rfl g0))))))) (gS rfl (gS rfl (gS rfl (gS rfl (gS rfl (gS rfl g0)))))) (gS rfl (gS rfl (gS rfl (gS rfl (gS rfl g0))))) (gS rfl (gS rfl (gS rfl (gS rfl g0)))) (gS rfl (gS rfl (gS rfl g0))) g0 (fun g => ?_)
          refine c_cond (et g0 rfl) (fun cB5 => ?_) (fun cB5 => ?_)
          · skip
            
            have ho : o = 5 := by have := of_decide_eq_true cB5; omega
            refine c_seq (fun K28 hK28 => ?_)
            refine c_region ?_
            refine l_step (y_moveV (et (gS rfl (gS rfl (gS rfl g0))) rfl)) ?_
            refine l_eff (e_callV cal_339 (aC (et g0 rfl) aN) (yp_magn hF h1 (bd_up s1 (by decide)))) (fun v29 w29 h29 => ?_)
            obtain ⟨H29, g29, n29⟩ := h29
            have hlew29 := g29.le
            replace h1 := h1.mono hlew29
            replace h2 := h2.mono hlew29
            replace h3 := h3.mono hlew29
            replace U := U.tr g29.up
            replace G := G.tr g29
            replace hF := g29.fz
            have q29 := bd_sgnA n29 s1
            refine l_step (y_moveV (et (gS rfl (gS rfl (gS rfl (gS rfl (gS rfl (gS rfl g0)))))) rfl)) ?_
            refine l_eff (e_callV cal_339 (aC (et g0 rfl) aN) (yp_magn hF h2 (bd_up s2 (by decide)))) (fun v30 w30 h30 => ?_)
            obtain ⟨H30, g30, n30⟩ := h30
            have hlew30 := g30.le
            replace h1 := h1.mono hlew30
            replace h2 := h2.mono hlew30
            replace h3 := h3.mono hlew30
            replace n29 := n29.mono hlew30
            replace U := U.tr g30.up
            replace G := G.tr g30
            replace hF := g30.fz
            have q30 := bd_sgnA n30 s2
            refine l_eff (e_callV cal_155 (aC (et (gS rfl (gS rfl g0)) rfl) (aC (et g0 rfl) aN)) (nat_divmod hF n29 n30 (bd_sm q29 (by decide)) (bd_sm q30 (by decide)))) (fun v31 w31 h31 => ?_)
            obtain ⟨z31, y31, H31, rfl, g31, n31, m31⟩ := h31
            have hlew31 := g31.le
            replace h1 := h1.mono hlew31
            replace h2 := h2.mono hlew31
            replace h3 := h3.mono hlew31
            replace n29 := n29.mono hlew31
            replace n30 := n30.mono hlew31
            replace U := U.tr g31.up
            replace G := G.tr g31
            replace hF := g31.fz
            have q31 := bd_div' n31 q29
            have p31 := bd_mod' m31 q30
            refine l_step (y_moveV (et g0 rfl)) ?_
            refine l_step (y_ext (et g0 rfl) rfl) ?_
            refine l_step (y_ext (et (gS rfl g0) rfl) rfl) ?_
            refine l_step (y_ext (et (gS rfl (gS rfl g0)) rfl) rfl) ?_
            refine l_step (y_assignV (et (gS rfl (gS rfl g0)) rfl)) ?_
            refine l_step (y_assignV (et (gS rfl (gS rfl g0)) rfl)) ?_
            refine l_step (y_assignV (et (gS rfl (gS rfl g0)) rfl)) ?_
            refine l_nil ?_
            refine hK28 _ _ ?_
            refine fg3 2 1 12 (gS rfl (gS rfl (gS rfl (gS rfl (gS rfl (gS rfl (gS rfl (gS rfl (gS rfl (gS rfl (gS rfl (gS rfl (gS rfl (gS rfl (gS rfl (gS rfl g0)))))))))))))))) (gS rfl (gS rfl (gS rfl (gS rfl (gS rfl (gS rfl (gS rfl (gS rfl (gS rfl (gS rfl (gS rfl (gS rfl (gS rfl (gS rfl (gS rfl g0))))))))))))))) (gS rfl (gS rfl g0)) (fun g => ?_)
            refine c_seq (fun K32 hK32 => ?_)
            refine c_region ?_
            refine l_step (y_moveV (et g0 rfl)) ?_
            refine l_step (y_moveV (et (gS rfl (gS rfl g0)) rfl)) ?_
            refine l_eff (e_callV cal_341 (aC (et g0 rfl) aN) (yp_isNeg hF h1 (bd_up s1 (by decide)))) (fun v33 w33 h33 => ?_)
            obtain ⟨rfl, u33⟩ := h33
            replace G := G.tr (Go.ofUp hF u33)
            replace hF := hF.up u33
            replace U := U.tr u33
            refine l_step (y_moveV (et (gS rfl (gS rfl (gS rfl (gS rfl (gS rfl g0))))) rfl)) ?_
            refine l_eff (e_callV cal_341 (aC (et g0 rfl) aN) (yp_isNeg hF h2 (bd_up s2 (by decide)))) (fun v34 w34 h34 => ?_)
            obtain ⟨rfl, u34⟩ := h34
            replace G := G.tr (Go.ofUp hF u34)
            replace hF := hF.up u34
            replace U := U.tr u34
            refine l_step (y_neqB Hvaa.underlying4 (et (gS rfl (gS rfl g0)) rfl) (et g0 rfl)) ?_
            refine l_eff (e_callV cal_340 (aC (et (gS rfl (gS rfl (gS rfl (gS rfl (gS rfl g0))))) rfl) (aC (et g0 rfl) aN)) (yp_withSign hF n31 (bd_up q31 (by decide)) _)) (fun v35 w35 h35 => ?_)
            obtain ⟨H35, g35, n35⟩ := h35
            have hlew35 := g35.le
            replace h1 := h1.mono hlew35
            replace h2 := h2.mono hlew35
            replace h3 := h3.mono hlew35
            replace n29 := n29.mono hlew35
            replace n30 := n30.mono hlew35
            replace n31 := n31.mono hlew35
            replace m31 := m31.mono hlew35
            replace U := U.tr g35.up
            replace G := G.tr g35
            replace hF := g35.fz
            have q35 := bd_sgnA n35 (bd_up q31 (by decide))
            refine l_step (y_assignV (et g0 rfl)) ?_
            refine l_nil ?_
            refine hK32 _ _ ?_
            refine fg1 8 g0 (fun g => ?_)
            refine c_ret ?_
            refine hQ4 _ _ _ (in_ret ?_)
            refine ret1 rfl (res_tmp (et g0 rfl)) ?_
            first | (subst ho; exact ⟨_, G, n35⟩) | exact ⟨_, G, n35⟩
          · skip
            
            have hn5 : o ≠ 5 := by have := of_decide_eq_false cB5; omega
            refine c_seq (fun K36 hK36 => ?_)
            refine c_region ?_
            refine l_step (y_eql (et (gS rfl g0) rfl) rfl) ?_
            refine l_step (y_assignV (et g0 rfl)) ?_
            refine l_nil ?_
            refine hK36 _ _ ?_
            refine fg6 3 2 1 0 27 75 (gS rfl (gS rfl (gS rfl (gS rfl (gS rfl (gS rfl (gS rfl g0))))))) (gS rfl (gS rfl (gS rfl (gS rfl (gS rfl (gS rfl g0)))))) (gS rfl (gS rfl (gS rfl (gS rfl (gS rfl g0))))) (gS rfl (gS rfl (gS rfl (gS rfl g0)))) (gS rfl (gS rfl (gS rfl g0))) g0 (fun g => ?_)
            refine c_cond (et g0 rfl) (fun cB6 => ?_) (fun cB6 => ?_)
            · skip
              
              have ho : o = 6 := by have := of_decide_eq_true cB6; omega
              refine c_seq (fun K38 hK38 => ?_)
              refine c_region ?_
              refine l_step (y_moveV (et (gS rfl (gS rfl (gS rfl g0))) rfl)) ?_
              refine l_step (y_moveV (et (gS rfl (gS rfl (gS rfl (gS rfl (gS rfl g0))))) rfl)) ?_
              refine l_eff (e_callV cal_155 (aC (et (gS rfl g0) rfl) (aC (et g0 rfl) aN)) (nat_divmod hF h1 h2 (bd_sm s1 (by decide)) (bd_sm s2 (by decide)))) (fun v39 w39 h39 => ?_)
              obtain ⟨z39, y39, H39, rfl, g39, n39, m39⟩ := h39
              have hlew39 := g39.le
              replace h1 := h1.mono hlew39
              replace h2 := h2.mono hlew39
              replace h3 := h3.mono hlew39
              replace U := U.tr g39.up
              replace G := G.tr g39
              replace hF := g39.fz
              have q39 := bd_div' n39 s1
              have p39 := bd_mod' m39 s2
              refine l_step (y_moveV (et g0 rfl)) ?_
              refine l_step (y_ext (et g0 rfl) rfl) ?_
              refine l_step (y_ext (et (gS rfl g0) rfl) rfl) ?_
              refine l_step (y_ext (et (gS rfl (gS rfl g0)) rfl) rfl) ?_
              refine l_step (y_assignV (et (gS rfl (gS rfl g0)) rfl)) ?_
              refine l_step (y_assignV (et (gS rfl (gS rfl g0)) rfl)) ?_
              refine l_step (y_assignV (et (gS rfl (gS rfl g0)) rfl)) ?_
              refine l_nil ?_
              refine hK38 _ _ ?_
              refine fg1 16 (gS rfl g0) (fun g => ?_)
              refine c_seq (fun K40 hK40 => ?_)
              refine c_region ?_
              refine l_step (y_moveV (et g0 rfl)) ?_
              refine l_step (y_assignV (et g0 rfl)) ?_
              refine l_nil ?_
              refine hK40 _ _ ?_
              refine fg1 8 g0 (fun g => ?_)
              refine c_ret ?_
              refine hQ4 _ _ _ (in_ret ?_)
              refine ret1 rfl (res_tmp (et g0 rfl)) ?_
              first | (subst ho; exact ⟨_, G, m39⟩) | exact ⟨_, G, m39⟩
            · skip
              
              have hn6 : o ≠ 6 := by have := of_decide_eq_false cB6; omega
              refine c_seq (fun K41 hK41 => ?_)
              refine c_region ?_
              refine l_step (y_eql (et (gS rfl g0) rfl) rfl) ?_
              refine l_step (y_assignV (et g0 rfl)) ?_
              refine l_nil ?_
              refine hK41 _ _ ?_
              refine fg6 3 2 1 0 27 85 (gS rfl (gS rfl (gS rfl (gS rfl (gS rfl (gS rfl (gS rfl g0))))))) (gS rfl (gS rfl (gS rfl (gS rfl (gS rfl (gS rfl g0)))))) (gS rfl (gS rfl (gS rfl (gS rfl (gS rfl g0))))) (gS rfl (gS rfl (gS rfl (gS rfl g0)))) (gS rfl (gS rfl (gS rfl g0))) g0 (fun g => ?_)
              refine c_cond (et g0 rfl) (fun cB7 => ?_) (fun cB7 => ?_)
              · skip
                
                have ho : o = 7 := by have := of_decide_eq_true cB7; omega
                refine c_seq (fun K43 hK43 => ?_)
                refine c_region ?_
                refine l_step (y_moveV (et (gS rfl (gS rfl (gS rfl g0))) rfl)) ?_
                refine l_eff (e_callV cal_339 (aC (et g0 rfl) aN) (yp_magn hF h1 (bd_up s1 (by decide)))) (fun v44 w44 h44 => ?_)
                obtain ⟨H44, g44, n44⟩ := h44
                have hlew44 := g44.le
                replace h1 := h1.mono hlew44
                replace h2 := h2.mono hlew44
                replace h3 := h3.mono hlew44
                replace U := U.tr g44.up
                replace G := G.tr g44
                replace hF := g44.fz
                have q44 := bd_sgnA n44 s1
                refine l_step (y_moveV (et (gS rfl (gS rfl (gS rfl (gS rfl (gS rfl (gS rfl g0)))))) rfl)) ?_
                refine l_eff (e_callV cal_339 (aC (et g0 rfl) aN) (yp_magn hF h2 (bd_up s2 (by decide)))) (fun v45 w45 h45 => ?_)
                obtain ⟨H45, g45, n45⟩ := h45
                have hlew45 := g45.le
                replace h1 := h1.mono hlew45
                replace h2 := h2.mono hlew45
                replace h3 := h3.mono hlew45
                replace n44 := n44.mono hlew45
                replace U := U.tr g45.up
                replace G := G.tr g45
                replace hF := g45.fz
                have q45 := bd_sgnA n45 s2
                refine l_eff (e_callV cal_155 (aC (et (gS rfl (gS rfl g0)) rfl) (aC (et g0 rfl) aN)) (nat_divmod hF n44 n45 (bd_sm q44 (by decide)) (bd_sm q45 (by decide)))) (fun v46 w46 h46 => ?_)
                obtain ⟨z46, y46, H46, rfl, g46, n46, m46⟩ := h46
                have hlew46 := g46.le
                replace h1 := h1.mono hlew46
                replace h2 := h2.mono hlew46
                replace h3 := h3.mono hlew46
                replace n44 := n44.mono hlew46
                replace n45 := n45.mono hlew46
                replace U := U.tr g46.up
                replace G := G.tr g46
                replace hF := g46.fz
                have q46 := bd_div' n46 q44
                have p46 := bd_mod' m46 q45
                refine l_step (y_moveV (et g0 rfl)) ?_
                refine l_step (y_ext (et g0 rfl) rfl) ?_
                refine l_step (y_ext (et (gS rfl g0) rfl) rfl) ?_
                refine l_step (y_ext (et (gS rfl (gS rfl g0)) rfl) rfl) ?_
                refine l_step (y_assignV (et (gS rfl (gS rfl g0)) rfl)) ?_
                refine l_step (y_assignV (et (gS rfl (gS rfl g0)) rfl)) ?_
                refine l_step (y_assignV (et (gS rfl (gS rfl g0)) rfl)) ?_
                refine l_nil ?_
                refine hK43 _ _ ?_
                refine fg2 1 19 (gS rfl (gS rfl (gS rfl (gS rfl (gS rfl (gS rfl (gS rfl (gS rfl (gS rfl (gS rfl (gS rfl (gS rfl (gS rfl (gS rfl (gS rfl g0))))))))))))))) (gS rfl g0) (fun g => ?_)
                refine c_seq (fun K47 hK47 => ?_)
                refine c_region ?_
                refine l_step (y_moveV (et g0 rfl)) ?_
                refine l_step (y_moveV (et (gS rfl (gS rfl g0)) rfl)) ?_
                refine l_eff (e_callV cal_341 (aC (et g0 rfl) aN) (yp_isNeg hF h1 (bd_up s1 (by decide)))) (fun v48 w48 h48 => ?_)
                obtain ⟨rfl, u48⟩ := h48
                replace G := G.tr (Go.ofUp hF u48)
                replace hF := hF.up u48
                replace U := U.tr u48
                refine l_eff (e_callV cal_340 (aC (et (gS rfl (gS rfl g0)) rfl) (aC (et g0 rfl) aN)) (yp_withSign hF m46 (bd_up p46 (by decide)) _)) (fun v49 w49 h49 => ?_)
                obtain ⟨H49, g49, n49⟩ := h49
                have hlew49 := g49.le
                replace h1 := h1.mono hlew49
                replace h2 := h2.mono hlew49
                replace h3 := h3.mono hlew49
                replace n44 := n44.mono hlew49
                replace n45 := n45.mono hlew49
                replace n46 := n46.mono hlew49
                replace m46 := m46.mono hlew49
                replace U := U.tr g49.up
                replace G := G.tr g49
                replace hF := g49.fz
                have q49 := bd_sgnA n49 (bd_up p46 (by decide))
                refine l_step (y_assignV (et g0 rfl)) ?_
                refine l_nil ?_
                refine hK47 _ _ ?_
                refine fg1 8 g0 (fun g => ?_)
                refine c_ret ?_
                refine hQ4 _ _ _ (in_ret ?_)
                refine ret1 rfl (res_tmp (et g0 rfl)) ?_
                first | (subst ho; exact ⟨_, G, n49⟩) | exact ⟨_, G, n49⟩
              · skip
                
                have hn7 : o ≠ 7 := by have := of_decide_eq_false cB7; omega
                refine c_seq (fun K50 hK50 => ?_)
                refine c_region ?_
                refine l_step (y_eql (et (gS rfl g0) rfl) rfl) ?_
                refine l_step (y_assignV (et g0 rfl)) ?_
                refine l_nil ?_
                refine hK50 _ _ ?_
                refine fg6 3 2 1 0 27 100 (gS rfl (gS rfl (gS rfl (gS rfl (gS rfl (gS rfl (gS rfl g0))))))) (gS rfl (gS rfl (gS rfl (gS rfl (gS rfl (gS rfl g0)))))) (gS rfl (gS rfl (gS rfl (gS rfl (gS rfl g0))))) (gS rfl (gS rfl (gS rfl (gS rfl g0)))) (gS rfl (gS rfl (gS rfl g0))) g0 (fun g => ?_)
                refine c_cond (et g0 rfl) (fun cB8 => ?_) (fun cB8 => ?_)
                · skip
                  
                  have ho : o = 8 := by have := of_decide_eq_true cB8; omega
                  refine c_seq (fun K52 hK52 => ?_)
                  refine c_region ?_
                  refine l_step (y_moveV (et (gS rfl (gS rfl (gS rfl g0))) rfl)) ?_
                  refine l_step (y_moveV (et (gS rfl (gS rfl (gS rfl (gS rfl (gS rfl g0))))) rfl)) ?_
                  refine l_eff (e_callV cal_34 (aC (et (gS rfl g0) rfl) (aC (et g0 rfl) aN)) (nat_add hF h1 h2 (bd_sm s1 (by decide)) (bd_sm s2 (by decide)))) (fun v53 w53 h53 => ?_)
                  obtain ⟨H53, g53, n53⟩ := h53
                  have hlew53 := g53.le
                  replace h1 := h1.mono hlew53
                  replace h2 := h2.mono hlew53
                  replace h3 := h3.mono hlew53
                  replace U := U.tr g53.up
                  replace G := G.tr g53
                  replace hF := g53.fz
                  have q53 := bd_add (c := 33) s1 s2 (by decide)
                  refine l_step (y_moveV (et (gS rfl (gS rfl (gS rfl (gS rfl (gS rfl (gS rfl (gS rfl (gS rfl g0)))))))) rfl)) ?_
                  refine l_eff (e_callV cal_155 (aC (et (gS rfl g0) rfl) (aC (et g0 rfl) aN)) (nat_divmod hF n53 h3 (bd_sm q53 (by decide)) (bd_sm s3 (by decide)))) (fun v54 w54 h54 => ?_)
                  obtain ⟨z54, y54, H54, rfl, g54, n54, m54⟩ := h54
                  have hlew54 := g54.le
                  replace h1 := h1.mono hlew54
                  replace h2 := h2.mono hlew54
                  replace h3 := h3.mono hlew54
                  replace n53 := n53.mono hlew54
                  replace U := U.tr g54.up
                  replace G := G.tr g54
                  replace hF := g54.fz
                  have q54 := bd_div' n54 q53
                  have p54 := bd_mod' m54 s3
                  refine l_step (y_moveV (et g0 rfl)) ?_
                  refine l_step (y_ext (et g0 rfl) rfl) ?_
                  refine l_step (y_ext (et (gS rfl g0) rfl) rfl) ?_
                  refine l_step (y_ext (et (gS rfl (gS rfl g0)) rfl) rfl) ?_
                  refine l_step (y_assignV (et (gS rfl (gS rfl g0)) rfl)) ?_
                  refine l_step (y_assignV (et (gS rfl (gS rfl g0)) rfl)) ?_
                  refine l_step (y_assignV (et (gS rfl (gS rfl g0)) rfl)) ?_
                  refine l_nil ?_
                  refine hK52 _ _ ?_
                  refine fg1 22 (gS rfl g0) (fun g => ?_)
                  refine c_seq (fun K55 hK55 => ?_)
                  refine c_region ?_
                  refine l_step (y_moveV (et g0 rfl)) ?_
                  refine l_step (y_assignV (et g0 rfl)) ?_
                  refine l_nil ?_
                  refine hK55 _ _ ?_
                  refine fg1 8 g0 (fun g => ?_)
                  refine c_ret ?_
                  refine hQ4 _ _ _ (in_ret ?_)
                  refine ret1 rfl (res_tmp (et g0 rfl)) ?_
                  first | (subst ho; exact ⟨_, G, m54⟩) | exact ⟨_, G, m54⟩
                · skip
                  
                  have hn8 : o ≠ 8 := by have := of_decide_eq_false cB8; omega
                  refine c_seq (fun K56 hK56 => ?_)
                  refine c_region ?_
                  refine l_step (y_eql (et (gS rfl g0) rfl) rfl) ?_
                  refine l_step (y_assignV (et g0 rfl)) ?_
                  refine l_nil ?_
                  refine hK56 _ _ ?_
                  refine fg6 3 2 1 0 27 112 (gS rfl (gS rfl (gS rfl (gS rfl (gS rfl (gS rfl (gS rfl g0))))))) (gS rfl (gS rfl (gS rfl (gS rfl (gS rfl (gS rfl g0)))))) (gS rfl (gS rfl (gS rfl (gS rfl (gS rfl g0))))) (gS rfl (gS rfl (gS rfl (gS rfl g0)))) (gS rfl (gS rfl (gS rfl g0))) g0 (fun g => ?_)
                  refine c_cond (et g0 rfl) (fun cB9 => ?_) (fun cB9 => ?_)
                  · skip
                    
                    have ho : o = 9 := by have := of_decide_eq_true cB9; omega
                    refine c_seq (fun K58 hK58 => ?_)
                    refine c_region ?_
                    refine l_step (y_moveV (et (gS rfl (gS rfl (gS rfl g0))) rfl)) ?_
                    refine l_step (y_moveV (et (gS rfl (gS rfl (gS rfl (gS rfl (gS rfl g0))))) rfl)) ?_
                    refine l_eff (e_callV cal_50 (aC (et (gS rfl g0) rfl) (aC (et g0 rfl) aN)) (nat_mul hF h1 h2 (bd_sm s1 (by decide)) (bd_sm s2 (by decide)))) (fun v59 w59 h59 => ?_)
                    obtain ⟨H59, g59, n59⟩ := h59
                    have hlew59 := g59.le
                    replace h1 := h1.mono hlew59
                    replace h2 := h2.mono hlew59
                    replace h3 := h3.mono hlew59
                    replace U := U.tr g59.up
                    replace G := G.tr g59
                    replace hF := g59.fz
                    have q59 := bd_mul (c := 64) s1 s2 (by decide)
                    refine l_step (y_moveV (et (gS rfl (gS rfl (gS rfl (gS rfl (gS rfl (gS rfl (gS rfl (gS rfl g0)))))))) rfl)) ?_
                    refine l_eff (e_callV cal_155 (aC (et (gS rfl g0) rfl) (aC (et g0 rfl) aN)) (nat_divmod hF n59 h3 (bd_sm q59 (by decide)) (bd_sm s3 (by decide)))) (fun v60 w60 h60 => ?_)
                    obtain ⟨z60, y60, H60, rfl, g60, n60, m60⟩ := h60
                    have hlew60 := g60.le
                    replace h1 := h1.mono hlew60
                    replace h2 := h2.mono hlew60
                    replace h3 := h3.mono hlew60
                    replace n59 := n59.mono hlew60
                    replace U := U.tr g60.up
                    replace G := G.tr g60
                    replace hF := g60.fz
                    have q60 := bd_div' n60 q59
                    have p60 := bd_mod' m60 s3
                    refine l_step (y_moveV (et g0 rfl)) ?_
                    refine l_step (y_ext (et g0 rfl) rfl) ?_
                    refine l_step (y_ext (et (gS rfl g0) rfl) rfl) ?_
                    refine l_step (y_ext (et (gS rfl (gS rfl g0)) rfl) rfl) ?_
                    refine l_step (y_assignV (et (gS rfl (gS rfl g0)) rfl)) ?_
                    refine l_step (y_assignV (et (gS rfl (gS rfl g0)) rfl)) ?_
                    refine l_step (y_assignV (et (gS rfl (gS rfl g0)) rfl)) ?_
                    refine l_nil ?_
                    refine hK58 _ _ ?_
                    refine fg1 25 (gS rfl g0) (fun g => ?_)
                    refine c_seq (fun K61 hK61 => ?_)
                    refine c_region ?_
                    refine l_step (y_moveV (et g0 rfl)) ?_
                    refine l_step (y_assignV (et g0 rfl)) ?_
                    refine l_nil ?_
                    refine hK61 _ _ ?_
                    refine fg1 8 g0 (fun g => ?_)
                    refine c_ret ?_
                    refine hQ4 _ _ _ (in_ret ?_)
                    refine ret1 rfl (res_tmp (et g0 rfl)) ?_
                    first | (subst ho; exact ⟨_, G, m60⟩) | exact ⟨_, G, m60⟩
                  · skip
                    
                    have hn9 : o ≠ 9 := by have := of_decide_eq_false cB9; omega
                    refine c_seq (fun K62 hK62 => ?_)
                    refine c_region ?_
                    refine l_step (y_eql (et (gS rfl g0) rfl) rfl) ?_
                    refine l_step (y_assignV (et g0 rfl)) ?_
                    refine l_nil ?_
                    refine hK62 _ _ ?_
                    refine fg5 2 1 0 27 124 (gS rfl (gS rfl (gS rfl (gS rfl (gS rfl (gS rfl g0)))))) (gS rfl (gS rfl (gS rfl (gS rfl (gS rfl g0))))) (gS rfl (gS rfl (gS rfl (gS rfl g0)))) (gS rfl (gS rfl (gS rfl g0))) g0 (fun g => ?_)
                    refine c_cond (et g0 rfl) (fun cB10 => ?_) (fun cB10 => ?_)
                    · skip
                      
                      have ho : o = 10 := by have := of_decide_eq_true cB10; omega
                      refine c_seq (fun K64 hK64 => ?_)
                      refine c_region ?_
                      refine l_step (y_moveV (et (gS rfl (gS rfl (gS rfl g0))) rfl)) ?_
                      refine l_step (y_moveV (et (gS rfl (gS rfl (gS rfl (gS rfl (gS rfl g0))))) rfl)) ?_
                      refine l_eff (e_callV cal_342 (aC (et (gS rfl g0) rfl) (aC (et g0 rfl) aN)) (yp_power hF h1 h2 s1 s2)) (fun v65 w65 h65 => ?_)
                      obtain ⟨H65, g65, n65⟩ := h65
                      have hlew65 := g65.le
                      replace h1 := h1.mono hlew65
                      replace h2 := h2.mono hlew65
                      replace h3 := h3.mono hlew65
                      replace U := U.tr g65.up
                      replace G := G.tr g65
                      replace hF := g65.fz
                      have q65 := True.intro
                      refine l_step (y_assignV (et g0 rfl)) ?_
                      refine l_nil ?_
                      refine hK64 _ _ ?_
                      refine fg1 8 g0 (fun g => ?_)
                      refine c_ret ?_
                      refine hQ4 _ _ _ (in_ret ?_)
                      refine ret1 rfl (res_tmp (et g0 rfl)) ?_
                      first | (subst ho; exact ⟨_, G, n65⟩) | exact ⟨_, G, n65⟩
                    · skip
                      
                      have hn10 : o ≠ 10 := by have := of_decide_eq_false cB10; omega
                      refine c_seq (fun K66 hK66 => ?_)
                      refine c_region ?_
                      refine l_step (y_eql (et (gS rfl g0) rfl) rfl) ?_
                      refine l_step (y_assignV (et g0 rfl)) ?_
                      refine l_nil ?_
                      refine hK66 _ _ ?_
                      refine fg5 2 1 0 27 129 (gS rfl (gS rfl (gS rfl (gS rfl (gS rfl (gS rfl g0)))))) (gS rfl (gS rfl (gS rfl (gS rfl (gS rfl g0))))) (gS rfl (gS rfl (gS rfl (gS rfl g0)))) (gS rfl (gS rfl (gS rfl g0))) g0 (fun g => ?_)
                      refine c_cond (et g0 rfl) (fun cB11 => ?_) (fun cB11 => ?_)
                      · skip
                        
                        have ho : o = 11 := by have := of_decide_eq_true cB11; omega
                        refine c_seq (fun K68 hK68 => ?_)
                        refine c_region ?_
                        refine l_step (y_moveV (et (gS rfl (gS rfl (gS rfl g0))) rfl)) ?_
                        refine l_step (y_moveV (et (gS rfl (gS rfl (gS rfl (gS rfl (gS rfl g0))))) rfl)) ?_
                        refine l_eff (e_callV cal_343 (aC (et (gS rfl g0) rfl) (aC (et g0 rfl) aN)) (yp_sext hF h1 h2 s1 s2)) (fun v69 w69 h69 => ?_)
                        obtain ⟨H69, g69, n69⟩ := h69
                        have hlew69 := g69.le
                        replace h1 := h1.mono hlew69
                        replace h2 := h2.mono hlew69
                        replace h3 := h3.mono hlew69
                        replace U := U.tr g69.up
                        replace G := G.tr g69
                        replace hF := g69.fz
                        have q69 := True.intro
                        refine l_step (y_assignV (et g0 rfl)) ?_
                        refine l_nil ?_
                        refine hK68 _ _ ?_
                        refine fg1 8 g0 (fun g => ?_)
                        refine c_ret ?_
                        refine hQ4 _ _ _ (in_ret ?_)
                        refine ret1 rfl (res_tmp (et g0 rfl)) ?_
                        first | (subst ho; exact ⟨_, G, n69⟩) | exact ⟨_, G, n69⟩
                      · skip
                        
                        have hn11 : o ≠ 11 := by have := of_decide_eq_false cB11; omega
                        refine c_seq (fun K70 hK70 => ?_)
                        refine c_region ?_
                        refine l_step (y_eql (et (gS rfl g0) rfl) rfl) ?_
                        refine l_step (y_assignV (et g0 rfl)) ?_
                        refine l_nil ?_
                        refine hK70 _ _ ?_
                        refine fg5 2 1 0 27 134 (gS rfl (gS rfl (gS rfl (gS rfl (gS rfl (gS rfl g0)))))) (gS rfl (gS rfl (gS rfl (gS rfl (gS rfl g0))))) (gS rfl (gS rfl (gS rfl (gS rfl g0)))) (gS rfl (gS rfl (gS rfl g0))) g0 (fun g => ?_)
                        refine c_cond (et g0 rfl) (fun cB12 => ?_) (fun cB12 => ?_)
                        · skip
                          
                          have ho : o = 16 := by have := of_decide_eq_true cB12; omega
                          refine c_seq (fun K72 hK72 => ?_)
                          refine c_region ?_
                          refine l_step (y_moveV (et (gS rfl (gS rfl (gS rfl g0))) rfl)) ?_
                          refine l_step (y_moveV (et (gS rfl (gS rfl (gS rfl (gS rfl (gS rfl g0))))) rfl)) ?_
                          refine l_eff (e_callV cal_121 (aC (et (gS rfl g0) rfl) (aC (et g0 rfl) aN)) (nat_cmp hF h1 h2 (bd_sm s1 (by decide)) (bd_sm s2 (by decide)))) (fun v73 w73 h73 => ?_)
                          obtain ⟨rfl, u73⟩ := h73
                          replace G := G.tr (Go.ofUp hF u73)
                          replace hF := hF.up u73
                          replace U := U.tr u73
                          refine l_step ((y_lss (et g0 rfl) rfl).to (congrArg Value.bool (cmp_lt0 x y))) ?_
                          refine l_eff (e_callV cal_344 (aC (et g0 rfl) aN) (yp_truth hF _)) (fun v74 w74 h74 => ?_)
                          obtain ⟨H74, g74, n74⟩ := h74
                          have hlew74 := g74.le
                          replace h1 := h1.mono hlew74
                          replace h2 := h2.mono hlew74
                          replace h3 := h3.mono hlew74
                          replace U := U.tr g74.up
                          replace G := G.tr g74
                          replace hF := g74.fz
                          refine l_step (y_assignV (et g0 rfl)) ?_
                          refine l_nil ?_
                          refine hK72 _ _ ?_
                          refine fg1 8 g0 (fun g => ?_)
                          refine c_ret ?_
                          refine hQ4 _ _ _ (in_ret ?_)
                          refine ret1 rfl (res_tmp (et g0 rfl)) ?_
                          first | (subst ho; exact ⟨_, G, n74⟩) | exact ⟨_, G, n74⟩
                        · skip
                          
                          have hn16 : o ≠ 16 := by have := of_decide_eq_false cB12; omega
                          refine c_seq (fun K75 hK75 => ?_)
                          refine c_region ?_
                          refine l_step (y_eql (et (gS rfl g0) rfl) rfl) ?_
                          refine l_step (y_assignV (et g0 rfl)) ?_
                          refine l_nil ?_
                          refine hK75 _ _ ?_
                          refine fg5 2 1 0 27 141 (gS rfl (gS rfl (gS rfl (gS rfl (gS rfl (gS rfl g0)))))) (gS rfl (gS rfl (gS rfl (gS rfl (gS rfl g0))))) (gS rfl (gS rfl (gS rfl (gS rfl g0)))) (gS rfl (gS rfl (gS rfl g0))) g0 (fun g => ?_)
                          refine c_cond (et g0 rfl) (fun cB13 => ?_) (fun cB13 => ?_)
                          · skip
                            
                            have ho : o = 17 := by have := of_decide_eq_true cB13; omega
                            refine c_seq (fun K77 hK77 => ?_)
                            refine c_region ?_
                            refine l_step (y_moveV (et (gS rfl (gS rfl (gS rfl g0))) rfl)) ?_
                            refine l_step (y_moveV (et (gS rfl (gS rfl (gS rfl (gS rfl (gS rfl g0))))) rfl)) ?_
                            refine l_eff (e_callV cal_121 (aC (et (gS rfl g0) rfl) (aC (et g0 rfl) aN)) (nat_cmp hF h1 h2 (bd_sm s1 (by decide)) (bd_sm s2 (by decide)))) (fun v78 w78 h78 => ?_)
                            obtain ⟨rfl, u78⟩ := h78
                            replace G := G.tr (Go.ofUp hF u78)
                            replace hF := hF.up u78
                            replace U := U.tr u78
                            refine l_step ((y_gtr (et g0 rfl) rfl).to (congrArg Value.bool (cmp_gt0 x y))) ?_
                            refine l_eff (e_callV cal_344 (aC (et g0 rfl) aN) (yp_truth hF _)) (fun v79 w79 h79 => ?_)
                            obtain ⟨H79, g79, n79⟩ := h79
                            have hlew79 := g79.le
                            replace h1 := h1.mono hlew79
                            replace h2 := h2.mono hlew79
                            replace h3 := h3.mono hlew79
                            replace U := U.tr g79.up
                            replace G := G.tr g79
                            replace hF := g79.fz
                            refine l_step (y_assignV (et g0 rfl)) ?_
                            refine l_nil ?_
                            refine hK77 _ _ ?_
                            refine fg1 8 g0 (fun g => ?_)
                            refine c_ret ?_
                            refine hQ4 _ _ _ (in_ret ?_)
                            refine ret1 rfl (res_tmp (et g0 rfl)) ?_
                            first | (subst ho; exact ⟨_, G, n79⟩) | exact ⟨_, G, n79⟩
                          · skip
                            
                            have hn17 : o ≠ 17 := by have := of_decide_eq_false cB13; omega
                            refine c_seq (fun K80 hK80 => ?_)
                            refine c_region ?_
                            refine l_step (y_eql (et (gS rfl g0) rfl) rfl) ?_
                            refine l_step (y_assignV (et g0 rfl)) ?_
                            refine l_nil ?_
                            refine hK80 _ _ ?_
                            refine fg5 2 1 0 27 148 (gS rfl (gS rfl (gS rfl (gS rfl (gS rfl (gS rfl g0)))))) (gS rfl (gS rfl (gS rfl (gS rfl (gS rfl g0))))) (gS rfl (gS rfl (gS rfl (gS rfl g0)))) (gS rfl (gS rfl (gS rfl g0))) g0 (fun g => ?_)
                            refine c_cond (et g0 rfl) (fun cB14 => ?_) (fun cB14 => ?_)
                            · skip
                              
                              have ho : o = 18 := by have := of_decide_eq_true cB14; omega
                              refine c_seq (fun K82 hK82 => ?_)
                              refine c_region ?_
                              refine l_step (y_moveV (et (gS rfl (gS rfl (gS rfl g0))) rfl)) ?_
                              refine l_step (y_moveV (et (gS rfl (gS rfl (gS rfl (gS rfl (gS rfl g0))))) rfl)) ?_
                              refine l_eff (e_callV cal_345 (aC (et (gS rfl g0) rfl) (aC (et g0 rfl) aN)) (yp_sBelow hF h1 h2 s1 s2)) (fun v83 w83 h83 => ?_)
                              obtain ⟨rfl, u83⟩ := h83
                              replace G := G.tr (Go.ofUp hF u83)
                              replace hF := hF.up u83
                              replace U := U.tr u83
                              refine l_eff (e_callV cal_344 (aC (et g0 rfl) aN) (yp_truth hF _)) (fun v84 w84 h84 => ?_)
                              obtain ⟨H84, g84, n84⟩ := h84
                              have hlew84 := g84.le
                              replace h1 := h1.mono hlew84
                              replace h2 := h2.mono hlew84
                              replace h3 := h3.mono hlew84
                              replace U := U.tr g84.up
                              replace G := G.tr g84
                              replace hF := g84.fz
                              refine l_step (y_assignV (et g0 rfl)) ?_
                              refine l_nil ?_
                              refine hK82 _ _ ?_
                              refine fg1 8 g0 (fun g => ?_)
                              refine c_ret ?_
                              refine hQ4 _ _ _ (in_ret ?_)
                              refine ret1 rfl (res_tmp (et g0 rfl)) ?_
                              first | (subst ho; exact ⟨_, G, n84⟩) | exact ⟨_, G, n84⟩
                            · skip
                              
                              have hn18 : o ≠ 18 := by have := of_decide_eq_false cB14; omega
                              refine c_seq (fun K85 hK85 => ?_)
                              refine c_region ?_
                              refine l_step (y_eql (et (gS rfl g0) rfl) rfl) ?_
                              refine l_step (y_assignV (et g0 rfl)) ?_
                              refine l_nil ?_
                              refine hK85 _ _ ?_
                              refine fg5 2 1 0 27 154 (gS rfl (gS rfl (gS rfl (gS rfl (gS rfl (gS rfl g0)))))) (gS rfl (gS rfl (gS rfl (gS rfl (gS rfl g0))))) (gS rfl (gS rfl (gS rfl (gS rfl g0)))) (gS rfl (gS rfl (gS rfl g0))) g0 (fun g => ?_)
                              refine c_cond (et g0 rfl) (fun cB15 => ?_) (fun cB15 => ?_)
                              · skip
                                
                                have ho : o = 19 := by have := of_decide_eq_true cB15; omega
                                refine c_seq (fun K87 hK87 => ?_)
                                refine c_region ?_
                                refine l_step (y_moveV (et (gS rfl (gS rfl (gS rfl (gS rfl g0)))) rfl)) ?_
                                refine l_step (y_moveV (et (gS rfl (gS rfl (gS rfl (gS rfl g0)))) rfl)) ?_
                                refine l_eff (e_callV cal_345 (aC (et (gS rfl g0) rfl) (aC (et g0 rfl) aN)) (yp_sBelow hF h2 h1 s2 s1)) (fun v88 w88 h88 => ?_)
                                obtain ⟨rfl, u88⟩ := h88
                                replace G := G.tr (Go.ofUp hF u88)
                                replace hF := hF.up u88
                                replace U := U.tr u88
                                refine l_eff (e_callV cal_344 (aC (et g0 rfl) aN) (yp_truth hF _)) (fun v89 w89 h89 => ?_)
                                obtain ⟨H89, g89, n89⟩ := h89
                                have hlew89 := g89.le
                                replace h1 := h1.mono hlew89
                                replace h2 := h2.mono hlew89
                                replace h3 := h3.mono hlew89
                                replace U := U.tr g89.up
                                replace G := G.tr g89
                                replace hF := g89.fz
                                refine l_step (y_assignV (et g0 rfl)) ?_
                                refine l_nil ?_
                                refine hK87 _ _ ?_
                                refine fg1 8 g0 (fun g => ?_)
                                refine c_ret ?_
                                refine hQ4 _ _ _ (in_ret ?_)
                                refine ret1 rfl (res_tmp (et g0 rfl)) ?_
                                first | (subst ho; exact ⟨_, G, n89⟩) | exact ⟨_, G, n89⟩
                              · skip
                                
                                have hn19 : o ≠ 19 := by have := of_decide_eq_false cB15; omega
                                refine c_seq (fun K90 hK90 => ?_)
                                refine c_region ?_
                                refine l_step (y_eql (et (gS rfl g0) rfl) rfl) ?_
                                refine l_step (y_assignV (et g0 rfl)) ?_
                                refine l_nil ?_
                                refine hK90 _ _ ?_
                                refine fg5 2 1 0 27 160 (gS rfl (gS rfl (gS rfl (gS rfl (gS rfl (gS rfl g0)))))) (gS rfl (gS rfl (gS rfl (gS rfl (gS rfl g0))))) (gS rfl (gS rfl (gS rfl (gS rfl g0)))) (gS rfl (gS rfl (gS rfl g0))) g0 (fun g => ?_)
                                refine c_cond (et g0 rfl) (fun cB16 => ?_) (fun cB16 => ?_)
                                · skip
                                  
                                  have ho : o = 20 := by have := of_decide_eq_true cB16; omega
                                  refine c_seq (fun K92 hK92 => ?_)
                                  refine c_region ?_
                                  refine l_step (y_moveV (et (gS rfl (gS rfl (gS rfl g0))) rfl)) ?_
                                  refine l_step (y_moveV (et (gS rfl (gS rfl (gS rfl (gS rfl (gS rfl g0))))) rfl)) ?_
                                  refine l_eff (e_callV cal_121 (aC (et (gS rfl g0) rfl) (aC (et g0 rfl) aN)) (nat_cmp hF h1 h2 (bd_sm s1 (by decide)) (bd_sm s2 (by decide)))) (fun v93 w93 h93 => ?_)
                                  obtain ⟨rfl, u93⟩ := h93
                                  replace G := G.tr (Go.ofUp hF u93)
                                  replace hF := hF.up u93
                                  replace U := U.tr u93
                                  refine l_step ((y_eql (et g0 rfl) rfl).to (congrArg Value.bool (cmp_eq0 x y))) ?_
                                  refine l_eff (e_callV cal_344 (aC (et g0 rfl) aN) (yp_truth hF _)) (fun v94 w94 h94 => ?_)
                                  obtain ⟨H94, g94, n94⟩ := h94
                                  have hlew94 := g94.le
                                  replace h1 := h1.mono hlew94
                                  replace h2 := h2.mono hlew94
                                  replace h3 := h3.mono hlew94
                                  replace U := U.tr g94.up
                                  replace G := G.tr g94
                                  replace hF := g94.fz
                                  refine l_step (y_assignV (et g0 rfl)) ?_
                                  refine l_nil ?_
                                  refine hK92 _ _ ?_
                                  refine fg1 8 g0 (fun g => ?_)
                                  refine c_ret ?_
                                  refine hQ4 _ _ _ (in_ret ?_)
                                  refine ret1 rfl (res_tmp (et g0 rfl)) ?_
                                  first | (subst ho; exact ⟨_, G, n94⟩) | exact ⟨_, G, n94⟩
                                · skip
                                  
                                  have hn20 : o ≠ 20 := by have := of_decide_eq_false cB16; omega
                                  refine c_seq (fun K95 hK95 => ?_)
                                  refine c_region ?_
                                  refine l_step (y_eql (et (gS rfl g0) rfl) rfl) ?_
                                  refine l_step (y_assignV (et g0 rfl)) ?_
                                  refine l_nil ?_
                                  refine hK95 _ _ ?_
                                  refine fg5 2 1 0 27 167 (gS rfl (gS rfl (gS rfl (gS rfl (gS rfl (gS rfl g0)))))) (gS rfl (gS rfl (gS rfl (gS rfl (gS rfl g0))))) (gS rfl (gS rfl (gS rfl (gS rfl g0)))) (gS rfl (gS rfl (gS rfl g0))) g0 (fun g => ?_)
                                  refine c_cond (et g0 rfl) (fun cB17 => ?_) (fun cB17 => ?_)
                                  · skip
                                    
                                    have ho : o = 21 := by have := of_decide_eq_true cB17; omega
                                    refine c_seq (fun K97 hK97 => ?_)
                                    refine c_region ?_
                                    refine l_step (y_moveV (et (gS rfl (gS rfl (gS rfl g0))) rfl)) ?_
                                    refine l_eff (e_callV cal_121 (aC (et g0 rfl) (aC rfl aN)) (nat_cmp hF h1 (NV.nil _) (bd_sm s1 (by decide)) (bd_sm bd_zero (by decide)))) (fun v98 w98 h98 => ?_)
                                    obtain ⟨rfl, u98⟩ := h98
                                    replace G := G.tr (Go.ofUp hF u98)
                                    replace hF := hF.up u98
                                    replace U := U.tr u98
                                    refine l_step ((y_eql (et g0 rfl) rfl).to (congrArg Value.bool (cmp_eq0 x 0))) ?_
                                    refine l_eff (e_callV cal_344 (aC (et g0 rfl) aN) (yp_truth hF _)) (fun v99 w99 h99 => ?_)
                                    obtain ⟨H99, g99, n99⟩ := h99
                                    have hlew99 := g99.le
                                    replace h1 := h1.mono hlew99
                                    replace h2 := h2.mono hlew99
                                    replace h3 := h3.mono hlew99
                                    replace U := U.tr g99.up
                                    replace G := G.tr g99
                                    replace hF := g99.fz
                                    refine l_step (y_assignV (et g0 rfl)) ?_
                                    refine l_nil ?_
                                    refine hK97 _ _ ?_
                                    refine fg1 8 g0 (fun g => ?_)
                                    refine c_ret ?_
                                    refine hQ4 _ _ _ (in_ret ?_)
                                    refine ret1 rfl (res_tmp (et g0 rfl)) ?_
                                    first | (subst ho; exact ⟨_, G, n99⟩) | exact ⟨_, G, n99⟩
                                  · skip
                                    
                                    have hn21 : o ≠ 21 := by have := of_decide_eq_false cB17; omega
                                    refine c_seq (fun K100 hK100 => ?_)
                                    refine c_seq (fun K101 hK101 => ?_)
                                    refine c_region ?_
                                    refine l_step (y_eql (et (gS rfl g0) rfl) rfl) ?_
                                    refine l_step (y_assignV (et g0 rfl)) ?_
                                    refine l_nil ?_
                                    refine hK101 _ _ ?_
                                    refine fg5 2 1 0 27 173 (gS rfl (gS rfl (gS rfl (gS rfl (gS rfl (gS rfl g0)))))) (gS rfl (gS rfl (gS rfl (gS rfl (gS rfl g0))))) (gS rfl (gS rfl (gS rfl (gS rfl g0)))) (gS rfl (gS rfl (gS rfl g0))) g0 (fun g => ?_)
                                    refine c_cond (et g0 rfl) (fun cB18 => ?_) (fun cB18 => ?_)
                                    · skip
                                      
                                      have ho : o = 22 := by have := of_decide_eq_true cB18; omega
                                      refine c_skip ?_
                                      refine hK100 _ _ ?_
                                      refine c_cond (et g0 rfl) (fun cB21 => ?_) (fun cB21 => ?_)
                                      · skip
                                        
                                        refine c_seq (fun K104 hK104 => ?_)
                                        refine c_region ?_
                                        refine l_step (y_moveV (et (gS rfl (gS rfl g0)) rfl)) ?_
                                        refine l_step (y_moveV (et (gS rfl (gS rfl (gS rfl (gS rfl g0)))) rfl)) ?_
                                        refine l_step (y_moveV (et (gS rfl (gS rfl (gS rfl (gS rfl (gS rfl (gS rfl g0)))))) rfl)) ?_
                                        subst ho
                                        refine l_eff (e_callV cal_346 (aC (et (gS rfl (gS rfl g0)) rfl) (aC (et (gS rfl g0) rfl) (aC (et g0 rfl) aN))) (yp_bitwise 22 (by decide) hF h1 h2 (bd_up s1 (by decide)) (bd_up s2 (by decide)))) (fun v105 w105 h105 => ?_)
                                        obtain ⟨H105, g105, n105⟩ := h105
                                        have hlew105 := g105.le
                                        replace h1 := h1.mono hlew105
                                        replace h2 := h2.mono hlew105
                                        replace h3 := h3.mono hlew105
                                        replace U := U.tr g105.up
                                        replace G := G.tr g105
                                        replace hF := g105.fz
                                        have q105 := bd_bw n105 (bd_up (b := 32) s1 (by decide)) (bd_up (b := 32) s2 (by decide))
                                        refine l_step (y_assignV (et g0 rfl)) ?_
                                        refine l_nil ?_
                                        refine hK104 _ _ ?_
                                        refine fg1 8 g0 (fun g => ?_)
                                        refine c_ret ?_
                                        refine hQ4 _ _ _ (in_ret ?_)
                                        refine ret1 rfl (res_tmp (et g0 rfl)) ?_
                                        first | (subst ho; exact ⟨_, G, n105⟩) | exact ⟨_, G, n105⟩
                                      · skip
                                        
                                        exact absurd cB21 (by rw [decide_eq_true (show ((o : Nat) : Int) = 22 by omega)]; decide)
                                    · skip
                                      
                                      have hn22 : o ≠ 22 := by have := of_decide_eq_false cB18; omega
                                      refine c_seq (fun K106 hK106 => ?_)
                                      refine c_region ?_
                                      refine l_step (y_eql (et (gS rfl g0) rfl) rfl) ?_
                                      refine l_step (y_assignV (et g0 rfl)) ?_
                                      refine l_nil ?_
                                      refine hK106 _ _ ?_
                                      refine fg5 2 1 0 27 173 (gS rfl (gS rfl (gS rfl (gS rfl (gS rfl (gS rfl g0)))))) (gS rfl (gS rfl (gS rfl (gS rfl (gS rfl g0))))) (gS rfl (gS rfl (gS rfl (gS rfl g0)))) (gS rfl (gS rfl (gS rfl g0))) g0 (fun g => ?_)
                                      refine c_cond (et g0 rfl) (fun cB19 => ?_) (fun cB19 => ?_)
                                      · skip
                                        
                                        have ho : o = 23 := by have := of_decide_eq_true cB19; omega
                                        refine c_skip ?_
                                        refine hK100 _ _ ?_
                                        refine c_cond (et g0 rfl) (fun cB21 => ?_) (fun cB21 => ?_)
                                        · skip
                                          
                                          refine c_seq (fun K109 hK109 => ?_)
                                          refine c_region ?_
                                          refine l_step (y_moveV (et (gS rfl (gS rfl g0)) rfl)) ?_
                                          refine l_step (y_moveV (et (gS rfl (gS rfl (gS rfl (gS rfl g0)))) rfl)) ?_
                                          refine l_step (y_moveV (et (gS rfl (gS rfl (gS rfl (gS rfl (gS rfl (gS rfl g0)))))) rfl)) ?_
                                          subst ho
                                          refine l_eff (e_callV cal_346 (aC (et (gS rfl (gS rfl g0)) rfl) (aC (et (gS rfl g0) rfl) (aC (et g0 rfl) aN))) (yp_bitwise 23 (by decide) hF h1 h2 (bd_up s1 (by decide)) (bd_up s2 (by decide)))) (fun v110 w110 h110 => ?_)
                                          obtain ⟨H110, g110, n110⟩ := h110
                                          have hlew110 := g110.le
                                          replace h1 := h1.mono hlew110
                                          replace h2 := h2.mono hlew110
                                          replace h3 := h3.mono hlew110
                                          replace U := U.tr g110.up
                                          replace G := G.tr g110
                                          replace hF := g110.fz
                                          have q110 := bd_bw n110 (bd_up (b := 32) s1 (by decide)) (bd_up (b := 32) s2 (by decide))
                                          refine l_step (y_assignV (et g0 rfl)) ?_
                                          refine l_nil ?_
                                          refine hK109 _ _ ?_
                                          refine fg1 8 g0 (fun g => ?_)
                                          refine c_ret ?_
                                          refine hQ4 _ _ _ (in_ret ?_)
                                          refine ret1 rfl (res_tmp (et g0 rfl)) ?_
                                          first | (subst ho; exact ⟨_, G, n110⟩) | exact ⟨_, G, n110⟩
                                        · skip
                                          
                                          exact absurd cB21 (by rw [decide_eq_true (show ((o : Nat) : Int) = 23 by omega)]; decide)
                                      · skip
                                        
                                        have hn23 : o ≠ 23 := by have := of_decide_eq_false cB19; omega
                                        refine c_seq (fun K111 hK111 => ?_)
                                        refine c_region ?_
                                        refine l_step (y_eql (et (gS rfl g0) rfl) rfl) ?_
                                        refine l_step (y_assignV (et g0 rfl)) ?_
                                        refine l_nil ?_
                                        refine hK111 _ _ ?_
                                        refine fg5 2 1 0 27 173 (gS rfl (gS rfl (gS rfl (gS rfl (gS rfl (gS rfl g0)))))) (gS rfl (gS rfl (gS rfl (gS rfl (gS rfl g0))))) (gS rfl (gS rfl (gS rfl (gS rfl g0)))) (gS rfl (gS rfl (gS rfl g0))) g0 (fun g => ?_)
                                        refine c_cond (et g0 rfl) (fun cB20 => ?_) (fun cB20 => ?_)
                                        · skip
                                          
                                          have ho : o = 24 := by have := of_decide_eq_true cB20; omega
                                          refine c_skip ?_
                                          refine hK100 _ _ ?_
                                          refine c_cond (et g0 rfl) (fun cB21 => ?_) (fun cB21 => ?_)
                                          · skip
                                            
                                            refine c_seq (fun K114 hK114 => ?_)
                                            refine c_region ?_
                                            refine l_step (y_moveV (et (gS rfl (gS rfl g0)) rfl)) ?_
                                            refine l_step (y_moveV (et (gS rfl (gS rfl (gS rfl (gS rfl g0)))) rfl)) ?_
                                            refine l_step (y_moveV (et (gS rfl (gS rfl (gS rfl (gS rfl (gS rfl (gS rfl g0)))))) rfl)) ?_
                                            subst ho
                                            refine l_eff (e_callV cal_346 (aC (et (gS rfl (gS rfl g0)) rfl) (aC (et (gS rfl g0) rfl) (aC (et g0 rfl) aN))) (yp_bitwise 24 (by decide) hF h1 h2 (bd_up s1 (by decide)) (bd_up s2 (by decide)))) (fun v115 w115 h115 => ?_)
                                            obtain ⟨H115, g115, n115⟩ := h115
                                            have hlew115 := g115.le
                                            replace h1 := h1.mono hlew115
                                            replace h2 := h2.mono hlew115
                                            replace h3 := h3.mono hlew115
                                            replace U := U.tr g115.up
                                            replace G := G.tr g115
                                            replace hF := g115.fz
                                            have q115 := bd_bw n115 (bd_up (b := 32) s1 (by decide)) (bd_up (b := 32) s2 (by decide))
                                            refine l_step (y_assignV (et g0 rfl)) ?_
                                            refine l_nil ?_
                                            refine hK114 _ _ ?_
                                            refine fg1 8 g0 (fun g => ?_)
                                            refine c_ret ?_
                                            refine hQ4 _ _ _ (in_ret ?_)
                                            refine ret1 rfl (res_tmp (et g0 rfl)) ?_
                                            first | (subst ho; exact ⟨_, G, n115⟩) | exact ⟨_, G, n115⟩
                                          · skip
                                            
                                            exact absurd cB21 (by rw [decide_eq_true (show ((o : Nat) : Int) = 24 by omega)]; decide)
                                        · skip
                                          
                                          have hn24 : o ≠ 24 := by have := of_decide_eq_false cB20; omega
                                          refine c_region ?_
                                          refine l_step (y_eql (et (gS rfl g0) rfl) rfl) ?_
                                          refine l_step (y_assignV (et g0 rfl)) ?_
                                          refine l_nil ?_
                                          refine hK100 _ _ ?_
                                          refine fg5 2 1 0 27 173 (gS rfl (gS rfl (gS rfl (gS rfl (gS rfl (gS rfl g0)))))) (gS rfl (gS rfl (gS rfl (gS rfl (gS rfl g0))))) (gS rfl (gS rfl (gS rfl (gS rfl g0)))) (gS rfl (gS rfl (gS rfl g0))) g0 (fun g => ?_)
                                          refine c_cond (et g0 rfl) (fun cB21 => ?_) (fun cB21 => ?_)
                                          · skip
                                            
                                            have ho : o = 25 := by have := of_decide_eq_true cB21; omega
                                            refine c_seq (fun K117 hK117 => ?_)
                                            refine c_region ?_
                                            refine l_step (y_moveV (et (gS rfl (gS rfl g0)) rfl)) ?_
                                            refine l_step (y_moveV (et (gS rfl (gS rfl (gS rfl (gS rfl g0)))) rfl)) ?_
                                            refine l_step (y_moveV (et (gS rfl (gS rfl (gS rfl (gS rfl (gS rfl (gS rfl g0)))))) rfl)) ?_
                                            subst ho
                                            refine l_eff (e_callV cal_346 (aC (et (gS rfl (gS rfl g0)) rfl) (aC (et (gS rfl g0) rfl) (aC (et g0 rfl) aN))) (yp_bitwise 25 (by decide) hF h1 h2 (bd_up s1 (by decide)) (bd_up s2 (by decide)))) (fun v118 w118 h118 => ?_)
                                            obtain ⟨H118, g118, n118⟩ := h118
                                            have hlew118 := g118.le
                                            replace h1 := h1.mono hlew118
                                            replace h2 := h2.mono hlew118
                                            replace h3 := h3.mono hlew118
                                            replace U := U.tr g118.up
                                            replace G := G.tr g118
                                            replace hF := g118.fz
                                            have q118 := bd_bw n118 (bd_up (b := 32) s1 (by decide)) (bd_up (b := 32) s2 (by decide))
                                            refine l_step (y_assignV (et g0 rfl)) ?_
                                            refine l_nil ?_
                                            refine hK117 _ _ ?_
                                            refine fg1 8 g0 (fun g => ?_)
                                            refine c_ret ?_
                                            refine hQ4 _ _ _ (in_ret ?_)
                                            refine ret1 rfl (res_tmp (et g0 rfl)) ?_
                                            first | (subst ho; exact ⟨_, G, n118⟩) | exact ⟨_, G, n118⟩
                                          · skip
                                            
                                            have hn25 : o ≠ 25 := by have := of_decide_eq_false cB21; omega
                                            refine c_seq (fun K119 hK119 => ?_)
                                            refine c_region ?_
                                            refine l_step (y_eql (et (gS rfl g0) rfl) rfl) ?_
                                            refine l_step (y_assignV (et g0 rfl)) ?_
                                            refine l_nil ?_
                                            refine hK119 _ _ ?_
                                            refine fg5 2 1 0 27 182 (gS rfl (gS rfl (gS rfl (gS rfl (gS rfl (gS rfl g0)))))) (gS rfl (gS rfl (gS rfl (gS rfl (gS rfl g0))))) (gS rfl (gS rfl (gS rfl (gS rfl g0)))) (gS rfl (gS rfl (gS rfl g0))) g0 (fun g => ?_)
                                            refine c_cond (et g0 rfl) (fun cB22 => ?_) (fun cB22 => ?_)
                                            · skip
                                              
                                              have ho : o = 26 := by have := of_decide_eq_true cB22; omega
                                              refine c_seq (fun K121 hK121 => ?_)
                                              refine c_region ?_
                                              refine l_step (y_moveV (et (gS rfl (gS rfl (gS rfl g0))) rfl)) ?_
                                              refine l_step (y_moveV (et (gS rfl (gS rfl (gS rfl (gS rfl (gS rfl g0))))) rfl)) ?_
                                              refine l_eff (e_callV cal_347 (aC (et (gS rfl g0) rfl) (aC (et g0 rfl) aN)) (yp_pick hF h1 h2 s1 s2)) (fun v122 w122 h122 => ?_)
                                              obtain ⟨H122, g122, n122⟩ := h122
                                              have hlew122 := g122.le
                                              replace h1 := h1.mono hlew122
                                              replace h2 := h2.mono hlew122
                                              replace h3 := h3.mono hlew122
                                              replace U := U.tr g122.up
                                              replace G := G.tr g122
                                              replace hF := g122.fz
                                              have q122 := True.intro
                                              refine l_step (y_assignV (et g0 rfl)) ?_
                                              refine l_nil ?_
                                              refine hK121 _ _ ?_
                                              refine fg1 8 g0 (fun g => ?_)
                                              refine c_ret ?_
                                              refine hQ4 _ _ _ (in_ret ?_)
                                              refine ret1 rfl (res_tmp (et g0 rfl)) ?_
                                              first | (subst ho; exact ⟨_, G, n122⟩) | exact ⟨_, G, n122⟩
                                            · skip
                                              
                                              have hn26 : o ≠ 26 := by have := of_decide_eq_false cB22; omega
                                              refine c_seq (fun K123 hK123 => ?_)
                                              refine c_seq (fun K124 hK124 => ?_)
                                              refine c_region ?_
                                              refine l_step (y_eql (et (gS rfl g0) rfl) rfl) ?_
                                              refine l_step (y_assignV (et g0 rfl)) ?_
                                              refine l_nil ?_
                                              refine hK124 _ _ ?_
                                              refine fg5 2 1 0 27 187 (gS rfl (gS rfl (gS rfl (gS rfl (gS rfl (gS rfl g0)))))) (gS rfl (gS rfl (gS rfl (gS rfl (gS rfl g0))))) (gS rfl (gS rfl (gS rfl (gS rfl g0)))) (gS rfl (gS rfl (gS rfl g0))) g0 (fun g => ?_)
                                              refine c_cond (et g0 rfl) (fun cB23 => ?_) (fun cB23 => ?_)
                                              · skip
                                                
                                                have ho : o = 27 := by have := of_decide_eq_true cB23; omega
                                                refine c_skip ?_
                                                refine hK123 _ _ ?_
                                                refine fg4 2 1 0 187 (gS rfl (gS rfl (gS rfl (gS rfl g0)))) (gS rfl (gS rfl (gS rfl g0))) (gS rfl (gS rfl g0)) g0 (fun g => ?_)
                                                refine c_cond (et g0 rfl) (fun cB25 => ?_) (fun cB25 => ?_)
                                                · skip
                                                  
                                                  refine c_seq (fun K127 hK127 => ?_)
                                                  refine c_region ?_
                                                  refine l_step (y_moveV (et (gS rfl g0) rfl)) ?_
                                                  refine l_step (y_moveV (et (gS rfl (gS rfl (gS rfl g0))) rfl)) ?_
                                                  refine l_step (y_moveV (et (gS rfl (gS rfl (gS rfl (gS rfl (gS rfl g0))))) rfl)) ?_
                                                  subst ho
                                                  refine l_eff (e_callV cal_348 (aC (et (gS rfl (gS rfl g0)) rfl) (aC (et (gS rfl g0) rfl) (aC (et g0 rfl) aN))) (yp_shl hF h1 h2 s1 s2)) (fun v128 w128 h128 => ?_)
                                                  obtain ⟨H128, g128, n128⟩ := h128
                                                  have hlew128 := g128.le
                                                  replace h1 := h1.mono hlew128
                                                  replace h2 := h2.mono hlew128
                                                  replace h3 := h3.mono hlew128
                                                  replace U := U.tr g128.up
                                                  replace G := G.tr g128
                                                  replace hF := g128.fz
                                                  refine l_step (y_assignV (et g0 rfl)) ?_
                                                  refine l_nil ?_
                                                  refine hK127 _ _ ?_
                                                  refine fg1 8 g0 (fun g => ?_)
                                                  refine c_ret ?_
                                                  refine hQ4 _ _ _ (in_ret ?_)
                                                  refine ret1 rfl (res_tmp (et g0 rfl)) ?_
                                                  first | (subst ho; exact ⟨_, G, n128⟩) | exact ⟨_, G, n128⟩
                                                · skip
                                                  
                                                  exact absurd cB25 (by rw [decide_eq_true (show ((o : Nat) : Int) = 27 by omega)]; decide)
                                              · skip
                                                
                                                have hn27 : o ≠ 27 := by have := of_decide_eq_false cB23; omega
                                                refine c_seq (fun K129 hK129 => ?_)
                                                refine c_region ?_
                                                refine l_step (y_eql (et (gS rfl g0) rfl) rfl) ?_
                                                refine l_step (y_assignV (et g0 rfl)) ?_
                                                refine l_nil ?_
                                                refine hK129 _ _ ?_
                                                refine fg5 2 1 0 27 187 (gS rfl (gS rfl (gS rfl (gS rfl (gS rfl (gS rfl g0)))))) (gS rfl (gS rfl (gS rfl (gS rfl (gS rfl g0))))) (gS rfl (gS rfl (gS rfl (gS rfl g0)))) (gS rfl (gS rfl (gS rfl g0))) g0 (fun g => ?_)
                                                refine c_cond (et g0 rfl) (fun cB24 => ?_) (fun cB24 => ?_)
                                                · skip
                                                  
                                                  have ho : o = 28 := by have := of_decide_eq_true cB24; omega
                                                  refine c_skip ?_
                                                  refine hK123 _ _ ?_
                                                  refine fg4 2 1 0 187 (gS rfl (gS rfl (gS rfl (gS rfl g0)))) (gS rfl (gS rfl (gS rfl g0))) (gS rfl (gS rfl g0)) g0 (fun g => ?_)
                                                  refine c_cond (et g0 rfl) (fun cB25 => ?_) (fun cB25 => ?_)
                                                  · skip
                                                    
                                                    refine c_seq (fun K132 hK132 => ?_)
                                                    refine c_region ?_
                                                    refine l_step (y_moveV (et (gS rfl g0) rfl)) ?_
                                                    refine l_step (y_moveV (et (gS rfl (gS rfl (gS rfl g0))) rfl)) ?_
                                                    refine l_step (y_moveV (et (gS rfl (gS rfl (gS rfl (gS rfl (gS rfl g0))))) rfl)) ?_
                                                    subst ho
                                                    refine l_eff (e_callV cal_348 (aC (et (gS rfl (gS rfl g0)) rfl) (aC (et (gS rfl g0) rfl) (aC (et g0 rfl) aN))) (yp_shr hF h1 h2 s1 s2)) (fun v133 w133 h133 => ?_)
                                                    obtain ⟨H133, g133, n133⟩ := h133
                                                    have hlew133 := g133.le
                                                    replace h1 := h1.mono hlew133
                                                    replace h2 := h2.mono hlew133
                                                    replace h3 := h3.mono hlew133
                                                    replace U := U.tr g133.up
                                                    replace G := G.tr g133
                                                    replace hF := g133.fz
                                                    refine l_step (y_assignV (et g0 rfl)) ?_
                                                    refine l_nil ?_
                                                    refine hK132 _ _ ?_
                                                    refine fg1 8 g0 (fun g => ?_)
                                                    refine c_ret ?_
                                                    refine hQ4 _ _ _ (in_ret ?_)
                                                    refine ret1 rfl (res_tmp (et g0 rfl)) ?_
                                                    first | (subst ho; exact ⟨_, G, n133⟩) | exact ⟨_, G, n133⟩
                                                  · skip
                                                    
                                                    exact absurd cB25 (by rw [decide_eq_true (show ((o : Nat) : Int) = 28 by omega)]; decide)
                                                · skip
                                                  
                                                  have hn28 : o ≠ 28 := by have := of_decide_eq_false cB24; omega
                                                  refine c_region ?_
                                                  refine l_step (y_eql (et (gS rfl g0) rfl) rfl) ?_
                                                  refine l_step (y_assignV (et g0 rfl)) ?_
                                                  refine l_nil ?_
                                                  refine hK123 _ _ ?_
                                                  refine fg4 2 1 0 187 (gS rfl (gS rfl (gS rfl (gS rfl (gS rfl (gS rfl g0)))))) (gS rfl (gS rfl (gS rfl (gS rfl (gS rfl g0))))) (gS rfl (gS rfl (gS rfl (gS rfl g0)))) g0 (fun g => ?_)
                                                  refine c_cond (et g0 rfl) (fun cB25 => ?_) (fun cB25 => ?_)
                                                  · skip
                                                    
                                                    have ho : o = 29 := by have := of_decide_eq_true cB25; omega
                                                    refine c_seq (fun K135 hK135 => ?_)
                                                    refine c_region ?_
                                                    refine l_step (y_moveV (et (gS rfl g0) rfl)) ?_
                                                    refine l_step (y_moveV (et (gS rfl (gS rfl (gS rfl g0))) rfl)) ?_
                                                    refine l_step (y_moveV (et (gS rfl (gS rfl (gS rfl (gS rfl (gS rfl g0))))) rfl)) ?_
                                                    subst ho
                                                    refine l_eff (e_callV cal_348 (aC (et (gS rfl (gS rfl g0)) rfl) (aC (et (gS rfl g0) rfl) (aC (et g0 rfl) aN))) (yp_sar hF h1 h2 s1 s2)) (fun v136 w136 h136 => ?_)
                                                    obtain ⟨H136, g136, n136⟩ := h136
                                                    have hlew136 := g136.le
                                                    replace h1 := h1.mono hlew136
                                                    replace h2 := h2.mono hlew136
                                                    replace h3 := h3.mono hlew136
                                                    replace U := U.tr g136.up
                                                    replace G := G.tr g136
                                                    replace hF := g136.fz
                                                    refine l_step (y_assignV (et g0 rfl)) ?_
                                                    refine l_nil ?_
                                                    refine hK135 _ _ ?_
                                                    refine fg1 8 g0 (fun g => ?_)
                                                    refine c_ret ?_
                                                    refine hQ4 _ _ _ (in_ret ?_)
                                                    refine ret1 rfl (res_tmp (et g0 rfl)) ?_
                                                    first | (subst ho; exact ⟨_, G, n136⟩) | exact ⟨_, G, n136⟩
                                                  · skip
                                                    
                                                    have hn29 : o ≠ 29 := by have := of_decide_eq_false cB25; omega
                                                    refine c_skip ?_
                                                    refine hQ4 _ _ _ (in_normal ?_)
                                                    refine hK2 _ _ ?_
                                                    refine fg0 (fun g => ?_)
                                                    refine c_seq (fun K137 hK137 => ?_)
                                                    refine c_region ?_
                                                    refine l_step y_assignC ?_
                                                    refine l_nil ?_
                                                    refine hK137 _ _ ?_
                                                    refine c_ret ?_
                                                    refine ret1 rfl (res_tmp (et g0 rfl)) ?_
                                                    refine ⟨_, G, (NV.nil _).to ?_⟩
                                                    unfold aluN
                                                    simp only [hn1, hn2, hn3, hn4, hn5, hn6, hn7, hn8, hn9, hn10, hn11, hn16, hn17, hn18, hn19, hn20, hn21, hn22, hn23, hn24, hn25, hn26, hn27, hn28, hn29, if_false]
end Go.Proofs.YgvaawGreat
