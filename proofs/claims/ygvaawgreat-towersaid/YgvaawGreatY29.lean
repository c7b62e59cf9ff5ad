import Derived.Test.YgvaawGreatY28
set_option maxRecDepth 100000
set_option maxHeartbeats 4000000
set_option linter.unusedSimpArgs false
set_option linter.unusedVariables false
namespace Go.Proofs.YgvaawGreat
open Go
def ncE (l : List Nat) : Nat := bitLen (ofBE (cutN l (96 + lnV l 0) (min (lnV l 1) 32)))
def ncT (l : List Nat) : Nat := (if 1 < ncE l then ncE l - 1 else 0) + (if 32 < lnV l 1 then 8 * (lnV l 1 - 32) else 0)
def ncW (l : List Nat) : Nat := (max (lnV l 0) (lnV l 2) + 7) / 8
def ncN (k : Nat) (l : List Nat) : Nat := if k = 4 then 15 + 3 * wordsN l.length else if k = 5 ∧ lnOk l = true then max 200 (ncW l * ncW l * max (ncT l) 1 / 3) else 0
def ncOk (k : Nat) (l : List Nat) : Bool := decide (k = 4) || (decide (k = 5) && lnOk l)
theorem yp_nativeCost {w : World} {H : Store} (hF : Fz w H) {vb : Value} {l : List Nat} (hB : BV H vb l) (hl : l.length < 16777216) (k : Nat) (hk : k < 256) :
    Ret 134 [.int .u8 k, vb] w (fun v w' => ∃ c H', v = .tuple #[c, .bool (ncOk k l)] ∧ Go No w H w' H' ∧ NV H' c (ncN k l) ∧ ncN k l < 256 ^ 60) := by
  obtain ⟨la, lc, rfl, hlc, h63⟩ := (hB.wv hF).val
  refine enter (n := 77) Hvaa.func134 rfl rfl (Nat.le_of_ble_eq_true rfl) ?_
  have U := Up.refl w
  have G : Go (No) w H w H := Go.refl hF
  refine c_seq (fun K1 hK1 => ?_)
  exact (by
    refine c_region ?_
    refine l_step y_assignC ?_
    refine l_step y_assignC ?_
    refine l_nil ?_
    refine hK1 _ _ ?_
    refine fg2 1 0 (gS rfl (gS rfl (gS rfl g0))) (gS rfl (gS rfl g0)) (fun g => ?_)
    refine c_seq (fun K2 hK2 => ?_)
    refine c_seq (fun K3 hK3 => ?_)
    exact (by
      refine c_region ?_
      refine l_step (y_moveV (et g0 rfl)) ?_
      refine l_nil ?_
      refine hK3 _ _ ?_
      refine fg2 1 14 (gS rfl (gS rfl g0)) g0 (fun g => ?_)
      refine c_block (fun Q4 hQ4 => ?_)
      refine c_seq (fun K5 hK5 => ?_)
      exact (by
        refine c_region ?_
        refine l_step (y_eql (et g0 rfl) rfl) ?_
        refine l_step (y_assignV (et g0 rfl)) ?_
        refine l_nil ?_
        refine hK5 _ _ ?_
        refine fg3 1 14 15 (gS rfl (gS rfl (gS rfl g0))) (gS rfl (gS rfl g0)) g0 (fun g => ?_)
        refine c_condV (i := 15) g0 rfl (fun cB1 => ?_) (fun cB1 => ?_)
        · skip
          simp only [Bool.and_eq_true, Bool.or_eq_true, Bool.and_eq_false_imp, Bool.or_eq_false_iff, decide_eq_true_eq, decide_eq_false_iff_not] at cB1
          refine c_seq (fun K7 hK7 => ?_)
          exact (by
            refine c_region ?_
            refine l_eff (e_callV cal_32 (aC (v := .int .u64 ((15 : Nat) : Int)) rfl aN) (yp_num (x := 15) hF (by decide))) (fun v8 w8 h8 => ?_)
            obtain ⟨H8, g8, n8⟩ := h8
            have hlew8 := g8.le
            replace hB := hB.mono hlew8
            replace U := U.tr g8.up
            replace G := G.tr g8
            replace hF := g8.fz
            have q8 : 15 < 256 ^ 1 := by decide
            refine l_eff (e_callV cal_32 (aC (v := .int .u64 ((3 : Nat) : Int)) rfl aN) (yp_num (x := 3) hF (by decide))) (fun v9 w9 h9 => ?_)
            obtain ⟨H9, g9, n9⟩ := h9
            have hlew9 := g9.le
            replace hB := hB.mono hlew9
            replace n8 := n8.mono hlew9
            replace U := U.tr g9.up
            replace G := G.tr g9
            replace hF := g9.fz
            have q9 : 3 < 256 ^ 1 := by decide
            refine l_step (y_moveV (et (gS rfl (gS rfl (gS rfl (gS rfl (gS rfl g0))))) rfl)) ?_
            refine l_step (y_len Hvaa.underlying38 (et g0 rfl)) ?_
            refine l_step (y_conv Hvaa.underlying3 Hvaa.underlying26 (et g0 rfl) (wrapU_id uk64 ?_)) ?_
            omega
            refine l_eff (e_callV cal_32 (aC (et g0 rfl) aN) (yp_num hF (show l.length < 18446744073709551616 by omega))) (fun v10 w10 h10 => ?_)
            obtain ⟨H10, g10, n10⟩ := h10
            have hlew10 := g10.le
            replace hB := hB.mono hlew10
            replace n8 := n8.mono hlew10
            replace n9 := n9.mono hlew10
            replace U := U.tr g10.up
            replace G := G.tr g10
            replace hF := g10.fz
            have q10 := bd_64 (show l.length < 18446744073709551616 by omega)
            exact (by
              refine l_eff (e_callV cal_126 (aC (et g0 rfl) aN) (yp_words' hF n10 q10 (by decide))) (fun v11 w11 h11 => ?_)
              obtain ⟨H11, g11, n11⟩ := h11
              have hlew11 := g11.le
              replace hB := hB.mono hlew11
              replace n8 := n8.mono hlew11
              replace n9 := n9.mono hlew11
              replace n10 := n10.mono hlew11
              replace U := U.tr g11.up
              replace G := G.tr g11
              replace hF := g11.fz
              have q11 := bd_words q10 (by decide)
              refine l_eff (e_callV cal_50 (aC (et (gS rfl (gS rfl (gS rfl (gS rfl (gS rfl g0))))) rfl) (aC (et g0 rfl) aN)) (nat_mul hF n9 n11 (bd_sm q9 (by decide)) (bd_sm q11 (by decide)))) (fun v12 w12 h12 => ?_)
              obtain ⟨H12, g12, n12⟩ := h12
              have hlew12 := g12.le
              replace hB := hB.mono hlew12
              replace n8 := n8.mono hlew12
              replace n9 := n9.mono hlew12
              replace n10 := n10.mono hlew12
              replace n11 := n11.mono hlew12
              replace U := U.tr g12.up
              replace G := G.tr g12
              replace hF := g12.fz
              have q12 := bd_mul (c := 9) q9 q11 (by decide)
              refine l_eff (e_callV cal_34 (aC (et (gS rfl (gS rfl (gS rfl (gS rfl (gS rfl (gS rfl (gS rfl g0))))))) rfl) (aC (et g0 rfl) aN)) (nat_add hF n8 n12 (bd_sm q8 (by decide)) (bd_sm q12 (by decide)))) (fun v13 w13 h13 => ?_)
              obtain ⟨H13, g13, n13⟩ := h13
              have hlew13 := g13.le
              replace hB := hB.mono hlew13
              replace n8 := n8.mono hlew13
              replace n9 := n9.mono hlew13
              replace n10 := n10.mono hlew13
              replace n11 := n11.mono hlew13
              replace n12 := n12.mono hlew13
              replace U := U.tr g13.up
              replace G := G.tr g13
              replace hF := g13.fz
              have q13 := bd_add (c := 10) q8 q12 (by decide)
              exact (by
                refine l_step (y_assignV (et g0 rfl)) ?_
                refine l_step y_assignC ?_
                refine l_nil ?_
                refine hK7 _ _ ?_
                refine fg2 4 5 (gS rfl g0) g0 (fun g => ?_)
                refine c_ret ?_
                refine hQ4 _ _ _ (in_ret ?_)
                repeat with_reducible refine then_ret ?_
                refine ret2 rfl (res_tmp (et (gS rfl g0) rfl)) (res_tmp (et g0 rfl)) ?_
                have e1 : k = 4 := by omega
                have e2 : ncN k l = 15 + 3 * wordsN l.length := by rw [ncN, if_pos e1]
                rw [e2, show ncOk k l = true by rw [ncOk, e1]; rfl]
                exact ⟨_, _, rfl, G, n13, bd_up q13 (by decide)⟩)))
        · skip
          simp only [Bool.and_eq_true, Bool.or_eq_true, Bool.and_eq_false_imp, Bool.or_eq_false_iff, decide_eq_true_eq, decide_eq_false_iff_not] at cB1
          refine c_seq (fun K14 hK14 => ?_)
          exact (by
            refine c_region ?_
            refine l_step (y_eql (et (gS rfl (gS rfl g0)) rfl) rfl) ?_
            refine l_step (y_assignV (et g0 rfl)) ?_
            refine l_nil ?_
            refine hK14 _ _ ?_
            refine fg2 1 26 (gS rfl (gS rfl (gS rfl (gS rfl (gS rfl g0))))) g0 (fun g => ?_)
            refine c_condV (i := 26) g0 rfl (fun cB2 => ?_) (fun cB2 => ?_)
            · skip
              simp only [Bool.and_eq_true, Bool.or_eq_true, Bool.and_eq_false_imp, Bool.or_eq_false_iff, decide_eq_true_eq, decide_eq_false_iff_not] at cB2
              refine c_seq (fun K16 hK16 => ?_)
              exact (by
                refine c_region ?_
                refine l_step (y_moveV (et (gS rfl (gS rfl g0)) rfl)) ?_
                refine l_eff (e_callV cal_219 (aC (et g0 rfl) aN) (yp_lengths hF hB (by omega))) (fun v17 w17 h17 => ?_)
                obtain ⟨H17, rfl, g17⟩ := h17
                have hlew17 := g17.le
                replace hB := hB.mono hlew17
                replace U := U.tr g17.up
                replace G := G.tr g17
                replace hF := g17.fz
                have ln0 := lnV_le l 0 (by decide)
                have ln1 := lnV_le l 1 (by decide)
                have ln2 := lnV_le l 2 (by decide)
                refine l_step (y_moveV (et g0 rfl)) ?_
                refine l_step (y_ext (et g0 rfl) rfl) ?_
                refine l_step (y_ext (et (gS rfl g0) rfl) rfl) ?_
                refine l_step (y_ext (et (gS rfl (gS rfl g0)) rfl) rfl) ?_
                refine l_step (y_ext (et (gS rfl (gS rfl (gS rfl g0))) rfl) rfl) ?_
                refine l_step (y_assignV (et (gS rfl (gS rfl (gS rfl g0))) rfl)) ?_
                refine l_step (y_assignV (et (gS rfl (gS rfl (gS rfl g0))) rfl)) ?_
                refine l_step (y_assignV (et (gS rfl (gS rfl (gS rfl g0))) rfl)) ?_
                refine l_step (y_assignV (et (gS rfl (gS rfl (gS rfl g0))) rfl)) ?_
                refine l_nil ?_
                refine hK16 _ _ ?_
                refine fg5 1 6 7 8 9 (gS rfl (gS rfl (gS rfl (gS rfl (gS rfl (gS rfl (gS rfl (gS rfl (gS rfl (gS rfl (gS rfl (gS rfl (gS rfl g0))))))))))))) (gS rfl (gS rfl (gS rfl g0))) (gS rfl (gS rfl g0)) (gS rfl g0) g0 (fun g => ?_)
                refine c_seq (fun K18 hK18 => ?_)
                refine c_seq (fun K19 hK19 => ?_)
                exact (by
                  refine c_region ?_
                  refine l_step (y_moveV (et g0 rfl)) ?_
                  refine l_step (y_not (et g0 rfl)) ?_
                  refine l_nil ?_
                  refine hK19 _ _ ?_
                  refine fg5 1 6 7 8 36 (gS rfl (gS rfl (gS rfl (gS rfl (gS rfl (gS rfl g0)))))) (gS rfl (gS rfl (gS rfl (gS rfl (gS rfl g0))))) (gS rfl (gS rfl (gS rfl (gS rfl g0)))) (gS rfl (gS rfl (gS rfl g0))) g0 (fun g => ?_)
                  refine c_condV (i := 36) g0 rfl (fun cB3 => ?_) (fun cB3 => ?_)
                  · skip
                    simp only [Bool.not_eq_true', Bool.not_eq_false'] at cB3
                    refine c_seq (fun K21 hK21 => ?_)
                    exact (by
                      refine c_region ?_
                      refine l_step y_assignC ?_
                      refine l_step y_assignC ?_
                      refine l_nil ?_
                      refine hK21 _ _ ?_
                      refine fg2 4 5 (gS rfl g0) g0 (fun g => ?_)
                      refine c_ret ?_
                      refine hQ4 _ _ _ (in_ret ?_)
                      repeat with_reducible refine then_ret ?_
                      refine ret2 rfl (res_tmp (et (gS rfl g0) rfl)) (res_tmp (et g0 rfl)) ?_
                      have e1 : k = 5 := by omega
                      have e2 : ncN k l = 0 := by rw [ncN, if_neg (by omega), if_neg (by rw [cB3]; exact fun h => by cases h.2)]
                      rw [e2, show ncOk k l = false by rw [ncOk, e1, cB3]; rfl]
                      exact ⟨_, _, rfl, G, NV.nil _, by decide⟩)
                  · skip
                    simp only [Bool.not_eq_true', Bool.not_eq_false'] at cB3
                    refine c_skip ?_
                    refine hK18 _ _ ?_
                    refine fg4 1 6 7 8 (gS rfl (gS rfl (gS rfl (gS rfl (gS rfl g0))))) (gS rfl (gS rfl (gS rfl (gS rfl g0)))) (gS rfl (gS rfl (gS rfl g0))) (gS rfl (gS rfl g0)) (fun g => ?_)
                    refine c_seq (fun K22 hK22 => ?_)
                    exact (by
                      refine c_region ?_
                      refine l_step (y_moveV (et (gS rfl (gS rfl g0)) rfl)) ?_
                      refine l_eff (e_callV cal_32 (aC (et g0 rfl) aN) (yp_num hF (show lnV l 0 < 18446744073709551616 by omega))) (fun v23 w23 h23 => ?_)
                      obtain ⟨H23, g23, n23⟩ := h23
                      have hlew23 := g23.le
                      replace hB := hB.mono hlew23
                      replace U := U.tr g23.up
                      replace G := G.tr g23
                      replace hF := g23.fz
                      have q23 := bd_64 (show lnV l 0 < 18446744073709551616 by omega)
                      refine l_step (y_moveV (et (gS rfl (gS rfl g0)) rfl)) ?_
                      refine l_eff (e_callV cal_32 (aC (et g0 rfl) aN) (yp_num hF (show lnV l 2 < 18446744073709551616 by omega))) (fun v24 w24 h24 => ?_)
                      obtain ⟨H24, g24, n24⟩ := h24
                      have hlew24 := g24.le
                      replace hB := hB.mono hlew24
                      replace n23 := n23.mono hlew24
                      replace U := U.tr g24.up
                      replace G := G.tr g24
                      replace hF := g24.fz
                      have q24 := bd_64 (show lnV l 2 < 18446744073709551616 by omega)
                      refine l_eff (e_callV cal_145 (aC (et (gS rfl (gS rfl g0)) rfl) (aC (et g0 rfl) aN)) (yp_max hF n23 n24 (bd_sm q23 (by decide)) (bd_sm q24 (by decide)))) (fun v25 w25 h25 => ?_)
                      obtain ⟨H25, g25, n25⟩ := h25
                      have hlew25 := g25.le
                      replace hB := hB.mono hlew25
                      replace n23 := n23.mono hlew25
                      replace n24 := n24.mono hlew25
                      replace U := U.tr g25.up
                      replace G := G.tr g25
                      replace hF := g25.fz
                      have q25 := bd_max (c := 8) q23 q24 (by decide)
                      refine l_eff (e_callV cal_32 (aC (v := .int .u64 ((7 : Nat) : Int)) rfl aN) (yp_num (x := 7) hF (by decide))) (fun v26 w26 h26 => ?_)
                      obtain ⟨H26, g26, n26⟩ := h26
                      have hlew26 := g26.le
                      replace hB := hB.mono hlew26
                      replace n23 := n23.mono hlew26
                      replace n24 := n24.mono hlew26
                      replace n25 := n25.mono hlew26
                      replace U := U.tr g26.up
                      replace G := G.tr g26
                      replace hF := g26.fz
                      have q26 : 7 < 256 ^ 1 := by decide
                      exact (by
                        refine l_eff (e_callV cal_34 (aC (et (gS rfl g0) rfl) (aC (et g0 rfl) aN)) (nat_add hF n25 n26 (bd_sm q25 (by decide)) (bd_sm q26 (by decide)))) (fun v27 w27 h27 => ?_)
                        obtain ⟨H27, g27, n27⟩ := h27
                        have hlew27 := g27.le
                        replace hB := hB.mono hlew27
                        replace n23 := n23.mono hlew27
                        replace n24 := n24.mono hlew27
                        replace n25 := n25.mono hlew27
                        replace n26 := n26.mono hlew27
                        replace U := U.tr g27.up
                        replace G := G.tr g27
                        replace hF := g27.fz
                        have q27 := bd_add (c := 9) q25 q26 (by decide)
                        refine l_eff (e_callV cal_69 (aC (et g0 rfl) (aC (v := .int .u64 ((8 : Nat) : Int)) rfl aN)) (yp_divided 8 (by decide) (by decide) hF n27 (bd_sm q27 (by decide)))) (fun v28 w28 h28 => ?_)
                        obtain ⟨H28, g28, n28⟩ := h28
                        have hlew28 := g28.le
                        replace hB := hB.mono hlew28
                        replace n23 := n23.mono hlew28
                        replace n24 := n24.mono hlew28
                        replace n25 := n25.mono hlew28
                        replace n26 := n26.mono hlew28
                        replace n27 := n27.mono hlew28
                        replace U := U.tr g28.up
                        replace G := G.tr g28
                        replace hF := g28.fz
                        have q28 := bd_div (y := 8) q27
                        refine l_step (y_assignV (et g0 rfl)) ?_
                        refine l_nil ?_
                        refine hK22 _ _ ?_
                        refine fg4 1 6 7 10 (gS rfl (gS rfl (gS rfl (gS rfl (gS rfl (gS rfl (gS rfl (gS rfl (gS rfl (gS rfl (gS rfl (gS rfl g0)))))))))))) (gS rfl (gS rfl (gS rfl (gS rfl (gS rfl (gS rfl (gS rfl (gS rfl (gS rfl (gS rfl (gS rfl g0))))))))))) (gS rfl (gS rfl (gS rfl (gS rfl (gS rfl (gS rfl (gS rfl (gS rfl (gS rfl (gS rfl g0)))))))))) g0 (fun g => ?_)
                        refine c_seq (fun K29 hK29 => ?_)
                        exact (by
                          refine c_region ?_
                          refine l_step y_assignC ?_
                          refine l_nil ?_
                          refine hK29 _ _ ?_
                          refine c_seq (fun K30 hK30 => ?_)
                          refine c_seq (fun K31 hK31 => ?_)
                          exact (by
                            refine c_region ?_
                            refine l_step (y_moveV (et (gS rfl (gS rfl (gS rfl (gS rfl g0)))) rfl)) ?_
                            refine l_step (y_moveV (et (gS rfl (gS rfl (gS rfl (gS rfl g0)))) rfl)) ?_
                            refine l_step (y_add rfl (et g0 rfl) (wrapU_addN (a := 96) uk64 ?_)) ?_
                            omega
                            refine l_step (y_moveV (et (gS rfl (gS rfl (gS rfl (gS rfl (gS rfl g0))))) rfl)) ?_
                            refine l_step (y_minN (b := 32) (et g0 rfl) rfl) ?_
                            refine l_eff (e_callV cal_221 (aC (et (gS rfl (gS rfl (gS rfl (gS rfl g0)))) rfl) (aC (et (gS rfl (gS rfl g0)) rfl) (aC (et g0 rfl) aN))) (yp_part hF hB (by omega) (show 96 + lnV l 0 < 18446744073709551616 by omega) (show min (lnV l 1) 32 ≤ 1099511627776 by omega))) (fun v32 w32 h32 => ?_)
                            obtain ⟨H32, g32, b32⟩ := h32
                            have hlew32 := g32.le
                            replace hB := hB.mono hlew32
                            replace n23 := n23.mono hlew32
                            replace n24 := n24.mono hlew32
                            replace n25 := n25.mono hlew32
                            replace n26 := n26.mono hlew32
                            replace n27 := n27.mono hlew32
                            replace n28 := n28.mono hlew32
                            replace U := U.tr g32.up
                            replace G := G.tr g32
                            replace hF := g32.fz
                            refine l_eff (e_callV cal_33 (aC (et g0 rfl) aN) (nat_fromBE hF (b32.wv hF) (Nat.le_refl _) (by rw [len_cut]; omega))) (fun v33 w33 h33 => ?_)
                            obtain ⟨H33, g33, n33⟩ := h33
                            have hlew33 := g33.le
                            replace hB := hB.mono hlew33
                            replace n23 := n23.mono hlew33
                            replace n24 := n24.mono hlew33
                            replace n25 := n25.mono hlew33
                            replace n26 := n26.mono hlew33
                            replace n27 := n27.mono hlew33
                            replace n28 := n28.mono hlew33
                            replace b32 := b32.mono hlew33
                            replace U := U.tr g33.up
                            replace G := G.tr g33
                            replace hF := g33.fz
                            exact (by
                              refine l_eff (e_callV cal_220 (aC (et g0 rfl) aN) (yp_bits hF n33 (bd_up (ofBE_bd b32.dig (by rw [len_cut]; omega)) (by decide)))) (fun v34 w34 h34 => ?_)
                              obtain ⟨rfl, u34⟩ := h34
                              replace G := G.tr (Go.ofUp hF u34)
                              replace hF := hF.up u34
                              replace U := U.tr u34
                              have hE : ncE l ≤ 8 * 32 := bl_bytes (ofBE_bd b32.dig (by rw [len_cut]; omega))
                              refine l_step (y_assignV (et g0 rfl)) ?_
                              refine l_nil ?_
                              refine hK31 _ _ ?_
                              refine fg4 7 10 11 12 (gS rfl (gS rfl (gS rfl (gS rfl (gS rfl (gS rfl (gS rfl (gS rfl (gS rfl (gS rfl (gS rfl g0))))))))))) (gS rfl (gS rfl (gS rfl (gS rfl (gS rfl (gS rfl (gS rfl (gS rfl (gS rfl (gS rfl g0)))))))))) (gS rfl (gS rfl (gS rfl (gS rfl (gS rfl (gS rfl (gS rfl (gS rfl (gS rfl g0))))))))) g0 (fun g => ?_)
                              refine c_seq (fun K35 hK35 => ?_)
                              exact (by
                                refine c_region ?_
                                refine l_step (y_moveV (et g0 rfl)) ?_
                                refine l_step (y_gtr (et g0 rfl) rfl) ?_
                                refine l_nil ?_
                                refine hK35 _ _ ?_
                                refine fg5 7 10 11 12 54 (gS rfl (gS rfl (gS rfl (gS rfl (gS rfl g0))))) (gS rfl (gS rfl (gS rfl (gS rfl g0)))) (gS rfl (gS rfl (gS rfl g0))) (gS rfl (gS rfl g0)) g0 (fun g => ?_)
                                refine c_condV (i := 54) g0 rfl (fun cB4 => ?_) (fun cB4 => ?_)
                                · skip
                                  have hB4 := cB4
                                  have h4 : 1 < ncE l := by have := of_decide_eq_true hB4; unfold ncE; omega
                                  have h4r := h4
                                  have hEr := hE
                                  unfold ncE at h4r hEr
                                  exact (by
                                    refine c_region ?_
                                    refine l_step (y_moveV (et (gS rfl (gS rfl g0)) rfl)) ?_
                                    refine l_step (y_sub (et g0 rfl) rfl (wrapU_subN (b := 1) uk64 ?_ ?_)) ?_
                                    omega
                                    omega
                                    refine l_eff (e_callV cal_32 (aC (et g0 rfl) aN) (yp_num hF (show ncE l - 1 < 18446744073709551616 by have := hE; omega))) (fun v37 w37 h37 => ?_)
                                    obtain ⟨H37, g37, n37⟩ := h37
                                    have hlew37 := g37.le
                                    replace hB := hB.mono hlew37
                                    replace n23 := n23.mono hlew37
                                    replace n24 := n24.mono hlew37
                                    replace n25 := n25.mono hlew37
                                    replace n26 := n26.mono hlew37
                                    replace n27 := n27.mono hlew37
                                    replace n28 := n28.mono hlew37
                                    replace b32 := b32.mono hlew37
                                    replace n33 := n33.mono hlew37
                                    replace U := U.tr g37.up
                                    replace G := G.tr g37
                                    replace hF := g37.fz
                                    have q37 := bd_64 (show ncE l - 1 < 18446744073709551616 by have := hE; omega)
                                    refine l_step (y_assignV (et g0 rfl)) ?_
                                    refine l_nil ?_
                                    refine hK30 _ _ ?_
                                    refine fg3 7 10 11 (gS rfl (gS rfl (gS rfl (gS rfl (gS rfl (gS rfl (gS rfl (gS rfl (gS rfl g0))))))))) (gS rfl (gS rfl (gS rfl (gS rfl (gS rfl (gS rfl (gS rfl (gS rfl g0)))))))) g0 (fun g => ?_)
                                    refine c_seq (fun K38 hK38 => ?_)
                                    refine c_seq (fun K39 hK39 => ?_)
                                    exact (by
                                      refine c_region ?_
                                      refine l_step (y_moveV (et (gS rfl (gS rfl g0)) rfl)) ?_
                                      refine l_step (y_gtr (et g0 rfl) rfl) ?_
                                      refine l_nil ?_
                                      refine hK39 _ _ ?_
                                      refine fg4 7 10 11 59 (gS rfl (gS rfl (gS rfl (gS rfl g0)))) (gS rfl (gS rfl (gS rfl g0))) (gS rfl (gS rfl g0)) g0 (fun g => ?_)
                                      refine c_condV (i := 59) g0 rfl (fun cB5 => ?_) (fun cB5 => ?_)
                                      · skip
                                        simp only [Bool.and_eq_true, Bool.or_eq_true, Bool.and_eq_false_imp, Bool.or_eq_false_iff, decide_eq_true_eq, decide_eq_false_iff_not] at cB5
                                        exact (by
                                          refine c_region ?_
                                          refine l_step (y_moveV (et (gS rfl (gS rfl g0)) rfl)) ?_
                                          refine l_step (y_moveV (et (gS rfl (gS rfl (gS rfl (gS rfl (gS rfl g0))))) rfl)) ?_
                                          refine l_step (y_sub (et g0 rfl) rfl (wrapU_subN (b := 32) uk64 ?_ ?_)) ?_
                                          omega
                                          omega
                                          refine l_step (y_mul rfl (et g0 rfl) (wrapU_mulN (a := 8) uk64 ?_)) ?_
                                          omega
                                          refine l_eff (e_callV cal_32 (aC (et g0 rfl) aN) (yp_num hF (show 8 * (lnV l 1 - 32) < 18446744073709551616 by omega))) (fun v41 w41 h41 => ?_)
                                          obtain ⟨H41, g41, n41⟩ := h41
                                          have hlew41 := g41.le
                                          replace hB := hB.mono hlew41
                                          replace n23 := n23.mono hlew41
                                          replace n24 := n24.mono hlew41
                                          replace n25 := n25.mono hlew41
                                          replace n26 := n26.mono hlew41
                                          replace n27 := n27.mono hlew41
                                          replace n28 := n28.mono hlew41
                                          replace b32 := b32.mono hlew41
                                          replace n33 := n33.mono hlew41
                                          replace n37 := n37.mono hlew41
                                          replace U := U.tr g41.up
                                          replace G := G.tr g41
                                          replace hF := g41.fz
                                          have q41 := bd_64 (show 8 * (lnV l 1 - 32) < 18446744073709551616 by omega)
                                          refine l_eff (e_callV cal_34 (aC (et (gS rfl (gS rfl (gS rfl (gS rfl g0)))) rfl) (aC (et g0 rfl) aN)) (nat_add hF n37 n41 (bd_sm q37 (by decide)) (bd_sm q41 (by decide)))) (fun v42 w42 h42 => ?_)
                                          obtain ⟨H42, g42, n42⟩ := h42
                                          have hlew42 := g42.le
                                          replace hB := hB.mono hlew42
                                          replace n23 := n23.mono hlew42
                                          replace n24 := n24.mono hlew42
                                          replace n25 := n25.mono hlew42
                                          replace n26 := n26.mono hlew42
                                          replace n27 := n27.mono hlew42
                                          replace n28 := n28.mono hlew42
                                          replace b32 := b32.mono hlew42
                                          replace n33 := n33.mono hlew42
                                          replace n37 := n37.mono hlew42
                                          replace n41 := n41.mono hlew42
                                          replace U := U.tr g42.up
                                          replace G := G.tr g42
                                          replace hF := g42.fz
                                          have q42 := bd_add (c := 9) q37 q41 (by decide)
                                          exact (by
                                            refine l_step (y_assignV (et g0 rfl)) ?_
                                            refine l_nil ?_
                                            refine hK38 _ _ ?_
                                            refine fg2 10 11 (gS rfl (gS rfl (gS rfl (gS rfl (gS rfl (gS rfl (gS rfl (gS rfl (gS rfl (gS rfl g0)))))))))) g0 (fun g => ?_)
                                            refine c_seq (fun K43 hK43 => ?_)
                                            exact (by
                                              refine c_region ?_
                                              refine l_step (y_moveV (et (gS rfl g0) rfl)) ?_
                                              refine l_step (y_moveV (et (gS rfl (gS rfl g0)) rfl)) ?_
                                              refine l_eff (e_callV cal_50 (aC (et (gS rfl g0) rfl) (aC (et g0 rfl) aN)) (nat_mul hF n28 n28 (bd_sm q28 (by decide)) (bd_sm q28 (by decide)))) (fun v44 w44 h44 => ?_)
                                              obtain ⟨H44, g44, n44⟩ := h44
                                              have hlew44 := g44.le
                                              replace hB := hB.mono hlew44
                                              replace n23 := n23.mono hlew44
                                              replace n24 := n24.mono hlew44
                                              replace n25 := n25.mono hlew44
                                              replace n26 := n26.mono hlew44
                                              replace n27 := n27.mono hlew44
                                              replace n28 := n28.mono hlew44
                                              replace b32 := b32.mono hlew44
                                              replace n33 := n33.mono hlew44
                                              replace n37 := n37.mono hlew44
                                              replace n41 := n41.mono hlew44
                                              replace n42 := n42.mono hlew44
                                              replace U := U.tr g44.up
                                              replace G := G.tr g44
                                              replace hF := g44.fz
                                              have q44 := bd_mul (c := 18) q28 q28 (by decide)
                                              refine l_step (y_moveV (et (gS rfl (gS rfl (gS rfl g0))) rfl)) ?_
                                              refine l_eff (e_callV cal_32 (aC (v := .int .u64 ((1 : Nat) : Int)) rfl aN) (yp_num (x := 1) hF (by decide))) (fun v45 w45 h45 => ?_)
                                              obtain ⟨H45, g45, n45⟩ := h45
                                              have hlew45 := g45.le
                                              replace hB := hB.mono hlew45
                                              replace n23 := n23.mono hlew45
                                              replace n24 := n24.mono hlew45
                                              replace n25 := n25.mono hlew45
                                              replace n26 := n26.mono hlew45
                                              replace n27 := n27.mono hlew45
                                              replace n28 := n28.mono hlew45
                                              replace b32 := b32.mono hlew45
                                              replace n33 := n33.mono hlew45
                                              replace n37 := n37.mono hlew45
                                              replace n41 := n41.mono hlew45
                                              replace n42 := n42.mono hlew45
                                              replace n44 := n44.mono hlew45
                                              replace U := U.tr g45.up
                                              replace G := G.tr g45
                                              replace hF := g45.fz
                                              have q45 : 1 < 256 ^ 1 := by decide
                                              exact (by
                                                refine l_eff (e_callV cal_145 (aC (et (gS rfl g0) rfl) (aC (et g0 rfl) aN)) (yp_max hF n42 n45 (bd_sm q42 (by decide)) (bd_sm q45 (by decide)))) (fun v46 w46 h46 => ?_)
                                                obtain ⟨H46, g46, n46⟩ := h46
                                                have hlew46 := g46.le
                                                replace hB := hB.mono hlew46
                                                replace n23 := n23.mono hlew46
                                                replace n24 := n24.mono hlew46
                                                replace n25 := n25.mono hlew46
                                                replace n26 := n26.mono hlew46
                                                replace n27 := n27.mono hlew46
                                                replace n28 := n28.mono hlew46
                                                replace b32 := b32.mono hlew46
                                                replace n33 := n33.mono hlew46
                                                replace n37 := n37.mono hlew46
                                                replace n41 := n41.mono hlew46
                                                replace n42 := n42.mono hlew46
                                                replace n44 := n44.mono hlew46
                                                replace n45 := n45.mono hlew46
                                                replace U := U.tr g46.up
                                                replace G := G.tr g46
                                                replace hF := g46.fz
                                                have q46 := bd_max (c := 9) q42 q45 (by decide)
                                                refine l_eff (e_callV cal_50 (aC (et (gS rfl (gS rfl (gS rfl g0))) rfl) (aC (et g0 rfl) aN)) (nat_mul hF n44 n46 (bd_sm q44 (by decide)) (bd_sm q46 (by decide)))) (fun v47 w47 h47 => ?_)
                                                obtain ⟨H47, g47, n47⟩ := h47
                                                have hlew47 := g47.le
                                                replace hB := hB.mono hlew47
                                                replace n23 := n23.mono hlew47
                                                replace n24 := n24.mono hlew47
                                                replace n25 := n25.mono hlew47
                                                replace n26 := n26.mono hlew47
                                                replace n27 := n27.mono hlew47
                                                replace n28 := n28.mono hlew47
                                                replace b32 := b32.mono hlew47
                                                replace n33 := n33.mono hlew47
                                                replace n37 := n37.mono hlew47
                                                replace n41 := n41.mono hlew47
                                                replace n42 := n42.mono hlew47
                                                replace n44 := n44.mono hlew47
                                                replace n45 := n45.mono hlew47
                                                replace n46 := n46.mono hlew47
                                                replace U := U.tr g47.up
                                                replace G := G.tr g47
                                                replace hF := g47.fz
                                                have q47 := bd_mul (c := 27) q44 q46 (by decide)
                                                exact (by
                                                  refine l_step (y_assignV (et g0 rfl)) ?_
                                                  refine l_nil ?_
                                                  refine hK43 _ _ ?_
                                                  refine fg1 13 g0 (fun g => ?_)
                                                  refine c_seq (fun K48 hK48 => ?_)
                                                  exact (by
                                                    refine c_region ?_
                                                    refine l_eff (e_callV cal_32 (aC (v := .int .u64 ((200 : Nat) : Int)) rfl aN) (yp_num (x := 200) hF (by decide))) (fun v49 w49 h49 => ?_)
                                                    obtain ⟨H49, g49, n49⟩ := h49
                                                    have hlew49 := g49.le
                                                    replace hB := hB.mono hlew49
                                                    replace n23 := n23.mono hlew49
                                                    replace n24 := n24.mono hlew49
                                                    replace n25 := n25.mono hlew49
                                                    replace n26 := n26.mono hlew49
                                                    replace n27 := n27.mono hlew49
                                                    replace n28 := n28.mono hlew49
                                                    replace b32 := b32.mono hlew49
                                                    replace n33 := n33.mono hlew49
                                                    replace n37 := n37.mono hlew49
                                                    replace n41 := n41.mono hlew49
                                                    replace n42 := n42.mono hlew49
                                                    replace n44 := n44.mono hlew49
                                                    replace n45 := n45.mono hlew49
                                                    replace n46 := n46.mono hlew49
                                                    replace n47 := n47.mono hlew49
                                                    replace U := U.tr g49.up
                                                    replace G := G.tr g49
                                                    replace hF := g49.fz
                                                    have q49 : 200 < 256 ^ 1 := by decide
                                                    refine l_step (y_moveV (et (gS rfl g0) rfl)) ?_
                                                    refine l_eff (e_callV cal_69 (aC (et g0 rfl) (aC (v := .int .u64 ((3 : Nat) : Int)) rfl aN)) (yp_divided 3 (by decide) (by decide) hF n47 (bd_sm q47 (by decide)))) (fun v50 w50 h50 => ?_)
                                                    obtain ⟨H50, g50, n50⟩ := h50
                                                    have hlew50 := g50.le
                                                    replace hB := hB.mono hlew50
                                                    replace n23 := n23.mono hlew50
                                                    replace n24 := n24.mono hlew50
                                                    replace n25 := n25.mono hlew50
                                                    replace n26 := n26.mono hlew50
                                                    replace n27 := n27.mono hlew50
                                                    replace n28 := n28.mono hlew50
                                                    replace b32 := b32.mono hlew50
                                                    replace n33 := n33.mono hlew50
                                                    replace n37 := n37.mono hlew50
                                                    replace n41 := n41.mono hlew50
                                                    replace n42 := n42.mono hlew50
                                                    replace n44 := n44.mono hlew50
                                                    replace n45 := n45.mono hlew50
                                                    replace n46 := n46.mono hlew50
                                                    replace n47 := n47.mono hlew50
                                                    replace n49 := n49.mono hlew50
                                                    replace U := U.tr g50.up
                                                    replace G := G.tr g50
                                                    replace hF := g50.fz
                                                    have q50 := bd_div (y := 3) q47
                                                    exact (by
                                                      refine l_eff (e_callV cal_145 (aC (et (gS rfl (gS rfl g0)) rfl) (aC (et g0 rfl) aN)) (yp_max hF n49 n50 (bd_sm q49 (by decide)) (bd_sm q50 (by decide)))) (fun v51 w51 h51 => ?_)
                                                      obtain ⟨H51, g51, n51⟩ := h51
                                                      have hlew51 := g51.le
                                                      replace hB := hB.mono hlew51
                                                      replace n23 := n23.mono hlew51
                                                      replace n24 := n24.mono hlew51
                                                      replace n25 := n25.mono hlew51
                                                      replace n26 := n26.mono hlew51
                                                      replace n27 := n27.mono hlew51
                                                      replace n28 := n28.mono hlew51
                                                      replace b32 := b32.mono hlew51
                                                      replace n33 := n33.mono hlew51
                                                      replace n37 := n37.mono hlew51
                                                      replace n41 := n41.mono hlew51
                                                      replace n42 := n42.mono hlew51
                                                      replace n44 := n44.mono hlew51
                                                      replace n45 := n45.mono hlew51
                                                      replace n46 := n46.mono hlew51
                                                      replace n47 := n47.mono hlew51
                                                      replace n49 := n49.mono hlew51
                                                      replace n50 := n50.mono hlew51
                                                      replace U := U.tr g51.up
                                                      replace G := G.tr g51
                                                      replace hF := g51.fz
                                                      have q51 := bd_max (c := 27) q49 q50 (by decide)
                                                      refine l_step (y_assignV (et g0 rfl)) ?_
                                                      refine l_step y_assignC ?_
                                                      refine l_nil ?_
                                                      refine hK48 _ _ ?_
                                                      refine fg2 4 5 (gS rfl g0) g0 (fun g => ?_)
                                                      refine c_ret ?_
                                                      refine hQ4 _ _ _ (in_ret ?_)
                                                      repeat with_reducible refine then_ret ?_
                                                      refine ret2 rfl (res_tmp (et (gS rfl g0) rfl)) (res_tmp (et g0 rfl)) ?_
                                                      have e1 : k = 5 := by omega
                                                      have eT : ncT l = ncE l - 1 + 8 * (lnV l 1 - 32) := by unfold ncT; rw [if_pos h4, if_pos (by omega)]
                                                      have e2 : ncN k l = max 200 (ncW l * ncW l * max (ncT l) 1 / 3) := by rw [ncN, if_neg (by omega), if_pos ⟨e1, cB3⟩]
                                                      rw [e2, show ncOk k l = true by rw [ncOk, e1, cB3]; rfl, eT]
                                                      exact ⟨_, _, rfl, G, n51, bd_up q51 (by decide)⟩)))))))
                                      · skip
                                        simp only [Bool.and_eq_true, Bool.or_eq_true, Bool.and_eq_false_imp, Bool.or_eq_false_iff, decide_eq_true_eq, decide_eq_false_iff_not] at cB5
                                        refine c_skip ?_
                                        refine hK38 _ _ ?_
                                        refine fg2 10 11 (gS rfl (gS rfl (gS rfl g0))) (gS rfl (gS rfl g0)) (fun g => ?_)
                                        refine c_seq (fun K52 hK52 => ?_)
                                        exact (by
                                          refine c_region ?_
                                          refine l_step (y_moveV (et (gS rfl g0) rfl)) ?_
                                          refine l_step (y_moveV (et (gS rfl (gS rfl g0)) rfl)) ?_
                                          refine l_eff (e_callV cal_50 (aC (et (gS rfl g0) rfl) (aC (et g0 rfl) aN)) (nat_mul hF n28 n28 (bd_sm q28 (by decide)) (bd_sm q28 (by decide)))) (fun v53 w53 h53 => ?_)
                                          obtain ⟨H53, g53, n53⟩ := h53
                                          have hlew53 := g53.le
                                          replace hB := hB.mono hlew53
                                          replace n23 := n23.mono hlew53
                                          replace n24 := n24.mono hlew53
                                          replace n25 := n25.mono hlew53
                                          replace n26 := n26.mono hlew53
                                          replace n27 := n27.mono hlew53
                                          replace n28 := n28.mono hlew53
                                          replace b32 := b32.mono hlew53
                                          replace n33 := n33.mono hlew53
                                          replace n37 := n37.mono hlew53
                                          replace U := U.tr g53.up
                                          replace G := G.tr g53
                                          replace hF := g53.fz
                                          have q53 := bd_mul (c := 18) q28 q28 (by decide)
                                          refine l_step (y_moveV (et (gS rfl (gS rfl (gS rfl g0))) rfl)) ?_
                                          refine l_eff (e_callV cal_32 (aC (v := .int .u64 ((1 : Nat) : Int)) rfl aN) (yp_num (x := 1) hF (by decide))) (fun v54 w54 h54 => ?_)
                                          obtain ⟨H54, g54, n54⟩ := h54
                                          have hlew54 := g54.le
                                          replace hB := hB.mono hlew54
                                          replace n23 := n23.mono hlew54
                                          replace n24 := n24.mono hlew54
                                          replace n25 := n25.mono hlew54
                                          replace n26 := n26.mono hlew54
                                          replace n27 := n27.mono hlew54
                                          replace n28 := n28.mono hlew54
                                          replace b32 := b32.mono hlew54
                                          replace n33 := n33.mono hlew54
                                          replace n37 := n37.mono hlew54
                                          replace n53 := n53.mono hlew54
                                          replace U := U.tr g54.up
                                          replace G := G.tr g54
                                          replace hF := g54.fz
                                          have q54 : 1 < 256 ^ 1 := by decide
                                          exact (by
                                            refine l_eff (e_callV cal_145 (aC (et (gS rfl g0) rfl) (aC (et g0 rfl) aN)) (yp_max hF n37 n54 (bd_sm q37 (by decide)) (bd_sm q54 (by decide)))) (fun v55 w55 h55 => ?_)
                                            obtain ⟨H55, g55, n55⟩ := h55
                                            have hlew55 := g55.le
                                            replace hB := hB.mono hlew55
                                            replace n23 := n23.mono hlew55
                                            replace n24 := n24.mono hlew55
                                            replace n25 := n25.mono hlew55
                                            replace n26 := n26.mono hlew55
                                            replace n27 := n27.mono hlew55
                                            replace n28 := n28.mono hlew55
                                            replace b32 := b32.mono hlew55
                                            replace n33 := n33.mono hlew55
                                            replace n37 := n37.mono hlew55
                                            replace n53 := n53.mono hlew55
                                            replace n54 := n54.mono hlew55
                                            replace U := U.tr g55.up
                                            replace G := G.tr g55
                                            replace hF := g55.fz
                                            have q55 := bd_max (c := 8) q37 q54 (by decide)
                                            refine l_eff (e_callV cal_50 (aC (et (gS rfl (gS rfl (gS rfl g0))) rfl) (aC (et g0 rfl) aN)) (nat_mul hF n53 n55 (bd_sm q53 (by decide)) (bd_sm q55 (by decide)))) (fun v56 w56 h56 => ?_)
                                            obtain ⟨H56, g56, n56⟩ := h56
                                            have hlew56 := g56.le
                                            replace hB := hB.mono hlew56
                                            replace n23 := n23.mono hlew56
                                            replace n24 := n24.mono hlew56
                                            replace n25 := n25.mono hlew56
                                            replace n26 := n26.mono hlew56
                                            replace n27 := n27.mono hlew56
                                            replace n28 := n28.mono hlew56
                                            replace b32 := b32.mono hlew56
                                            replace n33 := n33.mono hlew56
                                            replace n37 := n37.mono hlew56
                                            replace n53 := n53.mono hlew56
                                            replace n54 := n54.mono hlew56
                                            replace n55 := n55.mono hlew56
                                            replace U := U.tr g56.up
                                            replace G := G.tr g56
                                            replace hF := g56.fz
                                            have q56 := bd_mul (c := 26) q53 q55 (by decide)
                                            exact (by
                                              refine l_step (y_assignV (et g0 rfl)) ?_
                                              refine l_nil ?_
                                              refine hK52 _ _ ?_
                                              refine fg1 13 g0 (fun g => ?_)
                                              refine c_seq (fun K57 hK57 => ?_)
                                              exact (by
                                                refine c_region ?_
                                                refine l_eff (e_callV cal_32 (aC (v := .int .u64 ((200 : Nat) : Int)) rfl aN) (yp_num (x := 200) hF (by decide))) (fun v58 w58 h58 => ?_)
                                                obtain ⟨H58, g58, n58⟩ := h58
                                                have hlew58 := g58.le
                                                replace hB := hB.mono hlew58
                                                replace n23 := n23.mono hlew58
                                                replace n24 := n24.mono hlew58
                                                replace n25 := n25.mono hlew58
                                                replace n26 := n26.mono hlew58
                                                replace n27 := n27.mono hlew58
                                                replace n28 := n28.mono hlew58
                                                replace b32 := b32.mono hlew58
                                                replace n33 := n33.mono hlew58
                                                replace n37 := n37.mono hlew58
                                                replace n53 := n53.mono hlew58
                                                replace n54 := n54.mono hlew58
                                                replace n55 := n55.mono hlew58
                                                replace n56 := n56.mono hlew58
                                                replace U := U.tr g58.up
                                                replace G := G.tr g58
                                                replace hF := g58.fz
                                                have q58 : 200 < 256 ^ 1 := by decide
                                                refine l_step (y_moveV (et (gS rfl g0) rfl)) ?_
                                                refine l_eff (e_callV cal_69 (aC (et g0 rfl) (aC (v := .int .u64 ((3 : Nat) : Int)) rfl aN)) (yp_divided 3 (by decide) (by decide) hF n56 (bd_sm q56 (by decide)))) (fun v59 w59 h59 => ?_)
                                                obtain ⟨H59, g59, n59⟩ := h59
                                                have hlew59 := g59.le
                                                replace hB := hB.mono hlew59
                                                replace n23 := n23.mono hlew59
                                                replace n24 := n24.mono hlew59
                                                replace n25 := n25.mono hlew59
                                                replace n26 := n26.mono hlew59
                                                replace n27 := n27.mono hlew59
                                                replace n28 := n28.mono hlew59
                                                replace b32 := b32.mono hlew59
                                                replace n33 := n33.mono hlew59
                                                replace n37 := n37.mono hlew59
                                                replace n53 := n53.mono hlew59
                                                replace n54 := n54.mono hlew59
                                                replace n55 := n55.mono hlew59
                                                replace n56 := n56.mono hlew59
                                                replace n58 := n58.mono hlew59
                                                replace U := U.tr g59.up
                                                replace G := G.tr g59
                                                replace hF := g59.fz
                                                have q59 := bd_div (y := 3) q56
                                                exact (by
                                                  refine l_eff (e_callV cal_145 (aC (et (gS rfl (gS rfl g0)) rfl) (aC (et g0 rfl) aN)) (yp_max hF n58 n59 (bd_sm q58 (by decide)) (bd_sm q59 (by decide)))) (fun v60 w60 h60 => ?_)
                                                  obtain ⟨H60, g60, n60⟩ := h60
                                                  have hlew60 := g60.le
                                                  replace hB := hB.mono hlew60
                                                  replace n23 := n23.mono hlew60
                                                  replace n24 := n24.mono hlew60
                                                  replace n25 := n25.mono hlew60
                                                  replace n26 := n26.mono hlew60
                                                  replace n27 := n27.mono hlew60
                                                  replace n28 := n28.mono hlew60
                                                  replace b32 := b32.mono hlew60
                                                  replace n33 := n33.mono hlew60
                                                  replace n37 := n37.mono hlew60
                                                  replace n53 := n53.mono hlew60
                                                  replace n54 := n54.mono hlew60
                                                  replace n55 := n55.mono hlew60
                                                  replace n56 := n56.mono hlew60
                                                  replace n58 := n58.mono hlew60
                                                  replace n59 := n59.mono hlew60
                                                  replace U := U.tr g60.up
                                                  replace G := G.tr g60
                                                  replace hF := g60.fz
                                                  have q60 := bd_max (c := 26) q58 q59 (by decide)
                                                  refine l_step (y_assignV (et g0 rfl)) ?_
                                                  refine l_step y_assignC ?_
                                                  refine l_nil ?_
                                                  refine hK57 _ _ ?_
                                                  refine fg2 4 5 (gS rfl g0) g0 (fun g => ?_)
                                                  refine c_ret ?_
                                                  refine hQ4 _ _ _ (in_ret ?_)
                                                  repeat with_reducible refine then_ret ?_
                                                  refine ret2 rfl (res_tmp (et (gS rfl g0) rfl)) (res_tmp (et g0 rfl)) ?_
                                                  have e1 : k = 5 := by omega
                                                  have eT : ncT l = ncE l - 1 := by unfold ncT; rw [if_pos h4, if_neg (by omega)]; try rfl
                                                  have e2 : ncN k l = max 200 (ncW l * ncW l * max (ncT l) 1 / 3) := by rw [ncN, if_neg (by omega), if_pos ⟨e1, cB3⟩]
                                                  rw [e2, show ncOk k l = true by rw [ncOk, e1, cB3]; rfl, eT]
                                                  exact ⟨_, _, rfl, G, n60, bd_up q60 (by decide)⟩)))))))
                                · skip
                                  have hB4 := cB4
                                  have h4 : ¬ 1 < ncE l := by have := of_decide_eq_false hB4; unfold ncE; omega
                                  refine c_skip ?_
                                  refine hK30 _ _ ?_
                                  refine fg3 7 10 11 (gS rfl (gS rfl (gS rfl (gS rfl (gS rfl g0))))) (gS rfl (gS rfl (gS rfl (gS rfl g0)))) (gS rfl (gS rfl (gS rfl g0))) (fun g => ?_)
                                  refine c_seq (fun K61 hK61 => ?_)
                                  refine c_seq (fun K62 hK62 => ?_)
                                  exact (by
                                    refine c_region ?_
                                    refine l_step (y_moveV (et (gS rfl (gS rfl g0)) rfl)) ?_
                                    refine l_step (y_gtr (et g0 rfl) rfl) ?_
                                    refine l_nil ?_
                                    refine hK62 _ _ ?_
                                    refine fg4 7 10 11 59 (gS rfl (gS rfl (gS rfl (gS rfl g0)))) (gS rfl (gS rfl (gS rfl g0))) (gS rfl (gS rfl g0)) g0 (fun g => ?_)
                                    refine c_condV (i := 59) g0 rfl (fun cB5 => ?_) (fun cB5 => ?_)
                                    · skip
                                      simp only [Bool.and_eq_true, Bool.or_eq_true, Bool.and_eq_false_imp, Bool.or_eq_false_iff, decide_eq_true_eq, decide_eq_false_iff_not] at cB5
                                      exact (by
                                        refine c_region ?_
                                        refine l_step (y_moveV (et (gS rfl (gS rfl g0)) rfl)) ?_
                                        refine l_step (y_moveV (et (gS rfl (gS rfl (gS rfl (gS rfl (gS rfl g0))))) rfl)) ?_
                                        refine l_step (y_sub (et g0 rfl) rfl (wrapU_subN (b := 32) uk64 ?_ ?_)) ?_
                                        omega
                                        omega
                                        refine l_step (y_mul rfl (et g0 rfl) (wrapU_mulN (a := 8) uk64 ?_)) ?_
                                        omega
                                        refine l_eff (e_callV cal_32 (aC (et g0 rfl) aN) (yp_num hF (show 8 * (lnV l 1 - 32) < 18446744073709551616 by omega))) (fun v64 w64 h64 => ?_)
                                        obtain ⟨H64, g64, n64⟩ := h64
                                        have hlew64 := g64.le
                                        replace hB := hB.mono hlew64
                                        replace n23 := n23.mono hlew64
                                        replace n24 := n24.mono hlew64
                                        replace n25 := n25.mono hlew64
                                        replace n26 := n26.mono hlew64
                                        replace n27 := n27.mono hlew64
                                        replace n28 := n28.mono hlew64
                                        replace b32 := b32.mono hlew64
                                        replace n33 := n33.mono hlew64
                                        replace U := U.tr g64.up
                                        replace G := G.tr g64
                                        replace hF := g64.fz
                                        have q64 := bd_64 (show 8 * (lnV l 1 - 32) < 18446744073709551616 by omega)
                                        refine l_eff (e_callV cal_34 (aC (et (gS rfl (gS rfl (gS rfl (gS rfl g0)))) rfl) (aC (et g0 rfl) aN)) (nat_add hF (NV.nil _) n64 (bd_sm bd_zero (by decide)) (bd_sm q64 (by decide)))) (fun v65 w65 h65 => ?_)
                                        obtain ⟨H65, g65, n65⟩ := h65
                                        have hlew65 := g65.le
                                        replace hB := hB.mono hlew65
                                        replace n23 := n23.mono hlew65
                                        replace n24 := n24.mono hlew65
                                        replace n25 := n25.mono hlew65
                                        replace n26 := n26.mono hlew65
                                        replace n27 := n27.mono hlew65
                                        replace n28 := n28.mono hlew65
                                        replace b32 := b32.mono hlew65
                                        replace n33 := n33.mono hlew65
                                        replace n64 := n64.mono hlew65
                                        replace U := U.tr g65.up
                                        replace G := G.tr g65
                                        replace hF := g65.fz
                                        have q65 := bd_add (c := 9) bd_zero q64 (by decide)
                                        exact (by
                                          refine l_step (y_assignV (et g0 rfl)) ?_
                                          refine l_nil ?_
                                          refine hK61 _ _ ?_
                                          refine fg2 10 11 (gS rfl (gS rfl (gS rfl (gS rfl (gS rfl (gS rfl (gS rfl (gS rfl (gS rfl (gS rfl g0)))))))))) g0 (fun g => ?_)
                                          refine c_seq (fun K66 hK66 => ?_)
                                          exact (by
                                            refine c_region ?_
                                            refine l_step (y_moveV (et (gS rfl g0) rfl)) ?_
                                            refine l_step (y_moveV (et (gS rfl (gS rfl g0)) rfl)) ?_
                                            refine l_eff (e_callV cal_50 (aC (et (gS rfl g0) rfl) (aC (et g0 rfl) aN)) (nat_mul hF n28 n28 (bd_sm q28 (by decide)) (bd_sm q28 (by decide)))) (fun v67 w67 h67 => ?_)
                                            obtain ⟨H67, g67, n67⟩ := h67
                                            have hlew67 := g67.le
                                            replace hB := hB.mono hlew67
                                            replace n23 := n23.mono hlew67
                                            replace n24 := n24.mono hlew67
                                            replace n25 := n25.mono hlew67
                                            replace n26 := n26.mono hlew67
                                            replace n27 := n27.mono hlew67
                                            replace n28 := n28.mono hlew67
                                            replace b32 := b32.mono hlew67
                                            replace n33 := n33.mono hlew67
                                            replace n64 := n64.mono hlew67
                                            replace n65 := n65.mono hlew67
                                            replace U := U.tr g67.up
                                            replace G := G.tr g67
                                            replace hF := g67.fz
                                            have q67 := bd_mul (c := 18) q28 q28 (by decide)
                                            refine l_step (y_moveV (et (gS rfl (gS rfl (gS rfl g0))) rfl)) ?_
                                            refine l_eff (e_callV cal_32 (aC (v := .int .u64 ((1 : Nat) : Int)) rfl aN) (yp_num (x := 1) hF (by decide))) (fun v68 w68 h68 => ?_)
                                            obtain ⟨H68, g68, n68⟩ := h68
                                            have hlew68 := g68.le
                                            replace hB := hB.mono hlew68
                                            replace n23 := n23.mono hlew68
                                            replace n24 := n24.mono hlew68
                                            replace n25 := n25.mono hlew68
                                            replace n26 := n26.mono hlew68
                                            replace n27 := n27.mono hlew68
                                            replace n28 := n28.mono hlew68
                                            replace b32 := b32.mono hlew68
                                            replace n33 := n33.mono hlew68
                                            replace n64 := n64.mono hlew68
                                            replace n65 := n65.mono hlew68
                                            replace n67 := n67.mono hlew68
                                            replace U := U.tr g68.up
                                            replace G := G.tr g68
                                            replace hF := g68.fz
                                            have q68 : 1 < 256 ^ 1 := by decide
                                            exact (by
                                              refine l_eff (e_callV cal_145 (aC (et (gS rfl g0) rfl) (aC (et g0 rfl) aN)) (yp_max hF n65 n68 (bd_sm q65 (by decide)) (bd_sm q68 (by decide)))) (fun v69 w69 h69 => ?_)
                                              obtain ⟨H69, g69, n69⟩ := h69
                                              have hlew69 := g69.le
                                              replace hB := hB.mono hlew69
                                              replace n23 := n23.mono hlew69
                                              replace n24 := n24.mono hlew69
                                              replace n25 := n25.mono hlew69
                                              replace n26 := n26.mono hlew69
                                              replace n27 := n27.mono hlew69
                                              replace n28 := n28.mono hlew69
                                              replace b32 := b32.mono hlew69
                                              replace n33 := n33.mono hlew69
                                              replace n64 := n64.mono hlew69
                                              replace n65 := n65.mono hlew69
                                              replace n67 := n67.mono hlew69
                                              replace n68 := n68.mono hlew69
                                              replace U := U.tr g69.up
                                              replace G := G.tr g69
                                              replace hF := g69.fz
                                              have q69 := bd_max (c := 9) q65 q68 (by decide)
                                              refine l_eff (e_callV cal_50 (aC (et (gS rfl (gS rfl (gS rfl g0))) rfl) (aC (et g0 rfl) aN)) (nat_mul hF n67 n69 (bd_sm q67 (by decide)) (bd_sm q69 (by decide)))) (fun v70 w70 h70 => ?_)
                                              obtain ⟨H70, g70, n70⟩ := h70
                                              have hlew70 := g70.le
                                              replace hB := hB.mono hlew70
                                              replace n23 := n23.mono hlew70
                                              replace n24 := n24.mono hlew70
                                              replace n25 := n25.mono hlew70
                                              replace n26 := n26.mono hlew70
                                              replace n27 := n27.mono hlew70
                                              replace n28 := n28.mono hlew70
                                              replace b32 := b32.mono hlew70
                                              replace n33 := n33.mono hlew70
                                              replace n64 := n64.mono hlew70
                                              replace n65 := n65.mono hlew70
                                              replace n67 := n67.mono hlew70
                                              replace n68 := n68.mono hlew70
                                              replace n69 := n69.mono hlew70
                                              replace U := U.tr g70.up
                                              replace G := G.tr g70
                                              replace hF := g70.fz
                                              have q70 := bd_mul (c := 27) q67 q69 (by decide)
                                              exact (by
                                                refine l_step (y_assignV (et g0 rfl)) ?_
                                                refine l_nil ?_
                                                refine hK66 _ _ ?_
                                                refine fg1 13 g0 (fun g => ?_)
                                                refine c_seq (fun K71 hK71 => ?_)
                                                exact (by
                                                  refine c_region ?_
                                                  refine l_eff (e_callV cal_32 (aC (v := .int .u64 ((200 : Nat) : Int)) rfl aN) (yp_num (x := 200) hF (by decide))) (fun v72 w72 h72 => ?_)
                                                  obtain ⟨H72, g72, n72⟩ := h72
                                                  have hlew72 := g72.le
                                                  replace hB := hB.mono hlew72
                                                  replace n23 := n23.mono hlew72
                                                  replace n24 := n24.mono hlew72
                                                  replace n25 := n25.mono hlew72
                                                  replace n26 := n26.mono hlew72
                                                  replace n27 := n27.mono hlew72
                                                  replace n28 := n28.mono hlew72
                                                  replace b32 := b32.mono hlew72
                                                  replace n33 := n33.mono hlew72
                                                  replace n64 := n64.mono hlew72
                                                  replace n65 := n65.mono hlew72
                                                  replace n67 := n67.mono hlew72
                                                  replace n68 := n68.mono hlew72
                                                  replace n69 := n69.mono hlew72
                                                  replace n70 := n70.mono hlew72
                                                  replace U := U.tr g72.up
                                                  replace G := G.tr g72
                                                  replace hF := g72.fz
                                                  have q72 : 200 < 256 ^ 1 := by decide
                                                  refine l_step (y_moveV (et (gS rfl g0) rfl)) ?_
                                                  refine l_eff (e_callV cal_69 (aC (et g0 rfl) (aC (v := .int .u64 ((3 : Nat) : Int)) rfl aN)) (yp_divided 3 (by decide) (by decide) hF n70 (bd_sm q70 (by decide)))) (fun v73 w73 h73 => ?_)
                                                  obtain ⟨H73, g73, n73⟩ := h73
                                                  have hlew73 := g73.le
                                                  replace hB := hB.mono hlew73
                                                  replace n23 := n23.mono hlew73
                                                  replace n24 := n24.mono hlew73
                                                  replace n25 := n25.mono hlew73
                                                  replace n26 := n26.mono hlew73
                                                  replace n27 := n27.mono hlew73
                                                  replace n28 := n28.mono hlew73
                                                  replace b32 := b32.mono hlew73
                                                  replace n33 := n33.mono hlew73
                                                  replace n64 := n64.mono hlew73
                                                  replace n65 := n65.mono hlew73
                                                  replace n67 := n67.mono hlew73
                                                  replace n68 := n68.mono hlew73
                                                  replace n69 := n69.mono hlew73
                                                  replace n70 := n70.mono hlew73
                                                  replace n72 := n72.mono hlew73
                                                  replace U := U.tr g73.up
                                                  replace G := G.tr g73
                                                  replace hF := g73.fz
                                                  have q73 := bd_div (y := 3) q70
                                                  exact (by
                                                    refine l_eff (e_callV cal_145 (aC (et (gS rfl (gS rfl g0)) rfl) (aC (et g0 rfl) aN)) (yp_max hF n72 n73 (bd_sm q72 (by decide)) (bd_sm q73 (by decide)))) (fun v74 w74 h74 => ?_)
                                                    obtain ⟨H74, g74, n74⟩ := h74
                                                    have hlew74 := g74.le
                                                    replace hB := hB.mono hlew74
                                                    replace n23 := n23.mono hlew74
                                                    replace n24 := n24.mono hlew74
                                                    replace n25 := n25.mono hlew74
                                                    replace n26 := n26.mono hlew74
                                                    replace n27 := n27.mono hlew74
                                                    replace n28 := n28.mono hlew74
                                                    replace b32 := b32.mono hlew74
                                                    replace n33 := n33.mono hlew74
                                                    replace n64 := n64.mono hlew74
                                                    replace n65 := n65.mono hlew74
                                                    replace n67 := n67.mono hlew74
                                                    replace n68 := n68.mono hlew74
                                                    replace n69 := n69.mono hlew74
                                                    replace n70 := n70.mono hlew74
                                                    replace n72 := n72.mono hlew74
                                                    replace n73 := n73.mono hlew74
                                                    replace U := U.tr g74.up
                                                    replace G := G.tr g74
                                                    replace hF := g74.fz
                                                    have q74 := bd_max (c := 27) q72 q73 (by decide)
                                                    refine l_step (y_assignV (et g0 rfl)) ?_
                                                    refine l_step y_assignC ?_
                                                    refine l_nil ?_
                                                    refine hK71 _ _ ?_
                                                    refine fg2 4 5 (gS rfl g0) g0 (fun g => ?_)
                                                    refine c_ret ?_
                                                    refine hQ4 _ _ _ (in_ret ?_)
                                                    repeat with_reducible refine then_ret ?_
                                                    refine ret2 rfl (res_tmp (et (gS rfl g0) rfl)) (res_tmp (et g0 rfl)) ?_
                                                    have e1 : k = 5 := by omega
                                                    have eT : ncT l = 0 + 8 * (lnV l 1 - 32) := by unfold ncT; rw [if_neg h4, if_pos (by omega)]
                                                    have e2 : ncN k l = max 200 (ncW l * ncW l * max (ncT l) 1 / 3) := by rw [ncN, if_neg (by omega), if_pos ⟨e1, cB3⟩]
                                                    rw [e2, show ncOk k l = true by rw [ncOk, e1, cB3]; rfl, eT]
                                                    exact ⟨_, _, rfl, G, n74, bd_up q74 (by decide)⟩)))))))
                                    · skip
                                      simp only [Bool.and_eq_true, Bool.or_eq_true, Bool.and_eq_false_imp, Bool.or_eq_false_iff, decide_eq_true_eq, decide_eq_false_iff_not] at cB5
                                      refine c_skip ?_
                                      refine hK61 _ _ ?_
                                      refine fg2 10 11 (gS rfl (gS rfl (gS rfl g0))) (gS rfl (gS rfl g0)) (fun g => ?_)
                                      refine c_seq (fun K75 hK75 => ?_)
                                      exact (by
                                        refine c_region ?_
                                        refine l_step (y_moveV (et (gS rfl g0) rfl)) ?_
                                        refine l_step (y_moveV (et (gS rfl (gS rfl g0)) rfl)) ?_
                                        refine l_eff (e_callV cal_50 (aC (et (gS rfl g0) rfl) (aC (et g0 rfl) aN)) (nat_mul hF n28 n28 (bd_sm q28 (by decide)) (bd_sm q28 (by decide)))) (fun v76 w76 h76 => ?_)
                                        obtain ⟨H76, g76, n76⟩ := h76
                                        have hlew76 := g76.le
                                        replace hB := hB.mono hlew76
                                        replace n23 := n23.mono hlew76
                                        replace n24 := n24.mono hlew76
                                        replace n25 := n25.mono hlew76
                                        replace n26 := n26.mono hlew76
                                        replace n27 := n27.mono hlew76
                                        replace n28 := n28.mono hlew76
                                        replace b32 := b32.mono hlew76
                                        replace n33 := n33.mono hlew76
                                        replace U := U.tr g76.up
                                        replace G := G.tr g76
                                        replace hF := g76.fz
                                        have q76 := bd_mul (c := 18) q28 q28 (by decide)
                                        refine l_step (y_moveV (et (gS rfl (gS rfl (gS rfl g0))) rfl)) ?_
                                        refine l_eff (e_callV cal_32 (aC (v := .int .u64 ((1 : Nat) : Int)) rfl aN) (yp_num (x := 1) hF (by decide))) (fun v77 w77 h77 => ?_)
                                        obtain ⟨H77, g77, n77⟩ := h77
                                        have hlew77 := g77.le
                                        replace hB := hB.mono hlew77
                                        replace n23 := n23.mono hlew77
                                        replace n24 := n24.mono hlew77
                                        replace n25 := n25.mono hlew77
                                        replace n26 := n26.mono hlew77
                                        replace n27 := n27.mono hlew77
                                        replace n28 := n28.mono hlew77
                                        replace b32 := b32.mono hlew77
                                        replace n33 := n33.mono hlew77
                                        replace n76 := n76.mono hlew77
                                        replace U := U.tr g77.up
                                        replace G := G.tr g77
                                        replace hF := g77.fz
                                        have q77 : 1 < 256 ^ 1 := by decide
                                        exact (by
                                          refine l_eff (e_callV cal_145 (aC (et (gS rfl g0) rfl) (aC (et g0 rfl) aN)) (yp_max hF (NV.nil _) n77 (bd_sm bd_zero (by decide)) (bd_sm q77 (by decide)))) (fun v78 w78 h78 => ?_)
                                          obtain ⟨H78, g78, n78⟩ := h78
                                          have hlew78 := g78.le
                                          replace hB := hB.mono hlew78
                                          replace n23 := n23.mono hlew78
                                          replace n24 := n24.mono hlew78
                                          replace n25 := n25.mono hlew78
                                          replace n26 := n26.mono hlew78
                                          replace n27 := n27.mono hlew78
                                          replace n28 := n28.mono hlew78
                                          replace b32 := b32.mono hlew78
                                          replace n33 := n33.mono hlew78
                                          replace n76 := n76.mono hlew78
                                          replace n77 := n77.mono hlew78
                                          replace U := U.tr g78.up
                                          replace G := G.tr g78
                                          replace hF := g78.fz
                                          have q78 := bd_max (c := 1) bd_zero q77 (by decide)
                                          refine l_eff (e_callV cal_50 (aC (et (gS rfl (gS rfl (gS rfl g0))) rfl) (aC (et g0 rfl) aN)) (nat_mul hF n76 n78 (bd_sm q76 (by decide)) (bd_sm q78 (by decide)))) (fun v79 w79 h79 => ?_)
                                          obtain ⟨H79, g79, n79⟩ := h79
                                          have hlew79 := g79.le
                                          replace hB := hB.mono hlew79
                                          replace n23 := n23.mono hlew79
                                          replace n24 := n24.mono hlew79
                                          replace n25 := n25.mono hlew79
                                          replace n26 := n26.mono hlew79
                                          replace n27 := n27.mono hlew79
                                          replace n28 := n28.mono hlew79
                                          replace b32 := b32.mono hlew79
                                          replace n33 := n33.mono hlew79
                                          replace n76 := n76.mono hlew79
                                          replace n77 := n77.mono hlew79
                                          replace n78 := n78.mono hlew79
                                          replace U := U.tr g79.up
                                          replace G := G.tr g79
                                          replace hF := g79.fz
                                          have q79 := bd_mul (c := 19) q76 q78 (by decide)
                                          exact (by
                                            refine l_step (y_assignV (et g0 rfl)) ?_
                                            refine l_nil ?_
                                            refine hK75 _ _ ?_
                                            refine fg1 13 g0 (fun g => ?_)
                                            refine c_seq (fun K80 hK80 => ?_)
                                            exact (by
                                              refine c_region ?_
                                              refine l_eff (e_callV cal_32 (aC (v := .int .u64 ((200 : Nat) : Int)) rfl aN) (yp_num (x := 200) hF (by decide))) (fun v81 w81 h81 => ?_)
                                              obtain ⟨H81, g81, n81⟩ := h81
                                              have hlew81 := g81.le
                                              replace hB := hB.mono hlew81
                                              replace n23 := n23.mono hlew81
                                              replace n24 := n24.mono hlew81
                                              replace n25 := n25.mono hlew81
                                              replace n26 := n26.mono hlew81
                                              replace n27 := n27.mono hlew81
                                              replace n28 := n28.mono hlew81
                                              replace b32 := b32.mono hlew81
                                              replace n33 := n33.mono hlew81
                                              replace n76 := n76.mono hlew81
                                              replace n77 := n77.mono hlew81
                                              replace n78 := n78.mono hlew81
                                              replace n79 := n79.mono hlew81
                                              replace U := U.tr g81.up
                                              replace G := G.tr g81
                                              replace hF := g81.fz
                                              have q81 : 200 < 256 ^ 1 := by decide
                                              refine l_step (y_moveV (et (gS rfl g0) rfl)) ?_
                                              refine l_eff (e_callV cal_69 (aC (et g0 rfl) (aC (v := .int .u64 ((3 : Nat) : Int)) rfl aN)) (yp_divided 3 (by decide) (by decide) hF n79 (bd_sm q79 (by decide)))) (fun v82 w82 h82 => ?_)
                                              obtain ⟨H82, g82, n82⟩ := h82
                                              have hlew82 := g82.le
                                              replace hB := hB.mono hlew82
                                              replace n23 := n23.mono hlew82
                                              replace n24 := n24.mono hlew82
                                              replace n25 := n25.mono hlew82
                                              replace n26 := n26.mono hlew82
                                              replace n27 := n27.mono hlew82
                                              replace n28 := n28.mono hlew82
                                              replace b32 := b32.mono hlew82
                                              replace n33 := n33.mono hlew82
                                              replace n76 := n76.mono hlew82
                                              replace n77 := n77.mono hlew82
                                              replace n78 := n78.mono hlew82
                                              replace n79 := n79.mono hlew82
                                              replace n81 := n81.mono hlew82
                                              replace U := U.tr g82.up
                                              replace G := G.tr g82
                                              replace hF := g82.fz
                                              have q82 := bd_div (y := 3) q79
                                              exact (by
                                                refine l_eff (e_callV cal_145 (aC (et (gS rfl (gS rfl g0)) rfl) (aC (et g0 rfl) aN)) (yp_max hF n81 n82 (bd_sm q81 (by decide)) (bd_sm q82 (by decide)))) (fun v83 w83 h83 => ?_)
                                                obtain ⟨H83, g83, n83⟩ := h83
                                                have hlew83 := g83.le
                                                replace hB := hB.mono hlew83
                                                replace n23 := n23.mono hlew83
                                                replace n24 := n24.mono hlew83
                                                replace n25 := n25.mono hlew83
                                                replace n26 := n26.mono hlew83
                                                replace n27 := n27.mono hlew83
                                                replace n28 := n28.mono hlew83
                                                replace b32 := b32.mono hlew83
                                                replace n33 := n33.mono hlew83
                                                replace n76 := n76.mono hlew83
                                                replace n77 := n77.mono hlew83
                                                replace n78 := n78.mono hlew83
                                                replace n79 := n79.mono hlew83
                                                replace n81 := n81.mono hlew83
                                                replace n82 := n82.mono hlew83
                                                replace U := U.tr g83.up
                                                replace G := G.tr g83
                                                replace hF := g83.fz
                                                have q83 := bd_max (c := 19) q81 q82 (by decide)
                                                refine l_step (y_assignV (et g0 rfl)) ?_
                                                refine l_step y_assignC ?_
                                                refine l_nil ?_
                                                refine hK80 _ _ ?_
                                                refine fg2 4 5 (gS rfl g0) g0 (fun g => ?_)
                                                refine c_ret ?_
                                                refine hQ4 _ _ _ (in_ret ?_)
                                                repeat with_reducible refine then_ret ?_
                                                refine ret2 rfl (res_tmp (et (gS rfl g0) rfl)) (res_tmp (et g0 rfl)) ?_
                                                have e1 : k = 5 := by omega
                                                have eT : ncT l = 0 := by unfold ncT; rw [if_neg h4, if_neg (by omega)]; try rfl
                                                have e2 : ncN k l = max 200 (ncW l * ncW l * max (ncT l) 1 / 3) := by rw [ncN, if_neg (by omega), if_pos ⟨e1, cB3⟩]
                                                rw [e2, show ncOk k l = true by rw [ncOk, e1, cB3]; rfl, eT]
                                                exact ⟨_, _, rfl, G, n83, bd_up q83 (by decide)⟩))))))))))))))
            · skip
              simp only [Bool.and_eq_true, Bool.or_eq_true, Bool.and_eq_false_imp, Bool.or_eq_false_iff, decide_eq_true_eq, decide_eq_false_iff_not] at cB2
              refine c_skip ?_
              refine hQ4 _ _ _ (in_normal ?_)
              refine hK2 _ _ ?_
              refine fg0 (fun g => ?_)
              refine c_seq (fun K84 hK84 => ?_)
              exact (by
                refine c_region ?_
                refine l_step y_assignC ?_
                refine l_step y_assignC ?_
                refine l_nil ?_
                refine hK84 _ _ ?_
                refine c_ret ?_
                repeat with_reducible refine then_ret ?_
                refine ret2 rfl (res_tmp (et (gS rfl g0) rfl)) (res_tmp (et g0 rfl)) ?_
                have e2 : ncN k l = 0 := by rw [ncN, if_neg (by omega), if_neg (by omega)]
                rw [e2, show ncOk k l = false by rw [ncOk, decide_eq_false (by omega), decide_eq_false (by omega)]; rfl]
                exact ⟨_, _, rfl, G, NV.nil _, by decide⟩)))))
def nrB (l : List Nat) : Nat := ofBE (cutN l 96 (lnV l 0))
def nrE (l : List Nat) : Nat := ofBE (cutN l (96 + lnV l 0) (lnV l 1))
def nrM (l : List Nat) : Nat := ofBE (cutN l (96 + lnV l 0 + lnV l 1) (lnV l 2))
def nrN (k : Nat) (l : List Nat) : List Nat := if k = 4 then l else if k = 5 ∧ lnOk l = true then be (lnV l 2) (mexp (nrB l) (nrE l) (nrM l)) else []
theorem ofBE_bdn {l : List Nat} {n : Nat} (hd : Dig 256 l) (h : l.length ≤ n) : ofBE l < 256 ^ n := Nat.lt_of_lt_of_le (ofBE_lt l hd) (Nat.pow_le_pow_right (by decide) h)
theorem rev_be {l : List Nat} {m x : Nat} (hd : Dig 256 l) (hv : val 256 l = x) (hl : l.length ≤ m) : List.replicate (m - l.length) 0 ++ l.reverse = be m x := by
  have hL : (List.replicate (m - l.length) 0 ++ l.reverse).length = m := by simp; omega
  have hD : Dig 256 (List.replicate (m - l.length) 0 ++ l.reverse) := (Dig.rep 256 _ (by decide)).app hd.rev
  have e := be_ofBE _ hD
  rw [hL] at e
  suffices hs : ofBE (List.replicate (m - l.length) 0 ++ l.reverse) = x by
    rw [hs] at e
    exact e.symm
  rw [← val_reverse, List.reverse_append, List.reverse_reverse, List.reverse_replicate, val_append, val_rep, Nat.mul_zero, Nat.add_zero, hv]
theorem mexp_m {b e m n : Nat} (h : m < 256 ^ n) : mexp b e m < 256 ^ n := mexp_lt b e m _ h (Nat.pow_pos (by decide))
theorem yp_nativeRun {w : World} {H : Store} (hF : Fz w H) {vb : Value} {l : List Nat} (hB : BV H vb l) (hl : l.length < 16777216) (k : Nat) (hk : k < 256) :
    Ret 135 [.int .u8 k, vb] w (fun v w' => ∃ H', Go No w H w' H' ∧ BV H' v (nrN k l)) := by
  refine enter (n := 70) Hvaa.func135 rfl rfl (Nat.le_of_ble_eq_true rfl) ?_
  have U := Up.refl w
  have G : Go (No) w H w H := Go.refl hF
  refine c_seq (fun K1 hK1 => ?_)
  exact (by
    refine c_region ?_
    refine l_step y_assignC ?_
    refine l_nil ?_
    refine hK1 _ _ ?_
    refine fg2 1 0 (gS rfl (gS rfl g0)) (gS rfl g0) (fun g => ?_)
    refine c_seq (fun K2 hK2 => ?_)
    refine c_seq (fun K3 hK3 => ?_)
    exact (by
      refine c_region ?_
      refine l_step (y_moveV (et g0 rfl)) ?_
      refine l_step (y_eql (et g0 rfl) rfl) ?_
      refine l_nil ?_
      refine hK3 _ _ ?_
      refine fg3 1 0 15 (gS rfl (gS rfl (gS rfl g0))) (gS rfl (gS rfl g0)) g0 (fun g => ?_)
      refine c_cond (et g0 rfl) (fun cB1 => ?_) (fun cB1 => ?_)
      · skip
        
        have e1 : k = 4 := by have := of_decide_eq_true cB1; omega
        refine c_seq (fun K5 hK5 => ?_)
        exact (by
          refine c_region ?_
          refine l_step (y_moveV (et (gS rfl (gS rfl g0)) rfl)) ?_
          refine l_eff (e_callV cal_26 (aC (et g0 rfl) aN) (yp_bytes hF hB (by omega))) (fun v6 w6 h6 => ?_)
          obtain ⟨H6, g6, b6⟩ := h6
          have hlew6 := g6.le
          replace hB := hB.mono hlew6
          replace U := U.tr g6.up
          replace G := G.tr g6
          replace hF := g6.fz
          refine l_step (y_assignV (et g0 rfl)) ?_
          refine l_nil ?_
          refine hK5 _ _ ?_
          refine fg1 4 g0 (fun g => ?_)
          refine c_ret ?_
          repeat with_reducible refine then_ret ?_
          refine ret1 rfl (res_tmp (et g0 rfl)) ?_
          have e2 : nrN k l = l := by rw [nrN, if_pos e1]
          rw [e2]
          exact ⟨_, G, b6⟩)
      · skip
        
        have e1 : k ≠ 4 := by have := of_decide_eq_false cB1; omega
        refine c_skip ?_
        refine hK2 _ _ ?_
        refine fg2 1 0 (gS rfl (gS rfl g0)) (gS rfl g0) (fun g => ?_)
        refine c_seq (fun K7 hK7 => ?_)
        exact (by
          refine c_region ?_
          refine l_step (y_moveV (et (gS rfl g0) rfl)) ?_
          refine l_eff (e_callV cal_219 (aC (et g0 rfl) aN) (yp_lengths hF hB (by omega))) (fun v8 w8 h8 => ?_)
          obtain ⟨H8, rfl, g8⟩ := h8
          have hlew8 := g8.le
          replace hB := hB.mono hlew8
          replace U := U.tr g8.up
          replace G := G.tr g8
          replace hF := g8.fz
          have ln0 := lnV_le l 0 (by decide)
          have ln1 := lnV_le l 1 (by decide)
          have ln2 := lnV_le l 2 (by decide)
          refine l_step (y_moveV (et g0 rfl)) ?_
          refine l_step (y_ext (et g0 rfl) rfl) ?_
          refine l_step (y_ext (et (gS rfl g0) rfl) rfl) ?_
          refine l_step (y_ext (et (gS rfl (gS rfl g0)) rfl) rfl) ?_
          refine l_step (y_ext (et (gS rfl (gS rfl (gS rfl g0))) rfl) rfl) ?_
          refine l_step (y_assignV (et (gS rfl (gS rfl (gS rfl g0))) rfl)) ?_
          refine l_step (y_assignV (et (gS rfl (gS rfl (gS rfl g0))) rfl)) ?_
          refine l_step (y_assignV (et (gS rfl (gS rfl (gS rfl g0))) rfl)) ?_
          refine l_step (y_assignV (et (gS rfl (gS rfl (gS rfl g0))) rfl)) ?_
          refine l_nil ?_
          refine hK7 _ _ ?_
          refine fg6 1 0 5 6 7 8 (gS rfl (gS rfl (gS rfl (gS rfl (gS rfl (gS rfl (gS rfl (gS rfl (gS rfl (gS rfl (gS rfl (gS rfl g0)))))))))))) (gS rfl (gS rfl (gS rfl (gS rfl (gS rfl (gS rfl (gS rfl (gS rfl (gS rfl (gS rfl (gS rfl g0))))))))))) (gS rfl (gS rfl (gS rfl g0))) (gS rfl (gS rfl g0)) (gS rfl g0) g0 (fun g => ?_)
          refine c_seq (fun K9 hK9 => ?_)
          refine c_seq (fun K10 hK10 => ?_)
          exact (by
            refine c_region ?_
            refine l_step (y_moveV (et (gS rfl (gS rfl (gS rfl (gS rfl g0)))) rfl)) ?_
            refine l_step (y_neq (et g0 rfl) rfl) ?_
            refine l_step (y_moveV (et g0 rfl)) ?_
            refine l_gpure (j := 2) (t := 27) (by exact rfl) (by exact rfl) (et g0 rfl) rfl (fun hc => (y_moveV (et (gS rfl (gS rfl (gS rfl g0))) rfl))) ?_
            refine l_gpure (j := 2) (t := 27) (by exact rfl) (by exact rfl) (et (gS rfl g0) rfl) rfl (fun hc => (y_not (et (cT g0 hc) rfl))) ?_
            refine l_step (y_pickO (et (gS rfl (gS rfl g0)) rfl) rfl (et g0 rfl)) ?_
            refine l_nil ?_
            refine hK10 _ _ ?_
            refine fg5 1 5 6 7 30 (gS rfl (gS rfl (gS rfl (gS rfl (gS rfl (gS rfl (gS rfl (gS rfl (gS rfl (gS rfl (gS rfl g0))))))))))) (gS rfl (gS rfl (gS rfl (gS rfl (gS rfl (gS rfl (gS rfl (gS rfl (gS rfl g0))))))))) (gS rfl (gS rfl (gS rfl (gS rfl (gS rfl (gS rfl (gS rfl (gS rfl g0)))))))) (gS rfl (gS rfl (gS rfl (gS rfl (gS rfl (gS rfl (gS rfl g0))))))) g0 (fun g => ?_)
            refine c_cond (et g0 rfl) (fun cB2 => ?_) (fun cB2 => ?_)
            · skip
              simp only [Bool.or_eq_true, Bool.or_eq_false_iff, Bool.not_eq_true', Bool.not_eq_false', decide_eq_true_eq, decide_eq_false_iff_not, Decidable.not_not] at cB2
              refine c_seq (fun K12 hK12 => ?_)
              exact (by
                refine c_region ?_
                refine l_step y_assignC ?_
                refine l_nil ?_
                refine hK12 _ _ ?_
                refine fg1 4 g0 (fun g => ?_)
                refine c_ret ?_
                repeat with_reducible refine then_ret ?_
                refine ret1 rfl (res_tmp (et g0 rfl)) ?_
                have e2 : nrN k l = [] := by rw [nrN, if_neg e1, if_neg (by intro hh; rcases cB2 with h9 | h9; exact h9 (by omega); rw [hh.2] at h9; cases h9)]
                rw [e2]
                exact ⟨_, G, BV.nil _⟩)
            · skip
              simp only [Bool.or_eq_true, Bool.or_eq_false_iff, Bool.not_eq_true', Bool.not_eq_false', decide_eq_true_eq, decide_eq_false_iff_not, Decidable.not_not] at cB2
              refine c_skip ?_
              refine hK9 _ _ ?_
              refine fg4 1 5 6 7 (gS rfl (gS rfl (gS rfl (gS rfl g0)))) (gS rfl (gS rfl (gS rfl g0))) (gS rfl (gS rfl g0)) (gS rfl g0) (fun g => ?_)
              refine c_seq (fun K13 hK13 => ?_)
              exact (by
                refine c_region ?_
                refine l_step (y_moveV (et (gS rfl (gS rfl (gS rfl g0))) rfl)) ?_
                refine l_step (y_moveV (et (gS rfl (gS rfl (gS rfl g0))) rfl)) ?_
                refine l_eff (e_callV cal_221 (aC (et (gS rfl g0) rfl) (aC (v := .int .u64 ((96 : Nat) : Int)) rfl (aC (et g0 rfl) aN))) (yp_part (off := 96) hF hB (by omega) (by decide) (show lnV l 0 ≤ 1099511627776 by omega))) (fun v14 w14 h14 => ?_)
                obtain ⟨H14, g14, b14⟩ := h14
                have hlew14 := g14.le
                replace hB := hB.mono hlew14
                replace U := U.tr g14.up
                replace G := G.tr g14
                replace hF := g14.fz
                refine l_eff (e_callV cal_33 (aC (et g0 rfl) aN) (nat_fromBE hF (b14.wv hF) (Nat.le_refl _) (by rw [len_cut]; omega))) (fun v15 w15 h15 => ?_)
                obtain ⟨H15, g15, n15⟩ := h15
                have hlew15 := g15.le
                replace hB := hB.mono hlew15
                replace b14 := b14.mono hlew15
                replace U := U.tr g15.up
                replace G := G.tr g15
                replace hF := g15.fz
                refine l_step (y_assignV (et g0 rfl)) ?_
                refine l_nil ?_
                refine hK13 _ _ ?_
                refine fg5 1 5 6 7 9 (gS rfl (gS rfl (gS rfl (gS rfl (gS rfl (gS rfl (gS rfl (gS rfl g0)))))))) (gS rfl (gS rfl (gS rfl (gS rfl (gS rfl (gS rfl (gS rfl g0))))))) (gS rfl (gS rfl (gS rfl (gS rfl (gS rfl (gS rfl g0)))))) (gS rfl (gS rfl (gS rfl (gS rfl (gS rfl g0))))) g0 (fun g => ?_)
                refine c_seq (fun K16 hK16 => ?_)
                exact (by
                  refine c_region ?_
                  refine l_step (y_moveV (et g0 rfl)) ?_
                  refine l_step (y_moveV (et (gS rfl (gS rfl (gS rfl (gS rfl (gS rfl g0))))) rfl)) ?_
                  refine l_step (y_moveV (et (gS rfl (gS rfl (gS rfl (gS rfl (gS rfl g0))))) rfl)) ?_
                  refine l_step (y_add rfl (et g0 rfl) (wrapU_addN (a := 96) uk64 ?_)) ?_
                  omega
                  refine l_step (y_moveV (et (gS rfl (gS rfl (gS rfl (gS rfl (gS rfl (gS rfl g0)))))) rfl)) ?_
                  refine l_eff (e_callV cal_221 (aC (et (gS rfl (gS rfl (gS rfl g0))) rfl) (aC (et (gS rfl g0) rfl) (aC (et g0 rfl) aN))) (yp_part hF hB (by omega) (show 96 + lnV l 0 < 18446744073709551616 by omega) (show lnV l 1 ≤ 1099511627776 by omega))) (fun v17 w17 h17 => ?_)
                  obtain ⟨H17, g17, b17⟩ := h17
                  have hlew17 := g17.le
                  replace hB := hB.mono hlew17
                  replace b14 := b14.mono hlew17
                  replace n15 := n15.mono hlew17
                  replace U := U.tr g17.up
                  replace G := G.tr g17
                  replace hF := g17.fz
                  refine l_eff (e_callV cal_33 (aC (et g0 rfl) aN) (nat_fromBE hF (b17.wv hF) (Nat.le_refl _) (by rw [len_cut]; omega))) (fun v18 w18 h18 => ?_)
                  obtain ⟨H18, g18, n18⟩ := h18
                  have hlew18 := g18.le
                  replace hB := hB.mono hlew18
                  replace b14 := b14.mono hlew18
                  replace n15 := n15.mono hlew18
                  replace b17 := b17.mono hlew18
                  replace U := U.tr g18.up
                  replace G := G.tr g18
                  replace hF := g18.fz
                  refine l_step (y_moveV (et (gS rfl (gS rfl (gS rfl (gS rfl (gS rfl (gS rfl (gS rfl (gS rfl (gS rfl (gS rfl (gS rfl g0))))))))))) rfl)) ?_
                  refine l_step (y_moveV (et (gS rfl (gS rfl (gS rfl (gS rfl (gS rfl (gS rfl (gS rfl (gS rfl (gS rfl (gS rfl (gS rfl g0))))))))))) rfl)) ?_
                  refine l_step (y_add rfl (et g0 rfl) (wrapU_addN (a := 96) uk64 ?_)) ?_
                  omega
                  refine l_step (y_moveV (et (gS rfl (gS rfl (gS rfl (gS rfl (gS rfl (gS rfl (gS rfl (gS rfl (gS rfl (gS rfl (gS rfl (gS rfl g0)))))))))))) rfl)) ?_
                  exact (by
                    refine l_step (y_add (et (gS rfl g0) rfl) (et g0 rfl) (wrapU_addN uk64 ?_)) ?_
                    omega
                    refine l_step (y_moveV (et (gS rfl (gS rfl (gS rfl (gS rfl (gS rfl (gS rfl (gS rfl (gS rfl (gS rfl (gS rfl (gS rfl (gS rfl (gS rfl g0))))))))))))) rfl)) ?_
                    refine l_eff (e_callV cal_221 (aC (et (gS rfl (gS rfl (gS rfl (gS rfl (gS rfl g0))))) rfl) (aC (et (gS rfl g0) rfl) (aC (et g0 rfl) aN))) (yp_part hF hB (by omega) (show 96 + lnV l 0 + lnV l 1 < 18446744073709551616 by omega) (show lnV l 2 ≤ 1099511627776 by omega))) (fun v19 w19 h19 => ?_)
                    obtain ⟨H19, g19, b19⟩ := h19
                    have hlew19 := g19.le
                    replace hB := hB.mono hlew19
                    replace b14 := b14.mono hlew19
                    replace n15 := n15.mono hlew19
                    replace b17 := b17.mono hlew19
                    replace n18 := n18.mono hlew19
                    replace U := U.tr g19.up
                    replace G := G.tr g19
                    replace hF := g19.fz
                    refine l_eff (e_callV cal_33 (aC (et g0 rfl) aN) (nat_fromBE hF (b19.wv hF) (Nat.le_refl _) (by rw [len_cut]; omega))) (fun v20 w20 h20 => ?_)
                    obtain ⟨H20, g20, n20⟩ := h20
                    have hlew20 := g20.le
                    replace hB := hB.mono hlew20
                    replace b14 := b14.mono hlew20
                    replace n15 := n15.mono hlew20
                    replace b17 := b17.mono hlew20
                    replace n18 := n18.mono hlew20
                    replace b19 := b19.mono hlew20
                    replace U := U.tr g20.up
                    replace G := G.tr g20
                    replace hF := g20.fz
                    refine l_eff (e_callV cal_222 (aC (et (gS rfl (gS rfl (gS rfl (gS rfl (gS rfl (gS rfl (gS rfl (gS rfl (gS rfl (gS rfl (gS rfl (gS rfl (gS rfl (gS rfl g0)))))))))))))) rfl) (aC (et (gS rfl (gS rfl (gS rfl (gS rfl (gS rfl (gS rfl (gS rfl (gS rfl g0)))))))) rfl) (aC (et g0 rfl) aN))) (yp_modExp hF n15 n18 n20 (ofBE_bdn (n := 64) b14.dig (by rw [len_cut]; omega)) (ofBE_bdn (n := 64) b17.dig (by rw [len_cut]; omega)) (ofBE_bdn (n := 64) b19.dig (by rw [len_cut]; omega)))) (fun v21 w21 h21 => ?_)
                    obtain ⟨H21, g21, n21⟩ := h21
                    have hlew21 := g21.le
                    replace hB := hB.mono hlew21
                    replace b14 := b14.mono hlew21
                    replace n15 := n15.mono hlew21
                    replace b17 := b17.mono hlew21
                    replace n18 := n18.mono hlew21
                    replace b19 := b19.mono hlew21
                    replace n20 := n20.mono hlew21
                    replace U := U.tr g21.up
                    replace G := G.tr g21
                    replace hF := g21.fz
                    have hxm : mexp (nrB l) (nrE l) (nrM l) < 256 ^ lnV l 2 := mexp_m (ofBE_bdn b19.dig (by rw [len_cut]; exact Nat.le_refl _))
                    obtain ⟨pl, pa, pc, rfl, hbv, hvx, ht, hl200, hlc2, hc632⟩ := n21.len (bd_sm (mexp_bd (ofBE_bdn (n := 64) b19.dig (by rw [len_cut]; omega))) (by decide))
                    have hpl : pl.length ≤ lnV l 2 := tr_len ht (by rw [hvx]; exact hxm)
                    exact (by
                      refine l_step (y_assignV (et g0 rfl)) ?_
                      refine l_nil ?_
                      refine hK16 _ _ ?_
                      refine fg2 7 10 (gS rfl (gS rfl (gS rfl (gS rfl (gS rfl (gS rfl (gS rfl (gS rfl (gS rfl (gS rfl (gS rfl (gS rfl (gS rfl (gS rfl (gS rfl (gS rfl (gS rfl (gS rfl g0)))))))))))))))))) g0 (fun g => ?_)
                      refine c_seq (fun K22 hK22 => ?_)
                      exact (by
                        refine c_region ?_
                        refine l_step (y_moveV (et (gS rfl g0) rfl)) ?_
                        refine l_eff (e_make Hvaa.underlying38 sz_5 zr_5 by_5 (et g0 rfl) (et g0 rfl) (by omega) (by omega)) (fun v23 w23 h23 => ?_)
                        obtain ⟨b23, rfl, n23⟩ := h23
                        have f23 : w.heap.size ≤ b23 := Nat.le_trans U.size n23.fresh
                        have nb23 := hF.nb n23.fresh
                        replace G := G.tr (Go.ofUp hF n23.up)
                        replace hF := hF.up n23.up
                        replace U := U.tr n23.up
                        have k23 := mzB n23.blk
                        refine l_step (y_assignV (et g0 rfl)) ?_
                        refine l_nil ?_
                        refine hK22 _ _ ?_
                        refine fg3 7 10 11 (gS rfl (gS rfl (gS rfl (gS rfl g0)))) (gS rfl (gS rfl (gS rfl g0))) g0 (fun g => ?_)
                        refine c_seq (fun K24 hK24 => ?_)
                        refine c_seq (fun K25 hK25 => ?_)
                        exact (by
                          refine c_region ?_
                          refine l_step (y_moveV (et (gS rfl g0) rfl)) ?_
                          refine l_step (y_len Hvaa.underlying95 (et g0 rfl)) ?_
                          refine l_step y_moveC ?_
                          refine l_nil ?_
                          refine hK25 _ _ ?_
                          refine fg5 7 11 53 54 55 (gS rfl (gS rfl (gS rfl (gS rfl (gS rfl g0))))) (gS rfl (gS rfl (gS rfl g0))) (gS rfl (gS rfl g0)) (gS rfl g0) g0 (fun g => ?_)
                          refine c_block (fun Q26 hQ26 => ?_)
                          refine fg5 7 11 53 54 55 (gS rfl (gS rfl (gS rfl (gS rfl g0)))) (gS rfl (gS rfl (gS rfl g0))) (gS rfl (gS rfl g0)) (gS rfl g0) g0 (fun g => ?_)
                          replace k23 : Blk w23 b23 (bL (List.replicate (lnV l 2 - 0) 0 ++ (pl.take 0).reverse)).toArray := by rw [List.take_zero, List.reverse_nil, List.append_nil, Nat.sub_zero]; exact k23
                          refine c_loop (fun k_ s_ W27 => ∃ (g : Nat → Value) (Hk27 : Store) (i : Nat), s_ = (upd (upd (upd (upd (upd g 7 (.int .u64 (lnV l 2 : Nat))) 11 (.slice (some ⟨b23, 0, none⟩) (lnV l 2) (lnV l 2))) 53 (.slice pa pl.length pc)) 54 (.int .i64 (pl.length : Nat))) 55 (.int .i64 (i : Nat))) ∧ pl.length - i = k_ ∧ (i ≤ pl.length) ∧ Blk W27 b23 ((bL (List.replicate (lnV l 2 - i) 0 ++ (pl.take i).reverse)).toArray) ∧ Go (fun k => k = b23) w23 H21 W27 Hk27) (pl.length - (0)) ?_ ?_
                          · exact ⟨g, _, 0, rfl, rfl, Nat.zero_le _, k23, Go.refl hF⟩
                          · skip
                            intro k_ s_ W27 hI K27 hK27
                            obtain ⟨g, Hk27, i, rfl, rfl, hi, nk23, V27⟩ := hI
                            have hle27 := V27.le
                            replace nb23 := V27.nb nb23 k23.lt
                            replace hB := hB.mono hle27
                            replace b14 := b14.mono hle27
                            replace n15 := n15.mono hle27
                            replace b17 := b17.mono hle27
                            replace n18 := n18.mono hle27
                            replace b19 := b19.mono hle27
                            replace n20 := n20.mono hle27
                            replace hbv := hbv.mono hle27
                            replace G := G.trans V27 (by intro b hb; first | exact hb.elim | omega | (simp at hb ⊢; omega))
                            replace hF := V27.fz
                            replace k23 := nk23
                            replace U := U.cc V27.ch (by intro b hb; first | exact hb.elim | omega | (simp at hb ⊢; omega))
                            refine c_seq (fun K28 hK28 => ?_)
                            exact (by
                              refine c_region ?_
                              refine l_step (y_lss (et g0 rfl) (et (gS rfl g0) rfl)) ?_
                              refine l_nil ?_
                              refine hK28 _ _ ?_
                              refine c_seq (fun K29 hK29 => ?_)
                              refine c_cond (et g0 rfl) (fun cB3 => ?_) (fun cB3 => ?_)
                              · skip
                                
                                have hlt : i < pl.length := by have := of_decide_eq_true cB3; omega
                                obtain ⟨r', hr', hrr⟩ : ∃ r', lnV l 2 - i = r' + 1 ∧ lnV l 2 - 1 - i = r' := ⟨lnV l 2 - 1 - i, by omega, rfl⟩
                                rw [hr', List.replicate_succ', List.append_assoc] at k23
                                replace k23 : Blk W27 b23 (bL (List.replicate r' 0 ++ 0 :: (pl.take i).reverse)).toArray := k23
                                refine c_skip ?_
                                refine hK29 _ _ ?_
                                refine fg5 7 11 53 54 55 (gS rfl (gS rfl (gS rfl (gS rfl (gS rfl g0))))) (gS rfl (gS rfl (gS rfl (gS rfl g0)))) (gS rfl (gS rfl (gS rfl g0))) (gS rfl (gS rfl g0)) (gS rfl g0) (fun g => ?_)
                                refine c_seq (fun K31 hK31 => ?_)
                                refine c_block (fun Q32 hQ32 => ?_)
                                refine c_seq (fun K33 hK33 => ?_)
                                exact (by
                                  refine c_region ?_
                                  refine l_step (y_moveV (et g0 rfl)) ?_
                                  obtain ⟨ba, oa, ha, hb0, hr⟩ := (hbv.wv hF).at (by omega)
                                  refine l_step (y_idxSa ha Hvaa.underlying95 sz_5 (et (gS rfl (gS rfl (gS rfl g0))) rfl) (et (gS rfl g0) rfl) ?_) ?_
                                  omega
                                  refine l_step (y_load1 one_5 (et g0 rfl) (at1 (row_byte hr (by omega)))) ?_
                                  refine l_step (y_assignV (et (gS rfl (gS rfl g0)) rfl)) ?_
                                  refine l_step (y_assignV (et (gS rfl g0) rfl)) ?_
                                  refine l_nil ?_
                                  refine hK33 _ _ ?_
                                  refine fg7 7 11 53 54 55 12 13 (gS rfl (gS rfl (gS rfl (gS rfl (gS rfl (gS rfl (gS rfl (gS rfl (gS rfl g0))))))))) (gS rfl (gS rfl (gS rfl (gS rfl (gS rfl (gS rfl (gS rfl (gS rfl g0)))))))) (gS rfl (gS rfl (gS rfl (gS rfl (gS rfl (gS rfl (gS rfl g0))))))) (gS rfl (gS rfl (gS rfl (gS rfl (gS rfl (gS rfl g0)))))) (gS rfl (gS rfl (gS rfl (gS rfl (gS rfl g0))))) (gS rfl g0) g0 (fun g => ?_)
                                  refine c_region ?_
                                  refine l_step (y_moveV (et (gS rfl (gS rfl (gS rfl (gS rfl (gS rfl g0))))) rfl)) ?_
                                  refine l_step (y_moveV (et (gS rfl (gS rfl (gS rfl (gS rfl (gS rfl (gS rfl (gS rfl g0))))))) rfl)) ?_
                                  refine l_step (y_conv Hvaa.underlying26 Hvaa.underlying3 (et g0 rfl) (wrapIN ?_)) ?_
                                  omega
                                  refine l_step (y_sub (et g0 rfl) rfl (subIN (y := 1) ?_ ?_)) ?_
                                  omega
                                  omega
                                  refine l_step (y_moveV (et (gS rfl (gS rfl (gS rfl (gS rfl (gS rfl g0))))) rfl)) ?_
                                  refine l_step (y_sub (et (gS rfl g0) rfl) (et g0 rfl) ((subIN ?_ ?_).trans (castE hrr))) ?_
                                  omega
                                  omega
                                  refine l_step (y_moveV (et (gS rfl (gS rfl (gS rfl (gS rfl (gS rfl (gS rfl g0)))))) rfl)) ?_
                                  refine l_step (y_idxSa rfl Hvaa.underlying38 sz_5 (et (gS rfl (gS rfl (gS rfl (gS rfl (gS rfl (gS rfl g0)))))) rfl) (et (gS rfl g0) rfl) ?_) ?_
                                  omega
                                  refine l_effN (e_store sz_5 (et g0 rfl) (cellsV (et (gS rfl g0) rfl) rfl) rfl (by first | exact one_bL _ | exact one_uL _ | (intro v hv; simp at hv; subst hv; rfl)) k23 (by (simp only [List.size_toArray, length_bL, List.length_append, List.length_cons, List.length_reverse, List.length_take, List.length_replicate]; omega))) (fun v34 w34 h34 => ?_)
                                  obtain ⟨rfl, x34⟩ := h34
                                  replace k23 := x34.blk
                                  replace G := G.wr x34 (by first | exact .inr f23 | omega | (simp; omega)) nb23
                                  replace V27 := V27.wr x34 (by first | exact .inr f23 | omega | (simp; omega)) nb23
                                  replace hF := G.fz
                                  replace U := U.st x34 f23
                                  replace k23 := Blk.setB k23 (by simp)
                                  replace k23 : Blk w34 b23 (bL (List.replicate (lnV l 2 - (i + 1)) 0 ++ (pl.take (i + 1)).reverse)).toArray := by rw [show lnV l 2 - (i + 1) = r' by omega, rev_take (by omega)]; exact k23
                                  refine l_nil ?_
                                  refine hQ32 _ _ _ (in_normal ?_)
                                  refine hK31 _ _ ?_
                                  refine fg5 7 11 53 54 55 (gS rfl (gS rfl (gS rfl (gS rfl (gS rfl (gS rfl (gS rfl (gS rfl (gS rfl (gS rfl (gS rfl (gS rfl (gS rfl (gS rfl g0)))))))))))))) (gS rfl (gS rfl (gS rfl (gS rfl (gS rfl (gS rfl (gS rfl (gS rfl (gS rfl (gS rfl (gS rfl (gS rfl (gS rfl g0))))))))))))) (gS rfl (gS rfl (gS rfl (gS rfl (gS rfl (gS rfl (gS rfl (gS rfl (gS rfl (gS rfl (gS rfl (gS rfl g0)))))))))))) (gS rfl (gS rfl (gS rfl (gS rfl (gS rfl (gS rfl (gS rfl (gS rfl (gS rfl (gS rfl (gS rfl g0))))))))))) (gS rfl (gS rfl (gS rfl (gS rfl (gS rfl (gS rfl (gS rfl (gS rfl (gS rfl (gS rfl g0)))))))))) (fun g => ?_)
                                  refine c_region ?_
                                  exact (by
                                    refine l_step (y_add (et g0 rfl) rfl (addIN (y := 1) ?_)) ?_
                                    omega
                                    refine l_step (y_moveV (et g0 rfl)) ?_
                                    refine l_nil ?_
                                    refine fK5 7 11 53 54 55 (gS rfl (gS rfl (gS rfl (gS rfl (gS rfl (gS rfl g0)))))) (gS rfl (gS rfl (gS rfl (gS rfl (gS rfl g0))))) (gS rfl (gS rfl (gS rfl (gS rfl g0)))) (gS rfl (gS rfl (gS rfl g0))) g0 (fun g => ?_)
                                    exact hK27 (pl.length - ((i + 1))) _ _ (by omega) ⟨g, _, (i + 1), rfl, rfl, by omega, k23, V27⟩))
                              · skip
                                
                                have hge : i = pl.length := by have := of_decide_eq_false cB3; omega
                                subst hge
                                rw [List.take_length, rev_be hbv.dig hvx hpl] at k23
                                refine c_exit ?_
                                refine hQ26 _ _ _ (in_exit ?_)
                                refine hK24 _ _ ?_
                                refine fg1 11 (gS rfl (gS rfl (gS rfl (gS rfl g0)))) (fun g => ?_)
                                refine c_seq (fun K35 hK35 => ?_)
                                exact (by
                                  refine c_region ?_
                                  refine l_step (y_moveV (et g0 rfl)) ?_
                                  refine l_step (y_assignV (et g0 rfl)) ?_
                                  refine l_nil ?_
                                  refine hK35 _ _ ?_
                                  refine fg1 4 g0 (fun g => ?_)
                                  refine c_ret ?_
                                  repeat with_reducible refine then_ret ?_
                                  refine ret1 rfl (res_tmp (et g0 rfl)) ?_
                                  have e2 : nrN k l = be (lnV l 2) (mexp (nrB l) (nrE l) (nrM l)) := by rw [nrN, if_neg e1, if_pos ⟨by omega, cB2.2⟩]
                                  rw [e2]
                                  obtain ⟨H2, g2, l2, e3⟩ := G.hold k23 f23
                                  have hb9 := BV.ofBlk (k := 0) e3 (be_lt _ _) (by rw [length_be]; omega)
                                  rw [length_be, Nat.sub_zero, List.drop_zero] at hb9
                                  exact ⟨H2, g2, hb9⟩))))))))))))
end Go.Proofs.YgvaawGreat
