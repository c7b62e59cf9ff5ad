import Derived.Test.YgvaawGreatY3
set_option maxRecDepth 100000
set_option maxHeartbeats 4000000
set_option linter.unusedSimpArgs false
set_option linter.unusedVariables false
namespace Go.Proofs.YgvaawGreat
open Go
theorem pw_sq (x e : Nat) : x ^ e % W256 * (x ^ e % W256) % W256 = x ^ (2 * e) % W256 := by rw [← Nat.mul_mod, ← Nat.pow_add, Nat.two_mul]
theorem pw_mul (x e : Nat) : x ^ e % W256 * x % W256 = x ^ (e + 1) % W256 := by rw [Nat.mod_mul_mod, Nat.pow_succ]
theorem sgn_bit {b k : Nat} : b / 2 ^ (8 * k + 7) % 2 = 1 ↔ 2 ^ (8 * k + 8) ≤ 2 * (b % 2 ^ (8 * k + 8)) := by
  have e : 2 ^ (8 * k + 8) = 2 ^ (8 * k + 7) * 2 := by rw [← Nat.pow_succ]
  have h0 : 0 < 2 ^ (8 * k + 7) := Nat.pow_pos (by decide)
  rw [e, Nat.mod_mul]
  have h1 := Nat.mod_lt b h0
  generalize 2 ^ (8 * k + 7) = T at *
  rcases Nat.mod_two_eq_zero_or_one (b / T) with h | h <;> rw [h]
  · simp; omega
  · simp; omega
theorem pow_le256 {k : Nat} (h : k < 31) : 8 * k + 8 ≤ 256 := by omega
theorem yp_power {w : World} {H : Store} {v1 v2 : Value} {x y : Nat} (hF : Fz w H) (h1 : NV H v1 x) (h2 : NV H v2 y) (s1 : x < 256 ^ 32) (s2 : y < 256 ^ 32) :
    Ret 342 [v1, v2] w (fun v w' => ∃ H', Go No w H w' H' ∧ NV H' v (eExp x y)) := by
  obtain ⟨l, a, c, rfl, hbv, rfl, ht, hl200, hlc, hc63⟩ := h2.len (bd_sm s2 (by decide))
  have hl32 : l.length ≤ 32 := tr_len ht s2
  refine enter (n := 30) Hvaa.func342 rfl rfl (Nat.le_of_ble_eq_true rfl) ?_
  have U := Up.refl w
  have G : Go (No) w H w H := Go.refl hF
  refine c_seq (fun K1 hK1 => ?_)
  refine c_region ?_
  refine l_step y_assignC ?_
  refine l_nil ?_
  refine hK1 _ _ ?_
  refine fg2 1 0 (gS rfl (gS rfl g0)) (gS rfl g0) (fun g => ?_)
  refine c_seq (fun K2 hK2 => ?_)
  refine c_region ?_
  refine l_eff (e_one (q := 1) hF rfl (by decide)) (fun v3 w3 h3 => ?_)
  obtain ⟨H3, g3, n3⟩ := h3
  have hlew3 := g3.le
  replace h1 := h1.mono hlew3
  replace h2 := h2.mono hlew3
  replace hbv := hbv.mono hlew3
  replace U := U.tr g3.up
  replace G := G.tr g3
  replace hF := g3.fz
  replace n3 := BV.one n3 (by decide)
  refine l_step (y_assignV (et g0 rfl)) ?_
  refine l_nil ?_
  refine hK2 _ _ ?_
  refine fg3 1 0 5 (gS rfl (gS rfl (gS rfl g0))) (gS rfl (gS rfl g0)) g0 (fun g => ?_)
  refine c_seq (fun K4 hK4 => ?_)
  refine c_seq (fun K5 hK5 => ?_)
  refine c_region ?_
  refine l_step (y_moveV (et (gS rfl (gS rfl g0)) rfl)) ?_
  refine l_step (y_len Hvaa.underlying95 (et g0 rfl)) ?_
  refine l_step (y_minN (b := 32) (et g0 rfl) rfl) ?_
  refine l_step (y_mul rfl (et g0 rfl) ((mulIN (x := 8) ?_).trans (castE (show 8 * min l.length 32 = 8 * l.length by omega)))) ?_
  omega
  refine l_step (y_assignV (et g0 rfl)) ?_
  refine l_nil ?_
  refine hK5 _ _ ?_
  refine fg4 1 0 5 6 (gS rfl (gS rfl (gS rfl (gS rfl (gS rfl (gS rfl (gS rfl g0))))))) (gS rfl (gS rfl (gS rfl (gS rfl (gS rfl (gS rfl g0)))))) (gS rfl (gS rfl (gS rfl (gS rfl (gS rfl g0))))) g0 (fun g => ?_)
  refine c_block (fun Q6 hQ6 => ?_)
  refine fg4 0 1 5 6 (gS rfl (gS rfl g0)) (gS rfl (gS rfl (gS rfl g0))) (gS rfl g0) g0 (fun g => ?_)
  refine c_loop (fun k_ s_ W7 => ∃ (g : Nat → Value) (Hk7 : Store) (pv : Value) (p i : Nat), s_ = (upd (upd (upd (upd g 0 v1) 1 (.slice a l.length c)) 5 pv) 6 (.int .i64 (i : Nat))) ∧ i = k_ ∧ (i ≤ 256) ∧ (NV Hk7 pv p) ∧ (p = x ^ (val 256 l / 2 ^ i) % W256) ∧ Go (fun k => False) w3 H3 W7 Hk7) (((8 * l.length))) ?_ ?_
  · exact ⟨g, _, _, 1, (8 * l.length), rfl, rfl, by omega, n3, by rw [div_top hbv.dig]; simp; decide, Go.refl hF⟩
  · skip
    intro k_ s_ W7 hI K7 hK7
    obtain ⟨g, Hk7, pv, p, i, rfl, rfl, hi, hp, hpv, V7⟩ := hI
    have hle7 := V7.le
    replace h1 := h1.mono hle7
    replace h2 := h2.mono hle7
    replace hbv := hbv.mono hle7
    replace n3 := n3.mono hle7
    replace G := G.trans V7 (by intro b hb; first | exact hb.elim | omega | (simp at hb ⊢; omega))
    replace hF := V7.fz
    replace U := U.cc V7.ch (by intro b hb; first | exact hb.elim | omega | (simp at hb ⊢; omega))
    have hpb : p < 256 ^ 32 := by rw [hpv]; exact bd_wrap
    refine c_seq (fun K8 hK8 => ?_)
    refine c_seq (fun K9 hK9 => ?_)
    refine c_region ?_
    refine l_step (y_moveV (et g0 rfl)) ?_
    refine l_step (y_gtr (et g0 rfl) rfl) ?_
    refine l_nil ?_
    refine hK9 _ _ ?_
    refine fg5 0 1 5 6 13 (gS rfl (gS rfl (gS rfl (gS rfl (gS rfl g0))))) (gS rfl (gS rfl (gS rfl (gS rfl g0)))) (gS rfl (gS rfl (gS rfl g0))) (gS rfl (gS rfl g0)) g0 (fun g => ?_)
    refine c_cond (et g0 rfl) (fun cB1 => ?_) (fun cB1 => ?_)
    · skip
      simp only [decide_eq_true_eq, decide_eq_false_iff_not, Int.not_lt, Int.not_le, Bool.not_eq_true', Bool.not_eq_false', Bool.not_eq_eq_eq_not, Bool.not_true, Bool.not_false] at cB1
      obtain ⟨i', rfl⟩ : ∃ i', i = i' + 1 := ⟨i - 1, by omega⟩
      have hhs := half_step (val 256 l) i'
      refine c_skip ?_
      refine hK8 _ _ ?_
      refine fg4 0 1 5 6 (gS rfl (gS rfl (gS rfl (gS rfl g0)))) (gS rfl (gS rfl (gS rfl g0))) (gS rfl (gS rfl g0)) (gS rfl g0) (fun g => ?_)
      refine c_seq (fun K11 hK11 => ?_)
      refine c_block (fun Q12 hQ12 => ?_)
      refine c_seq (fun K13 hK13 => ?_)
      refine c_region ?_
      refine l_step (y_moveV (et (gS rfl g0) rfl)) ?_
      refine l_step (y_moveV (et (gS rfl (gS rfl g0)) rfl)) ?_
      refine l_eff (e_callV cal_50 (aC (et (gS rfl g0) rfl) (aC (et g0 rfl) aN)) (nat_mul hF hp hp (bd_sm hpb (by decide)) (bd_sm hpb (by decide)))) (fun v14 w14 h14 => ?_)
      obtain ⟨H14, g14, n14⟩ := h14
      have hlew14 := g14.le
      replace h1 := h1.mono hlew14
      replace h2 := h2.mono hlew14
      replace hbv := hbv.mono hlew14
      replace n3 := n3.mono hlew14
      replace hp := hp.mono hlew14
      replace U := U.tr g14.up
      replace G := G.tr g14
      replace V7 := V7.tr g14
      replace hF := g14.fz
      have q14 := bd_mul (c := 64) hpb hpb (by decide)
      refine l_eff (e_callV cal_337 (aC (et g0 rfl) aN) (yp_wrapped hF n14 (bd_sm q14 (by decide)))) (fun v15 w15 h15 => ?_)
      obtain ⟨H15, g15, n15⟩ := h15
      have hlew15 := g15.le
      replace h1 := h1.mono hlew15
      replace h2 := h2.mono hlew15
      replace hbv := hbv.mono hlew15
      replace n3 := n3.mono hlew15
      replace hp := hp.mono hlew15
      replace n14 := n14.mono hlew15
      replace U := U.tr g15.up
      replace G := G.tr g15
      replace V7 := V7.tr g15
      replace hF := g15.fz
      have q15 := bd_wrap' n15
      refine l_step (y_assignV (et g0 rfl)) ?_
      refine l_nil ?_
      refine hK13 _ _ ?_
      refine fg4 0 1 5 6 (gS rfl (gS rfl (gS rfl (gS rfl (gS rfl (gS rfl (gS rfl (gS rfl g0)))))))) (gS rfl (gS rfl (gS rfl (gS rfl (gS rfl (gS rfl (gS rfl g0))))))) g0 (gS rfl (gS rfl (gS rfl (gS rfl (gS rfl g0))))) (fun g => ?_)
      refine c_seq (fun K16 hK16 => ?_)
      refine c_region ?_
      refine l_step (y_moveV (et (gS rfl (gS rfl g0)) rfl)) ?_
      refine l_step (y_moveV (et (gS rfl g0) rfl)) ?_
      refine l_step (y_sub (et g0 rfl) rfl ((subIN (y := 1) ?_ ?_).trans (castE (show i' + 1 - 1 = i' by omega)))) ?_
      omega
      omega
      refine l_step (y_conv Hvaa.underlying3 Hvaa.underlying67 (et g0 rfl) (wrapU_id uk16 ?_)) ?_
      omega
      refine l_eff (e_callV cal_330 (aC (et (gS rfl (gS rfl (gS rfl g0))) rfl) (aC (et g0 rfl) aN)) (nat_bit hF h2 (bd_sm s2 (by decide)) _ (by omega))) (fun v17 w17 h17 => ?_)
      obtain ⟨rfl, u17⟩ := h17
      replace G := G.tr (Go.ofUp hF u17)
      replace V7 := V7.tr (Go.ofUp hF u17)
      replace hF := hF.up u17
      replace U := U.tr u17
      refine l_nil ?_
      refine hK16 _ _ ?_
      refine fg5 0 1 5 6 24 (gS rfl (gS rfl (gS rfl (gS rfl (gS rfl (gS rfl (gS rfl (gS rfl g0)))))))) (gS rfl (gS rfl (gS rfl (gS rfl (gS rfl (gS rfl (gS rfl g0))))))) (gS rfl (gS rfl (gS rfl (gS rfl (gS rfl (gS rfl g0)))))) (gS rfl (gS rfl (gS rfl (gS rfl (gS rfl g0))))) g0 (fun g => ?_)
      refine c_cond (et g0 rfl) (fun cB2 => ?_) (fun cB2 => ?_)
      · skip
        
        have hbt : val 256 l / 2 ^ i' % 2 = 1 := of_decide_eq_true cB2
        refine c_region ?_
        refine l_step (y_moveV (et (gS rfl (gS rfl g0)) rfl)) ?_
        refine l_step (y_moveV (et (gS rfl (gS rfl (gS rfl (gS rfl (gS rfl g0))))) rfl)) ?_
        refine l_eff (e_callV cal_50 (aC (et (gS rfl g0) rfl) (aC (et g0 rfl) aN)) (nat_mul hF n15 h1 (bd_sm q15 (by decide)) (bd_sm s1 (by decide)))) (fun v19 w19 h19 => ?_)
        obtain ⟨H19, g19, n19⟩ := h19
        have hlew19 := g19.le
        replace h1 := h1.mono hlew19
        replace h2 := h2.mono hlew19
        replace hbv := hbv.mono hlew19
        replace n3 := n3.mono hlew19
        replace hp := hp.mono hlew19
        replace n14 := n14.mono hlew19
        replace n15 := n15.mono hlew19
        replace U := U.tr g19.up
        replace G := G.tr g19
        replace V7 := V7.tr g19
        replace hF := g19.fz
        have q19 := bd_mul (c := 64) q15 s1 (by decide)
        refine l_eff (e_callV cal_337 (aC (et g0 rfl) aN) (yp_wrapped hF n19 (bd_sm q19 (by decide)))) (fun v20 w20 h20 => ?_)
        obtain ⟨H20, g20, n20⟩ := h20
        have hlew20 := g20.le
        replace h1 := h1.mono hlew20
        replace h2 := h2.mono hlew20
        replace hbv := hbv.mono hlew20
        replace n3 := n3.mono hlew20
        replace hp := hp.mono hlew20
        replace n14 := n14.mono hlew20
        replace n15 := n15.mono hlew20
        replace n19 := n19.mono hlew20
        replace U := U.tr g20.up
        replace G := G.tr g20
        replace V7 := V7.tr g20
        replace hF := g20.fz
        have q20 := bd_wrap' n20
        refine l_step (y_assignV (et g0 rfl)) ?_
        refine l_nil ?_
        refine hQ12 _ _ _ (in_normal ?_)
        refine hK11 _ _ ?_
        refine fg4 0 1 5 6 (gS rfl (gS rfl (gS rfl (gS rfl (gS rfl (gS rfl (gS rfl (gS rfl (gS rfl g0))))))))) (gS rfl (gS rfl (gS rfl (gS rfl (gS rfl (gS rfl (gS rfl (gS rfl g0)))))))) g0 (gS rfl (gS rfl (gS rfl (gS rfl (gS rfl (gS rfl g0)))))) (fun g => ?_)
        refine c_region ?_
        refine l_step (y_moveV (et g0 rfl)) ?_
        refine l_step (y_sub (et g0 rfl) rfl ((subIN (y := 1) ?_ ?_).trans (castE (show i' + 1 - 1 = i' by omega)))) ?_
        omega
        omega
        refine l_step (y_assignV (et g0 rfl)) ?_
        refine l_nil ?_
        refine fK4 0 1 5 6 (gS rfl (gS rfl (gS rfl (gS rfl (gS rfl (gS rfl g0)))))) (gS rfl (gS rfl (gS rfl (gS rfl (gS rfl g0))))) (gS rfl (gS rfl (gS rfl (gS rfl g0)))) g0 (fun g => ?_)
        exact hK7 ((i')) _ _ (by omega) ⟨g, _, _, _, i', rfl, rfl, by omega, n20, by rw [hpv, hhs, hbt, pw_sq]; exact pw_mul _ _, V7⟩
      · skip
        
        have hbt : val 256 l / 2 ^ i' % 2 = 0 := by have := of_decide_eq_false cB2; omega
        refine c_skip ?_
        refine hQ12 _ _ _ (in_normal ?_)
        refine hK11 _ _ ?_
        refine fg4 0 1 5 6 (gS rfl (gS rfl (gS rfl (gS rfl g0)))) (gS rfl (gS rfl (gS rfl g0))) (gS rfl (gS rfl g0)) (gS rfl g0) (fun g => ?_)
        refine c_region ?_
        refine l_step (y_moveV (et g0 rfl)) ?_
        refine l_step (y_sub (et g0 rfl) rfl ((subIN (y := 1) ?_ ?_).trans (castE (show i' + 1 - 1 = i' by omega)))) ?_
        omega
        omega
        refine l_step (y_assignV (et g0 rfl)) ?_
        refine l_nil ?_
        refine fK4 0 1 5 6 (gS rfl (gS rfl (gS rfl (gS rfl (gS rfl (gS rfl g0)))))) (gS rfl (gS rfl (gS rfl (gS rfl (gS rfl g0))))) (gS rfl (gS rfl (gS rfl (gS rfl g0)))) g0 (fun g => ?_)
        exact hK7 ((i')) _ _ (by omega) ⟨g, _, _, _, i', rfl, rfl, by omega, n15, by rw [hpv, hhs, hbt]; exact pw_sq _ _, V7⟩
    · skip
      simp only [decide_eq_true_eq, decide_eq_false_iff_not, Int.not_lt, Int.not_le, Bool.not_eq_true', Bool.not_eq_false', Bool.not_eq_eq_eq_not, Bool.not_true, Bool.not_false] at cB1
      have hi0 : i = 0 := by omega
      subst hi0
      rw [Nat.pow_zero, Nat.div_one] at hpv
      refine c_exit ?_
      refine hQ6 _ _ _ (in_exit ?_)
      refine hK4 _ _ ?_
      refine fg1 5 (gS rfl (gS rfl g0)) (fun g => ?_)
      refine c_seq (fun K21 hK21 => ?_)
      refine c_region ?_
      refine l_step (y_moveV (et g0 rfl)) ?_
      refine l_step (y_assignV (et g0 rfl)) ?_
      refine l_nil ?_
      refine hK21 _ _ ?_
      refine fg1 4 g0 (fun g => ?_)
      refine c_ret ?_
      refine ret1 rfl (res_tmp (et g0 rfl)) ?_
      exact ⟨_, G, hp.to (by rw [hpv]; rfl)⟩
theorem yp_sext {w : World} {H : Store} {v1 v2 : Value} {x y : Nat} (hF : Fz w H) (h1 : NV H v1 x) (h2 : NV H v2 y) (s1 : x < 256 ^ 32) (s2 : y < 256 ^ 32) :
    Ret 343 [v1, v2] w (fun v w' => ∃ H', Go No w H w' H' ∧ NV H' v (eSext x y)) := by
  refine enter (n := 55) Hvaa.func343 rfl rfl (Nat.le_of_ble_eq_true rfl) ?_
  have U := Up.refl w
  have G : Go (No) w H w H := Go.refl hF
  refine c_seq (fun K1 hK1 => ?_)
  refine c_region ?_
  refine l_step y_assignC ?_
  refine l_nil ?_
  refine hK1 _ _ ?_
  refine fg2 1 0 (gS rfl (gS rfl g0)) (gS rfl g0) (fun g => ?_)
  refine c_seq (fun K2 hK2 => ?_)
  refine c_region ?_
  refine l_step (y_moveV (et g0 rfl)) ?_
  refine l_eff (e_callV cal_80 (aC (et g0 rfl) aN) (nat_u64 hF h1 (bd_sm s1 (by decide)))) (fun v3 w3 h3 => ?_)
  obtain ⟨rfl, u3⟩ := h3
  replace G := G.tr (Go.ofUp hF u3)
  replace hF := hF.up u3
  replace U := U.tr u3
  refine l_step (y_moveV (et g0 rfl)) ?_
  refine l_step (y_ext (et g0 rfl) rfl) ?_
  refine l_step (y_ext (et (gS rfl g0) rfl) rfl) ?_
  refine l_step (y_assignV (et (gS rfl g0) rfl)) ?_
  refine l_step (y_assignV (et (gS rfl g0) rfl)) ?_
  refine l_nil ?_
  refine hK2 _ _ ?_
  refine fg3 1 5 6 (gS rfl (gS rfl (gS rfl (gS rfl (gS rfl (gS rfl (gS rfl (gS rfl g0)))))))) (gS rfl g0) g0 (fun g => ?_)
  refine c_seq (fun K4 hK4 => ?_)
  refine c_seq (fun K5 hK5 => ?_)
  refine c_region ?_
  refine l_step (y_moveV (et g0 rfl)) ?_
  refine l_step (y_not (et g0 rfl)) ?_
  refine l_step (y_moveV (et g0 rfl)) ?_
  refine gsplitL (i := 20) g0 (fun q6 => ?_) (fun q6 => ?_)
  · skip
    have c14 : ¬ x < 18446744073709551616 := by simpa using q6
    refine l_gskip (j := 2) (t := 20) (by exact rfl) (by exact rfl) (et g0 rfl) (by decide) (by decide) ?_
    refine l_gskip (j := 2) (t := 20) (by exact rfl) (by exact rfl) (et (gS rfl g0) rfl) (by decide) (by decide) ?_
    refine l_step (y_pickT (et (gS rfl (gS rfl g0)) rfl) rfl) ?_
    refine l_nil ?_
    refine hK5 _ _ ?_
    refine fg3 1 5 23 (gS rfl (gS rfl (gS rfl (gS rfl (gS rfl (gS rfl (gS rfl (gS rfl (gS rfl g0))))))))) (gS rfl (gS rfl (gS rfl (gS rfl (gS rfl (gS rfl (gS rfl (gS rfl g0)))))))) g0 (fun g => ?_)
    refine c_true (et g0 rfl) rfl ?_
    refine c_seq (fun K8 hK8 => ?_)
    refine c_region ?_
    refine l_step (y_moveV (et (gS rfl (gS rfl g0)) rfl)) ?_
    refine l_eff (e_callV cal_123 (aC (et g0 rfl) aN) (nat_normN hF h2 (bd_sm s2 (by decide)))) (fun v9 w9 h9 => ?_)
    obtain ⟨H9, g9, n9⟩ := h9
    have hlew9 := g9.le
    replace h1 := h1.mono hlew9
    replace h2 := h2.mono hlew9
    replace U := U.tr g9.up
    replace G := G.tr g9
    replace hF := g9.fz
    have q9 := s2
    refine l_step (y_assignV (et g0 rfl)) ?_
    refine l_nil ?_
    refine hK8 _ _ ?_
    refine fg1 4 g0 (fun g => ?_)
    refine c_ret ?_
    refine ret1 rfl (res_tmp (et g0 rfl)) ?_
    exact ⟨_, G, n9.to (by rw [eSext, if_neg (by omega)])⟩
  · skip
    have c14 : x < 18446744073709551616 := by simpa using q6
    have el : lo64 x = x := by rw [lo64, if_pos c14]
    rw [el]
    refine l_gstep (j := 2) (t := 20) (by exact rfl) (by exact rfl) (et g0 rfl) (by decide) (y_moveV (et (gS rfl (gS rfl (gS rfl (gS rfl (gS rfl g0))))) rfl)) ?_
    refine l_gstep (j := 2) (t := 20) (by exact rfl) (by exact rfl) (et (gS rfl g0) rfl) (by decide) (y_geq (et g0 rfl) rfl) ?_
    refine l_step (y_pickF (et (gS rfl (gS rfl g0)) rfl) (et g0 rfl)) ?_
    refine l_nil ?_
    refine hK5 _ _ ?_
    refine fg3 1 5 23 (gS rfl (gS rfl (gS rfl (gS rfl (gS rfl (gS rfl (gS rfl (gS rfl (gS rfl g0))))))))) (gS rfl (gS rfl (gS rfl (gS rfl (gS rfl (gS rfl (gS rfl (gS rfl g0)))))))) g0 (fun g => ?_)
    refine c_cond (et g0 rfl) (fun cB1 => ?_) (fun cB1 => ?_)
    · skip
      
      refine c_seq (fun K11 hK11 => ?_)
      refine c_region ?_
      refine l_step (y_moveV (et (gS rfl (gS rfl g0)) rfl)) ?_
      refine l_eff (e_callV cal_123 (aC (et g0 rfl) aN) (nat_normN hF h2 (bd_sm s2 (by decide)))) (fun v12 w12 h12 => ?_)
      obtain ⟨H12, g12, n12⟩ := h12
      have hlew12 := g12.le
      replace h1 := h1.mono hlew12
      replace h2 := h2.mono hlew12
      replace U := U.tr g12.up
      replace G := G.tr g12
      replace hF := g12.fz
      have q12 := s2
      refine l_step (y_assignV (et g0 rfl)) ?_
      refine l_nil ?_
      refine hK11 _ _ ?_
      refine fg1 4 g0 (fun g => ?_)
      refine c_ret ?_
      refine ret1 rfl (res_tmp (et g0 rfl)) ?_
      exact ⟨_, G, n12.to (by rw [eSext, if_neg (by have := of_decide_eq_true cB1; omega)])⟩
    · skip
      
      have c18 : x < 31 := by have := of_decide_eq_false cB1; omega
      refine c_skip ?_
      refine hK4 _ _ ?_
      refine fg2 1 5 (gS rfl (gS rfl g0)) (gS rfl g0) (fun g => ?_)
      refine c_seq (fun K13 hK13 => ?_)
      refine c_region ?_
      refine l_step (y_moveV (et g0 rfl)) ?_
      refine l_step (y_mul rfl (et g0 rfl) (wrapU_mulN (a := 8) uk64 ?_)) ?_
      omega
      refine l_step (y_add (et g0 rfl) rfl (wrapU_addN (b := 7) uk64 ?_)) ?_
      omega
      refine l_step (y_conv Hvaa.underlying26 Hvaa.underlying67 (et g0 rfl) (wrapU_id uk16 ?_)) ?_
      omega
      refine l_step (y_assignV (et g0 rfl)) ?_
      refine l_nil ?_
      refine hK13 _ _ ?_
      refine fg2 1 7 (gS rfl (gS rfl (gS rfl (gS rfl (gS rfl (gS rfl g0)))))) g0 (fun g => ?_)
      refine c_seq (fun K14 hK14 => ?_)
      refine c_region ?_
      refine l_step (y_moveV (et (gS rfl g0) rfl)) ?_
      refine l_step (y_moveV (et (gS rfl g0) rfl)) ?_
      refine l_step (y_add (et g0 rfl) rfl (wrapU_addN (b := 1) uk16 ?_)) ?_
      omega
      refine l_eff (e_callV cal_396 (aC (et g0 rfl) aN) (nat_pow2 hF _ (Nat.lt_of_le_of_lt (m := 256) (by omega) (by decide)))) (fun v15 w15 h15 => ?_)
      obtain ⟨H15, g15, n15⟩ := h15
      have hlew15 := g15.le
      replace h1 := h1.mono hlew15
      replace h2 := h2.mono hlew15
      replace U := U.tr g15.up
      replace G := G.tr g15
      replace hF := g15.fz
      have q15 := bd_pow2 n15 (by omega)
      refine l_eff (e_callV cal_155 (aC (et (gS rfl (gS rfl (gS rfl g0))) rfl) (aC (et g0 rfl) aN)) (nat_divmod hF h2 n15 (bd_sm s2 (by decide)) (bd_sm q15 (by decide)))) (fun v16 w16 h16 => ?_)
      obtain ⟨z16, y16, H16, rfl, g16, n16, m16⟩ := h16
      have hlew16 := g16.le
      replace h1 := h1.mono hlew16
      replace h2 := h2.mono hlew16
      replace n15 := n15.mono hlew16
      replace U := U.tr g16.up
      replace G := G.tr g16
      replace hF := g16.fz
      have q16 := bd_div' n16 s2
      have p16 := bd_mod' m16 q15
      refine l_step (y_moveV (et g0 rfl)) ?_
      refine l_step (y_ext (et g0 rfl) rfl) ?_
      refine l_step (y_ext (et (gS rfl g0) rfl) rfl) ?_
      refine l_step (y_ext (et (gS rfl (gS rfl g0)) rfl) rfl) ?_
      refine l_step (y_assignV (et (gS rfl (gS rfl g0)) rfl)) ?_
      refine l_step (y_assignV (et (gS rfl (gS rfl g0)) rfl)) ?_
      refine l_step (y_assignV (et (gS rfl (gS rfl g0)) rfl)) ?_
      refine l_nil ?_
      refine hK14 _ _ ?_
      refine fg3 1 7 9 (gS rfl (gS rfl (gS rfl (gS rfl (gS rfl (gS rfl (gS rfl (gS rfl (gS rfl (gS rfl (gS rfl (gS rfl (gS rfl g0))))))))))))) (gS rfl (gS rfl (gS rfl (gS rfl (gS rfl (gS rfl (gS rfl (gS rfl (gS rfl (gS rfl (gS rfl (gS rfl g0)))))))))))) (gS rfl g0) (fun g => ?_)
      refine c_seq (fun K17 hK17 => ?_)
      refine c_seq (fun K18 hK18 => ?_)
      refine c_region ?_
      refine l_step (y_moveV (et (gS rfl (gS rfl g0)) rfl)) ?_
      refine l_step (y_moveV (et (gS rfl (gS rfl g0)) rfl)) ?_
      refine l_eff (e_callV cal_330 (aC (et (gS rfl g0) rfl) (aC (et g0 rfl) aN)) (nat_bit hF h2 (bd_sm s2 (by decide)) _ (by omega))) (fun v19 w19 h19 => ?_)
      obtain ⟨rfl, u19⟩ := h19
      replace G := G.tr (Go.ofUp hF u19)
      replace hF := hF.up u19
      replace U := U.tr u19
      refine l_step (y_not (et g0 rfl)) ?_
      refine l_nil ?_
      refine hK18 _ _ ?_
      refine fg3 7 9 42 (gS rfl (gS rfl (gS rfl (gS rfl (gS rfl g0))))) (gS rfl (gS rfl (gS rfl (gS rfl g0)))) g0 (fun g => ?_)
      refine c_cond (et g0 rfl) (fun cB2 => ?_) (fun cB2 => ?_)
      · skip
        
        have hb : ¬ y / 2 ^ (8 * x + 7) % 2 = 1 := by simpa using cB2
        refine c_seq (fun K21 hK21 => ?_)
        refine c_region ?_
        refine l_step (y_moveV (et (gS rfl g0) rfl)) ?_
        refine l_step (y_assignV (et g0 rfl)) ?_
        refine l_nil ?_
        refine hK21 _ _ ?_
        refine fg1 4 g0 (fun g => ?_)
        refine c_ret ?_
        refine ret1 rfl (res_tmp (et g0 rfl)) ?_
        exact ⟨_, G, m16.to (by rw [eSext, if_pos c18, sxt, if_neg (fun h => hb (sgn_bit.2 h)), if_neg (Nat.ne_of_gt (Nat.pow_pos (by decide)))])⟩
      · skip
        
        have hb : y / 2 ^ (8 * x + 7) % 2 = 1 := by simpa using cB2
        refine c_skip ?_
        refine hK17 _ _ ?_
        refine fg2 7 9 (gS rfl (gS rfl g0)) (gS rfl g0) (fun g => ?_)
        refine c_seq (fun K22 hK22 => ?_)
        refine c_region ?_
        refine l_eff (e_callV cal_396 (aC (v := .int .u16 ((256 : Nat) : Int)) rfl aN) (nat_pow2 hF 256 (Nat.lt_of_le_of_lt (m := 256) (by decide) (by decide)))) (fun v23 w23 h23 => ?_)
        obtain ⟨H23, g23, n23⟩ := h23
        have hlew23 := g23.le
        replace h1 := h1.mono hlew23
        replace h2 := h2.mono hlew23
        replace n15 := n15.mono hlew23
        replace n16 := n16.mono hlew23
        replace m16 := m16.mono hlew23
        replace U := U.tr g23.up
        replace G := G.tr g23
        replace hF := g23.fz
        have q23 := bd_pow2 n23 (by decide)
        rw [W256_2] at n23 q23
        refine l_step (y_moveV (et (gS rfl (gS rfl g0)) rfl)) ?_
        refine l_step (y_add (et g0 rfl) rfl (wrapU_addN (b := 1) uk16 ?_)) ?_
        omega
        refine l_eff (e_callV cal_396 (aC (et g0 rfl) aN) (nat_pow2 hF _ (Nat.lt_of_le_of_lt (m := 256) (by omega) (by decide)))) (fun v24 w24 h24 => ?_)
        obtain ⟨H24, g24, n24⟩ := h24
        have hlew24 := g24.le
        replace h1 := h1.mono hlew24
        replace h2 := h2.mono hlew24
        replace n15 := n15.mono hlew24
        replace n16 := n16.mono hlew24
        replace m16 := m16.mono hlew24
        replace n23 := n23.mono hlew24
        replace U := U.tr g24.up
        replace G := G.tr g24
        replace hF := g24.fz
        have q24 := bd_pow2 n24 (by omega)
        refine l_eff (e_callV cal_125 (aC (et (gS rfl (gS rfl (gS rfl g0))) rfl) (aC (et g0 rfl) aN)) (nat_sub hF n23 n24 (bd_sm q23 (by decide)) (bd_sm q24 (by decide)))) (fun v25 w25 h25 => ?_)
        obtain ⟨z25, H25, rfl, g25, n25⟩ := h25
        have hlew25 := g25.le
        replace h1 := h1.mono hlew25
        replace h2 := h2.mono hlew25
        replace n15 := n15.mono hlew25
        replace n16 := n16.mono hlew25
        replace m16 := m16.mono hlew25
        replace n23 := n23.mono hlew25
        replace n24 := n24.mono hlew25
        replace U := U.tr g25.up
        replace G := G.tr g25
        replace hF := g25.fz
        have q25 := bd_sub' n25 q23
        refine l_step (y_moveV (et g0 rfl)) ?_
        refine l_step (y_ext (et g0 rfl) rfl) ?_
        refine l_step (y_ext (et (gS rfl g0) rfl) rfl) ?_
        refine l_step (y_assignV (et (gS rfl g0) rfl)) ?_
        refine l_step (y_assignV (et (gS rfl g0) rfl)) ?_
        refine l_nil ?_
        refine hK22 _ _ ?_
        refine fg2 9 11 (gS rfl (gS rfl (gS rfl (gS rfl (gS rfl (gS rfl (gS rfl (gS rfl (gS rfl (gS rfl g0)))))))))) (gS rfl g0) (fun g => ?_)
        refine c_seq (fun K26 hK26 => ?_)
        refine c_region ?_
        refine l_step (y_moveV (et (gS rfl g0) rfl)) ?_
        refine l_step (y_moveV (et (gS rfl g0) rfl)) ?_
        refine l_eff (e_callV cal_34 (aC (et (gS rfl g0) rfl) (aC (et g0 rfl) aN)) (nat_add hF m16 n25 (bd_sm p16 (by decide)) (bd_sm q25 (by decide)))) (fun v27 w27 h27 => ?_)
        obtain ⟨H27, g27, n27⟩ := h27
        have hlew27 := g27.le
        replace h1 := h1.mono hlew27
        replace h2 := h2.mono hlew27
        replace n15 := n15.mono hlew27
        replace n16 := n16.mono hlew27
        replace m16 := m16.mono hlew27
        replace n23 := n23.mono hlew27
        replace n24 := n24.mono hlew27
        replace n25 := n25.mono hlew27
        replace U := U.tr g27.up
        replace G := G.tr g27
        replace hF := g27.fz
        have q27 := bd_add (c := 34) p16 q25 (by decide)
        refine l_step (y_assignV (et g0 rfl)) ?_
        refine l_nil ?_
        refine hK26 _ _ ?_
        refine fg1 4 g0 (fun g => ?_)
        refine c_ret ?_
        refine ret1 rfl (res_tmp (et g0 rfl)) ?_
        exact ⟨_, G, n27.to (by rw [eSext, if_pos c18, sxt, if_pos (sgn_bit.1 hb), if_neg (Nat.ne_of_gt (Nat.pow_pos (by decide)))])⟩
def bop (o x y : Nat) : Nat := if o = 22 then x &&& y else if o = 23 then x ||| y else if o = 24 then x ^^^ y else 255 - x
def bwN (o x y : Nat) : Nat := if o = 22 then x &&& y else if o = 23 then x ||| y else if o = 24 then x ^^^ y else W256 - 1 - x
def dg (x i : Nat) : Nat := x / 256 ^ i % 256
theorem dg_lt (x i : Nat) : dg x i < 256 := Nat.mod_lt _ (by decide)
theorem dg_in {l : List Nat} {i : Nat} (hd : Dig 256 l) (h : i < l.length) : l[i] = dg (val 256 l) i := by
  unfold dg
  have h1 : val 256 (l.take i) < 256 ^ i := by have := val_lt (hd.take i); rwa [List.length_take, Nat.min_eq_left (Nat.le_of_lt h)] at this
  have h2 := hd _ (List.getElem_mem h)
  rw [val_split h, Nat.add_mul_div_left _ _ (Nat.pow_pos (by decide)), Nat.div_eq_of_lt h1, Nat.zero_add, Nat.add_mul_mod_self_left, Nat.mod_eq_of_lt h2]
theorem dg_out {l : List Nat} {i : Nat} (hd : Dig 256 l) (h : l.length ≤ i) : dg (val 256 l) i = 0 := by
  unfold dg
  have h1 := val_lt hd
  have h2 : 256 ^ l.length ≤ 256 ^ i := Nat.pow_le_pow_right (by decide) h
  rw [Nat.div_eq_of_lt (by omega)]
theorem dg_shift (n i : Nat) : dg n i = (n >>> (8 * i)) % 2 ^ 8 := by
  unfold dg
  rw [Nat.shiftRight_eq_div_pow, Nat.pow_mul]
theorem dg_bw {o x y i : Nat} (hx : x < 256 ^ 32) (hi : i < 32) : dg (bwN o x y) i = bop o (dg x i) (dg y i) := by
  unfold bwN bop
  split
  · simp only [dg_shift, Nat.shiftRight_and_distrib, Nat.and_mod_two_pow]
  split
  · simp only [dg_shift, Nat.shiftRight_or_distrib, Nat.or_mod_two_pow]
  split
  · simp only [dg_shift, Nat.shiftRight_xor_distrib, Nat.xor_mod_two_pow]
  · unfold dg
    rw [W256_pow]
    have e : (256 : Nat) ^ 32 = 256 ^ i * (256 * 256 ^ (31 - i)) := by rw [← Nat.mul_assoc, ← Nat.pow_succ, ← Nat.pow_add]; congr 1; omega
    have hp : 0 < 256 ^ i := Nat.pow_pos (by decide)
    have h1 := Nat.div_add_mod x (256 ^ i)
    have h2 := Nat.mod_lt x hp
    have h3 := Nat.div_add_mod (x / 256 ^ i) 256
    have h4 := Nat.mod_lt (x / 256 ^ i) (show 0 < 256 by decide)
    have h5 : x / 256 ^ i < 256 * 256 ^ (31 - i) := Nat.div_lt_of_lt_mul (by rw [← e]; exact hx)
    have h6 : x / 256 ^ i / 256 < 256 ^ (31 - i) := Nat.div_lt_of_lt_mul h5
    have e2 : 256 ^ 32 - 1 - x = 256 ^ i * (256 * 256 ^ (31 - i) - 1 - x / 256 ^ i) + (256 ^ i - 1 - x % 256 ^ i) := by
      rw [e, Nat.mul_sub, Nat.mul_sub, Nat.mul_one]
      have h7 : 256 ^ i * (x / 256 ^ i + 1) ≤ 256 ^ i * (256 * 256 ^ (31 - i)) := Nat.mul_le_mul_left _ h5
      rw [Nat.mul_add, Nat.mul_one] at h7
      omega
    have e0 : (256 ^ i - 1 - x % 256 ^ i) / 256 ^ i = 0 := Nat.div_eq_of_lt (by omega)
    rw [e2, Nat.mul_add_div hp, e0, Nat.add_zero]
    have e3 : 256 * 256 ^ (31 - i) - 1 - x / 256 ^ i = 256 * (256 ^ (31 - i) - 1 - x / 256 ^ i / 256) + (255 - x / 256 ^ i % 256) := by
      rw [Nat.mul_sub, Nat.mul_sub, Nat.mul_one]
      have h8 : 256 * (x / 256 ^ i / 256 + 1) ≤ 256 * 256 ^ (31 - i) := Nat.mul_le_mul_left _ h6
      rw [Nat.mul_add, Nat.mul_one] at h8
      omega
    rw [e3, Nat.mul_add_mod, Nat.mod_eq_of_lt (by omega)]
theorem val_digs {P : List Nat} {n k : Nat} (hl : P.length = k) (hd : Dig 256 P) (hn : n < 256 ^ k) (h : ∀ i, i < k → P[i]? = some (dg n i)) : val 256 P = n := by
  have e : P = (List.range k).map (dg n) := by
    apply List.ext_getElem?
    intro i
    by_cases hi : i < k
    · rw [h i hi]; simp [hi]
    · rw [List.getElem?_eq_none (by omega), List.getElem?_eq_none (by simp; omega)]
  rw [e]
  clear e h hl hd
  induction k generalizing n with
  | zero => simp [val]; simp at hn; omega
  | succ k ih =>
    rw [List.range_succ_eq_map, List.map_cons, val_cons, List.map_map]
    have e2 : (dg n ∘ Nat.succ) = dg (n / 256) := by
      funext i
      simp only [Function.comp, dg, Nat.pow_succ]
      rw [Nat.mul_comm, ← Nat.div_div_eq_div_mul]
    rw [e2, ih (by rw [Nat.pow_succ] at hn; omega)]
    unfold dg
    rw [Nat.pow_zero, Nat.div_one]; omega
theorem bop_lt {o x y : Nat} (hx : x < 256) (hy : y < 256) : bop o x y < 256 := by
  unfold bop
  split
  · exact Nat.lt_of_le_of_lt Nat.and_le_left hx
  split
  · exact Nat.or_lt_two_pow (n := 8) hx hy
  split
  · exact Nat.xor_lt_two_pow (n := 8) hx hy
  · omega
theorem bw_lt {o x y : Nat} (hx : x < 256 ^ 32) (hy : y < 256 ^ 32) : bwN o x y < 256 ^ 32 := by
  unfold bwN
  split
  · exact Nat.lt_of_le_of_lt Nat.and_le_left hx
  split
  · exact Nat.or_lt_two_pow (n := 256) hx hy
  split
  · exact Nat.xor_lt_two_pow (n := 256) hx hy
  · rw [W256_pow]; omega
theorem bd_bw {H : Store} {v : Value} {o x y : Nat} (n : NV H v (bwN o x y)) (hx : x < 256 ^ 32) (hy : y < 256 ^ 32) : bwN o x y < 256 ^ 32 := bw_lt hx hy
theorem y_not8 {S : World → Prop} {n : Nat} {s : Nat → Value} {d : Option Nat} {ty : TypeId} {pos : String} {af : Array Edge} {g : Option (Nat × Bool)} {x : Operand} {T m : Nat} (hx : ev n s x = .int .u8 m) (hm : m < 256) : Yv S n s ⟨d, .unOp .xor T x, ty, pos, af, g⟩ (.int .u8 ((255 - m : Nat) : Int)) := fun w _ => by
  have h5 : (255 - m : Nat) < 256 := by omega
  have hall : ∀ k : Fin 256, (255#8 ^^^ BitVec.ofNat 8 k.val).toNat = 255 - k.val := by decide
  have hbv := hall ⟨m, hm⟩
  simp only at hbv
  have h6 : (Op.unary .xor (.int .u8 (m : Int))).run Hvaa.prog w = .ok (.int .u8 ((255 - m : Nat) : Int)) w := by
    show Result.ok (Value.int .u8 (IntKind.u8.wrap ((BitVec.ofInt 8 255 ^^^ BitVec.ofInt 8 (m : Int)).toNat))) w = _
    have e1 : BitVec.ofInt 8 255 = 255#8 := rfl
    rw [e1, BitVec.ofInt_natCast, hbv, wrapU_id uk8 h5]
  simp [execOp, hx, h6]
theorem dig_next {P : List Nat} {o x y X Y z i : Nat} (hd : Dig 256 P) (hx : x = dg X i) (hy : y = dg Y i) (hz : bop o x y = z) : Dig 256 (P ++ [z]) := by
  rw [← hz, hx, hy]; exact hd.app (Dig.one (bop_lt (dg_lt _ _) (dg_lt _ _)))
theorem get_next {P : List Nat} {o x y X Y z : Nat} (h : ∀ i, i < P.length → P[i]? = some (dg (bwN o X Y) i)) (hP : P.length < 32) (hX : X < 256 ^ 32) (hx : x = dg X P.length) (hy : y = dg Y P.length) (hz : bop o x y = z) : ∀ i, i < (P ++ [z]).length → (P ++ [z])[i]? = some (dg (bwN o X Y) i) := by
  intro i hi
  simp at hi
  by_cases hl : i < P.length
  · rw [List.getElem?_append_left hl]; exact h i hl
  · have : i = P.length := by omega
    subst this
    rw [dg_bw hX hP, ← hx, ← hy, hz]; simp
theorem yp_bitwise {w : World} {H : Store} {v1 v2 : Value} {x y : Nat} (o : Nat) (ho : o = 22 ∨ o = 23 ∨ o = 24 ∨ o = 25) (hF : Fz w H) (h1 : NV H v1 x) (h2 : NV H v2 y) (s1 : x < 256 ^ 32) (s2 : y < 256 ^ 32) :
    Ret 346 [.int .u8 o, v1, v2] w (fun v w' => ∃ H', Go No w H w' H' ∧ NV H' v (bwN o x y)) := by
  obtain ⟨l, a, c, rfl, hbv, rfl, ht, hl200, hlc, hc63⟩ := h1.len (bd_sm s1 (by decide))
  obtain ⟨l1, a1, c1, rfl, hbv1, rfl, ht1, hl201, hlc1, hc631⟩ := h2.len (bd_sm s2 (by decide))
  have ho' := ho
  refine enter (n := 68) Hvaa.func346 rfl rfl (Nat.le_of_ble_eq_true rfl) ?_
  have U := Up.refl w
  have G : Go (No) w H w H := Go.refl hF
  refine c_seq (fun K1 hK1 => ?_)
  refine c_region ?_
  refine l_step y_assignC ?_
  refine l_nil ?_
  refine hK1 _ _ ?_
  refine fg3 2 1 0 (gS rfl (gS rfl (gS rfl g0))) (gS rfl (gS rfl g0)) (gS rfl g0) (fun g => ?_)
  refine c_seq (fun K2 hK2 => ?_)
  refine c_region ?_
  refine l_eff (e_make (m := 32) Hvaa.underlying95 sz_5 zr_5 by_5 rfl rfl (by omega) (by omega)) (fun v3 w3 h3 => ?_)
  obtain ⟨b3, rfl, n3⟩ := h3
  have f3 : w.heap.size ≤ b3 := Nat.le_trans U.size n3.fresh
  have nb3 := hF.nb n3.fresh
  replace G := G.tr (Go.ofUp hF n3.up)
  replace hF := hF.up n3.up
  replace U := U.tr n3.up
  have k3 := mzB n3.blk
  refine l_step (y_assignV (et g0 rfl)) ?_
  refine l_nil ?_
  refine hK2 _ _ ?_
  refine fg4 2 1 0 7 (gS rfl (gS rfl (gS rfl (gS rfl g0)))) (gS rfl (gS rfl (gS rfl g0))) (gS rfl (gS rfl g0)) g0 (fun g => ?_)
  refine c_seq (fun K4 hK4 => ?_)
  refine c_seq (fun K5 hK5 => ?_)
  refine c_region ?_
  refine l_step (y_moveV (et g0 rfl)) ?_
  refine l_step (y_len Hvaa.underlying95 (et g0 rfl)) ?_
  refine l_step y_moveC ?_
  refine l_nil ?_
  refine hK5 _ _ ?_
  refine fg6 2 1 0 7 13 14 (gS rfl (gS rfl (gS rfl (gS rfl (gS rfl (gS rfl g0)))))) (gS rfl (gS rfl (gS rfl (gS rfl (gS rfl g0))))) (gS rfl (gS rfl (gS rfl (gS rfl g0)))) (gS rfl (gS rfl (gS rfl g0))) (gS rfl g0) g0 (fun g => ?_)
  refine c_block (fun Q6 hQ6 => ?_)
  refine fg6 0 1 2 7 13 14 (gS rfl (gS rfl (gS rfl g0))) (gS rfl (gS rfl (gS rfl (gS rfl g0)))) (gS rfl (gS rfl (gS rfl (gS rfl (gS rfl g0))))) (gS rfl (gS rfl g0)) (gS rfl g0) g0 (fun g => ?_)
  replace k3 : Blk w3 b3 (bL ([] ++ List.replicate 32 0)).toArray := k3
  refine c_loop (fun k_ s_ W7 => ∃ (g : Nat → Value) (Hk7 : Store) (P : List Nat) (r : Nat), s_ = (upd (upd (upd (upd (upd (upd g 0 (.int .u8 (o : Nat))) 1 (.slice a l.length c)) 2 (.slice a1 l1.length c1)) 7 (.slice (some ⟨b3, 0, none⟩) 32 32)) 13 (.int .i64 32)) 14 (.int .i64 (P.length : Nat))) ∧ r = k_ ∧ (P.length + r = 32) ∧ (Dig 256 P) ∧ (∀ i, i < P.length → P[i]? = some (dg (bwN o (val 256 l) (val 256 l1)) i)) ∧ Blk W7 b3 ((bL (P ++ List.replicate r 0)).toArray) ∧ Go (fun k => k = b3) w3 H W7 Hk7) ((32)) ?_ ?_
  · exact ⟨g, _, ([] : List Nat), 32, rfl, rfl, rfl, Dig.nil _, fun i hi => absurd hi (by simp), k3, Go.refl hF⟩
  · skip
    intro k_ s_ W7 hI K7 hK7
    obtain ⟨g, Hk7, P, r, rfl, rfl, hPr, hPd, hPg, nk3, V7⟩ := hI
    have hle7 := V7.le
    replace nb3 := V7.nb nb3 k3.lt
    replace hbv := hbv.mono hle7
    replace hbv1 := hbv1.mono hle7
    replace G := G.trans V7 (by intro b hb; first | exact hb.elim | omega | (simp at hb ⊢; omega))
    replace hF := V7.fz
    replace k3 := nk3
    replace U := U.cc V7.ch (by intro b hb; first | exact hb.elim | omega | (simp at hb ⊢; omega))
    refine c_seq (fun K8 hK8 => ?_)
    refine c_region ?_
    refine l_step (y_lss (et g0 rfl) (et (gS rfl g0) rfl)) ?_
    refine l_nil ?_
    refine hK8 _ _ ?_
    refine c_seq (fun K9 hK9 => ?_)
    refine c_cond (et g0 rfl) (fun cB1 => ?_) (fun cB1 => ?_)
    · skip
      simp only [decide_eq_true_eq, decide_eq_false_iff_not, Int.not_lt, Int.not_le, Bool.not_eq_true', Bool.not_eq_false', Bool.not_eq_eq_eq_not, Bool.not_true, Bool.not_false] at cB1
      obtain ⟨r', rfl, hrr⟩ := rep_succ r P (by omega)
      rw [hrr] at k3
      refine c_skip ?_
      refine hK9 _ _ ?_
      refine fg6 0 1 2 7 13 14 (gS rfl (gS rfl (gS rfl (gS rfl (gS rfl (gS rfl g0)))))) (gS rfl (gS rfl (gS rfl (gS rfl (gS rfl g0))))) (gS rfl (gS rfl (gS rfl (gS rfl g0)))) (gS rfl (gS rfl (gS rfl g0))) (gS rfl (gS rfl g0)) (gS rfl g0) (fun g => ?_)
      refine c_seq (fun K11 hK11 => ?_)
      refine c_block (fun Q12 hQ12 => ?_)
      refine c_seq (fun K13 hK13 => ?_)
      refine c_region ?_
      refine l_step (y_moveV (et g0 rfl)) ?_
      refine l_step (y_assignV (et g0 rfl)) ?_
      refine l_nil ?_
      refine hK13 _ _ ?_
      refine fg7 0 1 2 7 13 14 8 (gS rfl (gS rfl (gS rfl (gS rfl (gS rfl (gS rfl (gS rfl g0))))))) (gS rfl (gS rfl (gS rfl (gS rfl (gS rfl (gS rfl g0)))))) (gS rfl (gS rfl (gS rfl (gS rfl (gS rfl g0))))) (gS rfl (gS rfl (gS rfl (gS rfl g0)))) (gS rfl (gS rfl (gS rfl g0))) (gS rfl (gS rfl g0)) g0 (fun g => ?_)
      refine c_seq (fun K14 hK14 => ?_)
      refine c_region ?_
      refine l_step y_assignC ?_
      refine l_nil ?_
      refine hK14 _ _ ?_
      refine c_seq (fun K15 hK15 => ?_)
      refine c_region ?_
      refine l_step y_assignC ?_
      refine l_nil ?_
      refine hK15 _ _ ?_
      refine c_seq (fun K16 hK16 => ?_)
      refine c_seq (fun K17 hK17 => ?_)
      refine c_region ?_
      refine l_step (y_moveV (et (gS rfl (gS rfl g0)) rfl)) ?_
      refine l_step (y_moveV (et (gS rfl (gS rfl (gS rfl (gS rfl (gS rfl (gS rfl (gS rfl (gS rfl g0)))))))) rfl)) ?_
      refine l_step (y_len Hvaa.underlying95 (et g0 rfl)) ?_
      refine l_step (y_lss (et (gS rfl (gS rfl g0)) rfl) (et g0 rfl)) ?_
      refine l_nil ?_
      refine hK17 _ _ ?_
      refine fg10 0 1 2 7 13 14 8 9 10 20 (gS rfl (gS rfl (gS rfl (gS rfl (gS rfl (gS rfl (gS rfl (gS rfl (gS rfl (gS rfl (gS rfl (gS rfl g0)))))))))))) (gS rfl (gS rfl (gS rfl (gS rfl (gS rfl (gS rfl (gS rfl (gS rfl (gS rfl (gS rfl (gS rfl g0))))))))))) (gS rfl (gS rfl (gS rfl (gS rfl (gS rfl (gS rfl (gS rfl (gS rfl (gS rfl (gS rfl g0)))))))))) (gS rfl (gS rfl (gS rfl (gS rfl (gS rfl (gS rfl (gS rfl (gS rfl (gS rfl g0))))))))) (gS rfl (gS rfl (gS rfl (gS rfl (gS rfl (gS rfl (gS rfl (gS rfl g0)))))))) (gS rfl (gS rfl (gS rfl (gS rfl (gS rfl (gS rfl (gS rfl g0))))))) (gS rfl (gS rfl (gS rfl (gS rfl (gS rfl (gS rfl g0)))))) (gS rfl (gS rfl (gS rfl (gS rfl (gS rfl g0))))) (gS rfl (gS rfl (gS rfl (gS rfl g0)))) g0 (fun g => ?_)
      refine c_cond (et g0 rfl) (fun cB2 => ?_) (fun cB2 => ?_)
      · skip
        simp only [decide_eq_true_eq, decide_eq_false_iff_not, Int.not_lt, Int.not_le, Bool.not_eq_true', Bool.not_eq_false', Bool.not_eq_eq_eq_not, Bool.not_true, Bool.not_false] at cB2
        refine c_region ?_
        refine l_step (y_moveV (et (gS rfl (gS rfl (gS rfl (gS rfl (gS rfl (gS rfl (gS rfl (gS rfl g0)))))))) rfl)) ?_
        refine l_step (y_moveV (et (gS rfl (gS rfl (gS rfl (gS rfl g0)))) rfl)) ?_
        obtain ⟨ba, oa, ha, hb0, hr⟩ := (show WV _ W7 (.slice a l.length c) l from hbv.wv hF).at (by omega)
        have hxd := hbv.dig _ (List.getElem_mem (l := l) (n := P.length) (by omega))
        refine l_step (y_idxSa ha Hvaa.underlying95 sz_5 (et (gS rfl g0) rfl) (et g0 rfl) ?_) ?_
        omega
        refine l_step (y_load1 one_5 (et g0 rfl) (at1 (row_byte hr (by omega)))) ?_
        refine l_step (y_assignV (et g0 rfl)) ?_
        refine l_nil ?_
        refine hK16 _ _ ?_
        refine fg9 0 1 2 7 13 14 8 9 10 (gS rfl (gS rfl (gS rfl (gS rfl (gS rfl (gS rfl (gS rfl (gS rfl (gS rfl (gS rfl (gS rfl (gS rfl (gS rfl (gS rfl g0)))))))))))))) (gS rfl (gS rfl (gS rfl (gS rfl (gS rfl (gS rfl (gS rfl (gS rfl (gS rfl (gS rfl (gS rfl (gS rfl (gS rfl g0))))))))))))) (gS rfl (gS rfl (gS rfl (gS rfl (gS rfl (gS rfl (gS rfl (gS rfl (gS rfl (gS rfl (gS rfl (gS rfl g0)))))))))))) (gS rfl (gS rfl (gS rfl (gS rfl (gS rfl (gS rfl (gS rfl (gS rfl (gS rfl (gS rfl (gS rfl g0))))))))))) (gS rfl (gS rfl (gS rfl (gS rfl (gS rfl (gS rfl (gS rfl (gS rfl (gS rfl (gS rfl g0)))))))))) (gS rfl (gS rfl (gS rfl (gS rfl (gS rfl (gS rfl (gS rfl (gS rfl (gS rfl g0))))))))) (gS rfl (gS rfl (gS rfl (gS rfl (gS rfl (gS rfl (gS rfl (gS rfl g0)))))))) g0 (gS rfl (gS rfl (gS rfl (gS rfl (gS rfl (gS rfl g0)))))) (fun g => ?_)
        refine c_seq (fun K19 hK19 => ?_)
        refine c_seq (fun K20 hK20 => ?_)
        refine c_region ?_
        refine l_step (y_moveV (et (gS rfl (gS rfl g0)) rfl)) ?_
        refine l_step (y_moveV (et (gS rfl (gS rfl (gS rfl (gS rfl (gS rfl (gS rfl (gS rfl g0))))))) rfl)) ?_
        refine l_step (y_len Hvaa.underlying95 (et g0 rfl)) ?_
        refine l_step (y_lss (et (gS rfl (gS rfl g0)) rfl) (et g0 rfl)) ?_
        refine l_nil ?_
        refine hK20 _ _ ?_
        refine fg10 0 1 2 7 13 14 8 9 10 28 (gS rfl (gS rfl (gS rfl (gS rfl (gS rfl (gS rfl (gS rfl (gS rfl (gS rfl (gS rfl (gS rfl (gS rfl g0)))))))))))) (gS rfl (gS rfl (gS rfl (gS rfl (gS rfl (gS rfl (gS rfl (gS rfl (gS rfl (gS rfl (gS rfl g0))))))))))) (gS rfl (gS rfl (gS rfl (gS rfl (gS rfl (gS rfl (gS rfl (gS rfl (gS rfl (gS rfl g0)))))))))) (gS rfl (gS rfl (gS rfl (gS rfl (gS rfl (gS rfl (gS rfl (gS rfl (gS rfl g0))))))))) (gS rfl (gS rfl (gS rfl (gS rfl (gS rfl (gS rfl (gS rfl (gS rfl g0)))))))) (gS rfl (gS rfl (gS rfl (gS rfl (gS rfl (gS rfl (gS rfl g0))))))) (gS rfl (gS rfl (gS rfl (gS rfl (gS rfl (gS rfl g0)))))) (gS rfl (gS rfl (gS rfl (gS rfl (gS rfl g0))))) (gS rfl (gS rfl (gS rfl (gS rfl g0)))) g0 (fun g => ?_)
        refine c_cond (et g0 rfl) (fun cB3 => ?_) (fun cB3 => ?_)
        · skip
          simp only [decide_eq_true_eq, decide_eq_false_iff_not, Int.not_lt, Int.not_le, Bool.not_eq_true', Bool.not_eq_false', Bool.not_eq_eq_eq_not, Bool.not_true, Bool.not_false] at cB3
          refine c_region ?_
          refine l_step (y_moveV (et (gS rfl (gS rfl (gS rfl (gS rfl (gS rfl (gS rfl (gS rfl g0))))))) rfl)) ?_
          refine l_step (y_moveV (et (gS rfl (gS rfl (gS rfl (gS rfl g0)))) rfl)) ?_
          obtain ⟨bb, ob, hb, hb1, hr1⟩ := (show WV _ W7 (.slice a1 l1.length c1) l1 from hbv1.wv hF).at (by omega)
          have hyd := hbv1.dig _ (List.getElem_mem (l := l1) (n := P.length) (by omega))
          refine l_step (y_idxSa hb Hvaa.underlying95 sz_5 (et (gS rfl g0) rfl) (et g0 rfl) ?_) ?_
          omega
          refine l_step (y_load1 one_5 (et g0 rfl) (at1 (row_byte hr1 (by omega)))) ?_
          refine l_step (y_assignV (et g0 rfl)) ?_
          refine l_nil ?_
          refine hK19 _ _ ?_
          refine fg9 0 1 2 7 13 14 8 9 10 (gS rfl (gS rfl (gS rfl (gS rfl (gS rfl (gS rfl (gS rfl (gS rfl (gS rfl (gS rfl (gS rfl (gS rfl (gS rfl (gS rfl g0)))))))))))))) (gS rfl (gS rfl (gS rfl (gS rfl (gS rfl (gS rfl (gS rfl (gS rfl (gS rfl (gS rfl (gS rfl (gS rfl (gS rfl g0))))))))))))) (gS rfl (gS rfl (gS rfl (gS rfl (gS rfl (gS rfl (gS rfl (gS rfl (gS rfl (gS rfl (gS rfl (gS rfl g0)))))))))))) (gS rfl (gS rfl (gS rfl (gS rfl (gS rfl (gS rfl (gS rfl (gS rfl (gS rfl (gS rfl (gS rfl g0))))))))))) (gS rfl (gS rfl (gS rfl (gS rfl (gS rfl (gS rfl (gS rfl (gS rfl (gS rfl (gS rfl g0)))))))))) (gS rfl (gS rfl (gS rfl (gS rfl (gS rfl (gS rfl (gS rfl (gS rfl (gS rfl g0))))))))) (gS rfl (gS rfl (gS rfl (gS rfl (gS rfl (gS rfl (gS rfl (gS rfl g0)))))))) (gS rfl (gS rfl (gS rfl (gS rfl (gS rfl (gS rfl (gS rfl g0))))))) g0 (fun g => ?_)
          refine c_seq (fun K22 hK22 => ?_)
          refine c_region ?_
          refine l_step (y_moveV (et (gS rfl (gS rfl (gS rfl (gS rfl (gS rfl (gS rfl (gS rfl (gS rfl g0)))))))) rfl)) ?_
          refine l_nil ?_
          refine hK22 _ _ ?_
          refine c_block (fun Q23 hQ23 => ?_)
          refine c_seq (fun K24 hK24 => ?_)
          refine c_region ?_
          refine l_step (y_eql (et g0 rfl) rfl) ?_
          refine l_step (y_assignV (et g0 rfl)) ?_
          refine l_nil ?_
          refine hK24 _ _ ?_
          refine fg11 0 1 2 7 13 14 8 9 10 33 34 (gS rfl (gS rfl (gS rfl (gS rfl (gS rfl (gS rfl (gS rfl (gS rfl (gS rfl (gS rfl (gS rfl g0))))))))))) (gS rfl (gS rfl (gS rfl (gS rfl (gS rfl (gS rfl (gS rfl (gS rfl (gS rfl (gS rfl g0)))))))))) (gS rfl (gS rfl (gS rfl (gS rfl (gS rfl (gS rfl (gS rfl (gS rfl (gS rfl g0))))))))) (gS rfl (gS rfl (gS rfl (gS rfl (gS rfl (gS rfl (gS rfl (gS rfl g0)))))))) (gS rfl (gS rfl (gS rfl (gS rfl (gS rfl (gS rfl (gS rfl g0))))))) (gS rfl (gS rfl (gS rfl (gS rfl (gS rfl (gS rfl g0)))))) (gS rfl (gS rfl (gS rfl (gS rfl (gS rfl g0))))) (gS rfl (gS rfl (gS rfl (gS rfl g0)))) (gS rfl (gS rfl (gS rfl g0))) (gS rfl (gS rfl g0)) g0 (fun g => ?_)
          refine c_cond (et g0 rfl) (fun cB4 => ?_) (fun cB4 => ?_)
          · skip
            
            have ho : o = 22 := by have := of_decide_eq_true cB4; omega
            refine c_region ?_
            refine l_step (y_moveV (et (gS rfl (gS rfl (gS rfl (gS rfl (gS rfl (gS rfl (gS rfl g0))))))) rfl)) ?_
            refine l_step (y_moveV (et (gS rfl (gS rfl (gS rfl (gS rfl (gS rfl g0))))) rfl)) ?_
            refine l_step (y_moveV (et (gS rfl (gS rfl (gS rfl (gS rfl (gS rfl g0))))) rfl)) ?_
            refine l_step (y_moveV (et (gS rfl (gS rfl (gS rfl (gS rfl (gS rfl g0))))) rfl)) ?_
            refine l_step (y_and uk8 (et (gS rfl g0) rfl) (et g0 rfl) ?_ ?_) ?_
            omega
            omega
            refine l_step (y_idxSa rfl Hvaa.underlying95 sz_5 (et (gS rfl (gS rfl (gS rfl (gS rfl g0)))) rfl) (et (gS rfl (gS rfl (gS rfl g0))) rfl) ?_) ?_
            omega
            refine l_effN (e_store sz_5 (et g0 rfl) (cellsV (et (gS rfl g0) rfl) rfl) rfl (by first | exact one_bL _ | exact one_uL _ | (intro v hv; simp at hv; subst hv; rfl)) k3 (by (simp only [List.size_toArray, length_bL, List.length_append, List.length_cons, List.length_replicate]; omega))) (fun v26 w26 h26 => ?_)
            obtain ⟨rfl, x26⟩ := h26
            replace k3 := x26.blk
            replace G := G.wr x26 (by first | exact .inr f3 | omega | (simp; omega)) nb3
            replace V7 := V7.wr x26 (by first | exact .inr f3 | omega | (simp; omega)) nb3
            replace hF := G.fz
            replace U := U.st x26 f3
            replace k3 := Blk.setB k3 (by omega)
            replace k3 : Blk w26 b3 (bL ((P ++ [(l[P.length] &&& l1[P.length])]) ++ List.replicate r' 0)).toArray := by simpa using k3
            refine l_nil ?_
            refine hQ23 _ _ _ (in_normal ?_)
            refine hQ12 _ _ _ (in_normal ?_)
            refine hK11 _ _ ?_
            refine fg6 0 1 2 7 13 14 (gS rfl (gS rfl (gS rfl (gS rfl (gS rfl (gS rfl (gS rfl (gS rfl (gS rfl (gS rfl (gS rfl (gS rfl (gS rfl (gS rfl (gS rfl (gS rfl g0)))))))))))))))) (gS rfl (gS rfl (gS rfl (gS rfl (gS rfl (gS rfl (gS rfl (gS rfl (gS rfl (gS rfl (gS rfl (gS rfl (gS rfl (gS rfl (gS rfl g0))))))))))))))) (gS rfl (gS rfl (gS rfl (gS rfl (gS rfl (gS rfl (gS rfl (gS rfl (gS rfl (gS rfl (gS rfl (gS rfl (gS rfl (gS rfl g0)))))))))))))) (gS rfl (gS rfl (gS rfl (gS rfl (gS rfl (gS rfl (gS rfl (gS rfl (gS rfl (gS rfl (gS rfl (gS rfl (gS rfl g0))))))))))))) (gS rfl (gS rfl (gS rfl (gS rfl (gS rfl (gS rfl (gS rfl (gS rfl (gS rfl (gS rfl (gS rfl (gS rfl g0)))))))))))) (gS rfl (gS rfl (gS rfl (gS rfl (gS rfl (gS rfl (gS rfl (gS rfl (gS rfl (gS rfl (gS rfl g0))))))))))) (fun g => ?_)
            refine c_region ?_
            refine l_step (y_add (et g0 rfl) rfl ((addIN (y := 1) ?_).trans (castE (show P.length + 1 = (P ++ [(l[P.length] &&& l1[P.length])]).length by simp)))) ?_
            omega
            refine l_step (y_moveV (et g0 rfl)) ?_
            refine l_nil ?_
            refine fK6 0 1 2 7 13 14 (gS rfl (gS rfl (gS rfl (gS rfl (gS rfl (gS rfl (gS rfl g0))))))) (gS rfl (gS rfl (gS rfl (gS rfl (gS rfl (gS rfl g0)))))) (gS rfl (gS rfl (gS rfl (gS rfl (gS rfl g0))))) (gS rfl (gS rfl (gS rfl (gS rfl g0)))) (gS rfl (gS rfl (gS rfl g0))) g0 (fun g => ?_)
            exact hK7 ((r')) _ _ (by omega) ⟨g, _, (P ++ [(l[P.length] &&& l1[P.length])]), r', rfl, rfl, by simp; omega, dig_next hPd (dg_in (i := P.length) hbv.dig (by omega)) (dg_in (i := P.length) hbv1.dig (by omega)) (by rw [bop, if_pos ho]), get_next hPg (by omega) s1 (dg_in (i := P.length) hbv.dig (by omega)) (dg_in (i := P.length) hbv1.dig (by omega)) (by rw [bop, if_pos ho]), k3, V7⟩
          · skip
            
            have ho4 : ¬ o = 22 := by have := of_decide_eq_false cB4; omega
            refine c_seq (fun K27 hK27 => ?_)
            refine c_region ?_
            refine l_step (y_eql (et (gS rfl g0) rfl) rfl) ?_
            refine l_step (y_assignV (et g0 rfl)) ?_
            refine l_nil ?_
            refine hK27 _ _ ?_
            refine fg11 0 1 2 7 13 14 8 9 10 33 42 (gS rfl (gS rfl (gS rfl (gS rfl (gS rfl (gS rfl (gS rfl (gS rfl (gS rfl (gS rfl (gS rfl (gS rfl g0)))))))))))) (gS rfl (gS rfl (gS rfl (gS rfl (gS rfl (gS rfl (gS rfl (gS rfl (gS rfl (gS rfl (gS rfl g0))))))))))) (gS rfl (gS rfl (gS rfl (gS rfl (gS rfl (gS rfl (gS rfl (gS rfl (gS rfl (gS rfl g0)))))))))) (gS rfl (gS rfl (gS rfl (gS rfl (gS rfl (gS rfl (gS rfl (gS rfl (gS rfl g0))))))))) (gS rfl (gS rfl (gS rfl (gS rfl (gS rfl (gS rfl (gS rfl (gS rfl g0)))))))) (gS rfl (gS rfl (gS rfl (gS rfl (gS rfl (gS rfl (gS rfl g0))))))) (gS rfl (gS rfl (gS rfl (gS rfl (gS rfl (gS rfl g0)))))) (gS rfl (gS rfl (gS rfl (gS rfl (gS rfl g0))))) (gS rfl (gS rfl (gS rfl (gS rfl g0)))) (gS rfl (gS rfl (gS rfl g0))) g0 (fun g => ?_)
            refine c_cond (et g0 rfl) (fun cB5 => ?_) (fun cB5 => ?_)
            · skip
              
              have ho : o = 23 := by have := of_decide_eq_true cB5; omega
              refine c_region ?_
              refine l_step (y_moveV (et (gS rfl (gS rfl (gS rfl (gS rfl (gS rfl (gS rfl (gS rfl g0))))))) rfl)) ?_
              refine l_step (y_moveV (et (gS rfl (gS rfl (gS rfl (gS rfl (gS rfl g0))))) rfl)) ?_
              refine l_step (y_moveV (et (gS rfl (gS rfl (gS rfl (gS rfl (gS rfl g0))))) rfl)) ?_
              refine l_step (y_moveV (et (gS rfl (gS rfl (gS rfl (gS rfl (gS rfl g0))))) rfl)) ?_
              refine l_step (y_or uk8 (et (gS rfl g0) rfl) (et g0 rfl) ?_ ?_) ?_
              omega
              omega
              refine l_step (y_idxSa rfl Hvaa.underlying95 sz_5 (et (gS rfl (gS rfl (gS rfl (gS rfl g0)))) rfl) (et (gS rfl (gS rfl (gS rfl g0))) rfl) ?_) ?_
              omega
              refine l_effN (e_store sz_5 (et g0 rfl) (cellsV (et (gS rfl g0) rfl) rfl) rfl (by first | exact one_bL _ | exact one_uL _ | (intro v hv; simp at hv; subst hv; rfl)) k3 (by (simp only [List.size_toArray, length_bL, List.length_append, List.length_cons, List.length_replicate]; omega))) (fun v29 w29 h29 => ?_)
              obtain ⟨rfl, x29⟩ := h29
              replace k3 := x29.blk
              replace G := G.wr x29 (by first | exact .inr f3 | omega | (simp; omega)) nb3
              replace V7 := V7.wr x29 (by first | exact .inr f3 | omega | (simp; omega)) nb3
              replace hF := G.fz
              replace U := U.st x29 f3
              replace k3 := Blk.setB k3 (by omega)
              replace k3 : Blk w29 b3 (bL ((P ++ [(l[P.length] ||| l1[P.length])]) ++ List.replicate r' 0)).toArray := by simpa using k3
              refine l_nil ?_
              refine hQ23 _ _ _ (in_normal ?_)
              refine hQ12 _ _ _ (in_normal ?_)
              refine hK11 _ _ ?_
              refine fg6 0 1 2 7 13 14 (gS rfl (gS rfl (gS rfl (gS rfl (gS rfl (gS rfl (gS rfl (gS rfl (gS rfl (gS rfl (gS rfl (gS rfl (gS rfl (gS rfl (gS rfl (gS rfl g0)))))))))))))))) (gS rfl (gS rfl (gS rfl (gS rfl (gS rfl (gS rfl (gS rfl (gS rfl (gS rfl (gS rfl (gS rfl (gS rfl (gS rfl (gS rfl (gS rfl g0))))))))))))))) (gS rfl (gS rfl (gS rfl (gS rfl (gS rfl (gS rfl (gS rfl (gS rfl (gS rfl (gS rfl (gS rfl (gS rfl (gS rfl (gS rfl g0)))))))))))))) (gS rfl (gS rfl (gS rfl (gS rfl (gS rfl (gS rfl (gS rfl (gS rfl (gS rfl (gS rfl (gS rfl (gS rfl (gS rfl g0))))))))))))) (gS rfl (gS rfl (gS rfl (gS rfl (gS rfl (gS rfl (gS rfl (gS rfl (gS rfl (gS rfl (gS rfl (gS rfl g0)))))))))))) (gS rfl (gS rfl (gS rfl (gS rfl (gS rfl (gS rfl (gS rfl (gS rfl (gS rfl (gS rfl (gS rfl g0))))))))))) (fun g => ?_)
              refine c_region ?_
              refine l_step (y_add (et g0 rfl) rfl ((addIN (y := 1) ?_).trans (castE (show P.length + 1 = (P ++ [(l[P.length] ||| l1[P.length])]).length by simp)))) ?_
              omega
              refine l_step (y_moveV (et g0 rfl)) ?_
              refine l_nil ?_
              refine fK6 0 1 2 7 13 14 (gS rfl (gS rfl (gS rfl (gS rfl (gS rfl (gS rfl (gS rfl g0))))))) (gS rfl (gS rfl (gS rfl (gS rfl (gS rfl (gS rfl g0)))))) (gS rfl (gS rfl (gS rfl (gS rfl (gS rfl g0))))) (gS rfl (gS rfl (gS rfl (gS rfl g0)))) (gS rfl (gS rfl (gS rfl g0))) g0 (fun g => ?_)
              exact hK7 ((r')) _ _ (by omega) ⟨g, _, (P ++ [(l[P.length] ||| l1[P.length])]), r', rfl, rfl, by simp; omega, dig_next hPd (dg_in (i := P.length) hbv.dig (by omega)) (dg_in (i := P.length) hbv1.dig (by omega)) (by rw [bop, if_neg ho4, if_pos ho]), get_next hPg (by omega) s1 (dg_in (i := P.length) hbv.dig (by omega)) (dg_in (i := P.length) hbv1.dig (by omega)) (by rw [bop, if_neg ho4, if_pos ho]), k3, V7⟩
            · skip
              
              have ho5 : ¬ o = 23 := by have := of_decide_eq_false cB5; omega
              refine c_seq (fun K30 hK30 => ?_)
              refine c_region ?_
              refine l_step (y_eql (et (gS rfl g0) rfl) rfl) ?_
              refine l_step (y_assignV (et g0 rfl)) ?_
              refine l_nil ?_
              refine hK30 _ _ ?_
              refine fg11 0 1 2 7 13 14 8 9 10 33 50 (gS rfl (gS rfl (gS rfl (gS rfl (gS rfl (gS rfl (gS rfl (gS rfl (gS rfl (gS rfl (gS rfl (gS rfl g0)))))))))))) (gS rfl (gS rfl (gS rfl (gS rfl (gS rfl (gS rfl (gS rfl (gS rfl (gS rfl (gS rfl (gS rfl g0))))))))))) (gS rfl (gS rfl (gS rfl (gS rfl (gS rfl (gS rfl (gS rfl (gS rfl (gS rfl (gS rfl g0)))))))))) (gS rfl (gS rfl (gS rfl (gS rfl (gS rfl (gS rfl (gS rfl (gS rfl (gS rfl g0))))))))) (gS rfl (gS rfl (gS rfl (gS rfl (gS rfl (gS rfl (gS rfl (gS rfl g0)))))))) (gS rfl (gS rfl (gS rfl (gS rfl (gS rfl (gS rfl (gS rfl g0))))))) (gS rfl (gS rfl (gS rfl (gS rfl (gS rfl (gS rfl g0)))))) (gS rfl (gS rfl (gS rfl (gS rfl (gS rfl g0))))) (gS rfl (gS rfl (gS rfl (gS rfl g0)))) (gS rfl (gS rfl (gS rfl g0))) g0 (fun g => ?_)
              refine c_cond (et g0 rfl) (fun cB6 => ?_) (fun cB6 => ?_)
              · skip
                
                have ho : o = 24 := by have := of_decide_eq_true cB6; omega
                refine c_region ?_
                refine l_step (y_moveV (et (gS rfl (gS rfl (gS rfl (gS rfl (gS rfl (gS rfl (gS rfl g0))))))) rfl)) ?_
                refine l_step (y_moveV (et (gS rfl (gS rfl (gS rfl (gS rfl (gS rfl g0))))) rfl)) ?_
                refine l_step (y_moveV (et (gS rfl (gS rfl (gS rfl (gS rfl (gS rfl g0))))) rfl)) ?_
                refine l_step (y_moveV (et (gS rfl (gS rfl (gS rfl (gS rfl (gS rfl g0))))) rfl)) ?_
                refine l_step (y_xor uk8 (et (gS rfl g0) rfl) (et g0 rfl) ?_ ?_) ?_
                omega
                omega
                refine l_step (y_idxSa rfl Hvaa.underlying95 sz_5 (et (gS rfl (gS rfl (gS rfl (gS rfl g0)))) rfl) (et (gS rfl (gS rfl (gS rfl g0))) rfl) ?_) ?_
                omega
                refine l_effN (e_store sz_5 (et g0 rfl) (cellsV (et (gS rfl g0) rfl) rfl) rfl (by first | exact one_bL _ | exact one_uL _ | (intro v hv; simp at hv; subst hv; rfl)) k3 (by (simp only [List.size_toArray, length_bL, List.length_append, List.length_cons, List.length_replicate]; omega))) (fun v32 w32 h32 => ?_)
                obtain ⟨rfl, x32⟩ := h32
                replace k3 := x32.blk
                replace G := G.wr x32 (by first | exact .inr f3 | omega | (simp; omega)) nb3
                replace V7 := V7.wr x32 (by first | exact .inr f3 | omega | (simp; omega)) nb3
                replace hF := G.fz
                replace U := U.st x32 f3
                replace k3 := Blk.setB k3 (by omega)
                replace k3 : Blk w32 b3 (bL ((P ++ [(l[P.length] ^^^ l1[P.length])]) ++ List.replicate r' 0)).toArray := by simpa using k3
                refine l_nil ?_
                refine hQ23 _ _ _ (in_normal ?_)
                refine hQ12 _ _ _ (in_normal ?_)
                refine hK11 _ _ ?_
                refine fg6 0 1 2 7 13 14 (gS rfl (gS rfl (gS rfl (gS rfl (gS rfl (gS rfl (gS rfl (gS rfl (gS rfl (gS rfl (gS rfl (gS rfl (gS rfl (gS rfl (gS rfl (gS rfl g0)))))))))))))))) (gS rfl (gS rfl (gS rfl (gS rfl (gS rfl (gS rfl (gS rfl (gS rfl (gS rfl (gS rfl (gS rfl (gS rfl (gS rfl (gS rfl (gS rfl g0))))))))))))))) (gS rfl (gS rfl (gS rfl (gS rfl (gS rfl (gS rfl (gS rfl (gS rfl (gS rfl (gS rfl (gS rfl (gS rfl (gS rfl (gS rfl g0)))))))))))))) (gS rfl (gS rfl (gS rfl (gS rfl (gS rfl (gS rfl (gS rfl (gS rfl (gS rfl (gS rfl (gS rfl (gS rfl (gS rfl g0))))))))))))) (gS rfl (gS rfl (gS rfl (gS rfl (gS rfl (gS rfl (gS rfl (gS rfl (gS rfl (gS rfl (gS rfl (gS rfl g0)))))))))))) (gS rfl (gS rfl (gS rfl (gS rfl (gS rfl (gS rfl (gS rfl (gS rfl (gS rfl (gS rfl (gS rfl g0))))))))))) (fun g => ?_)
                refine c_region ?_
                refine l_step (y_add (et g0 rfl) rfl ((addIN (y := 1) ?_).trans (castE (show P.length + 1 = (P ++ [(l[P.length] ^^^ l1[P.length])]).length by simp)))) ?_
                omega
                refine l_step (y_moveV (et g0 rfl)) ?_
                refine l_nil ?_
                refine fK6 0 1 2 7 13 14 (gS rfl (gS rfl (gS rfl (gS rfl (gS rfl (gS rfl (gS rfl g0))))))) (gS rfl (gS rfl (gS rfl (gS rfl (gS rfl (gS rfl g0)))))) (gS rfl (gS rfl (gS rfl (gS rfl (gS rfl g0))))) (gS rfl (gS rfl (gS rfl (gS rfl g0)))) (gS rfl (gS rfl (gS rfl g0))) g0 (fun g => ?_)
                exact hK7 ((r')) _ _ (by omega) ⟨g, _, (P ++ [(l[P.length] ^^^ l1[P.length])]), r', rfl, rfl, by simp; omega, dig_next hPd (dg_in (i := P.length) hbv.dig (by omega)) (dg_in (i := P.length) hbv1.dig (by omega)) (by rw [bop, if_neg ho4, if_neg ho5, if_pos ho]), get_next hPg (by omega) s1 (dg_in (i := P.length) hbv.dig (by omega)) (dg_in (i := P.length) hbv1.dig (by omega)) (by rw [bop, if_neg ho4, if_neg ho5, if_pos ho]), k3, V7⟩
              · skip
                
                have ho6 : ¬ o = 24 := by have := of_decide_eq_false cB6; omega
                refine c_seq (fun K33 hK33 => ?_)
                refine c_region ?_
                refine l_step (y_eql (et (gS rfl g0) rfl) rfl) ?_
                refine l_step (y_assignV (et g0 rfl)) ?_
                refine l_nil ?_
                refine hK33 _ _ ?_
                refine fg9 0 1 2 7 13 14 8 9 58 (gS rfl (gS rfl (gS rfl (gS rfl (gS rfl (gS rfl (gS rfl (gS rfl (gS rfl (gS rfl (gS rfl (gS rfl g0)))))))))))) (gS rfl (gS rfl (gS rfl (gS rfl (gS rfl (gS rfl (gS rfl (gS rfl (gS rfl (gS rfl (gS rfl g0))))))))))) (gS rfl (gS rfl (gS rfl (gS rfl (gS rfl (gS rfl (gS rfl (gS rfl (gS rfl (gS rfl g0)))))))))) (gS rfl (gS rfl (gS rfl (gS rfl (gS rfl (gS rfl (gS rfl (gS rfl (gS rfl g0))))))))) (gS rfl (gS rfl (gS rfl (gS rfl (gS rfl (gS rfl (gS rfl (gS rfl g0)))))))) (gS rfl (gS rfl (gS rfl (gS rfl (gS rfl (gS rfl (gS rfl g0))))))) (gS rfl (gS rfl (gS rfl (gS rfl (gS rfl (gS rfl g0)))))) (gS rfl (gS rfl (gS rfl (gS rfl (gS rfl g0))))) g0 (fun g => ?_)
                refine c_true (et g0 rfl) (by exact decide_eq_true (show ((o : Nat) : Int) = 25 by omega)) ?_
                refine c_region ?_
                refine l_step (y_moveV (et (gS rfl (gS rfl (gS rfl (gS rfl (gS rfl g0))))) rfl)) ?_
                refine l_step (y_moveV (et (gS rfl (gS rfl (gS rfl g0))) rfl)) ?_
                refine l_step (y_moveV (et (gS rfl (gS rfl (gS rfl g0))) rfl)) ?_
                refine l_step (y_not8 (et g0 rfl) ?_) ?_
                omega
                refine l_step (y_idxSa rfl Hvaa.underlying95 sz_5 (et (gS rfl (gS rfl (gS rfl g0))) rfl) (et (gS rfl (gS rfl g0)) rfl) ?_) ?_
                omega
                refine l_effN (e_store sz_5 (et g0 rfl) (cellsV (et (gS rfl g0) rfl) rfl) rfl (by first | exact one_bL _ | exact one_uL _ | (intro v hv; simp at hv; subst hv; rfl)) k3 (by (simp only [List.size_toArray, length_bL, List.length_append, List.length_cons, List.length_replicate]; omega))) (fun v35 w35 h35 => ?_)
                obtain ⟨rfl, x35⟩ := h35
                replace k3 := x35.blk
                replace G := G.wr x35 (by first | exact .inr f3 | omega | (simp; omega)) nb3
                replace V7 := V7.wr x35 (by first | exact .inr f3 | omega | (simp; omega)) nb3
                replace hF := G.fz
                replace U := U.st x35 f3
                replace k3 := Blk.setB k3 (by omega)
                replace k3 : Blk w35 b3 (bL ((P ++ [(255 - l[P.length])]) ++ List.replicate r' 0)).toArray := by simpa using k3
                refine l_nil ?_
                refine hQ23 _ _ _ (in_normal ?_)
                refine hQ12 _ _ _ (in_normal ?_)
                refine hK11 _ _ ?_
                refine fg6 0 1 2 7 13 14 (gS rfl (gS rfl (gS rfl (gS rfl (gS rfl (gS rfl (gS rfl (gS rfl (gS rfl (gS rfl (gS rfl (gS rfl (gS rfl g0))))))))))))) (gS rfl (gS rfl (gS rfl (gS rfl (gS rfl (gS rfl (gS rfl (gS rfl (gS rfl (gS rfl (gS rfl (gS rfl g0)))))))))))) (gS rfl (gS rfl (gS rfl (gS rfl (gS rfl (gS rfl (gS rfl (gS rfl (gS rfl (gS rfl (gS rfl g0))))))))))) (gS rfl (gS rfl (gS rfl (gS rfl (gS rfl (gS rfl (gS rfl (gS rfl (gS rfl (gS rfl g0)))))))))) (gS rfl (gS rfl (gS rfl (gS rfl (gS rfl (gS rfl (gS rfl (gS rfl (gS rfl g0))))))))) (gS rfl (gS rfl (gS rfl (gS rfl (gS rfl (gS rfl (gS rfl (gS rfl g0)))))))) (fun g => ?_)
                refine c_region ?_
                refine l_step (y_add (et g0 rfl) rfl ((addIN (y := 1) ?_).trans (castE (show P.length + 1 = (P ++ [(255 - l[P.length])]).length by simp)))) ?_
                omega
                refine l_step (y_moveV (et g0 rfl)) ?_
                refine l_nil ?_
                refine fK6 0 1 2 7 13 14 (gS rfl (gS rfl (gS rfl (gS rfl (gS rfl (gS rfl (gS rfl g0))))))) (gS rfl (gS rfl (gS rfl (gS rfl (gS rfl (gS rfl g0)))))) (gS rfl (gS rfl (gS rfl (gS rfl (gS rfl g0))))) (gS rfl (gS rfl (gS rfl (gS rfl g0)))) (gS rfl (gS rfl (gS rfl g0))) g0 (fun g => ?_)
                exact hK7 ((r')) _ _ (by omega) ⟨g, _, (P ++ [(255 - l[P.length])]), r', rfl, rfl, by simp; omega, dig_next hPd (dg_in (i := P.length) hbv.dig (by omega)) (dg_in (i := P.length) hbv1.dig (by omega)) (by rw [bop, if_neg ho4, if_neg ho5, if_neg ho6]), get_next hPg (by omega) s1 (dg_in (i := P.length) hbv.dig (by omega)) (dg_in (i := P.length) hbv1.dig (by omega)) (by rw [bop, if_neg ho4, if_neg ho5, if_neg ho6]), k3, V7⟩
        · skip
          simp only [decide_eq_true_eq, decide_eq_false_iff_not, Int.not_lt, Int.not_le, Bool.not_eq_true', Bool.not_eq_false', Bool.not_eq_eq_eq_not, Bool.not_true, Bool.not_false] at cB3
          refine c_skip ?_
          refine hK19 _ _ ?_
          refine fg9 0 1 2 7 13 14 8 9 10 (gS rfl (gS rfl (gS rfl (gS rfl (gS rfl (gS rfl (gS rfl (gS rfl (gS rfl g0))))))))) (gS rfl (gS rfl (gS rfl (gS rfl (gS rfl (gS rfl (gS rfl (gS rfl g0)))))))) (gS rfl (gS rfl (gS rfl (gS rfl (gS rfl (gS rfl (gS rfl g0))))))) (gS rfl (gS rfl (gS rfl (gS rfl (gS rfl (gS rfl g0)))))) (gS rfl (gS rfl (gS rfl (gS rfl (gS rfl g0))))) (gS rfl (gS rfl (gS rfl (gS rfl g0)))) (gS rfl (gS rfl (gS rfl g0))) (gS rfl (gS rfl g0)) (gS rfl g0) (fun g => ?_)
          refine c_seq (fun K36 hK36 => ?_)
          refine c_region ?_
          refine l_step (y_moveV (et (gS rfl (gS rfl (gS rfl (gS rfl (gS rfl (gS rfl (gS rfl (gS rfl g0)))))))) rfl)) ?_
          refine l_nil ?_
          refine hK36 _ _ ?_
          refine c_block (fun Q37 hQ37 => ?_)
          refine c_seq (fun K38 hK38 => ?_)
          refine c_region ?_
          refine l_step (y_eql (et g0 rfl) rfl) ?_
          refine l_step (y_assignV (et g0 rfl)) ?_
          refine l_nil ?_
          refine hK38 _ _ ?_
          refine fg11 0 1 2 7 13 14 8 9 10 33 34 (gS rfl (gS rfl (gS rfl (gS rfl (gS rfl (gS rfl (gS rfl (gS rfl (gS rfl (gS rfl (gS rfl g0))))))))))) (gS rfl (gS rfl (gS rfl (gS rfl (gS rfl (gS rfl (gS rfl (gS rfl (gS rfl (gS rfl g0)))))))))) (gS rfl (gS rfl (gS rfl (gS rfl (gS rfl (gS rfl (gS rfl (gS rfl (gS rfl g0))))))))) (gS rfl (gS rfl (gS rfl (gS rfl (gS rfl (gS rfl (gS rfl (gS rfl g0)))))))) (gS rfl (gS rfl (gS rfl (gS rfl (gS rfl (gS rfl (gS rfl g0))))))) (gS rfl (gS rfl (gS rfl (gS rfl (gS rfl (gS rfl g0)))))) (gS rfl (gS rfl (gS rfl (gS rfl (gS rfl g0))))) (gS rfl (gS rfl (gS rfl (gS rfl g0)))) (gS rfl (gS rfl (gS rfl g0))) (gS rfl (gS rfl g0)) g0 (fun g => ?_)
          refine c_cond (et g0 rfl) (fun cB4 => ?_) (fun cB4 => ?_)
          · skip
            
            have ho : o = 22 := by have := of_decide_eq_true cB4; omega
            refine c_region ?_
            refine l_step (y_moveV (et (gS rfl (gS rfl (gS rfl (gS rfl (gS rfl (gS rfl (gS rfl g0))))))) rfl)) ?_
            refine l_step (y_moveV (et (gS rfl (gS rfl (gS rfl (gS rfl (gS rfl g0))))) rfl)) ?_
            refine l_step (y_moveV (et (gS rfl (gS rfl (gS rfl (gS rfl (gS rfl g0))))) rfl)) ?_
            refine l_step (y_moveV (et (gS rfl (gS rfl (gS rfl (gS rfl (gS rfl g0))))) rfl)) ?_
            refine l_step (y_and (p := 0) uk8 (et (gS rfl g0) rfl) (et g0 rfl) ?_ ?_) ?_
            omega
            omega
            refine l_step (y_idxSa rfl Hvaa.underlying95 sz_5 (et (gS rfl (gS rfl (gS rfl (gS rfl g0)))) rfl) (et (gS rfl (gS rfl (gS rfl g0))) rfl) ?_) ?_
            omega
            refine l_effN (e_store sz_5 (et g0 rfl) (cellsV (et (gS rfl g0) rfl) rfl) rfl (by first | exact one_bL _ | exact one_uL _ | (intro v hv; simp at hv; subst hv; rfl)) k3 (by (simp only [List.size_toArray, length_bL, List.length_append, List.length_cons, List.length_replicate]; omega))) (fun v40 w40 h40 => ?_)
            obtain ⟨rfl, x40⟩ := h40
            replace k3 := x40.blk
            replace G := G.wr x40 (by first | exact .inr f3 | omega | (simp; omega)) nb3
            replace V7 := V7.wr x40 (by first | exact .inr f3 | omega | (simp; omega)) nb3
            replace hF := G.fz
            replace U := U.st x40 f3
            replace k3 := Blk.setB k3 (by omega)
            replace k3 : Blk w40 b3 (bL ((P ++ [(l[P.length] &&& 0)]) ++ List.replicate r' 0)).toArray := by simpa using k3
            refine l_nil ?_
            refine hQ37 _ _ _ (in_normal ?_)
            refine hQ12 _ _ _ (in_normal ?_)
            refine hK11 _ _ ?_
            refine fg6 0 1 2 7 13 14 (gS rfl (gS rfl (gS rfl (gS rfl (gS rfl (gS rfl (gS rfl (gS rfl (gS rfl (gS rfl (gS rfl (gS rfl (gS rfl (gS rfl (gS rfl (gS rfl g0)))))))))))))))) (gS rfl (gS rfl (gS rfl (gS rfl (gS rfl (gS rfl (gS rfl (gS rfl (gS rfl (gS rfl (gS rfl (gS rfl (gS rfl (gS rfl (gS rfl g0))))))))))))))) (gS rfl (gS rfl (gS rfl (gS rfl (gS rfl (gS rfl (gS rfl (gS rfl (gS rfl (gS rfl (gS rfl (gS rfl (gS rfl (gS rfl g0)))))))))))))) (gS rfl (gS rfl (gS rfl (gS rfl (gS rfl (gS rfl (gS rfl (gS rfl (gS rfl (gS rfl (gS rfl (gS rfl (gS rfl g0))))))))))))) (gS rfl (gS rfl (gS rfl (gS rfl (gS rfl (gS rfl (gS rfl (gS rfl (gS rfl (gS rfl (gS rfl (gS rfl g0)))))))))))) (gS rfl (gS rfl (gS rfl (gS rfl (gS rfl (gS rfl (gS rfl (gS rfl (gS rfl (gS rfl (gS rfl g0))))))))))) (fun g => ?_)
            refine c_region ?_
            refine l_step (y_add (et g0 rfl) rfl ((addIN (y := 1) ?_).trans (castE (show P.length + 1 = (P ++ [(l[P.length] &&& 0)]).length by simp)))) ?_
            omega
            refine l_step (y_moveV (et g0 rfl)) ?_
            refine l_nil ?_
            refine fK6 0 1 2 7 13 14 (gS rfl (gS rfl (gS rfl (gS rfl (gS rfl (gS rfl (gS rfl g0))))))) (gS rfl (gS rfl (gS rfl (gS rfl (gS rfl (gS rfl g0)))))) (gS rfl (gS rfl (gS rfl (gS rfl (gS rfl g0))))) (gS rfl (gS rfl (gS rfl (gS rfl g0)))) (gS rfl (gS rfl (gS rfl g0))) g0 (fun g => ?_)
            exact hK7 ((r')) _ _ (by omega) ⟨g, _, (P ++ [(l[P.length] &&& 0)]), r', rfl, rfl, by simp; omega, dig_next hPd (dg_in (i := P.length) hbv.dig (by omega)) (dg_out (i := P.length) hbv1.dig (by omega)).symm (by rw [bop, if_pos ho]), get_next hPg (by omega) s1 (dg_in (i := P.length) hbv.dig (by omega)) (dg_out (i := P.length) hbv1.dig (by omega)).symm (by rw [bop, if_pos ho]), k3, V7⟩
          · skip
            
            have ho4 : ¬ o = 22 := by have := of_decide_eq_false cB4; omega
            refine c_seq (fun K41 hK41 => ?_)
            refine c_region ?_
            refine l_step (y_eql (et (gS rfl g0) rfl) rfl) ?_
            refine l_step (y_assignV (et g0 rfl)) ?_
            refine l_nil ?_
            refine hK41 _ _ ?_
            refine fg11 0 1 2 7 13 14 8 9 10 33 42 (gS rfl (gS rfl (gS rfl (gS rfl (gS rfl (gS rfl (gS rfl (gS rfl (gS rfl (gS rfl (gS rfl (gS rfl g0)))))))))))) (gS rfl (gS rfl (gS rfl (gS rfl (gS rfl (gS rfl (gS rfl (gS rfl (gS rfl (gS rfl (gS rfl g0))))))))))) (gS rfl (gS rfl (gS rfl (gS rfl (gS rfl (gS rfl (gS rfl (gS rfl (gS rfl (gS rfl g0)))))))))) (gS rfl (gS rfl (gS rfl (gS rfl (gS rfl (gS rfl (gS rfl (gS rfl (gS rfl g0))))))))) (gS rfl (gS rfl (gS rfl (gS rfl (gS rfl (gS rfl (gS rfl (gS rfl g0)))))))) (gS rfl (gS rfl (gS rfl (gS rfl (gS rfl (gS rfl (gS rfl g0))))))) (gS rfl (gS rfl (gS rfl (gS rfl (gS rfl (gS rfl g0)))))) (gS rfl (gS rfl (gS rfl (gS rfl (gS rfl g0))))) (gS rfl (gS rfl (gS rfl (gS rfl g0)))) (gS rfl (gS rfl (gS rfl g0))) g0 (fun g => ?_)
            refine c_cond (et g0 rfl) (fun cB5 => ?_) (fun cB5 => ?_)
            · skip
              
              have ho : o = 23 := by have := of_decide_eq_true cB5; omega
              refine c_region ?_
              refine l_step (y_moveV (et (gS rfl (gS rfl (gS rfl (gS rfl (gS rfl (gS rfl (gS rfl g0))))))) rfl)) ?_
              refine l_step (y_moveV (et (gS rfl (gS rfl (gS rfl (gS rfl (gS rfl g0))))) rfl)) ?_
              refine l_step (y_moveV (et (gS rfl (gS rfl (gS rfl (gS rfl (gS rfl g0))))) rfl)) ?_
              refine l_step (y_moveV (et (gS rfl (gS rfl (gS rfl (gS rfl (gS rfl g0))))) rfl)) ?_
              refine l_step (y_or (p := 0) uk8 (et (gS rfl g0) rfl) (et g0 rfl) ?_ ?_) ?_
              omega
              omega
              refine l_step (y_idxSa rfl Hvaa.underlying95 sz_5 (et (gS rfl (gS rfl (gS rfl (gS rfl g0)))) rfl) (et (gS rfl (gS rfl (gS rfl g0))) rfl) ?_) ?_
              omega
              refine l_effN (e_store sz_5 (et g0 rfl) (cellsV (et (gS rfl g0) rfl) rfl) rfl (by first | exact one_bL _ | exact one_uL _ | (intro v hv; simp at hv; subst hv; rfl)) k3 (by (simp only [List.size_toArray, length_bL, List.length_append, List.length_cons, List.length_replicate]; omega))) (fun v43 w43 h43 => ?_)
              obtain ⟨rfl, x43⟩ := h43
              replace k3 := x43.blk
              replace G := G.wr x43 (by first | exact .inr f3 | omega | (simp; omega)) nb3
              replace V7 := V7.wr x43 (by first | exact .inr f3 | omega | (simp; omega)) nb3
              replace hF := G.fz
              replace U := U.st x43 f3
              replace k3 := Blk.setB k3 (by omega)
              replace k3 : Blk w43 b3 (bL ((P ++ [(l[P.length] ||| 0)]) ++ List.replicate r' 0)).toArray := by simpa using k3
              refine l_nil ?_
              refine hQ37 _ _ _ (in_normal ?_)
              refine hQ12 _ _ _ (in_normal ?_)
              refine hK11 _ _ ?_
              refine fg6 0 1 2 7 13 14 (gS rfl (gS rfl (gS rfl (gS rfl (gS rfl (gS rfl (gS rfl (gS rfl (gS rfl (gS rfl (gS rfl (gS rfl (gS rfl (gS rfl (gS rfl (gS rfl g0)))))))))))))))) (gS rfl (gS rfl (gS rfl (gS rfl (gS rfl (gS rfl (gS rfl (gS rfl (gS rfl (gS rfl (gS rfl (gS rfl (gS rfl (gS rfl (gS rfl g0))))))))))))))) (gS rfl (gS rfl (gS rfl (gS rfl (gS rfl (gS rfl (gS rfl (gS rfl (gS rfl (gS rfl (gS rfl (gS rfl (gS rfl (gS rfl g0)))))))))))))) (gS rfl (gS rfl (gS rfl (gS rfl (gS rfl (gS rfl (gS rfl (gS rfl (gS rfl (gS rfl (gS rfl (gS rfl (gS rfl g0))))))))))))) (gS rfl (gS rfl (gS rfl (gS rfl (gS rfl (gS rfl (gS rfl (gS rfl (gS rfl (gS rfl (gS rfl (gS rfl g0)))))))))))) (gS rfl (gS rfl (gS rfl (gS rfl (gS rfl (gS rfl (gS rfl (gS rfl (gS rfl (gS rfl (gS rfl g0))))))))))) (fun g => ?_)
              refine c_region ?_
              refine l_step (y_add (et g0 rfl) rfl ((addIN (y := 1) ?_).trans (castE (show P.length + 1 = (P ++ [(l[P.length] ||| 0)]).length by simp)))) ?_
              omega
              refine l_step (y_moveV (et g0 rfl)) ?_
              refine l_nil ?_
              refine fK6 0 1 2 7 13 14 (gS rfl (gS rfl (gS rfl (gS rfl (gS rfl (gS rfl (gS rfl g0))))))) (gS rfl (gS rfl (gS rfl (gS rfl (gS rfl (gS rfl g0)))))) (gS rfl (gS rfl (gS rfl (gS rfl (gS rfl g0))))) (gS rfl (gS rfl (gS rfl (gS rfl g0)))) (gS rfl (gS rfl (gS rfl g0))) g0 (fun g => ?_)
              exact hK7 ((r')) _ _ (by omega) ⟨g, _, (P ++ [(l[P.length] ||| 0)]), r', rfl, rfl, by simp; omega, dig_next hPd (dg_in (i := P.length) hbv.dig (by omega)) (dg_out (i := P.length) hbv1.dig (by omega)).symm (by rw [bop, if_neg ho4, if_pos ho]), get_next hPg (by omega) s1 (dg_in (i := P.length) hbv.dig (by omega)) (dg_out (i := P.length) hbv1.dig (by omega)).symm (by rw [bop, if_neg ho4, if_pos ho]), k3, V7⟩
            · skip
              
              have ho5 : ¬ o = 23 := by have := of_decide_eq_false cB5; omega
              refine c_seq (fun K44 hK44 => ?_)
              refine c_region ?_
              refine l_step (y_eql (et (gS rfl g0) rfl) rfl) ?_
              refine l_step (y_assignV (et g0 rfl)) ?_
              refine l_nil ?_
              refine hK44 _ _ ?_
              refine fg11 0 1 2 7 13 14 8 9 10 33 50 (gS rfl (gS rfl (gS rfl (gS rfl (gS rfl (gS rfl (gS rfl (gS rfl (gS rfl (gS rfl (gS rfl (gS rfl g0)))))))))))) (gS rfl (gS rfl (gS rfl (gS rfl (gS rfl (gS rfl (gS rfl (gS rfl (gS rfl (gS rfl (gS rfl g0))))))))))) (gS rfl (gS rfl (gS rfl (gS rfl (gS rfl (gS rfl (gS rfl (gS rfl (gS rfl (gS rfl g0)))))))))) (gS rfl (gS rfl (gS rfl (gS rfl (gS rfl (gS rfl (gS rfl (gS rfl (gS rfl g0))))))))) (gS rfl (gS rfl (gS rfl (gS rfl (gS rfl (gS rfl (gS rfl (gS rfl g0)))))))) (gS rfl (gS rfl (gS rfl (gS rfl (gS rfl (gS rfl (gS rfl g0))))))) (gS rfl (gS rfl (gS rfl (gS rfl (gS rfl (gS rfl g0)))))) (gS rfl (gS rfl (gS rfl (gS rfl (gS rfl g0))))) (gS rfl (gS rfl (gS rfl (gS rfl g0)))) (gS rfl (gS rfl (gS rfl g0))) g0 (fun g => ?_)
              refine c_cond (et g0 rfl) (fun cB6 => ?_) (fun cB6 => ?_)
              · skip
                
                have ho : o = 24 := by have := of_decide_eq_true cB6; omega
                refine c_region ?_
                refine l_step (y_moveV (et (gS rfl (gS rfl (gS rfl (gS rfl (gS rfl (gS rfl (gS rfl g0))))))) rfl)) ?_
                refine l_step (y_moveV (et (gS rfl (gS rfl (gS rfl (gS rfl (gS rfl g0))))) rfl)) ?_
                refine l_step (y_moveV (et (gS rfl (gS rfl (gS rfl (gS rfl (gS rfl g0))))) rfl)) ?_
                refine l_step (y_moveV (et (gS rfl (gS rfl (gS rfl (gS rfl (gS rfl g0))))) rfl)) ?_
                refine l_step (y_xor (p := 0) uk8 (et (gS rfl g0) rfl) (et g0 rfl) ?_ ?_) ?_
                omega
                omega
                refine l_step (y_idxSa rfl Hvaa.underlying95 sz_5 (et (gS rfl (gS rfl (gS rfl (gS rfl g0)))) rfl) (et (gS rfl (gS rfl (gS rfl g0))) rfl) ?_) ?_
                omega
                refine l_effN (e_store sz_5 (et g0 rfl) (cellsV (et (gS rfl g0) rfl) rfl) rfl (by first | exact one_bL _ | exact one_uL _ | (intro v hv; simp at hv; subst hv; rfl)) k3 (by (simp only [List.size_toArray, length_bL, List.length_append, List.length_cons, List.length_replicate]; omega))) (fun v46 w46 h46 => ?_)
                obtain ⟨rfl, x46⟩ := h46
                replace k3 := x46.blk
                replace G := G.wr x46 (by first | exact .inr f3 | omega | (simp; omega)) nb3
                replace V7 := V7.wr x46 (by first | exact .inr f3 | omega | (simp; omega)) nb3
                replace hF := G.fz
                replace U := U.st x46 f3
                replace k3 := Blk.setB k3 (by omega)
                replace k3 : Blk w46 b3 (bL ((P ++ [(l[P.length] ^^^ 0)]) ++ List.replicate r' 0)).toArray := by simpa using k3
                refine l_nil ?_
                refine hQ37 _ _ _ (in_normal ?_)
                refine hQ12 _ _ _ (in_normal ?_)
                refine hK11 _ _ ?_
                refine fg6 0 1 2 7 13 14 (gS rfl (gS rfl (gS rfl (gS rfl (gS rfl (gS rfl (gS rfl (gS rfl (gS rfl (gS rfl (gS rfl (gS rfl (gS rfl (gS rfl (gS rfl (gS rfl g0)))))))))))))))) (gS rfl (gS rfl (gS rfl (gS rfl (gS rfl (gS rfl (gS rfl (gS rfl (gS rfl (gS rfl (gS rfl (gS rfl (gS rfl (gS rfl (gS rfl g0))))))))))))))) (gS rfl (gS rfl (gS rfl (gS rfl (gS rfl (gS rfl (gS rfl (gS rfl (gS rfl (gS rfl (gS rfl (gS rfl (gS rfl (gS rfl g0)))))))))))))) (gS rfl (gS rfl (gS rfl (gS rfl (gS rfl (gS rfl (gS rfl (gS rfl (gS rfl (gS rfl (gS rfl (gS rfl (gS rfl g0))))))))))))) (gS rfl (gS rfl (gS rfl (gS rfl (gS rfl (gS rfl (gS rfl (gS rfl (gS rfl (gS rfl (gS rfl (gS rfl g0)))))))))))) (gS rfl (gS rfl (gS rfl (gS rfl (gS rfl (gS rfl (gS rfl (gS rfl (gS rfl (gS rfl (gS rfl g0))))))))))) (fun g => ?_)
                refine c_region ?_
                refine l_step (y_add (et g0 rfl) rfl ((addIN (y := 1) ?_).trans (castE (show P.length + 1 = (P ++ [(l[P.length] ^^^ 0)]).length by simp)))) ?_
                omega
                refine l_step (y_moveV (et g0 rfl)) ?_
                refine l_nil ?_
                refine fK6 0 1 2 7 13 14 (gS rfl (gS rfl (gS rfl (gS rfl (gS rfl (gS rfl (gS rfl g0))))))) (gS rfl (gS rfl (gS rfl (gS rfl (gS rfl (gS rfl g0)))))) (gS rfl (gS rfl (gS rfl (gS rfl (gS rfl g0))))) (gS rfl (gS rfl (gS rfl (gS rfl g0)))) (gS rfl (gS rfl (gS rfl g0))) g0 (fun g => ?_)
                exact hK7 ((r')) _ _ (by omega) ⟨g, _, (P ++ [(l[P.length] ^^^ 0)]), r', rfl, rfl, by simp; omega, dig_next hPd (dg_in (i := P.length) hbv.dig (by omega)) (dg_out (i := P.length) hbv1.dig (by omega)).symm (by rw [bop, if_neg ho4, if_neg ho5, if_pos ho]), get_next hPg (by omega) s1 (dg_in (i := P.length) hbv.dig (by omega)) (dg_out (i := P.length) hbv1.dig (by omega)).symm (by rw [bop, if_neg ho4, if_neg ho5, if_pos ho]), k3, V7⟩
              · skip
                
                have ho6 : ¬ o = 24 := by have := of_decide_eq_false cB6; omega
                refine c_seq (fun K47 hK47 => ?_)
                refine c_region ?_
                refine l_step (y_eql (et (gS rfl g0) rfl) rfl) ?_
                refine l_step (y_assignV (et g0 rfl)) ?_
                refine l_nil ?_
                refine hK47 _ _ ?_
                refine fg9 0 1 2 7 13 14 8 9 58 (gS rfl (gS rfl (gS rfl (gS rfl (gS rfl (gS rfl (gS rfl (gS rfl (gS rfl (gS rfl (gS rfl (gS rfl g0)))))))))))) (gS rfl (gS rfl (gS rfl (gS rfl (gS rfl (gS rfl (gS rfl (gS rfl (gS rfl (gS rfl (gS rfl g0))))))))))) (gS rfl (gS rfl (gS rfl (gS rfl (gS rfl (gS rfl (gS rfl (gS rfl (gS rfl (gS rfl g0)))))))))) (gS rfl (gS rfl (gS rfl (gS rfl (gS rfl (gS rfl (gS rfl (gS rfl (gS rfl g0))))))))) (gS rfl (gS rfl (gS rfl (gS rfl (gS rfl (gS rfl (gS rfl (gS rfl g0)))))))) (gS rfl (gS rfl (gS rfl (gS rfl (gS rfl (gS rfl (gS rfl g0))))))) (gS rfl (gS rfl (gS rfl (gS rfl (gS rfl (gS rfl g0)))))) (gS rfl (gS rfl (gS rfl (gS rfl (gS rfl g0))))) g0 (fun g => ?_)
                refine c_true (et g0 rfl) (by exact decide_eq_true (show ((o : Nat) : Int) = 25 by omega)) ?_
                refine c_region ?_
                refine l_step (y_moveV (et (gS rfl (gS rfl (gS rfl (gS rfl (gS rfl g0))))) rfl)) ?_
                refine l_step (y_moveV (et (gS rfl (gS rfl (gS rfl g0))) rfl)) ?_
                refine l_step (y_moveV (et (gS rfl (gS rfl (gS rfl g0))) rfl)) ?_
                refine l_step (y_not8 (et g0 rfl) ?_) ?_
                omega
                refine l_step (y_idxSa rfl Hvaa.underlying95 sz_5 (et (gS rfl (gS rfl (gS rfl g0))) rfl) (et (gS rfl (gS rfl g0)) rfl) ?_) ?_
                omega
                refine l_effN (e_store sz_5 (et g0 rfl) (cellsV (et (gS rfl g0) rfl) rfl) rfl (by first | exact one_bL _ | exact one_uL _ | (intro v hv; simp at hv; subst hv; rfl)) k3 (by (simp only [List.size_toArray, length_bL, List.length_append, List.length_cons, List.length_replicate]; omega))) (fun v49 w49 h49 => ?_)
                obtain ⟨rfl, x49⟩ := h49
                replace k3 := x49.blk
                replace G := G.wr x49 (by first | exact .inr f3 | omega | (simp; omega)) nb3
                replace V7 := V7.wr x49 (by first | exact .inr f3 | omega | (simp; omega)) nb3
                replace hF := G.fz
                replace U := U.st x49 f3
                replace k3 := Blk.setB k3 (by omega)
                replace k3 : Blk w49 b3 (bL ((P ++ [(255 - l[P.length])]) ++ List.replicate r' 0)).toArray := by simpa using k3
                refine l_nil ?_
                refine hQ37 _ _ _ (in_normal ?_)
                refine hQ12 _ _ _ (in_normal ?_)
                refine hK11 _ _ ?_
                refine fg6 0 1 2 7 13 14 (gS rfl (gS rfl (gS rfl (gS rfl (gS rfl (gS rfl (gS rfl (gS rfl (gS rfl (gS rfl (gS rfl (gS rfl (gS rfl g0))))))))))))) (gS rfl (gS rfl (gS rfl (gS rfl (gS rfl (gS rfl (gS rfl (gS rfl (gS rfl (gS rfl (gS rfl (gS rfl g0)))))))))))) (gS rfl (gS rfl (gS rfl (gS rfl (gS rfl (gS rfl (gS rfl (gS rfl (gS rfl (gS rfl (gS rfl g0))))))))))) (gS rfl (gS rfl (gS rfl (gS rfl (gS rfl (gS rfl (gS rfl (gS rfl (gS rfl (gS rfl g0)))))))))) (gS rfl (gS rfl (gS rfl (gS rfl (gS rfl (gS rfl (gS rfl (gS rfl (gS rfl g0))))))))) (gS rfl (gS rfl (gS rfl (gS rfl (gS rfl (gS rfl (gS rfl (gS rfl g0)))))))) (fun g => ?_)
                refine c_region ?_
                refine l_step (y_add (et g0 rfl) rfl ((addIN (y := 1) ?_).trans (castE (show P.length + 1 = (P ++ [(255 - l[P.length])]).length by simp)))) ?_
                omega
                refine l_step (y_moveV (et g0 rfl)) ?_
                refine l_nil ?_
                refine fK6 0 1 2 7 13 14 (gS rfl (gS rfl (gS rfl (gS rfl (gS rfl (gS rfl (gS rfl g0))))))) (gS rfl (gS rfl (gS rfl (gS rfl (gS rfl (gS rfl g0)))))) (gS rfl (gS rfl (gS rfl (gS rfl (gS rfl g0))))) (gS rfl (gS rfl (gS rfl (gS rfl g0)))) (gS rfl (gS rfl (gS rfl g0))) g0 (fun g => ?_)
                exact hK7 ((r')) _ _ (by omega) ⟨g, _, (P ++ [(255 - l[P.length])]), r', rfl, rfl, by simp; omega, dig_next hPd (dg_in (i := P.length) hbv.dig (by omega)) (dg_out (i := P.length) hbv1.dig (by omega)).symm (by rw [bop, if_neg ho4, if_neg ho5, if_neg ho6]), get_next hPg (by omega) s1 (dg_in (i := P.length) hbv.dig (by omega)) (dg_out (i := P.length) hbv1.dig (by omega)).symm (by rw [bop, if_neg ho4, if_neg ho5, if_neg ho6]), k3, V7⟩
      · skip
        simp only [decide_eq_true_eq, decide_eq_false_iff_not, Int.not_lt, Int.not_le, Bool.not_eq_true', Bool.not_eq_false', Bool.not_eq_eq_eq_not, Bool.not_true, Bool.not_false] at cB2
        refine c_skip ?_
        refine hK16 _ _ ?_
        refine fg9 0 1 2 7 13 14 8 9 10 (gS rfl (gS rfl (gS rfl (gS rfl (gS rfl (gS rfl (gS rfl (gS rfl (gS rfl g0))))))))) (gS rfl (gS rfl (gS rfl (gS rfl (gS rfl (gS rfl (gS rfl (gS rfl g0)))))))) (gS rfl (gS rfl (gS rfl (gS rfl (gS rfl (gS rfl (gS rfl g0))))))) (gS rfl (gS rfl (gS rfl (gS rfl (gS rfl (gS rfl g0)))))) (gS rfl (gS rfl (gS rfl (gS rfl (gS rfl g0))))) (gS rfl (gS rfl (gS rfl (gS rfl g0)))) (gS rfl (gS rfl (gS rfl g0))) (gS rfl (gS rfl g0)) (gS rfl g0) (fun g => ?_)
        refine c_seq (fun K50 hK50 => ?_)
        refine c_seq (fun K51 hK51 => ?_)
        refine c_region ?_
        refine l_step (y_moveV (et (gS rfl (gS rfl g0)) rfl)) ?_
        refine l_step (y_moveV (et (gS rfl (gS rfl (gS rfl (gS rfl (gS rfl (gS rfl (gS rfl g0))))))) rfl)) ?_
        refine l_step (y_len Hvaa.underlying95 (et g0 rfl)) ?_
        refine l_step (y_lss (et (gS rfl (gS rfl g0)) rfl) (et g0 rfl)) ?_
        refine l_nil ?_
        refine hK51 _ _ ?_
        refine fg10 0 1 2 7 13 14 8 9 10 28 (gS rfl (gS rfl (gS rfl (gS rfl (gS rfl (gS rfl (gS rfl (gS rfl (gS rfl (gS rfl (gS rfl (gS rfl g0)))))))))))) (gS rfl (gS rfl (gS rfl (gS rfl (gS rfl (gS rfl (gS rfl (gS rfl (gS rfl (gS rfl (gS rfl g0))))))))))) (gS rfl (gS rfl (gS rfl (gS rfl (gS rfl (gS rfl (gS rfl (gS rfl (gS rfl (gS rfl g0)))))))))) (gS rfl (gS rfl (gS rfl (gS rfl (gS rfl (gS rfl (gS rfl (gS rfl (gS rfl g0))))))))) (gS rfl (gS rfl (gS rfl (gS rfl (gS rfl (gS rfl (gS rfl (gS rfl g0)))))))) (gS rfl (gS rfl (gS rfl (gS rfl (gS rfl (gS rfl (gS rfl g0))))))) (gS rfl (gS rfl (gS rfl (gS rfl (gS rfl (gS rfl g0)))))) (gS rfl (gS rfl (gS rfl (gS rfl (gS rfl g0))))) (gS rfl (gS rfl (gS rfl (gS rfl g0)))) g0 (fun g => ?_)
        refine c_cond (et g0 rfl) (fun cB3 => ?_) (fun cB3 => ?_)
        · skip
          simp only [decide_eq_true_eq, decide_eq_false_iff_not, Int.not_lt, Int.not_le, Bool.not_eq_true', Bool.not_eq_false', Bool.not_eq_eq_eq_not, Bool.not_true, Bool.not_false] at cB3
          refine c_region ?_
          refine l_step (y_moveV (et (gS rfl (gS rfl (gS rfl (gS rfl (gS rfl (gS rfl (gS rfl g0))))))) rfl)) ?_
          refine l_step (y_moveV (et (gS rfl (gS rfl (gS rfl (gS rfl g0)))) rfl)) ?_
          obtain ⟨bb, ob, hb, hb1, hr1⟩ := (show WV _ W7 (.slice a1 l1.length c1) l1 from hbv1.wv hF).at (by omega)
          have hyd := hbv1.dig _ (List.getElem_mem (l := l1) (n := P.length) (by omega))
          refine l_step (y_idxSa hb Hvaa.underlying95 sz_5 (et (gS rfl g0) rfl) (et g0 rfl) ?_) ?_
          omega
          refine l_step (y_load1 one_5 (et g0 rfl) (at1 (row_byte hr1 (by omega)))) ?_
          refine l_step (y_assignV (et g0 rfl)) ?_
          refine l_nil ?_
          refine hK50 _ _ ?_
          refine fg9 0 1 2 7 13 14 8 9 10 (gS rfl (gS rfl (gS rfl (gS rfl (gS rfl (gS rfl (gS rfl (gS rfl (gS rfl (gS rfl (gS rfl (gS rfl (gS rfl (gS rfl g0)))))))))))))) (gS rfl (gS rfl (gS rfl (gS rfl (gS rfl (gS rfl (gS rfl (gS rfl (gS rfl (gS rfl (gS rfl (gS rfl (gS rfl g0))))))))))))) (gS rfl (gS rfl (gS rfl (gS rfl (gS rfl (gS rfl (gS rfl (gS rfl (gS rfl (gS rfl (gS rfl (gS rfl g0)))))))))))) (gS rfl (gS rfl (gS rfl (gS rfl (gS rfl (gS rfl (gS rfl (gS rfl (gS rfl (gS rfl (gS rfl g0))))))))))) (gS rfl (gS rfl (gS rfl (gS rfl (gS rfl (gS rfl (gS rfl (gS rfl (gS rfl (gS rfl g0)))))))))) (gS rfl (gS rfl (gS rfl (gS rfl (gS rfl (gS rfl (gS rfl (gS rfl (gS rfl g0))))))))) (gS rfl (gS rfl (gS rfl (gS rfl (gS rfl (gS rfl (gS rfl (gS rfl g0)))))))) (gS rfl (gS rfl (gS rfl (gS rfl (gS rfl (gS rfl (gS rfl g0))))))) g0 (fun g => ?_)
          refine c_seq (fun K53 hK53 => ?_)
          refine c_region ?_
          refine l_step (y_moveV (et (gS rfl (gS rfl (gS rfl (gS rfl (gS rfl (gS rfl (gS rfl (gS rfl g0)))))))) rfl)) ?_
          refine l_nil ?_
          refine hK53 _ _ ?_
          refine c_block (fun Q54 hQ54 => ?_)
          refine c_seq (fun K55 hK55 => ?_)
          refine c_region ?_
          refine l_step (y_eql (et g0 rfl) rfl) ?_
          refine l_step (y_assignV (et g0 rfl)) ?_
          refine l_nil ?_
          refine hK55 _ _ ?_
          refine fg11 0 1 2 7 13 14 8 9 10 33 34 (gS rfl (gS rfl (gS rfl (gS rfl (gS rfl (gS rfl (gS rfl (gS rfl (gS rfl (gS rfl (gS rfl g0))))))))))) (gS rfl (gS rfl (gS rfl (gS rfl (gS rfl (gS rfl (gS rfl (gS rfl (gS rfl (gS rfl g0)))))))))) (gS rfl (gS rfl (gS rfl (gS rfl (gS rfl (gS rfl (gS rfl (gS rfl (gS rfl g0))))))))) (gS rfl (gS rfl (gS rfl (gS rfl (gS rfl (gS rfl (gS rfl (gS rfl g0)))))))) (gS rfl (gS rfl (gS rfl (gS rfl (gS rfl (gS rfl (gS rfl g0))))))) (gS rfl (gS rfl (gS rfl (gS rfl (gS rfl (gS rfl g0)))))) (gS rfl (gS rfl (gS rfl (gS rfl (gS rfl g0))))) (gS rfl (gS rfl (gS rfl (gS rfl g0)))) (gS rfl (gS rfl (gS rfl g0))) (gS rfl (gS rfl g0)) g0 (fun g => ?_)
          refine c_cond (et g0 rfl) (fun cB4 => ?_) (fun cB4 => ?_)
          · skip
            
            have ho : o = 22 := by have := of_decide_eq_true cB4; omega
            refine c_region ?_
            refine l_step (y_moveV (et (gS rfl (gS rfl (gS rfl (gS rfl (gS rfl (gS rfl (gS rfl g0))))))) rfl)) ?_
            refine l_step (y_moveV (et (gS rfl (gS rfl (gS rfl (gS rfl (gS rfl g0))))) rfl)) ?_
            refine l_step (y_moveV (et (gS rfl (gS rfl (gS rfl (gS rfl (gS rfl g0))))) rfl)) ?_
            refine l_step (y_moveV (et (gS rfl (gS rfl (gS rfl (gS rfl (gS rfl g0))))) rfl)) ?_
            refine l_step (y_and (m := 0) uk8 (et (gS rfl g0) rfl) (et g0 rfl) ?_ ?_) ?_
            omega
            omega
            refine l_step (y_idxSa rfl Hvaa.underlying95 sz_5 (et (gS rfl (gS rfl (gS rfl (gS rfl g0)))) rfl) (et (gS rfl (gS rfl (gS rfl g0))) rfl) ?_) ?_
            omega
            refine l_effN (e_store sz_5 (et g0 rfl) (cellsV (et (gS rfl g0) rfl) rfl) rfl (by first | exact one_bL _ | exact one_uL _ | (intro v hv; simp at hv; subst hv; rfl)) k3 (by (simp only [List.size_toArray, length_bL, List.length_append, List.length_cons, List.length_replicate]; omega))) (fun v57 w57 h57 => ?_)
            obtain ⟨rfl, x57⟩ := h57
            replace k3 := x57.blk
            replace G := G.wr x57 (by first | exact .inr f3 | omega | (simp; omega)) nb3
            replace V7 := V7.wr x57 (by first | exact .inr f3 | omega | (simp; omega)) nb3
            replace hF := G.fz
            replace U := U.st x57 f3
            replace k3 := Blk.setB k3 (by omega)
            replace k3 : Blk w57 b3 (bL ((P ++ [(0 &&& l1[P.length])]) ++ List.replicate r' 0)).toArray := by simpa using k3
            refine l_nil ?_
            refine hQ54 _ _ _ (in_normal ?_)
            refine hQ12 _ _ _ (in_normal ?_)
            refine hK11 _ _ ?_
            refine fg6 0 1 2 7 13 14 (gS rfl (gS rfl (gS rfl (gS rfl (gS rfl (gS rfl (gS rfl (gS rfl (gS rfl (gS rfl (gS rfl (gS rfl (gS rfl (gS rfl (gS rfl (gS rfl g0)))))))))))))))) (gS rfl (gS rfl (gS rfl (gS rfl (gS rfl (gS rfl (gS rfl (gS rfl (gS rfl (gS rfl (gS rfl (gS rfl (gS rfl (gS rfl (gS rfl g0))))))))))))))) (gS rfl (gS rfl (gS rfl (gS rfl (gS rfl (gS rfl (gS rfl (gS rfl (gS rfl (gS rfl (gS rfl (gS rfl (gS rfl (gS rfl g0)))))))))))))) (gS rfl (gS rfl (gS rfl (gS rfl (gS rfl (gS rfl (gS rfl (gS rfl (gS rfl (gS rfl (gS rfl (gS rfl (gS rfl g0))))))))))))) (gS rfl (gS rfl (gS rfl (gS rfl (gS rfl (gS rfl (gS rfl (gS rfl (gS rfl (gS rfl (gS rfl (gS rfl g0)))))))))))) (gS rfl (gS rfl (gS rfl (gS rfl (gS rfl (gS rfl (gS rfl (gS rfl (gS rfl (gS rfl (gS rfl g0))))))))))) (fun g => ?_)
            refine c_region ?_
            refine l_step (y_add (et g0 rfl) rfl ((addIN (y := 1) ?_).trans (castE (show P.length + 1 = (P ++ [(0 &&& l1[P.length])]).length by simp)))) ?_
            omega
            refine l_step (y_moveV (et g0 rfl)) ?_
            refine l_nil ?_
            refine fK6 0 1 2 7 13 14 (gS rfl (gS rfl (gS rfl (gS rfl (gS rfl (gS rfl (gS rfl g0))))))) (gS rfl (gS rfl (gS rfl (gS rfl (gS rfl (gS rfl g0)))))) (gS rfl (gS rfl (gS rfl (gS rfl (gS rfl g0))))) (gS rfl (gS rfl (gS rfl (gS rfl g0)))) (gS rfl (gS rfl (gS rfl g0))) g0 (fun g => ?_)
            exact hK7 ((r')) _ _ (by omega) ⟨g, _, (P ++ [(0 &&& l1[P.length])]), r', rfl, rfl, by simp; omega, dig_next hPd (dg_out (i := P.length) hbv.dig (by omega)).symm (dg_in (i := P.length) hbv1.dig (by omega)) (by rw [bop, if_pos ho]), get_next hPg (by omega) s1 (dg_out (i := P.length) hbv.dig (by omega)).symm (dg_in (i := P.length) hbv1.dig (by omega)) (by rw [bop, if_pos ho]), k3, V7⟩
          · skip
            
            have ho4 : ¬ o = 22 := by have := of_decide_eq_false cB4; omega
            refine c_seq (fun K58 hK58 => ?_)
            refine c_region ?_
            refine l_step (y_eql (et (gS rfl g0) rfl) rfl) ?_
            refine l_step (y_assignV (et g0 rfl)) ?_
            refine l_nil ?_
            refine hK58 _ _ ?_
            refine fg11 0 1 2 7 13 14 8 9 10 33 42 (gS rfl (gS rfl (gS rfl (gS rfl (gS rfl (gS rfl (gS rfl (gS rfl (gS rfl (gS rfl (gS rfl (gS rfl g0)))))))))))) (gS rfl (gS rfl (gS rfl (gS rfl (gS rfl (gS rfl (gS rfl (gS rfl (gS rfl (gS rfl (gS rfl g0))))))))))) (gS rfl (gS rfl (gS rfl (gS rfl (gS rfl (gS rfl (gS rfl (gS rfl (gS rfl (gS rfl g0)))))))))) (gS rfl (gS rfl (gS rfl (gS rfl (gS rfl (gS rfl (gS rfl (gS rfl (gS rfl g0))))))))) (gS rfl (gS rfl (gS rfl (gS rfl (gS rfl (gS rfl (gS rfl (gS rfl g0)))))))) (gS rfl (gS rfl (gS rfl (gS rfl (gS rfl (gS rfl (gS rfl g0))))))) (gS rfl (gS rfl (gS rfl (gS rfl (gS rfl (gS rfl g0)))))) (gS rfl (gS rfl (gS rfl (gS rfl (gS rfl g0))))) (gS rfl (gS rfl (gS rfl (gS rfl g0)))) (gS rfl (gS rfl (gS rfl g0))) g0 (fun g => ?_)
            refine c_cond (et g0 rfl) (fun cB5 => ?_) (fun cB5 => ?_)
            · skip
              
              have ho : o = 23 := by have := of_decide_eq_true cB5; omega
              refine c_region ?_
              refine l_step (y_moveV (et (gS rfl (gS rfl (gS rfl (gS rfl (gS rfl (gS rfl (gS rfl g0))))))) rfl)) ?_
              refine l_step (y_moveV (et (gS rfl (gS rfl (gS rfl (gS rfl (gS rfl g0))))) rfl)) ?_
              refine l_step (y_moveV (et (gS rfl (gS rfl (gS rfl (gS rfl (gS rfl g0))))) rfl)) ?_
              refine l_step (y_moveV (et (gS rfl (gS rfl (gS rfl (gS rfl (gS rfl g0))))) rfl)) ?_
              refine l_step (y_or (m := 0) uk8 (et (gS rfl g0) rfl) (et g0 rfl) ?_ ?_) ?_
              omega
              omega
              refine l_step (y_idxSa rfl Hvaa.underlying95 sz_5 (et (gS rfl (gS rfl (gS rfl (gS rfl g0)))) rfl) (et (gS rfl (gS rfl (gS rfl g0))) rfl) ?_) ?_
              omega
              refine l_effN (e_store sz_5 (et g0 rfl) (cellsV (et (gS rfl g0) rfl) rfl) rfl (by first | exact one_bL _ | exact one_uL _ | (intro v hv; simp at hv; subst hv; rfl)) k3 (by (simp only [List.size_toArray, length_bL, List.length_append, List.length_cons, List.length_replicate]; omega))) (fun v60 w60 h60 => ?_)
              obtain ⟨rfl, x60⟩ := h60
              replace k3 := x60.blk
              replace G := G.wr x60 (by first | exact .inr f3 | omega | (simp; omega)) nb3
              replace V7 := V7.wr x60 (by first | exact .inr f3 | omega | (simp; omega)) nb3
              replace hF := G.fz
              replace U := U.st x60 f3
              replace k3 := Blk.setB k3 (by omega)
              replace k3 : Blk w60 b3 (bL ((P ++ [(0 ||| l1[P.length])]) ++ List.replicate r' 0)).toArray := by simpa using k3
              refine l_nil ?_
              refine hQ54 _ _ _ (in_normal ?_)
              refine hQ12 _ _ _ (in_normal ?_)
              refine hK11 _ _ ?_
              refine fg6 0 1 2 7 13 14 (gS rfl (gS rfl (gS rfl (gS rfl (gS rfl (gS rfl (gS rfl (gS rfl (gS rfl (gS rfl (gS rfl (gS rfl (gS rfl (gS rfl (gS rfl (gS rfl g0)))))))))))))))) (gS rfl (gS rfl (gS rfl (gS rfl (gS rfl (gS rfl (gS rfl (gS rfl (gS rfl (gS rfl (gS rfl (gS rfl (gS rfl (gS rfl (gS rfl g0))))))))))))))) (gS rfl (gS rfl (gS rfl (gS rfl (gS rfl (gS rfl (gS rfl (gS rfl (gS rfl (gS rfl (gS rfl (gS rfl (gS rfl (gS rfl g0)))))))))))))) (gS rfl (gS rfl (gS rfl (gS rfl (gS rfl (gS rfl (gS rfl (gS rfl (gS rfl (gS rfl (gS rfl (gS rfl (gS rfl g0))))))))))))) (gS rfl (gS rfl (gS rfl (gS rfl (gS rfl (gS rfl (gS rfl (gS rfl (gS rfl (gS rfl (gS rfl (gS rfl g0)))))))))))) (gS rfl (gS rfl (gS rfl (gS rfl (gS rfl (gS rfl (gS rfl (gS rfl (gS rfl (gS rfl (gS rfl g0))))))))))) (fun g => ?_)
              refine c_region ?_
              refine l_step (y_add (et g0 rfl) rfl ((addIN (y := 1) ?_).trans (castE (show P.length + 1 = (P ++ [(0 ||| l1[P.length])]).length by simp)))) ?_
              omega
              refine l_step (y_moveV (et g0 rfl)) ?_
              refine l_nil ?_
              refine fK6 0 1 2 7 13 14 (gS rfl (gS rfl (gS rfl (gS rfl (gS rfl (gS rfl (gS rfl g0))))))) (gS rfl (gS rfl (gS rfl (gS rfl (gS rfl (gS rfl g0)))))) (gS rfl (gS rfl (gS rfl (gS rfl (gS rfl g0))))) (gS rfl (gS rfl (gS rfl (gS rfl g0)))) (gS rfl (gS rfl (gS rfl g0))) g0 (fun g => ?_)
              exact hK7 ((r')) _ _ (by omega) ⟨g, _, (P ++ [(0 ||| l1[P.length])]), r', rfl, rfl, by simp; omega, dig_next hPd (dg_out (i := P.length) hbv.dig (by omega)).symm (dg_in (i := P.length) hbv1.dig (by omega)) (by rw [bop, if_neg ho4, if_pos ho]), get_next hPg (by omega) s1 (dg_out (i := P.length) hbv.dig (by omega)).symm (dg_in (i := P.length) hbv1.dig (by omega)) (by rw [bop, if_neg ho4, if_pos ho]), k3, V7⟩
            · skip
              
              have ho5 : ¬ o = 23 := by have := of_decide_eq_false cB5; omega
              refine c_seq (fun K61 hK61 => ?_)
              refine c_region ?_
              refine l_step (y_eql (et (gS rfl g0) rfl) rfl) ?_
              refine l_step (y_assignV (et g0 rfl)) ?_
              refine l_nil ?_
              refine hK61 _ _ ?_
              refine fg11 0 1 2 7 13 14 8 9 10 33 50 (gS rfl (gS rfl (gS rfl (gS rfl (gS rfl (gS rfl (gS rfl (gS rfl (gS rfl (gS rfl (gS rfl (gS rfl g0)))))))))))) (gS rfl (gS rfl (gS rfl (gS rfl (gS rfl (gS rfl (gS rfl (gS rfl (gS rfl (gS rfl (gS rfl g0))))))))))) (gS rfl (gS rfl (gS rfl (gS rfl (gS rfl (gS rfl (gS rfl (gS rfl (gS rfl (gS rfl g0)))))))))) (gS rfl (gS rfl (gS rfl (gS rfl (gS rfl (gS rfl (gS rfl (gS rfl (gS rfl g0))))))))) (gS rfl (gS rfl (gS rfl (gS rfl (gS rfl (gS rfl (gS rfl (gS rfl g0)))))))) (gS rfl (gS rfl (gS rfl (gS rfl (gS rfl (gS rfl (gS rfl g0))))))) (gS rfl (gS rfl (gS rfl (gS rfl (gS rfl (gS rfl g0)))))) (gS rfl (gS rfl (gS rfl (gS rfl (gS rfl g0))))) (gS rfl (gS rfl (gS rfl (gS rfl g0)))) (gS rfl (gS rfl (gS rfl g0))) g0 (fun g => ?_)
              refine c_cond (et g0 rfl) (fun cB6 => ?_) (fun cB6 => ?_)
              · skip
                
                have ho : o = 24 := by have := of_decide_eq_true cB6; omega
                refine c_region ?_
                refine l_step (y_moveV (et (gS rfl (gS rfl (gS rfl (gS rfl (gS rfl (gS rfl (gS rfl g0))))))) rfl)) ?_
                refine l_step (y_moveV (et (gS rfl (gS rfl (gS rfl (gS rfl (gS rfl g0))))) rfl)) ?_
                refine l_step (y_moveV (et (gS rfl (gS rfl (gS rfl (gS rfl (gS rfl g0))))) rfl)) ?_
                refine l_step (y_moveV (et (gS rfl (gS rfl (gS rfl (gS rfl (gS rfl g0))))) rfl)) ?_
                refine l_step (y_xor (m := 0) uk8 (et (gS rfl g0) rfl) (et g0 rfl) ?_ ?_) ?_
                omega
                omega
                refine l_step (y_idxSa rfl Hvaa.underlying95 sz_5 (et (gS rfl (gS rfl (gS rfl (gS rfl g0)))) rfl) (et (gS rfl (gS rfl (gS rfl g0))) rfl) ?_) ?_
                omega
                refine l_effN (e_store sz_5 (et g0 rfl) (cellsV (et (gS rfl g0) rfl) rfl) rfl (by first | exact one_bL _ | exact one_uL _ | (intro v hv; simp at hv; subst hv; rfl)) k3 (by (simp only [List.size_toArray, length_bL, List.length_append, List.length_cons, List.length_replicate]; omega))) (fun v63 w63 h63 => ?_)
                obtain ⟨rfl, x63⟩ := h63
                replace k3 := x63.blk
                replace G := G.wr x63 (by first | exact .inr f3 | omega | (simp; omega)) nb3
                replace V7 := V7.wr x63 (by first | exact .inr f3 | omega | (simp; omega)) nb3
                replace hF := G.fz
                replace U := U.st x63 f3
                replace k3 := Blk.setB k3 (by omega)
                replace k3 : Blk w63 b3 (bL ((P ++ [(0 ^^^ l1[P.length])]) ++ List.replicate r' 0)).toArray := by simpa using k3
                refine l_nil ?_
                refine hQ54 _ _ _ (in_normal ?_)
                refine hQ12 _ _ _ (in_normal ?_)
                refine hK11 _ _ ?_
                refine fg6 0 1 2 7 13 14 (gS rfl (gS rfl (gS rfl (gS rfl (gS rfl (gS rfl (gS rfl (gS rfl (gS rfl (gS rfl (gS rfl (gS rfl (gS rfl (gS rfl (gS rfl (gS rfl g0)))))))))))))))) (gS rfl (gS rfl (gS rfl (gS rfl (gS rfl (gS rfl (gS rfl (gS rfl (gS rfl (gS rfl (gS rfl (gS rfl (gS rfl (gS rfl (gS rfl g0))))))))))))))) (gS rfl (gS rfl (gS rfl (gS rfl (gS rfl (gS rfl (gS rfl (gS rfl (gS rfl (gS rfl (gS rfl (gS rfl (gS rfl (gS rfl g0)))))))))))))) (gS rfl (gS rfl (gS rfl (gS rfl (gS rfl (gS rfl (gS rfl (gS rfl (gS rfl (gS rfl (gS rfl (gS rfl (gS rfl g0))))))))))))) (gS rfl (gS rfl (gS rfl (gS rfl (gS rfl (gS rfl (gS rfl (gS rfl (gS rfl (gS rfl (gS rfl (gS rfl g0)))))))))))) (gS rfl (gS rfl (gS rfl (gS rfl (gS rfl (gS rfl (gS rfl (gS rfl (gS rfl (gS rfl (gS rfl g0))))))))))) (fun g => ?_)
                refine c_region ?_
                refine l_step (y_add (et g0 rfl) rfl ((addIN (y := 1) ?_).trans (castE (show P.length + 1 = (P ++ [(0 ^^^ l1[P.length])]).length by simp)))) ?_
                omega
                refine l_step (y_moveV (et g0 rfl)) ?_
                refine l_nil ?_
                refine fK6 0 1 2 7 13 14 (gS rfl (gS rfl (gS rfl (gS rfl (gS rfl (gS rfl (gS rfl g0))))))) (gS rfl (gS rfl (gS rfl (gS rfl (gS rfl (gS rfl g0)))))) (gS rfl (gS rfl (gS rfl (gS rfl (gS rfl g0))))) (gS rfl (gS rfl (gS rfl (gS rfl g0)))) (gS rfl (gS rfl (gS rfl g0))) g0 (fun g => ?_)
                exact hK7 ((r')) _ _ (by omega) ⟨g, _, (P ++ [(0 ^^^ l1[P.length])]), r', rfl, rfl, by simp; omega, dig_next hPd (dg_out (i := P.length) hbv.dig (by omega)).symm (dg_in (i := P.length) hbv1.dig (by omega)) (by rw [bop, if_neg ho4, if_neg ho5, if_pos ho]), get_next hPg (by omega) s1 (dg_out (i := P.length) hbv.dig (by omega)).symm (dg_in (i := P.length) hbv1.dig (by omega)) (by rw [bop, if_neg ho4, if_neg ho5, if_pos ho]), k3, V7⟩
              · skip
                
                have ho6 : ¬ o = 24 := by have := of_decide_eq_false cB6; omega
                refine c_seq (fun K64 hK64 => ?_)
                refine c_region ?_
                refine l_step (y_eql (et (gS rfl g0) rfl) rfl) ?_
                refine l_step (y_assignV (et g0 rfl)) ?_
                refine l_nil ?_
                refine hK64 _ _ ?_
                refine fg9 0 1 2 7 13 14 8 9 58 (gS rfl (gS rfl (gS rfl (gS rfl (gS rfl (gS rfl (gS rfl (gS rfl (gS rfl (gS rfl (gS rfl (gS rfl g0)))))))))))) (gS rfl (gS rfl (gS rfl (gS rfl (gS rfl (gS rfl (gS rfl (gS rfl (gS rfl (gS rfl (gS rfl g0))))))))))) (gS rfl (gS rfl (gS rfl (gS rfl (gS rfl (gS rfl (gS rfl (gS rfl (gS rfl (gS rfl g0)))))))))) (gS rfl (gS rfl (gS rfl (gS rfl (gS rfl (gS rfl (gS rfl (gS rfl (gS rfl g0))))))))) (gS rfl (gS rfl (gS rfl (gS rfl (gS rfl (gS rfl (gS rfl (gS rfl g0)))))))) (gS rfl (gS rfl (gS rfl (gS rfl (gS rfl (gS rfl (gS rfl g0))))))) (gS rfl (gS rfl (gS rfl (gS rfl (gS rfl (gS rfl g0)))))) (gS rfl (gS rfl (gS rfl (gS rfl (gS rfl g0))))) g0 (fun g => ?_)
                refine c_true (et g0 rfl) (by exact decide_eq_true (show ((o : Nat) : Int) = 25 by omega)) ?_
                refine c_region ?_
                refine l_step (y_moveV (et (gS rfl (gS rfl (gS rfl (gS rfl (gS rfl g0))))) rfl)) ?_
                refine l_step (y_moveV (et (gS rfl (gS rfl (gS rfl g0))) rfl)) ?_
                refine l_step (y_moveV (et (gS rfl (gS rfl (gS rfl g0))) rfl)) ?_
                refine l_step (y_not8 (m := 0) (et g0 rfl) ?_) ?_
                omega
                refine l_step (y_idxSa rfl Hvaa.underlying95 sz_5 (et (gS rfl (gS rfl (gS rfl g0))) rfl) (et (gS rfl (gS rfl g0)) rfl) ?_) ?_
                omega
                refine l_effN (e_store sz_5 (et g0 rfl) (cellsV (et (gS rfl g0) rfl) rfl) rfl (by first | exact one_bL _ | exact one_uL _ | (intro v hv; simp at hv; subst hv; rfl)) k3 (by (simp only [List.size_toArray, length_bL, List.length_append, List.length_cons, List.length_replicate]; omega))) (fun v66 w66 h66 => ?_)
                obtain ⟨rfl, x66⟩ := h66
                replace k3 := x66.blk
                replace G := G.wr x66 (by first | exact .inr f3 | omega | (simp; omega)) nb3
                replace V7 := V7.wr x66 (by first | exact .inr f3 | omega | (simp; omega)) nb3
                replace hF := G.fz
                replace U := U.st x66 f3
                replace k3 := Blk.setB k3 (by omega)
                replace k3 : Blk w66 b3 (bL ((P ++ [(255 - 0)]) ++ List.replicate r' 0)).toArray := by simpa using k3
                refine l_nil ?_
                refine hQ54 _ _ _ (in_normal ?_)
                refine hQ12 _ _ _ (in_normal ?_)
                refine hK11 _ _ ?_
                refine fg6 0 1 2 7 13 14 (gS rfl (gS rfl (gS rfl (gS rfl (gS rfl (gS rfl (gS rfl (gS rfl (gS rfl (gS rfl (gS rfl (gS rfl (gS rfl g0))))))))))))) (gS rfl (gS rfl (gS rfl (gS rfl (gS rfl (gS rfl (gS rfl (gS rfl (gS rfl (gS rfl (gS rfl (gS rfl g0)))))))))))) (gS rfl (gS rfl (gS rfl (gS rfl (gS rfl (gS rfl (gS rfl (gS rfl (gS rfl (gS rfl (gS rfl g0))))))))))) (gS rfl (gS rfl (gS rfl (gS rfl (gS rfl (gS rfl (gS rfl (gS rfl (gS rfl (gS rfl g0)))))))))) (gS rfl (gS rfl (gS rfl (gS rfl (gS rfl (gS rfl (gS rfl (gS rfl (gS rfl g0))))))))) (gS rfl (gS rfl (gS rfl (gS rfl (gS rfl (gS rfl (gS rfl (gS rfl g0)))))))) (fun g => ?_)
                refine c_region ?_
                refine l_step (y_add (et g0 rfl) rfl ((addIN (y := 1) ?_).trans (castE (show P.length + 1 = (P ++ [(255 - 0)]).length by simp)))) ?_
                omega
                refine l_step (y_moveV (et g0 rfl)) ?_
                refine l_nil ?_
                refine fK6 0 1 2 7 13 14 (gS rfl (gS rfl (gS rfl (gS rfl (gS rfl (gS rfl (gS rfl g0))))))) (gS rfl (gS rfl (gS rfl (gS rfl (gS rfl (gS rfl g0)))))) (gS rfl (gS rfl (gS rfl (gS rfl (gS rfl g0))))) (gS rfl (gS rfl (gS rfl (gS rfl g0)))) (gS rfl (gS rfl (gS rfl g0))) g0 (fun g => ?_)
                exact hK7 ((r')) _ _ (by omega) ⟨g, _, (P ++ [(255 - 0)]), r', rfl, rfl, by simp; omega, dig_next hPd (dg_out (i := P.length) hbv.dig (by omega)).symm (dg_in (i := P.length) hbv1.dig (by omega)) (by rw [bop, if_neg ho4, if_neg ho5, if_neg ho6]), get_next hPg (by omega) s1 (dg_out (i := P.length) hbv.dig (by omega)).symm (dg_in (i := P.length) hbv1.dig (by omega)) (by rw [bop, if_neg ho4, if_neg ho5, if_neg ho6]), k3, V7⟩
        · skip
          simp only [decide_eq_true_eq, decide_eq_false_iff_not, Int.not_lt, Int.not_le, Bool.not_eq_true', Bool.not_eq_false', Bool.not_eq_eq_eq_not, Bool.not_true, Bool.not_false] at cB3
          refine c_skip ?_
          refine hK50 _ _ ?_
          refine fg9 0 1 2 7 13 14 8 9 10 (gS rfl (gS rfl (gS rfl (gS rfl (gS rfl (gS rfl (gS rfl (gS rfl (gS rfl g0))))))))) (gS rfl (gS rfl (gS rfl (gS rfl (gS rfl (gS rfl (gS rfl (gS rfl g0)))))))) (gS rfl (gS rfl (gS rfl (gS rfl (gS rfl (gS rfl (gS rfl g0))))))) (gS rfl (gS rfl (gS rfl (gS rfl (gS rfl (gS rfl g0)))))) (gS rfl (gS rfl (gS rfl (gS rfl (gS rfl g0))))) (gS rfl (gS rfl (gS rfl (gS rfl g0)))) (gS rfl (gS rfl (gS rfl g0))) (gS rfl (gS rfl g0)) (gS rfl g0) (fun g => ?_)
          refine c_seq (fun K67 hK67 => ?_)
          refine c_region ?_
          refine l_step (y_moveV (et (gS rfl (gS rfl (gS rfl (gS rfl (gS rfl (gS rfl (gS rfl (gS rfl g0)))))))) rfl)) ?_
          refine l_nil ?_
          refine hK67 _ _ ?_
          refine c_block (fun Q68 hQ68 => ?_)
          refine c_seq (fun K69 hK69 => ?_)
          refine c_region ?_
          refine l_step (y_eql (et g0 rfl) rfl) ?_
          refine l_step (y_assignV (et g0 rfl)) ?_
          refine l_nil ?_
          refine hK69 _ _ ?_
          refine fg11 0 1 2 7 13 14 8 9 10 33 34 (gS rfl (gS rfl (gS rfl (gS rfl (gS rfl (gS rfl (gS rfl (gS rfl (gS rfl (gS rfl (gS rfl g0))))))))))) (gS rfl (gS rfl (gS rfl (gS rfl (gS rfl (gS rfl (gS rfl (gS rfl (gS rfl (gS rfl g0)))))))))) (gS rfl (gS rfl (gS rfl (gS rfl (gS rfl (gS rfl (gS rfl (gS rfl (gS rfl g0))))))))) (gS rfl (gS rfl (gS rfl (gS rfl (gS rfl (gS rfl (gS rfl (gS rfl g0)))))))) (gS rfl (gS rfl (gS rfl (gS rfl (gS rfl (gS rfl (gS rfl g0))))))) (gS rfl (gS rfl (gS rfl (gS rfl (gS rfl (gS rfl g0)))))) (gS rfl (gS rfl (gS rfl (gS rfl (gS rfl g0))))) (gS rfl (gS rfl (gS rfl (gS rfl g0)))) (gS rfl (gS rfl (gS rfl g0))) (gS rfl (gS rfl g0)) g0 (fun g => ?_)
          refine c_cond (et g0 rfl) (fun cB4 => ?_) (fun cB4 => ?_)
          · skip
            
            have ho : o = 22 := by have := of_decide_eq_true cB4; omega
            refine c_region ?_
            refine l_step (y_moveV (et (gS rfl (gS rfl (gS rfl (gS rfl (gS rfl (gS rfl (gS rfl g0))))))) rfl)) ?_
            refine l_step (y_moveV (et (gS rfl (gS rfl (gS rfl (gS rfl (gS rfl g0))))) rfl)) ?_
            refine l_step (y_moveV (et (gS rfl (gS rfl (gS rfl (gS rfl (gS rfl g0))))) rfl)) ?_
            refine l_step (y_moveV (et (gS rfl (gS rfl (gS rfl (gS rfl (gS rfl g0))))) rfl)) ?_
            refine l_step (y_and (m := 0) (p := 0) uk8 (et (gS rfl g0) rfl) (et g0 rfl) ?_ ?_) ?_
            omega
            omega
            refine l_step (y_idxSa rfl Hvaa.underlying95 sz_5 (et (gS rfl (gS rfl (gS rfl (gS rfl g0)))) rfl) (et (gS rfl (gS rfl (gS rfl g0))) rfl) ?_) ?_
            omega
            refine l_effN (e_store sz_5 (et g0 rfl) (cellsV (et (gS rfl g0) rfl) rfl) rfl (by first | exact one_bL _ | exact one_uL _ | (intro v hv; simp at hv; subst hv; rfl)) k3 (by (simp only [List.size_toArray, length_bL, List.length_append, List.length_cons, List.length_replicate]; omega))) (fun v71 w71 h71 => ?_)
            obtain ⟨rfl, x71⟩ := h71
            replace k3 := x71.blk
            replace G := G.wr x71 (by first | exact .inr f3 | omega | (simp; omega)) nb3
            replace V7 := V7.wr x71 (by first | exact .inr f3 | omega | (simp; omega)) nb3
            replace hF := G.fz
            replace U := U.st x71 f3
            replace k3 := Blk.setB k3 (by omega)
            replace k3 : Blk w71 b3 (bL ((P ++ [(0 &&& 0)]) ++ List.replicate r' 0)).toArray := by simpa using k3
            refine l_nil ?_
            refine hQ68 _ _ _ (in_normal ?_)
            refine hQ12 _ _ _ (in_normal ?_)
            refine hK11 _ _ ?_
            refine fg6 0 1 2 7 13 14 (gS rfl (gS rfl (gS rfl (gS rfl (gS rfl (gS rfl (gS rfl (gS rfl (gS rfl (gS rfl (gS rfl (gS rfl (gS rfl (gS rfl (gS rfl (gS rfl g0)))))))))))))))) (gS rfl (gS rfl (gS rfl (gS rfl (gS rfl (gS rfl (gS rfl (gS rfl (gS rfl (gS rfl (gS rfl (gS rfl (gS rfl (gS rfl (gS rfl g0))))))))))))))) (gS rfl (gS rfl (gS rfl (gS rfl (gS rfl (gS rfl (gS rfl (gS rfl (gS rfl (gS rfl (gS rfl (gS rfl (gS rfl (gS rfl g0)))))))))))))) (gS rfl (gS rfl (gS rfl (gS rfl (gS rfl (gS rfl (gS rfl (gS rfl (gS rfl (gS rfl (gS rfl (gS rfl (gS rfl g0))))))))))))) (gS rfl (gS rfl (gS rfl (gS rfl (gS rfl (gS rfl (gS rfl (gS rfl (gS rfl (gS rfl (gS rfl (gS rfl g0)))))))))))) (gS rfl (gS rfl (gS rfl (gS rfl (gS rfl (gS rfl (gS rfl (gS rfl (gS rfl (gS rfl (gS rfl g0))))))))))) (fun g => ?_)
            refine c_region ?_
            refine l_step (y_add (et g0 rfl) rfl ((addIN (y := 1) ?_).trans (castE (show P.length + 1 = (P ++ [(0 &&& 0)]).length by simp)))) ?_
            omega
            refine l_step (y_moveV (et g0 rfl)) ?_
            refine l_nil ?_
            refine fK6 0 1 2 7 13 14 (gS rfl (gS rfl (gS rfl (gS rfl (gS rfl (gS rfl (gS rfl g0))))))) (gS rfl (gS rfl (gS rfl (gS rfl (gS rfl (gS rfl g0)))))) (gS rfl (gS rfl (gS rfl (gS rfl (gS rfl g0))))) (gS rfl (gS rfl (gS rfl (gS rfl g0)))) (gS rfl (gS rfl (gS rfl g0))) g0 (fun g => ?_)
            exact hK7 ((r')) _ _ (by omega) ⟨g, _, (P ++ [(0 &&& 0)]), r', rfl, rfl, by simp; omega, dig_next hPd (dg_out (i := P.length) hbv.dig (by omega)).symm (dg_out (i := P.length) hbv1.dig (by omega)).symm (by rw [bop, if_pos ho]), get_next hPg (by omega) s1 (dg_out (i := P.length) hbv.dig (by omega)).symm (dg_out (i := P.length) hbv1.dig (by omega)).symm (by rw [bop, if_pos ho]), k3, V7⟩
          · skip
            
            have ho4 : ¬ o = 22 := by have := of_decide_eq_false cB4; omega
            refine c_seq (fun K72 hK72 => ?_)
            refine c_region ?_
            refine l_step (y_eql (et (gS rfl g0) rfl) rfl) ?_
            refine l_step (y_assignV (et g0 rfl)) ?_
            refine l_nil ?_
            refine hK72 _ _ ?_
            refine fg11 0 1 2 7 13 14 8 9 10 33 42 (gS rfl (gS rfl (gS rfl (gS rfl (gS rfl (gS rfl (gS rfl (gS rfl (gS rfl (gS rfl (gS rfl (gS rfl g0)))))))))))) (gS rfl (gS rfl (gS rfl (gS rfl (gS rfl (gS rfl (gS rfl (gS rfl (gS rfl (gS rfl (gS rfl g0))))))))))) (gS rfl (gS rfl (gS rfl (gS rfl (gS rfl (gS rfl (gS rfl (gS rfl (gS rfl (gS rfl g0)))))))))) (gS rfl (gS rfl (gS rfl (gS rfl (gS rfl (gS rfl (gS rfl (gS rfl (gS rfl g0))))))))) (gS rfl (gS rfl (gS rfl (gS rfl (gS rfl (gS rfl (gS rfl (gS rfl g0)))))))) (gS rfl (gS rfl (gS rfl (gS rfl (gS rfl (gS rfl (gS rfl g0))))))) (gS rfl (gS rfl (gS rfl (gS rfl (gS rfl (gS rfl g0)))))) (gS rfl (gS rfl (gS rfl (gS rfl (gS rfl g0))))) (gS rfl (gS rfl (gS rfl (gS rfl g0)))) (gS rfl (gS rfl (gS rfl g0))) g0 (fun g => ?_)
            refine c_cond (et g0 rfl) (fun cB5 => ?_) (fun cB5 => ?_)
            · skip
              
              have ho : o = 23 := by have := of_decide_eq_true cB5; omega
              refine c_region ?_
              refine l_step (y_moveV (et (gS rfl (gS rfl (gS rfl (gS rfl (gS rfl (gS rfl (gS rfl g0))))))) rfl)) ?_
              refine l_step (y_moveV (et (gS rfl (gS rfl (gS rfl (gS rfl (gS rfl g0))))) rfl)) ?_
              refine l_step (y_moveV (et (gS rfl (gS rfl (gS rfl (gS rfl (gS rfl g0))))) rfl)) ?_
              refine l_step (y_moveV (et (gS rfl (gS rfl (gS rfl (gS rfl (gS rfl g0))))) rfl)) ?_
              refine l_step (y_or (m := 0) (p := 0) uk8 (et (gS rfl g0) rfl) (et g0 rfl) ?_ ?_) ?_
              omega
              omega
              refine l_step (y_idxSa rfl Hvaa.underlying95 sz_5 (et (gS rfl (gS rfl (gS rfl (gS rfl g0)))) rfl) (et (gS rfl (gS rfl (gS rfl g0))) rfl) ?_) ?_
              omega
              refine l_effN (e_store sz_5 (et g0 rfl) (cellsV (et (gS rfl g0) rfl) rfl) rfl (by first | exact one_bL _ | exact one_uL _ | (intro v hv; simp at hv; subst hv; rfl)) k3 (by (simp only [List.size_toArray, length_bL, List.length_append, List.length_cons, List.length_replicate]; omega))) (fun v74 w74 h74 => ?_)
              obtain ⟨rfl, x74⟩ := h74
              replace k3 := x74.blk
              replace G := G.wr x74 (by first | exact .inr f3 | omega | (simp; omega)) nb3
              replace V7 := V7.wr x74 (by first | exact .inr f3 | omega | (simp; omega)) nb3
              replace hF := G.fz
              replace U := U.st x74 f3
              replace k3 := Blk.setB k3 (by omega)
              replace k3 : Blk w74 b3 (bL ((P ++ [(0 ||| 0)]) ++ List.replicate r' 0)).toArray := by simpa using k3
              refine l_nil ?_
              refine hQ68 _ _ _ (in_normal ?_)
              refine hQ12 _ _ _ (in_normal ?_)
              refine hK11 _ _ ?_
              refine fg6 0 1 2 7 13 14 (gS rfl (gS rfl (gS rfl (gS rfl (gS rfl (gS rfl (gS rfl (gS rfl (gS rfl (gS rfl (gS rfl (gS rfl (gS rfl (gS rfl (gS rfl (gS rfl g0)))))))))))))))) (gS rfl (gS rfl (gS rfl (gS rfl (gS rfl (gS rfl (gS rfl (gS rfl (gS rfl (gS rfl (gS rfl (gS rfl (gS rfl (gS rfl (gS rfl g0))))))))))))))) (gS rfl (gS rfl (gS rfl (gS rfl (gS rfl (gS rfl (gS rfl (gS rfl (gS rfl (gS rfl (gS rfl (gS rfl (gS rfl (gS rfl g0)))))))))))))) (gS rfl (gS rfl (gS rfl (gS rfl (gS rfl (gS rfl (gS rfl (gS rfl (gS rfl (gS rfl (gS rfl (gS rfl (gS rfl g0))))))))))))) (gS rfl (gS rfl (gS rfl (gS rfl (gS rfl (gS rfl (gS rfl (gS rfl (gS rfl (gS rfl (gS rfl (gS rfl g0)))))))))))) (gS rfl (gS rfl (gS rfl (gS rfl (gS rfl (gS rfl (gS rfl (gS rfl (gS rfl (gS rfl (gS rfl g0))))))))))) (fun g => ?_)
              refine c_region ?_
              refine l_step (y_add (et g0 rfl) rfl ((addIN (y := 1) ?_).trans (castE (show P.length + 1 = (P ++ [(0 ||| 0)]).length by simp)))) ?_
              omega
              refine l_step (y_moveV (et g0 rfl)) ?_
              refine l_nil ?_
              refine fK6 0 1 2 7 13 14 (gS rfl (gS rfl (gS rfl (gS rfl (gS rfl (gS rfl (gS rfl g0))))))) (gS rfl (gS rfl (gS rfl (gS rfl (gS rfl (gS rfl g0)))))) (gS rfl (gS rfl (gS rfl (gS rfl (gS rfl g0))))) (gS rfl (gS rfl (gS rfl (gS rfl g0)))) (gS rfl (gS rfl (gS rfl g0))) g0 (fun g => ?_)
              exact hK7 ((r')) _ _ (by omega) ⟨g, _, (P ++ [(0 ||| 0)]), r', rfl, rfl, by simp; omega, dig_next hPd (dg_out (i := P.length) hbv.dig (by omega)).symm (dg_out (i := P.length) hbv1.dig (by omega)).symm (by rw [bop, if_neg ho4, if_pos ho]), get_next hPg (by omega) s1 (dg_out (i := P.length) hbv.dig (by omega)).symm (dg_out (i := P.length) hbv1.dig (by omega)).symm (by rw [bop, if_neg ho4, if_pos ho]), k3, V7⟩
            · skip
              
              have ho5 : ¬ o = 23 := by have := of_decide_eq_false cB5; omega
              refine c_seq (fun K75 hK75 => ?_)
              refine c_region ?_
              refine l_step (y_eql (et (gS rfl g0) rfl) rfl) ?_
              refine l_step (y_assignV (et g0 rfl)) ?_
              refine l_nil ?_
              refine hK75 _ _ ?_
              refine fg11 0 1 2 7 13 14 8 9 10 33 50 (gS rfl (gS rfl (gS rfl (gS rfl (gS rfl (gS rfl (gS rfl (gS rfl (gS rfl (gS rfl (gS rfl (gS rfl g0)))))))))))) (gS rfl (gS rfl (gS rfl (gS rfl (gS rfl (gS rfl (gS rfl (gS rfl (gS rfl (gS rfl (gS rfl g0))))))))))) (gS rfl (gS rfl (gS rfl (gS rfl (gS rfl (gS rfl (gS rfl (gS rfl (gS rfl (gS rfl g0)))))))))) (gS rfl (gS rfl (gS rfl (gS rfl (gS rfl (gS rfl (gS rfl (gS rfl (gS rfl g0))))))))) (gS rfl (gS rfl (gS rfl (gS rfl (gS rfl (gS rfl (gS rfl (gS rfl g0)))))))) (gS rfl (gS rfl (gS rfl (gS rfl (gS rfl (gS rfl (gS rfl g0))))))) (gS rfl (gS rfl (gS rfl (gS rfl (gS rfl (gS rfl g0)))))) (gS rfl (gS rfl (gS rfl (gS rfl (gS rfl g0))))) (gS rfl (gS rfl (gS rfl (gS rfl g0)))) (gS rfl (gS rfl (gS rfl g0))) g0 (fun g => ?_)
              refine c_cond (et g0 rfl) (fun cB6 => ?_) (fun cB6 => ?_)
              · skip
                
                have ho : o = 24 := by have := of_decide_eq_true cB6; omega
                refine c_region ?_
                refine l_step (y_moveV (et (gS rfl (gS rfl (gS rfl (gS rfl (gS rfl (gS rfl (gS rfl g0))))))) rfl)) ?_
                refine l_step (y_moveV (et (gS rfl (gS rfl (gS rfl (gS rfl (gS rfl g0))))) rfl)) ?_
                refine l_step (y_moveV (et (gS rfl (gS rfl (gS rfl (gS rfl (gS rfl g0))))) rfl)) ?_
                refine l_step (y_moveV (et (gS rfl (gS rfl (gS rfl (gS rfl (gS rfl g0))))) rfl)) ?_
                refine l_step (y_xor (m := 0) (p := 0) uk8 (et (gS rfl g0) rfl) (et g0 rfl) ?_ ?_) ?_
                omega
                omega
                refine l_step (y_idxSa rfl Hvaa.underlying95 sz_5 (et (gS rfl (gS rfl (gS rfl (gS rfl g0)))) rfl) (et (gS rfl (gS rfl (gS rfl g0))) rfl) ?_) ?_
                omega
                refine l_effN (e_store sz_5 (et g0 rfl) (cellsV (et (gS rfl g0) rfl) rfl) rfl (by first | exact one_bL _ | exact one_uL _ | (intro v hv; simp at hv; subst hv; rfl)) k3 (by (simp only [List.size_toArray, length_bL, List.length_append, List.length_cons, List.length_replicate]; omega))) (fun v77 w77 h77 => ?_)
                obtain ⟨rfl, x77⟩ := h77
                replace k3 := x77.blk
                replace G := G.wr x77 (by first | exact .inr f3 | omega | (simp; omega)) nb3
                replace V7 := V7.wr x77 (by first | exact .inr f3 | omega | (simp; omega)) nb3
                replace hF := G.fz
                replace U := U.st x77 f3
                replace k3 := Blk.setB k3 (by omega)
                replace k3 : Blk w77 b3 (bL ((P ++ [(0 ^^^ 0)]) ++ List.replicate r' 0)).toArray := by simpa using k3
                refine l_nil ?_
                refine hQ68 _ _ _ (in_normal ?_)
                refine hQ12 _ _ _ (in_normal ?_)
                refine hK11 _ _ ?_
                refine fg6 0 1 2 7 13 14 (gS rfl (gS rfl (gS rfl (gS rfl (gS rfl (gS rfl (gS rfl (gS rfl (gS rfl (gS rfl (gS rfl (gS rfl (gS rfl (gS rfl (gS rfl (gS rfl g0)))))))))))))))) (gS rfl (gS rfl (gS rfl (gS rfl (gS rfl (gS rfl (gS rfl (gS rfl (gS rfl (gS rfl (gS rfl (gS rfl (gS rfl (gS rfl (gS rfl g0))))))))))))))) (gS rfl (gS rfl (gS rfl (gS rfl (gS rfl (gS rfl (gS rfl (gS rfl (gS rfl (gS rfl (gS rfl (gS rfl (gS rfl (gS rfl g0)))))))))))))) (gS rfl (gS rfl (gS rfl (gS rfl (gS rfl (gS rfl (gS rfl (gS rfl (gS rfl (gS rfl (gS rfl (gS rfl (gS rfl g0))))))))))))) (gS rfl (gS rfl (gS rfl (gS rfl (gS rfl (gS rfl (gS rfl (gS rfl (gS rfl (gS rfl (gS rfl (gS rfl g0)))))))))))) (gS rfl (gS rfl (gS rfl (gS rfl (gS rfl (gS rfl (gS rfl (gS rfl (gS rfl (gS rfl (gS rfl g0))))))))))) (fun g => ?_)
                refine c_region ?_
                refine l_step (y_add (et g0 rfl) rfl ((addIN (y := 1) ?_).trans (castE (show P.length + 1 = (P ++ [(0 ^^^ 0)]).length by simp)))) ?_
                omega
                refine l_step (y_moveV (et g0 rfl)) ?_
                refine l_nil ?_
                refine fK6 0 1 2 7 13 14 (gS rfl (gS rfl (gS rfl (gS rfl (gS rfl (gS rfl (gS rfl g0))))))) (gS rfl (gS rfl (gS rfl (gS rfl (gS rfl (gS rfl g0)))))) (gS rfl (gS rfl (gS rfl (gS rfl (gS rfl g0))))) (gS rfl (gS rfl (gS rfl (gS rfl g0)))) (gS rfl (gS rfl (gS rfl g0))) g0 (fun g => ?_)
                exact hK7 ((r')) _ _ (by omega) ⟨g, _, (P ++ [(0 ^^^ 0)]), r', rfl, rfl, by simp; omega, dig_next hPd (dg_out (i := P.length) hbv.dig (by omega)).symm (dg_out (i := P.length) hbv1.dig (by omega)).symm (by rw [bop, if_neg ho4, if_neg ho5, if_pos ho]), get_next hPg (by omega) s1 (dg_out (i := P.length) hbv.dig (by omega)).symm (dg_out (i := P.length) hbv1.dig (by omega)).symm (by rw [bop, if_neg ho4, if_neg ho5, if_pos ho]), k3, V7⟩
              · skip
                
                have ho6 : ¬ o = 24 := by have := of_decide_eq_false cB6; omega
                refine c_seq (fun K78 hK78 => ?_)
                refine c_region ?_
                refine l_step (y_eql (et (gS rfl g0) rfl) rfl) ?_
                refine l_step (y_assignV (et g0 rfl)) ?_
                refine l_nil ?_
                refine hK78 _ _ ?_
                refine fg9 0 1 2 7 13 14 8 9 58 (gS rfl (gS rfl (gS rfl (gS rfl (gS rfl (gS rfl (gS rfl (gS rfl (gS rfl (gS rfl (gS rfl (gS rfl g0)))))))))))) (gS rfl (gS rfl (gS rfl (gS rfl (gS rfl (gS rfl (gS rfl (gS rfl (gS rfl (gS rfl (gS rfl g0))))))))))) (gS rfl (gS rfl (gS rfl (gS rfl (gS rfl (gS rfl (gS rfl (gS rfl (gS rfl (gS rfl g0)))))))))) (gS rfl (gS rfl (gS rfl (gS rfl (gS rfl (gS rfl (gS rfl (gS rfl (gS rfl g0))))))))) (gS rfl (gS rfl (gS rfl (gS rfl (gS rfl (gS rfl (gS rfl (gS rfl g0)))))))) (gS rfl (gS rfl (gS rfl (gS rfl (gS rfl (gS rfl (gS rfl g0))))))) (gS rfl (gS rfl (gS rfl (gS rfl (gS rfl (gS rfl g0)))))) (gS rfl (gS rfl (gS rfl (gS rfl (gS rfl g0))))) g0 (fun g => ?_)
                refine c_true (et g0 rfl) (by exact decide_eq_true (show ((o : Nat) : Int) = 25 by omega)) ?_
                refine c_region ?_
                refine l_step (y_moveV (et (gS rfl (gS rfl (gS rfl (gS rfl (gS rfl g0))))) rfl)) ?_
                refine l_step (y_moveV (et (gS rfl (gS rfl (gS rfl g0))) rfl)) ?_
                refine l_step (y_moveV (et (gS rfl (gS rfl (gS rfl g0))) rfl)) ?_
                refine l_step (y_not8 (m := 0) (et g0 rfl) ?_) ?_
                omega
                refine l_step (y_idxSa rfl Hvaa.underlying95 sz_5 (et (gS rfl (gS rfl (gS rfl g0))) rfl) (et (gS rfl (gS rfl g0)) rfl) ?_) ?_
                omega
                refine l_effN (e_store sz_5 (et g0 rfl) (cellsV (et (gS rfl g0) rfl) rfl) rfl (by first | exact one_bL _ | exact one_uL _ | (intro v hv; simp at hv; subst hv; rfl)) k3 (by (simp only [List.size_toArray, length_bL, List.length_append, List.length_cons, List.length_replicate]; omega))) (fun v80 w80 h80 => ?_)
                obtain ⟨rfl, x80⟩ := h80
                replace k3 := x80.blk
                replace G := G.wr x80 (by first | exact .inr f3 | omega | (simp; omega)) nb3
                replace V7 := V7.wr x80 (by first | exact .inr f3 | omega | (simp; omega)) nb3
                replace hF := G.fz
                replace U := U.st x80 f3
                replace k3 := Blk.setB k3 (by omega)
                replace k3 : Blk w80 b3 (bL ((P ++ [(255 - 0)]) ++ List.replicate r' 0)).toArray := by simpa using k3
                refine l_nil ?_
                refine hQ68 _ _ _ (in_normal ?_)
                refine hQ12 _ _ _ (in_normal ?_)
                refine hK11 _ _ ?_
                refine fg6 0 1 2 7 13 14 (gS rfl (gS rfl (gS rfl (gS rfl (gS rfl (gS rfl (gS rfl (gS rfl (gS rfl (gS rfl (gS rfl (gS rfl (gS rfl g0))))))))))))) (gS rfl (gS rfl (gS rfl (gS rfl (gS rfl (gS rfl (gS rfl (gS rfl (gS rfl (gS rfl (gS rfl (gS rfl g0)))))))))))) (gS rfl (gS rfl (gS rfl (gS rfl (gS rfl (gS rfl (gS rfl (gS rfl (gS rfl (gS rfl (gS rfl g0))))))))))) (gS rfl (gS rfl (gS rfl (gS rfl (gS rfl (gS rfl (gS rfl (gS rfl (gS rfl (gS rfl g0)))))))))) (gS rfl (gS rfl (gS rfl (gS rfl (gS rfl (gS rfl (gS rfl (gS rfl (gS rfl g0))))))))) (gS rfl (gS rfl (gS rfl (gS rfl (gS rfl (gS rfl (gS rfl (gS rfl g0)))))))) (fun g => ?_)
                refine c_region ?_
                refine l_step (y_add (et g0 rfl) rfl ((addIN (y := 1) ?_).trans (castE (show P.length + 1 = (P ++ [(255 - 0)]).length by simp)))) ?_
                omega
                refine l_step (y_moveV (et g0 rfl)) ?_
                refine l_nil ?_
                refine fK6 0 1 2 7 13 14 (gS rfl (gS rfl (gS rfl (gS rfl (gS rfl (gS rfl (gS rfl g0))))))) (gS rfl (gS rfl (gS rfl (gS rfl (gS rfl (gS rfl g0)))))) (gS rfl (gS rfl (gS rfl (gS rfl (gS rfl g0))))) (gS rfl (gS rfl (gS rfl (gS rfl g0)))) (gS rfl (gS rfl (gS rfl g0))) g0 (fun g => ?_)
                exact hK7 ((r')) _ _ (by omega) ⟨g, _, (P ++ [(255 - 0)]), r', rfl, rfl, by simp; omega, dig_next hPd (dg_out (i := P.length) hbv.dig (by omega)).symm (dg_out (i := P.length) hbv1.dig (by omega)).symm (by rw [bop, if_neg ho4, if_neg ho5, if_neg ho6]), get_next hPg (by omega) s1 (dg_out (i := P.length) hbv.dig (by omega)).symm (dg_out (i := P.length) hbv1.dig (by omega)).symm (by rw [bop, if_neg ho4, if_neg ho5, if_neg ho6]), k3, V7⟩
    · skip
      simp only [decide_eq_true_eq, decide_eq_false_iff_not, Int.not_lt, Int.not_le, Bool.not_eq_true', Bool.not_eq_false', Bool.not_eq_eq_eq_not, Bool.not_true, Bool.not_false] at cB1
      have hr0 : r = 0 := by omega
      subst hr0
      rw [List.replicate_zero, List.append_nil] at k3
      refine c_exit ?_
      refine hQ6 _ _ _ (in_exit ?_)
      refine hK4 _ _ ?_
      refine fg1 7 (gS rfl (gS rfl (gS rfl g0))) (fun g => ?_)
      refine c_seq (fun K81 hK81 => ?_)
      refine c_region ?_
      refine l_step (y_moveV (et g0 rfl)) ?_
      have hP32 : P.length = 32 := by omega
      have hWr : WV (b3 + 1) W7 (.slice (some ⟨b3, 0, none⟩) P.length 32) P := WV.ofBlk (r := []) (by simpa [bL] using k3) hPd (by omega) (by omega) (by decide)
      have hlt7 := k3.lt
      have hnn := nat_norm hF hWr (by omega) (by omega)
      rw [hP32] at hnn
      refine l_eff (e_callV cal_123 (aC (et g0 rfl) aN) hnn) (fun v82 w82 h82 => ?_)
      obtain ⟨H82, g82, n82⟩ := h82
      have hlew82 := g82.le
      replace nb3 := g82.nb nb3 k3.lt
      replace hbv := hbv.mono hlew82
      replace hbv1 := hbv1.mono hlew82
      replace k3 := k3.up g82.up
      replace U := U.tr g82.up
      replace G := G.tr g82
      replace V7 := V7.tr g82
      replace hF := g82.fz
      refine l_step (y_assignV (et g0 rfl)) ?_
      refine l_nil ?_
      refine hK81 _ _ ?_
      refine fg1 6 g0 (fun g => ?_)
      refine c_ret ?_
      refine ret1 rfl (res_tmp (et g0 rfl)) ?_
      exact ⟨_, G, n82.to (val_digs hP32 hPd (bw_lt s1 s2) (fun i hi => hPg i (by omega)))⟩
end Go.Proofs.YgvaawGreat
