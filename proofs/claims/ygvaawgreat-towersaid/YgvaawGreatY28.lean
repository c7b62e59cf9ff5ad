import Derived.Test.YgvaawGreatY27
set_option maxRecDepth 100000
set_option maxHeartbeats 4000000
set_option linter.unusedSimpArgs false
set_option linter.unusedVariables false
namespace Go.Proofs.YgvaawGreat
open Go
theorem yp_part {w : World} {H : Store} (hF : Fz w H) {vb : Value} {l : List Nat} (hB : BV H vb l) (hl : l.length < 16777216) {off n : Nat} (ho : off < 18446744073709551616) (hn : n ≤ 1099511627776) :
    Ret 221 [vb, .int .u64 off, .int .u64 n] w (fun v w' => ∃ H', Go No w H w' H' ∧ BV H' v (cutN l off n)) := by
  refine enter (n := 13) Hvaa.func221 rfl rfl (Nat.le_of_ble_eq_true rfl) ?_
  have U := Up.refl w
  have G : Go (No) w H w H := Go.refl hF
  refine c_seq (fun K1 hK1 => ?_)
  exact (by
    refine c_region ?_
    refine l_step y_assignC ?_
    refine l_nil ?_
    refine hK1 _ _ ?_
    refine fg3 2 1 0 (gS rfl (gS rfl (gS rfl g0))) (gS rfl (gS rfl g0)) (gS rfl g0) (fun g => ?_)
    refine c_seq (fun K2 hK2 => ?_)
    exact (by
      refine c_region ?_
      refine l_step (y_moveV (et g0 rfl)) ?_
      refine l_step (y_moveV (et (gS rfl (gS rfl g0)) rfl)) ?_
      refine l_eff (e_callV cal_32 (aC (et g0 rfl) aN) (yp_num hF (ho))) (fun v3 w3 h3 => ?_)
      obtain ⟨H3, g3, n3⟩ := h3
      have hlew3 := g3.le
      replace hB := hB.mono hlew3
      replace U := U.tr g3.up
      replace G := G.tr g3
      replace hF := g3.fz
      have q3 := bd_64 (ho)
      refine l_step (y_moveV (et (gS rfl (gS rfl (gS rfl (gS rfl (gS rfl g0))))) rfl)) ?_
      refine l_eff (e_callV cal_32 (aC (et g0 rfl) aN) (yp_num hF (show n < 18446744073709551616 by omega))) (fun v4 w4 h4 => ?_)
      obtain ⟨H4, g4, n4⟩ := h4
      have hlew4 := g4.le
      replace hB := hB.mono hlew4
      replace n3 := n3.mono hlew4
      replace U := U.tr g4.up
      replace G := G.tr g4
      replace hF := g4.fz
      have q4 := bd_64 (show n < 18446744073709551616 by omega)
      refine l_eff (e_callV cal_146 (aC (et (gS rfl (gS rfl (gS rfl (gS rfl g0)))) rfl) (aC (et (gS rfl (gS rfl g0)) rfl) (aC (et g0 rfl) aN))) (yp_cut hF hB (by omega) n3 n4 (bd_sm q3 (by decide)) (by omega))) (fun v5 w5 h5 => ?_)
      obtain ⟨H5, g5, b5⟩ := h5
      have hlew5 := g5.le
      replace hB := hB.mono hlew5
      replace n3 := n3.mono hlew5
      replace n4 := n4.mono hlew5
      replace U := U.tr g5.up
      replace G := G.tr g5
      replace hF := g5.fz
      refine l_step (y_assignV (et g0 rfl)) ?_
      refine l_nil ?_
      refine hK2 _ _ ?_
      refine fg1 6 g0 (fun g => ?_)
      refine c_ret ?_
      repeat with_reducible refine then_ret ?_
      refine ret1 rfl (res_tmp (et g0 rfl)) ?_
      exact ⟨_, G, b5⟩))
theorem bl_bytes {x n : Nat} (h : x < 256 ^ n) : bitLen x ≤ 8 * n := bl_le x (8 * n) (by rw [Nat.pow_mul]; exact h)
theorem bl_eq {x k : Nat} (h1 : x < 2 ^ k) (h2 : k = 0 ∨ x / 2 ^ (k - 1) % 2 = 1) : bitLen x = k := by
  have hle := bl_le x k h1
  rcases h2 with h2 | h2
  · omega
  · have hx : x ≠ 0 := fun e => by rw [e, Nat.zero_div] at h2; cases h2
    have hb := bl_two x hx
    have hp := bl_pos x hx
    rcases Nat.lt_or_ge (bitLen x) k with hlt | hge
    · exfalso
      have : x < 2 ^ (k - 1) := Nat.lt_of_lt_of_le hb.2 (Nat.pow_le_pow_right (by decide) (by omega))
      rw [Nat.div_eq_of_lt this] at h2
      cases h2
    · omega
theorem bit_down {x k : Nat} (h1 : x < 2 ^ k) (hk : 0 < k) (h2 : ¬ x / 2 ^ (k - 1) % 2 = 1) : x < 2 ^ (k - 1) := by
  have e : 2 ^ k = 2 ^ (k - 1) * 2 := by rw [← Nat.pow_succ]; congr 1; omega
  have : x / 2 ^ (k - 1) < 2 := Nat.div_lt_of_lt_mul (by rw [← e]; exact h1)
  have h3 : x / 2 ^ (k - 1) = 0 := by generalize x / 2 ^ (k - 1) = y at this h2; omega
  exact (Nat.div_eq_zero_iff.1 h3).resolve_left (Nat.ne_of_gt (Nat.two_pow_pos _))
theorem yp_bits {w : World} {H : Store} (hF : Fz w H) {v1 : Value} {x : Nat} (h1 : NV H v1 x) (s1 : x < 256 ^ 64) :
    Ret 220 [v1] w (fun v w' => v = .int .u64 (bitLen x : Nat) ∧ Up w w') := by
  obtain ⟨l, a, c, rfl, hbv, hvx, ht, hl200, hlc, hc63⟩ := h1.len (bd_sm s1 (by decide))
  have hl64 : l.length ≤ 64 := tr_len ht (by rw [hvx]; exact s1)
  have hx0 : x < 2 ^ (8 * l.length) := by rw [← hvx, Nat.pow_mul]; exact val_lt hbv.dig
  refine enter (n := 21) Hvaa.func220 rfl rfl (Nat.le_of_ble_eq_true rfl) ?_
  have U := Up.refl w
  have G : Go (No) w H w H := Go.refl hF
  refine c_seq (fun K1 hK1 => ?_)
  exact (by
    refine c_region ?_
    refine l_step y_assignC ?_
    refine l_nil ?_
    refine hK1 _ _ ?_
    refine fg1 0 (gS rfl g0) (fun g => ?_)
    refine c_seq (fun K2 hK2 => ?_)
    exact (by
      refine c_region ?_
      refine l_step (y_moveV (et g0 rfl)) ?_
      refine l_step (y_len Hvaa.underlying95 (et g0 rfl)) ?_
      refine l_step (y_mul rfl (et g0 rfl) (mulIN (x := 8) ?_)) ?_
      omega
      refine l_step (y_assignV (et g0 rfl)) ?_
      refine l_nil ?_
      refine hK2 _ _ ?_
      refine fg2 0 3 (gS rfl (gS rfl (gS rfl (gS rfl g0)))) g0 (fun g => ?_)
      refine c_seq (fun K3 hK3 => ?_)
      refine c_block (fun Q4 hQ4 => ?_)
      refine fg2 0 3 (gS rfl g0) g0 (fun g => ?_)
      refine c_loop (fun k_ s_ W5 => ∃ (g : Nat → Value) (Hk5 : Store) (k : Nat), s_ = (upd (upd g 0 (.slice a l.length c)) 3 (.int .i64 (k : Nat))) ∧ k = k_ ∧ (k ≤ 512) ∧ (x < 2 ^ k) ∧ Go (fun k => False) w H W5 Hk5) ((8 * l.length)) ?_ ?_
      · exact ⟨g, _, 8 * l.length, rfl, rfl, by omega, hx0, Go.refl hF⟩
      · skip
        intro k_ s_ W5 hI K5 hK5
        obtain ⟨g, Hk5, k, rfl, rfl, hk, hx, V5⟩ := hI
        have hle5 := V5.le
        replace h1 := h1.mono hle5
        replace G := G.trans V5 (by intro b hb; first | exact hb.elim | omega | (simp at hb ⊢; omega))
        replace hF := V5.fz
        replace U := U.cc V5.ch (by intro b hb; first | exact hb.elim | omega | (simp at hb ⊢; omega))
        refine c_seq (fun K6 hK6 => ?_)
        refine c_seq (fun K7 hK7 => ?_)
        exact (by
          refine c_region ?_
          refine l_step (y_moveV (et g0 rfl)) ?_
          refine l_step (y_gtr (et g0 rfl) rfl) ?_
          refine l_step (y_moveV (et g0 rfl)) ?_
          refine gsplitL (i := 9) g0 (fun q8 => ?_) (fun q8 => ?_)
          · skip
            have hk0 : 0 < k := by have := of_decide_eq_true q8; omega
            refine l_gstep (j := 2) (t := 9) (by exact rfl) (by exact rfl) (et g0 rfl) (by decide) (y_moveV (et (gS rfl (gS rfl (gS rfl (gS rfl (gS rfl g0))))) rfl)) ?_
            refine l_gstep (j := 2) (t := 9) (by exact rfl) (by exact rfl) (et (gS rfl g0) rfl) (by decide) (y_moveV (et (gS rfl (gS rfl (gS rfl (gS rfl (gS rfl g0))))) rfl)) ?_
            refine l_gstep (j := 2) (t := 9) (by exact rfl) (by exact rfl) (et (gS rfl (gS rfl g0)) rfl) (by decide) (y_sub (et g0 rfl) rfl (subIN (y := 1) ?_ ?_)) ?_
            omega
            omega
            refine l_gstep (j := 2) (t := 9) (by exact rfl) (by exact rfl) (et (gS rfl (gS rfl (gS rfl g0))) rfl) (by decide) (y_conv Hvaa.underlying3 Hvaa.underlying67 (et g0 rfl) (wrapU_id uk16 ?_)) ?_
            omega
            refine l_geff (j := 2) (t := 9) (by exact rfl) (by exact rfl) (et (gS rfl (gS rfl (gS rfl (gS rfl g0)))) rfl) rfl (e_callV cal_330 (aC (et (gS rfl (gS rfl (gS rfl g0))) rfl) (aC (et g0 rfl) aN)) (nat_bit hF h1 (bd_sm s1 (by decide)) _ (show k - 1 < 65536 by omega))) (fun v9 w9 h9 => ?_)
            obtain ⟨rfl, u9⟩ := h9
            replace G := G.tr (Go.ofUp hF u9)
            replace V5 := V5.tr (Go.ofUp hF u9)
            replace hF := hF.up u9
            replace U := U.tr u9
            refine l_gstep (j := 2) (t := 9) (by exact rfl) (by exact rfl) (et (gS rfl (gS rfl (gS rfl (gS rfl (gS rfl g0))))) rfl) (by decide) (y_not (et g0 rfl)) ?_
            refine l_step (y_pickT (et (gS rfl (gS rfl (gS rfl (gS rfl (gS rfl (gS rfl g0)))))) rfl) (et g0 rfl)) ?_
            refine l_nil ?_
            refine hK7 _ _ ?_
            refine fg3 0 3 16 (gS rfl (gS rfl (gS rfl (gS rfl (gS rfl (gS rfl (gS rfl (gS rfl (gS rfl (gS rfl (gS rfl (gS rfl g0)))))))))))) (gS rfl (gS rfl (gS rfl (gS rfl (gS rfl (gS rfl (gS rfl (gS rfl (gS rfl (gS rfl (gS rfl g0))))))))))) g0 (fun g => ?_)
            refine c_cond (et g0 rfl) (fun cB1 => ?_) (fun cB1 => ?_)
            · skip
              
              have hbt : ¬ x / 2 ^ (k - 1) % 2 = 1 := by simpa using cB1
              refine c_skip ?_
              refine hK6 _ _ ?_
              refine fg2 0 3 (gS rfl (gS rfl g0)) (gS rfl g0) (fun g => ?_)
              refine c_block (fun Q11 hQ11 => ?_)
              exact (by
                refine c_region ?_
                refine l_step (y_moveV (et g0 rfl)) ?_
                refine l_step (y_sub (et g0 rfl) rfl (subIN (y := 1) ?_ ?_)) ?_
                omega
                omega
                refine l_step (y_assignV (et g0 rfl)) ?_
                refine l_nil ?_
                refine hQ11 _ _ _ (in_normal ?_)
                refine fK2 0 3 (gS rfl (gS rfl (gS rfl (gS rfl g0)))) g0 (fun g => ?_)
                exact hK5 (((k - 1))) _ _ (by omega) ⟨g, _, (k - 1), rfl, rfl, by omega, bit_down hx (by omega) hbt, V5⟩)
            · skip
              
              have hbt : x / 2 ^ (k - 1) % 2 = 1 := by simpa using cB1
              refine c_exit ?_
              refine hQ4 _ _ _ (in_exit ?_)
              refine hK3 _ _ ?_
              refine fg1 3 (gS rfl g0) (fun g => ?_)
              refine c_seq (fun K12 hK12 => ?_)
              exact (by
                refine c_region ?_
                refine l_step (y_moveV (et g0 rfl)) ?_
                refine l_step (y_conv Hvaa.underlying3 Hvaa.underlying26 (et g0 rfl) (wrapU_id uk64 ?_)) ?_
                omega
                refine l_step (y_assignV (et g0 rfl)) ?_
                refine l_nil ?_
                refine hK12 _ _ ?_
                refine fg1 2 g0 (fun g => ?_)
                refine c_ret ?_
                repeat with_reducible refine then_ret ?_
                refine ret1 rfl (res_tmp (et g0 rfl)) ?_
                exact ⟨by rw [bl_eq hx (.inr hbt)], U⟩)
          · skip
            have hk0 : k = 0 := by have := of_decide_eq_false q8; omega
            refine l_gskip (j := 2) (t := 9) (by exact rfl) (by exact rfl) (et g0 rfl) (by decide) (by decide) ?_
            refine l_gskip (j := 2) (t := 9) (by exact rfl) (by exact rfl) (et (gS rfl g0) rfl) (by decide) (by decide) ?_
            refine l_gskip (j := 2) (t := 9) (by exact rfl) (by exact rfl) (et (gS rfl (gS rfl g0)) rfl) (by decide) (by decide) ?_
            refine l_gskip (j := 2) (t := 9) (by exact rfl) (by exact rfl) (et (gS rfl (gS rfl (gS rfl g0))) rfl) (by decide) (by decide) ?_
            refine l_gskip (j := 2) (t := 9) (by exact rfl) (by exact rfl) (et (gS rfl (gS rfl (gS rfl (gS rfl g0)))) rfl) (by decide) (by decide) ?_
            refine l_gskip (j := 2) (t := 9) (by exact rfl) (by exact rfl) (et (gS rfl (gS rfl (gS rfl (gS rfl (gS rfl g0))))) rfl) (by decide) (by decide) ?_
            refine l_step (y_pickF (et (gS rfl (gS rfl (gS rfl (gS rfl (gS rfl (gS rfl g0)))))) rfl) rfl) ?_
            refine l_nil ?_
            refine hK7 _ _ ?_
            refine fg3 0 3 16 (gS rfl (gS rfl (gS rfl (gS rfl (gS rfl (gS rfl (gS rfl (gS rfl (gS rfl (gS rfl (gS rfl (gS rfl g0)))))))))))) (gS rfl (gS rfl (gS rfl (gS rfl (gS rfl (gS rfl (gS rfl (gS rfl (gS rfl (gS rfl (gS rfl g0))))))))))) g0 (fun g => ?_)
            refine c_false (et g0 rfl) rfl ?_
            refine c_exit ?_
            refine hQ4 _ _ _ (in_exit ?_)
            refine hK3 _ _ ?_
            refine fg1 3 (gS rfl g0) (fun g => ?_)
            refine c_seq (fun K14 hK14 => ?_)
            exact (by
              refine c_region ?_
              refine l_step (y_moveV (et g0 rfl)) ?_
              refine l_step (y_conv Hvaa.underlying3 Hvaa.underlying26 (et g0 rfl) (wrapU_id uk64 ?_)) ?_
              omega
              refine l_step (y_assignV (et g0 rfl)) ?_
              refine l_nil ?_
              refine hK14 _ _ ?_
              refine fg1 2 g0 (fun g => ?_)
              refine c_ret ?_
              repeat with_reducible refine then_ret ?_
              refine ret1 rfl (res_tmp (et g0 rfl)) ?_
              exact ⟨by rw [bl_eq hx (.inl hk0)], U⟩))))
theorem ymexp_sq {b e m i : Nat} (hi : 0 < i) : (if m = 0 then 0 else mexp b (e / 2 ^ i) m * mexp b (e / 2 ^ i) m % m) = mexp b (e / 2 ^ i * 2) m := by
  unfold mexp
  split
  · rfl
  · rw [← Nat.mul_mod, ← Nat.pow_add, Nat.mul_two]
theorem ymexp_mul {b k m : Nat} : (if m = 0 then 0 else mexp b k m * b % m) = mexp b (k + 1) m := by
  unfold mexp
  split
  · rfl
  · rw [Nat.mod_mul_mod, Nat.pow_succ]
theorem half_bit {e i : Nat} (hi : 0 < i) : e / 2 ^ (i - 1) = e / 2 ^ i * 2 + e / 2 ^ (i - 1) % 2 := by
  have h : e / 2 ^ i = e / 2 ^ (i - 1) / 2 := by rw [Nat.div_div_eq_div_mul, ← Nat.pow_succ]; congr 2; omega
  rw [h]; omega
theorem ymexp_zero (b m : Nat) : mexp b 0 m = if m = 0 then 0 else 1 % m := by unfold mexp; simp
theorem div_bl (e : Nat) : e / 2 ^ bitLen e = 0 := by
  rcases Nat.eq_zero_or_pos e with h | h
  · rw [h, Nat.zero_div]
  · have := bl_two e (by omega)
    have hp := bl_pos e (by omega)
    rw [show bitLen e - 1 + 1 = bitLen e by omega] at this
    exact Nat.div_eq_of_lt this.2
theorem mexp_bd {b e m : Nat} (h : m < 256 ^ 64) : mexp b e m < 256 ^ 64 := mexp_lt b e m _ h (by decide)
theorem yp_modExp {w : World} {H : Store} (hF : Fz w H) {ub ue um : Value} {b e m : Nat} (h1 : NV H ub b) (h2 : NV H ue e) (h3 : NV H um m) (s1 : b < 256 ^ 64) (s2 : e < 256 ^ 64) (s3 : m < 256 ^ 64) :
    Ret 222 [ub, ue, um] w (fun v w' => ∃ H', Go No w H w' H' ∧ NV H' v (mexp b e m)) := by
  have hbl := bl_bytes s2
  refine enter (n := 48) Hvaa.func222 rfl rfl (Nat.le_of_ble_eq_true rfl) ?_
  have U := Up.refl w
  have G : Go (No) w H w H := Go.refl hF
  refine c_seq (fun K1 hK1 => ?_)
  exact (by
    refine c_region ?_
    refine l_step y_assignC ?_
    refine l_nil ?_
    refine hK1 _ _ ?_
    refine fg3 2 1 0 (gS rfl (gS rfl (gS rfl g0))) (gS rfl (gS rfl g0)) (gS rfl g0) (fun g => ?_)
    refine c_seq (fun K2 hK2 => ?_)
    exact (by
      refine c_region ?_
      refine l_eff (e_callV cal_32 (aC (v := .int .u64 ((1 : Nat) : Int)) rfl aN) (yp_num (x := 1) hF (by decide))) (fun v3 w3 h3 => ?_)
      obtain ⟨H3, g3, n3⟩ := h3
      have hlew3 := g3.le
      replace h1 := h1.mono hlew3
      replace h2 := h2.mono hlew3
      replace h3 := h3.mono hlew3
      replace U := U.tr g3.up
      replace G := G.tr g3
      replace hF := g3.fz
      have q3 : 1 < 256 ^ 1 := by decide
      refine l_step (y_moveV (et (gS rfl (gS rfl (gS rfl g0))) rfl)) ?_
      refine l_eff (e_callV cal_155 (aC (et (gS rfl g0) rfl) (aC (et g0 rfl) aN)) (nat_divmod hF n3 h3 (bd_sm q3 (by decide)) (bd_sm s3 (by decide)))) (fun v4 w4 h4 => ?_)
      obtain ⟨z4, y4, H4, rfl, g4, n4, m4⟩ := h4
      have hlew4 := g4.le
      replace h1 := h1.mono hlew4
      replace h2 := h2.mono hlew4
      replace h3 := h3.mono hlew4
      replace n3 := n3.mono hlew4
      replace U := U.tr g4.up
      replace G := G.tr g4
      replace hF := g4.fz
      have q4 := bd_div' n4 q3
      have p4 := bd_mod' m4 s3
      refine l_step (y_moveV (et g0 rfl)) ?_
      refine l_step (y_ext (et g0 rfl) rfl) ?_
      refine l_step (y_ext (et (gS rfl g0) rfl) rfl) ?_
      refine l_step (y_ext (et (gS rfl (gS rfl g0)) rfl) rfl) ?_
      refine l_step (y_assignV (et (gS rfl (gS rfl g0)) rfl)) ?_
      refine l_step (y_assignV (et (gS rfl (gS rfl g0)) rfl)) ?_
      refine l_step (y_assignV (et (gS rfl (gS rfl g0)) rfl)) ?_
      refine l_nil ?_
      refine hK2 _ _ ?_
      refine fg4 2 1 0 8 (gS rfl (gS rfl (gS rfl (gS rfl (gS rfl (gS rfl (gS rfl (gS rfl (gS rfl (gS rfl (gS rfl (gS rfl g0)))))))))))) (gS rfl (gS rfl (gS rfl (gS rfl (gS rfl (gS rfl (gS rfl (gS rfl (gS rfl (gS rfl (gS rfl g0))))))))))) (gS rfl (gS rfl (gS rfl (gS rfl (gS rfl (gS rfl (gS rfl (gS rfl (gS rfl (gS rfl g0)))))))))) (gS rfl g0) (fun g => ?_)
      refine c_seq (fun K5 hK5 => ?_)
      refine c_seq (fun K6 hK6 => ?_)
      exact (by
        refine c_region ?_
        refine l_step (y_moveV (et (gS rfl (gS rfl g0)) rfl)) ?_
        refine l_eff (e_callV cal_220 (aC (et g0 rfl) aN) (yp_bits hF h2 (bd_up s2 (by decide)))) (fun v7 w7 h7 => ?_)
        obtain ⟨rfl, u7⟩ := h7
        replace G := G.tr (Go.ofUp hF u7)
        replace hF := hF.up u7
        replace U := U.tr u7
        refine l_step (y_assignV (et g0 rfl)) ?_
        refine l_nil ?_
        refine hK6 _ _ ?_
        refine fg5 2 1 0 8 10 (gS rfl (gS rfl (gS rfl (gS rfl (gS rfl (gS rfl g0)))))) (gS rfl (gS rfl (gS rfl (gS rfl (gS rfl g0))))) (gS rfl (gS rfl (gS rfl (gS rfl g0)))) (gS rfl (gS rfl (gS rfl g0))) g0 (fun g => ?_)
        refine c_block (fun Q8 hQ8 => ?_)
        refine fg5 0 1 2 8 10 (gS rfl (gS rfl g0)) (gS rfl (gS rfl (gS rfl g0))) (gS rfl (gS rfl (gS rfl (gS rfl g0)))) (gS rfl g0) g0 (fun g => ?_)
        refine c_loop (fun k_ s_ W9 => ∃ (g : Nat → Value) (Hk9 : Store) (vr : Value) (i : Nat), s_ = (upd (upd (upd (upd (upd g 0 ub) 1 ue) 2 um) 8 vr) 10 (.int .u64 (i : Nat))) ∧ i = k_ ∧ (NV Hk9 vr (mexp b (e / 2 ^ i) m)) ∧ (i ≤ 512) ∧ Go (fun k => False) w7 H4 W9 Hk9) ((bitLen e)) ?_ ?_
        · exact ⟨g, _, _, bitLen e, rfl, rfl, by rw [div_bl, ymexp_zero]; exact m4, by omega, Go.refl hF⟩
        · skip
          intro k_ s_ W9 hI K9 hK9
          obtain ⟨g, Hk9, vr, i, rfl, rfl, hvr, hi, V9⟩ := hI
          have hle9 := V9.le
          replace h1 := h1.mono hle9
          replace h2 := h2.mono hle9
          replace h3 := h3.mono hle9
          replace n3 := n3.mono hle9
          replace n4 := n4.mono hle9
          replace m4 := m4.mono hle9
          replace G := G.trans V9 (by intro b hb; first | exact hb.elim | omega | (simp at hb ⊢; omega))
          replace hF := V9.fz
          replace U := U.cc V9.ch (by intro b hb; first | exact hb.elim | omega | (simp at hb ⊢; omega))
          refine c_seq (fun K10 hK10 => ?_)
          refine c_seq (fun K11 hK11 => ?_)
          exact (by
            refine c_region ?_
            refine l_step (y_moveV (et g0 rfl)) ?_
            refine l_step (y_gtr (et g0 rfl) rfl) ?_
            refine l_nil ?_
            refine hK11 _ _ ?_
            refine fg6 0 1 2 8 10 21 (gS rfl (gS rfl (gS rfl (gS rfl (gS rfl (gS rfl g0)))))) (gS rfl (gS rfl (gS rfl (gS rfl (gS rfl g0))))) (gS rfl (gS rfl (gS rfl (gS rfl g0)))) (gS rfl (gS rfl (gS rfl g0))) (gS rfl (gS rfl g0)) g0 (fun g => ?_)
            refine c_cond (et g0 rfl) (fun cB1 => ?_) (fun cB1 => ?_)
            · skip
              
              have hi0 : 0 < i := by have := of_decide_eq_true cB1; omega
              refine c_skip ?_
              refine hK10 _ _ ?_
              refine fg5 0 1 2 8 10 (gS rfl (gS rfl (gS rfl (gS rfl (gS rfl g0))))) (gS rfl (gS rfl (gS rfl (gS rfl g0)))) (gS rfl (gS rfl (gS rfl g0))) (gS rfl (gS rfl g0)) (gS rfl g0) (fun g => ?_)
              refine c_seq (fun K13 hK13 => ?_)
              refine c_block (fun Q14 hQ14 => ?_)
              refine c_seq (fun K15 hK15 => ?_)
              exact (by
                refine c_region ?_
                refine l_step (y_moveV (et (gS rfl g0) rfl)) ?_
                refine l_step (y_moveV (et (gS rfl (gS rfl g0)) rfl)) ?_
                refine l_eff (e_callV cal_50 (aC (et (gS rfl g0) rfl) (aC (et g0 rfl) aN)) (nat_mul hF hvr hvr (bd_sm (mexp_bd (b := b) (e := e / 2 ^ i) s3) (by decide)) (bd_sm (mexp_bd (b := b) (e := e / 2 ^ i) s3) (by decide)))) (fun v16 w16 h16 => ?_)
                obtain ⟨H16, g16, n16⟩ := h16
                have hlew16 := g16.le
                replace h1 := h1.mono hlew16
                replace h2 := h2.mono hlew16
                replace h3 := h3.mono hlew16
                replace n3 := n3.mono hlew16
                replace n4 := n4.mono hlew16
                replace m4 := m4.mono hlew16
                replace hvr := hvr.mono hlew16
                replace U := U.tr g16.up
                replace G := G.tr g16
                replace V9 := V9.tr g16
                replace hF := g16.fz
                have q16 := bd_mul (c := 128) (mexp_bd (b := b) (e := e / 2 ^ i) s3) (mexp_bd (b := b) (e := e / 2 ^ i) s3) (by decide)
                refine l_step (y_moveV (et (gS rfl (gS rfl (gS rfl (gS rfl (gS rfl g0))))) rfl)) ?_
                refine l_eff (e_callV cal_155 (aC (et (gS rfl g0) rfl) (aC (et g0 rfl) aN)) (nat_divmod hF n16 h3 (bd_sm q16 (by decide)) (bd_sm s3 (by decide)))) (fun v17 w17 h17 => ?_)
                obtain ⟨z17, y17, H17, rfl, g17, n17, m17⟩ := h17
                have hlew17 := g17.le
                replace h1 := h1.mono hlew17
                replace h2 := h2.mono hlew17
                replace h3 := h3.mono hlew17
                replace n3 := n3.mono hlew17
                replace n4 := n4.mono hlew17
                replace m4 := m4.mono hlew17
                replace hvr := hvr.mono hlew17
                replace n16 := n16.mono hlew17
                replace U := U.tr g17.up
                replace G := G.tr g17
                replace V9 := V9.tr g17
                replace hF := g17.fz
                have q17 := bd_div' n17 q16
                have p17 := bd_mod' m17 s3
                rw [ymexp_sq hi0] at m17 p17
                exact (by
                  refine l_step (y_moveV (et g0 rfl)) ?_
                  refine l_step (y_ext (et g0 rfl) rfl) ?_
                  refine l_step (y_ext (et (gS rfl g0) rfl) rfl) ?_
                  refine l_step (y_ext (et (gS rfl (gS rfl g0)) rfl) rfl) ?_
                  refine l_step (y_assignV (et (gS rfl g0) rfl)) ?_
                  refine l_nil ?_
                  refine hK15 _ _ ?_
                  refine fg5 0 1 2 8 10 (gS rfl (gS rfl (gS rfl (gS rfl (gS rfl (gS rfl (gS rfl (gS rfl (gS rfl (gS rfl (gS rfl (gS rfl (gS rfl (gS rfl g0)))))))))))))) (gS rfl (gS rfl (gS rfl (gS rfl (gS rfl (gS rfl (gS rfl (gS rfl (gS rfl (gS rfl (gS rfl (gS rfl (gS rfl g0))))))))))))) (gS rfl (gS rfl (gS rfl (gS rfl (gS rfl (gS rfl (gS rfl (gS rfl (gS rfl (gS rfl (gS rfl (gS rfl g0)))))))))))) g0 (gS rfl (gS rfl (gS rfl (gS rfl (gS rfl (gS rfl (gS rfl (gS rfl (gS rfl (gS rfl g0)))))))))) (fun g => ?_)
                  refine c_seq (fun K18 hK18 => ?_)
                  exact (by
                    refine c_region ?_
                    refine l_step (y_moveV (et (gS rfl (gS rfl (gS rfl g0))) rfl)) ?_
                    refine l_step (y_moveV (et (gS rfl g0) rfl)) ?_
                    refine l_step (y_sub (et g0 rfl) rfl (wrapU_subN (b := 1) uk64 ?_ ?_)) ?_
                    omega
                    omega
                    refine l_step (y_conv Hvaa.underlying26 Hvaa.underlying67 (et g0 rfl) (wrapU_id uk16 ?_)) ?_
                    omega
                    refine l_eff (e_callV cal_330 (aC (et (gS rfl (gS rfl (gS rfl g0))) rfl) (aC (et g0 rfl) aN)) (nat_bit hF h2 (bd_sm s2 (by decide)) _ (show i - 1 < 65536 by omega))) (fun v19 w19 h19 => ?_)
                    obtain ⟨rfl, u19⟩ := h19
                    replace G := G.tr (Go.ofUp hF u19)
                    replace V9 := V9.tr (Go.ofUp hF u19)
                    replace hF := hF.up u19
                    replace U := U.tr u19
                    refine l_nil ?_
                    refine hK18 _ _ ?_
                    refine fg6 0 1 2 8 10 37 (gS rfl (gS rfl (gS rfl (gS rfl (gS rfl (gS rfl (gS rfl (gS rfl (gS rfl g0))))))))) (gS rfl (gS rfl (gS rfl (gS rfl (gS rfl (gS rfl (gS rfl (gS rfl g0)))))))) (gS rfl (gS rfl (gS rfl (gS rfl (gS rfl (gS rfl (gS rfl g0))))))) (gS rfl (gS rfl (gS rfl (gS rfl (gS rfl (gS rfl g0)))))) (gS rfl (gS rfl (gS rfl (gS rfl (gS rfl g0))))) g0 (fun g => ?_)
                    refine c_cond (et g0 rfl) (fun cB2 => ?_) (fun cB2 => ?_)
                    · skip
                      
                      have hbt : e / 2 ^ (i - 1) % 2 = 1 := by simpa using cB2
                      exact (by
                        refine c_region ?_
                        refine l_step (y_moveV (et (gS rfl (gS rfl g0)) rfl)) ?_
                        refine l_step (y_moveV (et (gS rfl (gS rfl (gS rfl (gS rfl (gS rfl (gS rfl g0)))))) rfl)) ?_
                        refine l_eff (e_callV cal_50 (aC (et (gS rfl g0) rfl) (aC (et g0 rfl) aN)) (nat_mul hF m17 h1 (bd_sm p17 (by decide)) (bd_sm s1 (by decide)))) (fun v21 w21 h21 => ?_)
                        obtain ⟨H21, g21, n21⟩ := h21
                        have hlew21 := g21.le
                        replace h1 := h1.mono hlew21
                        replace h2 := h2.mono hlew21
                        replace h3 := h3.mono hlew21
                        replace n3 := n3.mono hlew21
                        replace n4 := n4.mono hlew21
                        replace m4 := m4.mono hlew21
                        replace hvr := hvr.mono hlew21
                        replace n16 := n16.mono hlew21
                        replace n17 := n17.mono hlew21
                        replace m17 := m17.mono hlew21
                        replace U := U.tr g21.up
                        replace G := G.tr g21
                        replace V9 := V9.tr g21
                        replace hF := g21.fz
                        have q21 := bd_mul (c := 128) p17 s1 (by decide)
                        refine l_step (y_moveV (et (gS rfl (gS rfl (gS rfl (gS rfl (gS rfl (gS rfl g0)))))) rfl)) ?_
                        refine l_eff (e_callV cal_155 (aC (et (gS rfl g0) rfl) (aC (et g0 rfl) aN)) (nat_divmod hF n21 h3 (bd_sm q21 (by decide)) (bd_sm s3 (by decide)))) (fun v22 w22 h22 => ?_)
                        obtain ⟨z22, y22, H22, rfl, g22, n22, m22⟩ := h22
                        have hlew22 := g22.le
                        replace h1 := h1.mono hlew22
                        replace h2 := h2.mono hlew22
                        replace h3 := h3.mono hlew22
                        replace n3 := n3.mono hlew22
                        replace n4 := n4.mono hlew22
                        replace m4 := m4.mono hlew22
                        replace hvr := hvr.mono hlew22
                        replace n16 := n16.mono hlew22
                        replace n17 := n17.mono hlew22
                        replace m17 := m17.mono hlew22
                        replace n21 := n21.mono hlew22
                        replace U := U.tr g22.up
                        replace G := G.tr g22
                        replace V9 := V9.tr g22
                        replace hF := g22.fz
                        have q22 := bd_div' n22 q21
                        have p22 := bd_mod' m22 s3
                        exact (by
                          refine l_step (y_moveV (et g0 rfl)) ?_
                          refine l_step (y_ext (et g0 rfl) rfl) ?_
                          refine l_step (y_ext (et (gS rfl g0) rfl) rfl) ?_
                          refine l_step (y_ext (et (gS rfl (gS rfl g0)) rfl) rfl) ?_
                          refine l_step (y_assignV (et (gS rfl g0) rfl)) ?_
                          refine l_nil ?_
                          refine hQ14 _ _ _ (in_normal ?_)
                          refine hK13 _ _ ?_
                          refine fg5 0 1 2 8 10 (gS rfl (gS rfl (gS rfl (gS rfl (gS rfl (gS rfl (gS rfl (gS rfl (gS rfl (gS rfl (gS rfl (gS rfl (gS rfl (gS rfl (gS rfl g0))))))))))))))) (gS rfl (gS rfl (gS rfl (gS rfl (gS rfl (gS rfl (gS rfl (gS rfl (gS rfl (gS rfl (gS rfl (gS rfl (gS rfl (gS rfl g0)))))))))))))) (gS rfl (gS rfl (gS rfl (gS rfl (gS rfl (gS rfl (gS rfl (gS rfl (gS rfl (gS rfl (gS rfl (gS rfl (gS rfl g0))))))))))))) g0 (gS rfl (gS rfl (gS rfl (gS rfl (gS rfl (gS rfl (gS rfl (gS rfl (gS rfl (gS rfl (gS rfl g0))))))))))) (fun g => ?_)
                          refine c_region ?_
                          refine l_step (y_moveV (et g0 rfl)) ?_
                          refine l_step (y_sub (et g0 rfl) rfl (wrapU_subN (b := 1) uk64 ?_ ?_)) ?_
                          omega
                          omega
                          refine l_step (y_assignV (et g0 rfl)) ?_
                          refine l_nil ?_
                          refine fK5 0 1 2 8 10 (gS rfl (gS rfl (gS rfl (gS rfl (gS rfl (gS rfl (gS rfl g0))))))) (gS rfl (gS rfl (gS rfl (gS rfl (gS rfl (gS rfl g0)))))) (gS rfl (gS rfl (gS rfl (gS rfl (gS rfl g0))))) (gS rfl (gS rfl (gS rfl (gS rfl g0)))) g0 (fun g => ?_)
                          exact hK9 (((i - 1))) _ _ (by omega) ⟨g, _, _, (i - 1), rfl, rfl, by rw [half_bit hi0, hbt, ← ymexp_mul]; exact m22, by omega, V9⟩))
                    · skip
                      
                      have hbt : e / 2 ^ (i - 1) % 2 = 0 := by have h9 : ¬ e / 2 ^ (i - 1) % 2 = 1 := (by simpa using cB2); omega
                      refine c_skip ?_
                      refine hQ14 _ _ _ (in_normal ?_)
                      refine hK13 _ _ ?_
                      refine fg5 0 1 2 8 10 (gS rfl (gS rfl (gS rfl (gS rfl (gS rfl g0))))) (gS rfl (gS rfl (gS rfl (gS rfl g0)))) (gS rfl (gS rfl (gS rfl g0))) (gS rfl (gS rfl g0)) (gS rfl g0) (fun g => ?_)
                      refine c_region ?_
                      refine l_step (y_moveV (et g0 rfl)) ?_
                      refine l_step (y_sub (et g0 rfl) rfl (wrapU_subN (b := 1) uk64 ?_ ?_)) ?_
                      omega
                      omega
                      refine l_step (y_assignV (et g0 rfl)) ?_
                      refine l_nil ?_
                      refine fK5 0 1 2 8 10 (gS rfl (gS rfl (gS rfl (gS rfl (gS rfl (gS rfl (gS rfl g0))))))) (gS rfl (gS rfl (gS rfl (gS rfl (gS rfl (gS rfl g0)))))) (gS rfl (gS rfl (gS rfl (gS rfl (gS rfl g0))))) (gS rfl (gS rfl (gS rfl (gS rfl g0)))) g0 (fun g => ?_)
                      exact hK9 (((i - 1))) _ _ (by omega) ⟨g, _, _, (i - 1), rfl, rfl, by rw [half_bit hi0, hbt, Nat.add_zero]; exact m17, by omega, V9⟩)))
            · skip
              
              have hi0 : i = 0 := by have := of_decide_eq_false cB1; omega
              refine c_exit ?_
              refine hQ8 _ _ _ (in_exit ?_)
              refine hK5 _ _ ?_
              refine fg1 8 (gS rfl (gS rfl g0)) (fun g => ?_)
              refine c_seq (fun K23 hK23 => ?_)
              exact (by
                refine c_region ?_
                refine l_step (y_moveV (et g0 rfl)) ?_
                refine l_step (y_assignV (et g0 rfl)) ?_
                refine l_nil ?_
                refine hK23 _ _ ?_
                refine fg1 6 g0 (fun g => ?_)
                refine c_ret ?_
                repeat with_reducible refine then_ret ?_
                refine ret1 rfl (res_tmp (et g0 rfl)) ?_
                subst hi0
                rw [Nat.pow_zero, Nat.div_one] at hvr
                exact ⟨_, G, hvr⟩)))))
def lnN (l : List Nat) (i : Nat) : Nat := ofBE (cutN l (32 * i) 32)
def lnOk (l : List Nat) : Bool := decide (lnN l 0 ≤ 64) && decide (lnN l 1 ≤ 64) && decide (lnN l 2 ≤ 64)
def lnV (l : List Nat) (i : Nat) : Nat := if lnOk l = true then lnN l i else 0
theorem lnV_le (l : List Nat) (i : Nat) (hi : i < 3) : lnV l i ≤ 64 := by
  unfold lnV
  split
  · rename_i h
    simp only [lnOk, Bool.and_eq_true, decide_eq_true_eq] at h
    rcases (show i = 0 ∨ i = 1 ∨ i = 2 by omega) with rfl | rfl | rfl <;> omega
  · omega
theorem lnOk_of {l : List Nat} (h : ∀ j, j < 3 → lnN l j ≤ 64) : lnOk l = true := by
  have h0 := h 0 (by decide)
  have h1 := h 1 (by decide)
  have h2 := h 2 (by decide)
  simp only [lnOk, Bool.and_eq_true, decide_eq_true_eq]
  omega
theorem lnOk_no {l : List Nat} {i : Nat} (hi : i < 3) (h : 64 < lnN l i) : lnOk l = false := by
  rw [Bool.eq_false_iff]
  intro hh
  simp only [lnOk, Bool.and_eq_true, decide_eq_true_eq] at hh
  rcases (show i = 0 ∨ i = 1 ∨ i = 2 by omega) with rfl | rfl | rfl <;> omega
theorem yp_lengths {w : World} {H : Store} (hF : Fz w H) {vb : Value} {l : List Nat} (hB : BV H vb l) (hl : l.length < 16777216) :
    Ret 219 [vb] w (fun v w' => ∃ H', v = .tuple #[.int .u64 (lnV l 0 : Nat), .int .u64 (lnV l 1 : Nat), .int .u64 (lnV l 2 : Nat), .bool (lnOk l)] ∧ Go No w H w' H') := by
  refine enter (n := 33) Hvaa.func219 rfl rfl (Nat.le_of_ble_eq_true rfl) ?_
  have U := Up.refl w
  have G : Go (No) w H w H := Go.refl hF
  refine c_seq (fun K1 hK1 => ?_)
  exact (by
    refine c_region ?_
    refine l_step y_assignC ?_
    refine l_step y_assignC ?_
    refine l_step y_assignC ?_
    refine l_step y_assignC ?_
    refine l_nil ?_
    refine hK1 _ _ ?_
    refine fg1 0 (gS rfl (gS rfl (gS rfl (gS rfl g0)))) (fun g => ?_)
    refine c_seq (fun K2 hK2 => ?_)
    exact (by
      refine c_region ?_
      refine l_eff (e_alloc zr_386) (fun v3 w3 h3 => ?_)
      obtain ⟨b3, rfl, n3⟩ := h3
      have f3 : w.heap.size ≤ b3 := Nat.le_trans U.size n3.fresh
      have nb3 := hF.nb n3.fresh
      replace G := G.tr (Go.ofUp hF n3.up)
      replace hF := hF.up n3.up
      replace U := U.tr n3.up
      have k3 := n3.blk
      refine l_nil ?_
      refine hK2 _ _ ?_
      refine c_seq (fun K4 hK4 => ?_)
      refine c_seq (fun K5 hK5 => ?_)
      exact (by
        refine c_region ?_
        refine l_step y_moveC ?_
        refine l_nil ?_
        refine hK5 _ _ ?_
        refine c_block (fun Q6 hQ6 => ?_)
        refine fg3 0 6 9 (gS rfl (gS rfl g0)) (gS rfl g0) g0 (fun g => ?_)
        refine c_loop (fun k_ s_ W7 => ∃ (g : Nat → Value) (Hk7 : Store) (i : Nat), s_ = (upd (upd (upd g 0 vb) 6 (.pointer (some ⟨b3, 0, none⟩))) 9 (.int .i64 (i : Nat))) ∧ 3 - i = k_ ∧ (i ≤ 3) ∧ (∀ j, j < i → lnN l j ≤ 64) ∧ Blk W7 b3 (((List.range i).map (fun j => Value.int .u64 (lnN l j : Nat)) ++ List.replicate (3 - i) (Value.int .u64 0)).toArray) ∧ Go (fun k => k = b3) w3 H W7 Hk7) (3 - (0)) ?_ ?_
        · exact ⟨g, _, 0, rfl, rfl, by omega, fun j hj => absurd hj (Nat.not_lt_zero _), k3, Go.refl hF⟩
        · skip
          intro k_ s_ W7 hI K7 hK7
          obtain ⟨g, Hk7, i, rfl, rfl, hi, hln, nk3, V7⟩ := hI
          have hle7 := V7.le
          replace nb3 := V7.nb nb3 k3.lt
          replace hB := hB.mono hle7
          replace G := G.trans V7 (by intro b hb; first | exact hb.elim | omega | (simp at hb ⊢; omega))
          replace hF := V7.fz
          replace k3 := nk3
          replace U := U.cc V7.ch (by intro b hb; first | exact hb.elim | omega | (simp at hb ⊢; omega))
          refine c_seq (fun K8 hK8 => ?_)
          exact (by
            refine c_region ?_
            refine l_step (y_lss (et g0 rfl) rfl) ?_
            refine l_nil ?_
            refine hK8 _ _ ?_
            refine c_seq (fun K9 hK9 => ?_)
            refine c_cond (et g0 rfl) (fun cB1 => ?_) (fun cB1 => ?_)
            · skip
              
              have hi3 : i < 3 := by have := of_decide_eq_true cB1; omega
              refine c_skip ?_
              refine hK9 _ _ ?_
              refine fg3 0 6 9 (gS rfl (gS rfl (gS rfl g0))) (gS rfl (gS rfl g0)) (gS rfl g0) (fun g => ?_)
              refine c_seq (fun K11 hK11 => ?_)
              refine c_block (fun Q12 hQ12 => ?_)
              refine c_seq (fun K13 hK13 => ?_)
              exact (by
                refine c_region ?_
                refine l_step (y_moveV (et g0 rfl)) ?_
                refine l_step (y_assignV (et g0 rfl)) ?_
                refine l_nil ?_
                refine hK13 _ _ ?_
                refine fg4 0 6 9 7 (gS rfl (gS rfl (gS rfl (gS rfl g0)))) (gS rfl (gS rfl (gS rfl g0))) (gS rfl (gS rfl g0)) g0 (fun g => ?_)
                refine c_seq (fun K14 hK14 => ?_)
                exact (by
                  refine c_region ?_
                  refine l_step (y_moveV (et (gS rfl (gS rfl (gS rfl g0))) rfl)) ?_
                  refine l_step (y_moveV (et (gS rfl g0) rfl)) ?_
                  refine l_step (y_mul rfl (et g0 rfl) (mulIN (x := 32) ?_)) ?_
                  omega
                  refine l_step (y_conv Hvaa.underlying3 Hvaa.underlying26 (et g0 rfl) (wrapU_id uk64 ?_)) ?_
                  omega
                  refine l_eff (e_callV cal_221 (aC (et (gS rfl (gS rfl (gS rfl g0))) rfl) (aC (et g0 rfl) (aC (v := .int .u64 ((32 : Nat) : Int)) rfl aN))) (yp_part (n := 32) hF hB (by omega) (show 32 * i < 18446744073709551616 by omega) (by omega))) (fun v15 w15 h15 => ?_)
                  obtain ⟨H15, g15, b15⟩ := h15
                  have hlew15 := g15.le
                  replace nb3 := g15.nb nb3 k3.lt
                  replace hB := hB.mono hlew15
                  replace k3 := k3.up g15.up
                  replace U := U.tr g15.up
                  replace G := G.tr g15
                  replace V7 := V7.tr g15
                  replace hF := g15.fz
                  refine l_eff (e_callV cal_33 (aC (et g0 rfl) aN) (nat_fromBE hF (b15.wv hF) (Nat.le_refl _) (by rw [len_cut]; decide))) (fun v16 w16 h16 => ?_)
                  obtain ⟨H16, g16, n16⟩ := h16
                  have hlew16 := g16.le
                  replace nb3 := g16.nb nb3 k3.lt
                  replace hB := hB.mono hlew16
                  replace b15 := b15.mono hlew16
                  replace k3 := k3.up g16.up
                  replace U := U.tr g16.up
                  replace G := G.tr g16
                  replace V7 := V7.tr g16
                  replace hF := g16.fz
                  refine l_step (y_assignV (et g0 rfl)) ?_
                  refine l_nil ?_
                  refine hK14 _ _ ?_
                  refine fg5 0 6 9 7 8 (gS rfl (gS rfl (gS rfl (gS rfl (gS rfl (gS rfl (gS rfl (gS rfl (gS rfl (gS rfl g0)))))))))) (gS rfl (gS rfl (gS rfl (gS rfl (gS rfl (gS rfl (gS rfl (gS rfl (gS rfl g0))))))))) (gS rfl (gS rfl (gS rfl (gS rfl (gS rfl (gS rfl (gS rfl (gS rfl g0)))))))) (gS rfl (gS rfl (gS rfl (gS rfl (gS rfl (gS rfl (gS rfl g0))))))) g0 (fun g => ?_)
                  refine c_seq (fun K17 hK17 => ?_)
                  refine c_seq (fun K18 hK18 => ?_)
                  exact (by
                    refine c_region ?_
                    refine l_step (y_moveV (et g0 rfl)) ?_
                    refine l_eff (e_callV cal_32 (aC (v := .int .u64 ((64 : Nat) : Int)) rfl aN) (yp_num (x := 64) hF (by decide))) (fun v19 w19 h19 => ?_)
                    obtain ⟨H19, g19, n19⟩ := h19
                    have hlew19 := g19.le
                    replace nb3 := g19.nb nb3 k3.lt
                    replace hB := hB.mono hlew19
                    replace b15 := b15.mono hlew19
                    replace n16 := n16.mono hlew19
                    replace k3 := k3.up g19.up
                    replace U := U.tr g19.up
                    replace G := G.tr g19
                    replace V7 := V7.tr g19
                    replace hF := g19.fz
                    have q19 : 64 < 256 ^ 1 := by decide
                    refine l_eff (e_callV cal_121 (aC (et (gS rfl g0) rfl) (aC (et g0 rfl) aN)) (nat_cmp hF n16 n19 (bd_sm (ofBE_bd b15.dig (by rw [len_cut]; exact Nat.le_refl _)) (by decide)) (bd_sm q19 (by decide)))) (fun v20 w20 h20 => ?_)
                    obtain ⟨rfl, u20⟩ := h20
                    replace G := G.tr (Go.ofUp hF u20)
                    replace V7 := V7.tr (Go.ofUp hF u20)
                    replace hF := hF.up u20
                    replace k3 := k3.up u20
                    replace U := U.tr u20
                    refine l_step ((y_gtr (et g0 rfl) rfl).to (congrArg Value.bool (cmp_gt0 _ _))) ?_
                    refine l_nil ?_
                    refine hK18 _ _ ?_
                    refine fg6 0 6 9 7 8 21 (gS rfl (gS rfl (gS rfl (gS rfl (gS rfl (gS rfl (gS rfl (gS rfl g0)))))))) (gS rfl (gS rfl (gS rfl (gS rfl (gS rfl (gS rfl (gS rfl g0))))))) (gS rfl (gS rfl (gS rfl (gS rfl (gS rfl (gS rfl g0)))))) (gS rfl (gS rfl (gS rfl (gS rfl (gS rfl g0))))) (gS rfl (gS rfl (gS rfl (gS rfl g0)))) g0 (fun g => ?_)
                    refine c_cond (et g0 rfl) (fun cB2 => ?_) (fun cB2 => ?_)
                    · skip
                      
                      have hgt : 64 < lnN l i := of_decide_eq_true cB2
                      refine c_seq (fun K22 hK22 => ?_)
                      exact (by
                        refine c_region ?_
                        refine l_step y_assignC ?_
                        refine l_step y_assignC ?_
                        refine l_step y_assignC ?_
                        refine l_step y_assignC ?_
                        refine l_nil ?_
                        refine hK22 _ _ ?_
                        refine fg4 2 3 4 5 (gS rfl (gS rfl (gS rfl g0))) (gS rfl (gS rfl g0)) (gS rfl g0) g0 (fun g => ?_)
                        refine c_ret ?_
                        refine hQ12 _ _ _ (in_ret ?_)
                        refine hQ6 _ _ _ (in_ret ?_)
                        repeat with_reducible refine then_ret ?_
                        refine ret4 rfl (res_tmp (et (gS rfl (gS rfl (gS rfl g0))) rfl)) (res_tmp (et (gS rfl (gS rfl g0)) rfl)) (res_tmp (et (gS rfl g0) rfl)) (res_tmp (et g0 rfl)) ?_
                        have e9 := lnOk_no hi3 hgt
                        exact ⟨_, by simp only [lnV, e9]; rfl, G⟩)
                    · skip
                      
                      have hgt : lnN l i ≤ 64 := by have := of_decide_eq_false cB2; unfold lnN; omega
                      refine c_skip ?_
                      refine hK17 _ _ ?_
                      refine fg5 0 6 9 7 8 (gS rfl (gS rfl (gS rfl (gS rfl (gS rfl g0))))) (gS rfl (gS rfl (gS rfl (gS rfl g0)))) (gS rfl (gS rfl (gS rfl g0))) (gS rfl (gS rfl g0)) (gS rfl g0) (fun g => ?_)
                      refine c_region ?_
                      refine l_step (y_moveV (et (gS rfl g0) rfl)) ?_
                      refine l_step (y_moveV (et (gS rfl g0) rfl)) ?_
                      refine l_eff (e_callV cal_24 (aC (et g0 rfl) aN) (yp_small hF n16 (bd_sm (ofBE_bd b15.dig (by rw [len_cut]; exact Nat.le_refl _)) (by decide)))) (fun v23 w23 h23 => ?_)
                      obtain ⟨rfl, u23⟩ := h23
                      replace G := G.tr (Go.ofUp hF u23)
                      replace V7 := V7.tr (Go.ofUp hF u23)
                      replace hF := hF.up u23
                      replace k3 := k3.up u23
                      replace U := U.tr u23
                      rw [lo_small (show ofBE (cutN l (32 * i) 32) < 18446744073709551616 by unfold lnN at hgt; omega)]
                      refine l_step (y_idxA Hvaa.underlying386 sz_26 (et (gS rfl (gS rfl (gS rfl (gS rfl (gS rfl (gS rfl g0)))))) rfl) (et (gS rfl (gS rfl g0)) rfl) ?_ ?_) ?_
                      omega
                      omega
                      refine l_effN (e_store sz_26 (et g0 rfl) (cellsV (et (gS rfl g0) rfl) rfl) rfl (by first | exact one_bL _ | exact one_uL _ | (intro v hv; simp at hv; subst hv; rfl)) k3 (by (simp; omega))) (fun v24 w24 h24 => ?_)
                      obtain ⟨rfl, x24⟩ := h24
                      replace k3 := x24.blk
                      replace G := G.wr x24 (by first | exact .inr f3 | omega | (simp; omega)) nb3
                      replace V7 := V7.wr x24 (by first | exact .inr f3 | omega | (simp; omega)) nb3
                      replace hF := G.fz
                      replace U := U.st x24 f3
                      replace k3 : Blk w24 b3 ((List.range (i + 1)).map (fun j => Value.int .u64 (lnN l j : Nat)) ++ List.replicate (3 - (i + 1)) (Value.int .u64 0)).toArray := by
                        have h9 := k3
                        rw [show (0 : Nat) + ((i : Nat) : Int).toNat * 1 = 0 + i * 1 from rfl, fill_nxt (by simp) hi3] at h9
                        rw [List.range_succ, List.map_append]
                        exact h9
                      refine l_nil ?_
                      refine hQ12 _ _ _ (in_normal ?_)
                      refine hK11 _ _ ?_
                      refine fg3 0 6 9 (gS rfl (gS rfl (gS rfl (gS rfl (gS rfl (gS rfl (gS rfl (gS rfl g0)))))))) (gS rfl (gS rfl (gS rfl (gS rfl (gS rfl (gS rfl (gS rfl g0))))))) (gS rfl (gS rfl (gS rfl (gS rfl (gS rfl (gS rfl g0)))))) (fun g => ?_)
                      refine c_region ?_
                      exact (by
                        refine l_step (y_add (et g0 rfl) rfl (addIN (y := 1) ?_)) ?_
                        omega
                        refine l_step (y_moveV (et g0 rfl)) ?_
                        refine l_nil ?_
                        refine fK3 0 6 9 (gS rfl (gS rfl (gS rfl (gS rfl g0)))) (gS rfl (gS rfl (gS rfl g0))) g0 (fun g => ?_)
                        exact hK7 (3 - ((i + 1))) _ _ (by omega) ⟨g, _, (i + 1), rfl, rfl, by omega, fun j hj => (show j < i ∨ j = i by omega).elim (fun h9 => hln j h9) (fun h9 => by rw [h9]; exact hgt), k3, V7⟩))))
            · skip
              
              have hi3 : i = 3 := by have := of_decide_eq_false cB1; omega
              subst hi3
              refine c_exit ?_
              refine hQ6 _ _ _ (in_exit ?_)
              refine hK4 _ _ ?_
              refine fg1 6 (gS rfl (gS rfl g0)) (fun g => ?_)
              refine c_seq (fun K25 hK25 => ?_)
              exact (by
                refine c_draw Up 10 [(0, true), (1, true), (2, true), (3, true), (4, true), (5, true), (6, true), (7, true), (8, true), (9, true)] (by kernel_rfl) (fun w26 hu => ⟨Up.refl _, ?_⟩)
                replace G := G.tr (Go.ofUp hF hu)
                replace hF := hF.up hu
                replace k3 := k3.up hu
                replace U := U.tr hu
                have SU := Up.refl w26
                refine p_step (by exact rfl) (y_idxAC 0 0 Hvaa.underlying386 sz_26 (et g0 rfl) rfl rfl rfl) ?_
                refine p_step (by exact rfl) (y_load1 one_26 (et g0 rfl) (atS (k3.cell rfl))) ?_
                refine p_step (by exact rfl) (y_idxAC 1 1 Hvaa.underlying386 sz_26 (et (gS rfl (gS rfl g0)) rfl) rfl rfl rfl) ?_
                refine p_step (by exact rfl) (y_load1 one_26 (et g0 rfl) (atS (k3.cell rfl))) ?_
                refine p_step (by exact rfl) (y_idxAC 2 2 Hvaa.underlying386 sz_26 (et (gS rfl (gS rfl (gS rfl (gS rfl g0)))) rfl) rfl rfl rfl) ?_
                refine p_step (by exact rfl) (y_load1 one_26 (et g0 rfl) (atS (k3.cell rfl))) ?_
                refine p_step (by exact rfl) (y_assignV (et (gS rfl (gS rfl (gS rfl (gS rfl g0)))) rfl)) ?_
                refine p_step (by exact rfl) (y_assignV (et (gS rfl (gS rfl (gS rfl g0))) rfl)) ?_
                refine p_step (by exact rfl) (y_assignV (et (gS rfl (gS rfl g0)) rfl)) ?_
                refine p_step (by exact rfl) y_assignC ?_
                refine p_nil ?_
                refine hK25 _ _ ?_
                refine fg4 2 3 4 5 (gS rfl (gS rfl (gS rfl g0))) (gS rfl (gS rfl g0)) (gS rfl g0) g0 (fun g => ?_)
                refine c_ret ?_
                repeat with_reducible refine then_ret ?_
                refine ret4 rfl (res_tmp (et (gS rfl (gS rfl (gS rfl g0))) rfl)) (res_tmp (et (gS rfl (gS rfl g0)) rfl)) (res_tmp (et (gS rfl g0) rfl)) (res_tmp (et g0 rfl)) ?_
                have e9 := lnOk_of hln
                exact ⟨_, by simp only [lnV, e9, if_true]; rfl, G⟩)))))
end Go.Proofs.YgvaawGreat
