import Derived.Test.YgvaawGreatD2
import Derived.Test.YgvaawGreatKit3
set_option maxRecDepth 100000
set_option linter.unusedSimpArgs false
set_option linter.unusedVariables false
namespace Go.Proofs.YgvaawGreat
open Go
theorem div64_no (hi lo y : Nat) (w : World) (hhy : y ≤ hi) :
    Ret 370 [.int .u64 hi, .int .u64 lo, .int .u64 y] w (fun v w' => v = .tuple #[.int .u64 (0 : Nat), .int .u64 (0 : Nat), .bool false] ∧ Up w w') := by
  refine enter (n := 25) Hvaa.func370 rfl rfl (Nat.le_of_ble_eq_true rfl) ?_
  have U := Up.refl w
  refine c_seq (fun K1 hK1 => ?_)
  refine c_region ?_
  refine l_step y_assignC ?_
  refine l_step y_assignC ?_
  refine l_step y_assignC ?_
  refine l_nil ?_
  refine hK1 _ _ ?_
  refine fg3 2 1 0 (gS rfl (gS rfl (gS rfl (gS rfl (gS rfl g0))))) (gS rfl (gS rfl (gS rfl (gS rfl g0)))) (gS rfl (gS rfl (gS rfl g0))) (fun g => ?_)
  refine c_seq (fun K2 hK2 => ?_)
  refine c_seq (fun K3 hK3 => ?_)
  refine c_region ?_
  refine l_step (y_moveV (et (gS rfl (gS rfl g0)) rfl)) ?_
  refine l_step (y_eql (et g0 rfl) rfl) ?_
  refine l_step (y_moveV (et g0 rfl)) ?_
  refine gsplitL (i := 11) g0 (fun q4 => ?_) (fun q4 => ?_)
  · skip
    refine l_gskip (j := 2) (t := 11) (by exact rfl) (by exact rfl) (et g0 rfl) (by decide) (by decide) ?_
    refine l_gskip (j := 2) (t := 11) (by exact rfl) (by exact rfl) (et (gS rfl g0) rfl) (by decide) (by decide) ?_
    refine l_gskip (j := 2) (t := 11) (by exact rfl) (by exact rfl) (et (gS rfl (gS rfl g0)) rfl) (by decide) (by decide) ?_
    refine l_step (y_pickT (et (gS rfl (gS rfl (gS rfl g0))) rfl) rfl) ?_
    refine l_nil ?_
    refine hK3 _ _ ?_
    refine fg4 2 1 0 15 (gS rfl (gS rfl (gS rfl (gS rfl (gS rfl (gS rfl (gS rfl (gS rfl (gS rfl (gS rfl g0)))))))))) (gS rfl (gS rfl (gS rfl (gS rfl (gS rfl (gS rfl (gS rfl (gS rfl (gS rfl g0))))))))) (gS rfl (gS rfl (gS rfl (gS rfl (gS rfl (gS rfl (gS rfl (gS rfl g0)))))))) g0 (fun g => ?_)
    refine c_true (et g0 rfl) rfl ?_
    refine c_seq (fun K6 hK6 => ?_)
    refine c_region ?_
    refine l_step y_assignC ?_
    refine l_step y_assignC ?_
    refine l_step y_assignC ?_
    refine l_nil ?_
    refine hK6 _ _ ?_
    refine fg3 6 7 8 (gS rfl (gS rfl g0)) (gS rfl g0) g0 (fun g => ?_)
    refine c_ret ?_
    refine ret3 rfl (res_tmp (et (gS rfl (gS rfl g0)) rfl)) (res_tmp (et (gS rfl g0) rfl)) (res_tmp (et g0 rfl)) ?_
    exact ⟨rfl, U⟩
  · skip
    refine l_gstep (j := 2) (t := 11) (by exact rfl) (by exact rfl) (et g0 rfl) (by decide) (y_moveV (et (gS rfl (gS rfl (gS rfl (gS rfl g0)))) rfl)) ?_
    refine l_gstep (j := 2) (t := 11) (by exact rfl) (by exact rfl) (et (gS rfl g0) rfl) (by decide) (y_moveV (et (gS rfl (gS rfl (gS rfl (gS rfl (gS rfl (gS rfl (gS rfl g0))))))) rfl)) ?_
    refine l_gstep (j := 2) (t := 11) (by exact rfl) (by exact rfl) (et (gS rfl (gS rfl g0)) rfl) (by decide) (y_geq (et (gS rfl g0) rfl) (et g0 rfl)) ?_
    refine l_step (y_pickF (et (gS rfl (gS rfl (gS rfl g0))) rfl) (et g0 rfl)) ?_
    refine l_nil ?_
    refine hK3 _ _ ?_
    refine fg4 2 1 0 15 (gS rfl (gS rfl (gS rfl (gS rfl (gS rfl (gS rfl (gS rfl (gS rfl (gS rfl (gS rfl g0)))))))))) (gS rfl (gS rfl (gS rfl (gS rfl (gS rfl (gS rfl (gS rfl (gS rfl (gS rfl g0))))))))) (gS rfl (gS rfl (gS rfl (gS rfl (gS rfl (gS rfl (gS rfl (gS rfl g0)))))))) g0 (fun g => ?_)
    refine c_cond (et g0 rfl) (fun cB1 => ?_) (fun cB1 => ?_)
    · skip
      
      refine c_seq (fun K8 hK8 => ?_)
      refine c_region ?_
      refine l_step y_assignC ?_
      refine l_step y_assignC ?_
      refine l_step y_assignC ?_
      refine l_nil ?_
      refine hK8 _ _ ?_
      refine fg3 6 7 8 (gS rfl (gS rfl g0)) (gS rfl g0) g0 (fun g => ?_)
      refine c_ret ?_
      refine ret3 rfl (res_tmp (et (gS rfl (gS rfl g0)) rfl)) (res_tmp (et (gS rfl g0) rfl)) (res_tmp (et g0 rfl)) ?_
      exact ⟨rfl, U⟩
    · skip
      
      exact absurd (of_decide_eq_false cB1) (by omega)
/-! the trial digit -/
theorem tr_le (q t n r h l V U : Nat) (hV : V = t * 18446744073709551616 + n) (hI : q * t + r = h) (hU : U = h * 18446744073709551616 + l) (hc : q * n ≤ r * 18446744073709551616 + l) : q * V ≤ U := by
  subst hV; subst hU; subst hI
  rw [Nat.mul_add, Nat.add_mul, Nat.mul_assoc]
  omega
theorem tr_gt (q t n r h l V U : Nat) (hV : V = t * 18446744073709551616 + n) (hI : q * t + r = h) (hU : U = h * 18446744073709551616 + l) (hc : r * 18446744073709551616 + l < q * n) : U < q * V := by
  subst hV; subst hU; subst hI
  rw [Nat.mul_add, Nat.add_mul, Nat.mul_assoc]
  omega
theorem tr_over (q n r l : Nat) (hq : q < 18446744073709551616) (hn : n < 18446744073709551616) : q * n ≤ (r + 1 * 18446744073709551616) * 18446744073709551616 + l := by
  have h2 : q * n ≤ 18446744073709551616 * 18446744073709551616 := Nat.mul_le_mul (Nat.le_of_lt hq) (Nat.le_of_lt hn)
  exact Nat.le_trans h2 (Nat.le_trans (Nat.mul_le_mul_right _ (by omega)) (Nat.le_add_right _ _))
theorem tr_next (q t r c top : Nat) (h : (q + 1) * top + r = t) (s k : Nat) (he : s + k * 18446744073709551616 = r + top + 0) : q * top + (s + k * 18446744073709551616) = t := by
  rw [Nat.add_mul] at h; omega
theorem tr_fst (h t n l : Nat) (ht : 0 < t) (hl : l < 18446744073709551616) : h * 18446744073709551616 + l < (h / t + 1) * (t * 18446744073709551616 + n) := by
  have h1 : h < (h / t + 1) * t := by
    have := Nat.div_add_mod h t
    have := Nat.mod_lt h ht
    rw [Nat.add_mul, Nat.one_mul, Nat.mul_comm]; omega
  have h2 : (h / t + 1) * (t * 18446744073709551616 + n) = ((h / t + 1) * t) * 18446744073709551616 + (h / t + 1) * n := by rw [Nat.mul_add, Nat.mul_assoc]
  rw [h2]
  generalize (h / t + 1) * t = z at *
  have h3 : (h + 1) * 18446744073709551616 ≤ z * 18446744073709551616 := Nat.mul_le_mul_right _ h1
  rw [Nat.add_mul] at h3
  exact Nat.lt_of_lt_of_le (Nat.lt_of_lt_of_le (Nat.add_lt_add_left (show l < 1 * 18446744073709551616 by omega) _) h3) (Nat.le_add_right _ _)
theorem tr_inv (h t : Nat) : h / t * t + (h % t + 0 * 18446744073709551616) = h := by
  have := Nat.div_add_mod h t
  rw [Nat.mul_comm]; omega
theorem trial_lt (high mid low top next : Nat) (w : World) (hmid : mid < 18446744073709551616) (hlow : low < 18446744073709551616) (htop : top < 18446744073709551616) (hnext : next < 18446744073709551616) (hh : high < top) :
    Ret 425 [.int .u64 high, .int .u64 mid, .int .u64 low, .int .u64 top, .int .u64 next] w (fun v w' => ∃ q f : Nat, v = .tuple #[.int .u64 q, .int .u8 f] ∧ q < 18446744073709551616 ∧ q * (top * 18446744073709551616 + next) ≤ (high * 18446744073709551616 + mid) * 18446744073709551616 + low ∧ (q = 18446744073709551615 ∨ (high * 18446744073709551616 + mid) * 18446744073709551616 + low < (q + 1) * (top * 18446744073709551616 + next)) ∧ Up w w') := by
  refine enter (n := 66) Hvaa.func425 rfl rfl (Nat.le_of_ble_eq_true rfl) ?_
  have U := Up.refl w
  refine c_seq (fun K1 hK1 => ?_)
  refine c_region ?_
  refine l_step y_assignC ?_
  refine l_step y_assignC ?_
  refine l_nil ?_
  refine hK1 _ _ ?_
  refine fg6 4 3 2 1 0 11 (gS rfl (gS rfl (gS rfl (gS rfl (gS rfl (gS rfl g0)))))) (gS rfl (gS rfl (gS rfl (gS rfl (gS rfl g0))))) (gS rfl (gS rfl (gS rfl (gS rfl g0)))) (gS rfl (gS rfl (gS rfl g0))) (gS rfl (gS rfl g0)) g0 (fun g => ?_)
  refine c_seq (fun K2 hK2 => ?_)
  refine c_region ?_
  refine l_step (y_moveV (et (gS rfl g0) rfl)) ?_
  refine l_step (y_moveV (et (gS rfl (gS rfl (gS rfl g0))) rfl)) ?_
  refine l_step (y_moveV (et (gS rfl (gS rfl (gS rfl (gS rfl (gS rfl (gS rfl g0)))))) rfl)) ?_
  refine l_eff (e_callV cal_370 (aC (et (gS rfl (gS rfl g0)) rfl) (aC (et (gS rfl g0) rfl) (aC (et g0 rfl) aN))) (div64_spec _ _ _ _ (by assumption) (by assumption) (by assumption))) (fun v3 w3 h3 => ?_)
  obtain ⟨rfl, u3⟩ := h3
  replace U := U.tr u3
  refine l_step (y_moveV (et g0 rfl)) ?_
  refine l_step (y_ext (et g0 rfl) rfl) ?_
  refine l_step (y_ext (et (gS rfl g0) rfl) rfl) ?_
  refine l_step (y_ext (et (gS rfl (gS rfl g0)) rfl) rfl) ?_
  refine l_step (y_assignV (et (gS rfl (gS rfl g0)) rfl)) ?_
  refine l_step (y_assignV (et (gS rfl (gS rfl g0)) rfl)) ?_
  refine l_step (y_assignV (et (gS rfl (gS rfl g0)) rfl)) ?_
  refine l_nil ?_
  refine hK2 _ _ ?_
  refine fg8 4 3 2 1 11 10 12 13 (gS rfl (gS rfl (gS rfl (gS rfl (gS rfl (gS rfl (gS rfl (gS rfl (gS rfl (gS rfl (gS rfl (gS rfl (gS rfl (gS rfl (gS rfl (gS rfl g0)))))))))))))))) (gS rfl (gS rfl (gS rfl (gS rfl (gS rfl (gS rfl (gS rfl (gS rfl (gS rfl (gS rfl (gS rfl (gS rfl (gS rfl (gS rfl (gS rfl g0))))))))))))))) (gS rfl (gS rfl (gS rfl (gS rfl (gS rfl (gS rfl (gS rfl (gS rfl (gS rfl (gS rfl (gS rfl (gS rfl (gS rfl (gS rfl g0)))))))))))))) (gS rfl (gS rfl (gS rfl (gS rfl (gS rfl (gS rfl (gS rfl (gS rfl (gS rfl (gS rfl (gS rfl (gS rfl (gS rfl g0))))))))))))) (gS rfl (gS rfl (gS rfl (gS rfl (gS rfl (gS rfl (gS rfl (gS rfl (gS rfl (gS rfl (gS rfl g0))))))))))) (gS rfl (gS rfl g0)) (gS rfl g0) g0 (fun g => ?_)
  refine c_seq (fun K4 hK4 => ?_)
  refine c_region ?_
  refine l_step y_assignC ?_
  refine l_nil ?_
  refine hK4 _ _ ?_
  refine c_seq (fun K5 hK5 => ?_)
  refine c_seq (fun K6 hK6 => ?_)
  refine c_region ?_
  refine l_step (y_moveV (et (gS rfl g0) rfl)) ?_
  refine l_step (y_not (et g0 rfl)) ?_
  refine l_nil ?_
  refine hK6 _ _ ?_
  refine fg9 4 3 2 1 11 10 12 14 26 (gS rfl (gS rfl (gS rfl (gS rfl (gS rfl (gS rfl (gS rfl (gS rfl (gS rfl (gS rfl g0)))))))))) (gS rfl (gS rfl (gS rfl (gS rfl (gS rfl (gS rfl (gS rfl (gS rfl (gS rfl g0))))))))) (gS rfl (gS rfl (gS rfl (gS rfl (gS rfl (gS rfl (gS rfl (gS rfl g0)))))))) (gS rfl (gS rfl (gS rfl (gS rfl (gS rfl (gS rfl (gS rfl g0))))))) (gS rfl (gS rfl (gS rfl (gS rfl (gS rfl (gS rfl g0)))))) (gS rfl (gS rfl (gS rfl (gS rfl (gS rfl g0))))) (gS rfl (gS rfl (gS rfl (gS rfl g0)))) (gS rfl (gS rfl g0)) g0 (fun g => ?_)
  refine c_false (et g0 rfl) (by rfl) ?_
  refine c_skip ?_
  refine hK5 _ _ ?_
  refine fg7 4 3 2 11 10 12 14 (gS rfl (gS rfl (gS rfl (gS rfl (gS rfl (gS rfl (gS rfl (gS rfl g0)))))))) (gS rfl (gS rfl (gS rfl (gS rfl (gS rfl (gS rfl (gS rfl g0))))))) (gS rfl (gS rfl (gS rfl (gS rfl (gS rfl (gS rfl g0)))))) (gS rfl (gS rfl (gS rfl (gS rfl g0)))) (gS rfl (gS rfl (gS rfl g0))) (gS rfl (gS rfl g0)) (gS rfl g0) (fun g => ?_)
  refine c_seq (fun K8 hK8 => ?_)
  refine c_block (fun Q9 hQ9 => ?_)
  refine fg7 2 3 4 10 11 12 14 (gS rfl (gS rfl (gS rfl (gS rfl g0)))) (gS rfl (gS rfl (gS rfl (gS rfl (gS rfl g0))))) (gS rfl (gS rfl (gS rfl (gS rfl (gS rfl (gS rfl g0)))))) (gS rfl (gS rfl g0)) (gS rfl (gS rfl (gS rfl g0))) (gS rfl g0) g0 (fun g => ?_)
  refine c_loop (fun k_ s_ W10 => ∃ (g : Nat → Value) (q f r c : Nat), s_ = (upd (upd (upd (upd (upd (upd (upd g 2 (.int .u64 (low : Nat))) 3 (.int .u64 (top : Nat))) 4 (.int .u64 (next : Nat))) 10 (.int .u64 (q : Nat))) 11 (.int .u8 (f : Nat))) 12 (.int .u64 (r : Nat))) 14 (.int .u64 (c : Nat))) ∧ q = k_ ∧ (q < 18446744073709551616) ∧ (r < 18446744073709551616) ∧ (c ≤ 1) ∧ (q * top + (r + c * 18446744073709551616) = high * 18446744073709551616 + mid) ∧ (q = 18446744073709551615 ∨ (high * 18446744073709551616 + mid) * 18446744073709551616 + low < (q + 1) * (top * 18446744073709551616 + next)) ∧ Ch (fun k => False) w3 W10) ((((high * 18446744073709551616 + mid) / top))) ?_ ?_
  · exact ⟨g, ((high * 18446744073709551616 + mid) / top), 0, ((high * 18446744073709551616 + mid) % top), 0, rfl, rfl, div_dig _ _ _ hmid hh, Nat.lt_trans (Nat.mod_lt _ (by omega)) htop, by decide, tr_inv _ _, .inr (tr_fst _ _ _ _ (by omega) hlow), Ch.refl _ _⟩
  · skip
    intro k_ s_ W10 hI K10 hK10
    obtain ⟨g, q, f, r, c, rfl, rfl, hq, hr, hc, hI, hU, V10⟩ := hI
    replace U := U.cc V10 (by intro b hb; first | exact hb.elim | omega | (simp at hb ⊢; omega))
    refine c_seq (fun K11 hK11 => ?_)
    refine c_seq (fun K12 hK12 => ?_)
    refine c_region ?_
    refine l_step (y_moveV (et g0 rfl)) ?_
    refine l_step (y_eql (et g0 rfl) rfl) ?_
    refine l_nil ?_
    refine hK12 _ _ ?_
    refine fg7 2 3 4 10 11 12 34 (gS rfl (gS rfl (gS rfl (gS rfl (gS rfl (gS rfl (gS rfl (gS rfl g0)))))))) (gS rfl (gS rfl (gS rfl (gS rfl (gS rfl (gS rfl (gS rfl g0))))))) (gS rfl (gS rfl (gS rfl (gS rfl (gS rfl (gS rfl g0)))))) (gS rfl (gS rfl (gS rfl (gS rfl (gS rfl g0))))) (gS rfl (gS rfl (gS rfl (gS rfl g0)))) (gS rfl (gS rfl (gS rfl g0))) g0 (fun g => ?_)
    refine c_cond (et g0 rfl) (fun cB2 => ?_) (fun cB2 => ?_)
    · skip
      
      have hc0 : c = 0 := by have := of_decide_eq_true cB2; omega
      subst hc0
      refine c_skip ?_
      refine hK11 _ _ ?_
      refine fg6 2 3 4 10 11 12 (gS rfl (gS rfl (gS rfl (gS rfl (gS rfl (gS rfl g0)))))) (gS rfl (gS rfl (gS rfl (gS rfl (gS rfl g0))))) (gS rfl (gS rfl (gS rfl (gS rfl g0)))) (gS rfl (gS rfl (gS rfl g0))) (gS rfl (gS rfl g0)) (gS rfl g0) (fun g => ?_)
      refine c_block (fun Q14 hQ14 => ?_)
      refine c_seq (fun K15 hK15 => ?_)
      refine c_region ?_
      refine l_step (y_moveV (et (gS rfl (gS rfl g0)) rfl)) ?_
      refine l_step (y_moveV (et (gS rfl (gS rfl (gS rfl (gS rfl g0)))) rfl)) ?_
      refine l_eff (e_callV cal_168 (aC (et (gS rfl g0) rfl) (aC (et g0 rfl) aN)) (mul64_r _ _ _ (by assumption) (by assumption))) (fun v16 w16 h16 => ?_)
      obtain ⟨p16, q16, rfl, hp16, hq16, he16, u16⟩ := h16
      replace U := U.tr u16
      replace V10 := V10.tr u16
      refine l_step (y_moveV (et g0 rfl)) ?_
      refine l_step (y_ext (et g0 rfl) rfl) ?_
      refine l_step (y_ext (et (gS rfl g0) rfl) rfl) ?_
      refine l_step (y_assignV (et (gS rfl g0) rfl)) ?_
      refine l_step (y_assignV (et (gS rfl g0) rfl)) ?_
      refine l_nil ?_
      refine hK15 _ _ ?_
      refine fg8 2 3 4 10 11 12 15 16 (gS rfl (gS rfl (gS rfl (gS rfl (gS rfl (gS rfl (gS rfl (gS rfl (gS rfl (gS rfl (gS rfl (gS rfl (gS rfl g0))))))))))))) (gS rfl (gS rfl (gS rfl (gS rfl (gS rfl (gS rfl (gS rfl (gS rfl (gS rfl (gS rfl (gS rfl (gS rfl g0)))))))))))) (gS rfl (gS rfl (gS rfl (gS rfl (gS rfl (gS rfl (gS rfl (gS rfl (gS rfl (gS rfl (gS rfl g0))))))))))) (gS rfl (gS rfl (gS rfl (gS rfl (gS rfl (gS rfl (gS rfl (gS rfl (gS rfl (gS rfl g0)))))))))) (gS rfl (gS rfl (gS rfl (gS rfl (gS rfl (gS rfl (gS rfl (gS rfl (gS rfl g0))))))))) (gS rfl (gS rfl (gS rfl (gS rfl (gS rfl (gS rfl (gS rfl (gS rfl g0)))))))) (gS rfl g0) g0 (fun g => ?_)
      refine c_seq (fun K17 hK17 => ?_)
      refine c_seq (fun K18 hK18 => ?_)
      refine c_region ?_
      refine l_step (y_moveV (et (gS rfl g0) rfl)) ?_
      refine l_step (y_moveV (et (gS rfl (gS rfl (gS rfl g0))) rfl)) ?_
      refine l_step (y_lss (et (gS rfl g0) rfl) (et g0 rfl)) ?_
      refine l_step (y_moveV (et g0 rfl)) ?_
      refine gsplitL (i := 44) g0 (fun q19 => ?_) (fun q19 => ?_)
      · skip
        have hle : q * next ≤ r * 18446744073709551616 + low := by have := of_decide_eq_true q19; omega
        have hfin := tr_le q top next r _ low _ _ rfl (by simpa using hI) rfl hle
        refine l_gskip (j := 3) (t := 44) (by exact rfl) (by exact rfl) (et g0 rfl) (by decide) (by decide) ?_
        refine l_gskip (j := 3) (t := 44) (by exact rfl) (by exact rfl) (et (gS rfl g0) rfl) (by decide) (by decide) ?_
        refine l_gskip (j := 3) (t := 44) (by exact rfl) (by exact rfl) (et (gS rfl (gS rfl g0)) rfl) (by decide) (by decide) ?_
        refine l_gskip (j := 3) (t := 44) (by exact rfl) (by exact rfl) (et (gS rfl (gS rfl (gS rfl g0))) rfl) (by decide) (by decide) ?_
        refine l_uskip (j := 7) (t := 48) (by exact rfl) (by exact rfl) (et g0 rfl) rfl ?_
        refine l_uskip (j := 7) (t := 48) (by exact rfl) (by exact rfl) (et (gS rfl g0) rfl) rfl ?_
        refine l_uskip (j := 7) (t := 48) (by exact rfl) (by exact rfl) (et (gS rfl (gS rfl g0)) rfl) rfl ?_
        refine l_gskip (j := 3) (t := 44) (by exact rfl) (by exact rfl) (et (gS rfl (gS rfl (gS rfl (gS rfl (gS rfl (gS rfl (gS rfl g0))))))) rfl) (by decide) (by decide) ?_
        refine l_step (y_pickT (et (gS rfl (gS rfl (gS rfl (gS rfl (gS rfl (gS rfl (gS rfl (gS rfl g0)))))))) rfl) rfl) ?_
        refine l_nil ?_
        refine hK18 _ _ ?_
        refine fg7 2 3 4 10 11 12 53 (gS rfl (gS rfl (gS rfl (gS rfl (gS rfl (gS rfl (gS rfl (gS rfl (gS rfl (gS rfl (gS rfl (gS rfl (gS rfl (gS rfl (gS rfl (gS rfl (gS rfl (gS rfl (gS rfl (gS rfl (gS rfl g0))))))))))))))))))))) (gS rfl (gS rfl (gS rfl (gS rfl (gS rfl (gS rfl (gS rfl (gS rfl (gS rfl (gS rfl (gS rfl (gS rfl (gS rfl (gS rfl (gS rfl (gS rfl (gS rfl (gS rfl (gS rfl (gS rfl g0)))))))))))))))))))) (gS rfl (gS rfl (gS rfl (gS rfl (gS rfl (gS rfl (gS rfl (gS rfl (gS rfl (gS rfl (gS rfl (gS rfl (gS rfl (gS rfl (gS rfl (gS rfl (gS rfl (gS rfl (gS rfl g0))))))))))))))))))) (gS rfl (gS rfl (gS rfl (gS rfl (gS rfl (gS rfl (gS rfl (gS rfl (gS rfl (gS rfl (gS rfl (gS rfl (gS rfl (gS rfl (gS rfl (gS rfl (gS rfl (gS rfl g0)))))))))))))))))) (gS rfl (gS rfl (gS rfl (gS rfl (gS rfl (gS rfl (gS rfl (gS rfl (gS rfl (gS rfl (gS rfl (gS rfl (gS rfl (gS rfl (gS rfl (gS rfl (gS rfl g0))))))))))))))))) (gS rfl (gS rfl (gS rfl (gS rfl (gS rfl (gS rfl (gS rfl (gS rfl (gS rfl (gS rfl (gS rfl (gS rfl (gS rfl (gS rfl (gS rfl (gS rfl g0)))))))))))))))) g0 (fun g => ?_)
        refine c_true (et g0 rfl) rfl ?_
        refine c_exit ?_
        refine hQ14 _ _ _ (in_past (by decide) ?_)
        refine hQ9 _ _ _ (in_exit ?_)
        refine hK8 _ _ ?_
        refine fg2 10 11 (gS rfl (gS rfl (gS rfl g0))) (gS rfl (gS rfl g0)) (fun g => ?_)
        refine c_seq (fun K21 hK21 => ?_)
        refine c_region ?_
        refine l_step (y_moveV (et (gS rfl g0) rfl)) ?_
        refine l_step (y_moveV (et (gS rfl g0) rfl)) ?_
        refine l_step (y_assignV (et (gS rfl g0) rfl)) ?_
        refine l_step (y_assignV (et (gS rfl g0) rfl)) ?_
        refine l_nil ?_
        refine hK21 _ _ ?_
        refine fg2 10 11 (gS rfl g0) g0 (fun g => ?_)
        refine c_ret ?_
        refine ret2 rfl (res_tmp (et (gS rfl g0) rfl)) (res_tmp (et g0 rfl)) ?_
        exact ⟨q, f, rfl, hq, hfin, hU, U⟩
      · skip
        have hg1 := of_decide_eq_false q19
        refine l_gstep (j := 3) (t := 44) (by exact rfl) (by exact rfl) (et g0 rfl) (by decide) (y_moveV (et (gS rfl (gS rfl (gS rfl (gS rfl (gS rfl (gS rfl g0)))))) rfl)) ?_
        refine l_gstep (j := 3) (t := 44) (by exact rfl) (by exact rfl) (et (gS rfl g0) rfl) (by decide) (y_moveV (et (gS rfl (gS rfl (gS rfl (gS rfl (gS rfl (gS rfl (gS rfl (gS rfl g0)))))))) rfl)) ?_
        refine l_gstep (j := 3) (t := 44) (by exact rfl) (by exact rfl) (et (gS rfl (gS rfl g0)) rfl) (by decide) (y_eql (et (gS rfl g0) rfl) (et g0 rfl)) ?_
        refine l_gstep (j := 3) (t := 44) (by exact rfl) (by exact rfl) (et (gS rfl (gS rfl (gS rfl g0))) rfl) (by decide) (y_moveV (et g0 rfl)) ?_
        refine gsplitL (i := 48) g0 (fun q22 => ?_) (fun q22 => ?_)
        · skip
          have hg2 := of_decide_eq_true q22
          refine l_gstep (j := 7) (t := 48) (by exact rfl) (by exact rfl) (et g0 rfl) (by decide) (y_moveV (et (gS rfl (gS rfl (gS rfl (gS rfl (gS rfl (gS rfl (gS rfl (gS rfl (gS rfl (gS rfl g0)))))))))) rfl)) ?_
          refine l_gstep (j := 7) (t := 48) (by exact rfl) (by exact rfl) (et (gS rfl g0) rfl) (by decide) (y_moveV (et (gS rfl (gS rfl (gS rfl (gS rfl (gS rfl (gS rfl (gS rfl (gS rfl (gS rfl (gS rfl (gS rfl (gS rfl (gS rfl (gS rfl (gS rfl (gS rfl (gS rfl (gS rfl g0)))))))))))))))))) rfl)) ?_
          refine l_gstep (j := 7) (t := 48) (by exact rfl) (by exact rfl) (et (gS rfl (gS rfl g0)) rfl) (by decide) (y_leq (et (gS rfl g0) rfl) (et g0 rfl)) ?_
          refine l_gstep (j := 3) (t := 44) (by exact rfl) (by exact rfl) (et (gS rfl (gS rfl (gS rfl (gS rfl (gS rfl (gS rfl (gS rfl (gS rfl g0)))))))) rfl) (by decide) (y_pickT (et (gS rfl (gS rfl (gS rfl g0))) rfl) (et g0 rfl)) ?_
          refine l_step (y_pickF (et (gS rfl (gS rfl (gS rfl (gS rfl (gS rfl (gS rfl (gS rfl (gS rfl (gS rfl g0))))))))) rfl) (et g0 rfl)) ?_
          refine l_nil ?_
          refine hK18 _ _ ?_
          refine fg7 2 3 4 10 11 12 53 (gS rfl (gS rfl (gS rfl (gS rfl (gS rfl (gS rfl (gS rfl (gS rfl (gS rfl (gS rfl (gS rfl (gS rfl (gS rfl (gS rfl (gS rfl (gS rfl (gS rfl (gS rfl (gS rfl (gS rfl (gS rfl (gS rfl g0)))))))))))))))))))))) (gS rfl (gS rfl (gS rfl (gS rfl (gS rfl (gS rfl (gS rfl (gS rfl (gS rfl (gS rfl (gS rfl (gS rfl (gS rfl (gS rfl (gS rfl (gS rfl (gS rfl (gS rfl (gS rfl (gS rfl (gS rfl g0))))))))))))))))))))) (gS rfl (gS rfl (gS rfl (gS rfl (gS rfl (gS rfl (gS rfl (gS rfl (gS rfl (gS rfl (gS rfl (gS rfl (gS rfl (gS rfl (gS rfl (gS rfl (gS rfl (gS rfl (gS rfl (gS rfl g0)))))))))))))))))))) (gS rfl (gS rfl (gS rfl (gS rfl (gS rfl (gS rfl (gS rfl (gS rfl (gS rfl (gS rfl (gS rfl (gS rfl (gS rfl (gS rfl (gS rfl (gS rfl (gS rfl (gS rfl (gS rfl g0))))))))))))))))))) (gS rfl (gS rfl (gS rfl (gS rfl (gS rfl (gS rfl (gS rfl (gS rfl (gS rfl (gS rfl (gS rfl (gS rfl (gS rfl (gS rfl (gS rfl (gS rfl (gS rfl (gS rfl g0)))))))))))))))))) (gS rfl (gS rfl (gS rfl (gS rfl (gS rfl (gS rfl (gS rfl (gS rfl (gS rfl (gS rfl (gS rfl (gS rfl (gS rfl (gS rfl (gS rfl (gS rfl (gS rfl g0))))))))))))))))) g0 (fun g => ?_)
          refine c_cond (et g0 rfl) (fun cB3 => ?_) (fun cB3 => ?_)
          · skip
            
            have hle : q * next ≤ r * 18446744073709551616 + low := by have := of_decide_eq_true cB3; omega
            have hfin := tr_le q top next r _ low _ _ rfl (by simpa using hI) rfl hle
            refine c_exit ?_
            refine hQ14 _ _ _ (in_past (by decide) ?_)
            refine hQ9 _ _ _ (in_exit ?_)
            refine hK8 _ _ ?_
            refine fg2 10 11 (gS rfl (gS rfl (gS rfl g0))) (gS rfl (gS rfl g0)) (fun g => ?_)
            refine c_seq (fun K24 hK24 => ?_)
            refine c_region ?_
            refine l_step (y_moveV (et (gS rfl g0) rfl)) ?_
            refine l_step (y_moveV (et (gS rfl g0) rfl)) ?_
            refine l_step (y_assignV (et (gS rfl g0) rfl)) ?_
            refine l_step (y_assignV (et (gS rfl g0) rfl)) ?_
            refine l_nil ?_
            refine hK24 _ _ ?_
            refine fg2 10 11 (gS rfl g0) g0 (fun g => ?_)
            refine c_ret ?_
            refine ret2 rfl (res_tmp (et (gS rfl g0) rfl)) (res_tmp (et g0 rfl)) ?_
            exact ⟨q, f, rfl, hq, hfin, hU, U⟩
          · skip
            
            have hgt : r * 18446744073709551616 + low < q * next := by have := of_decide_eq_false cB3; omega
            refine c_skip ?_
            refine hK17 _ _ ?_
            refine fg6 2 3 4 10 11 12 (gS rfl (gS rfl (gS rfl (gS rfl (gS rfl (gS rfl g0)))))) (gS rfl (gS rfl (gS rfl (gS rfl (gS rfl g0))))) (gS rfl (gS rfl (gS rfl (gS rfl g0)))) (gS rfl (gS rfl (gS rfl g0))) (gS rfl (gS rfl g0)) (gS rfl g0) (fun g => ?_)
            refine c_seq (fun K25 hK25 => ?_)
            refine c_region ?_
            refine l_step (y_moveV (et (gS rfl (gS rfl g0)) rfl)) ?_
            have hlt := tr_gt q top next r _ low _ _ rfl (by simpa using hI) rfl hgt
            have hq0 : q ≠ 0 := fun h0 => by rw [h0, Nat.zero_mul] at hgt; omega
            obtain ⟨q', rfl⟩ : ∃ p, q = p + 1 := ⟨q - 1, by omega⟩
            refine l_step (y_sub (et g0 rfl) rfl (subOne ?_)) ?_
            omega
            refine l_step (y_assignV (et g0 rfl)) ?_
            refine l_nil ?_
            refine hK25 _ _ ?_
            refine fg6 2 3 4 10 11 12 (gS rfl (gS rfl (gS rfl (gS rfl (gS rfl (gS rfl (gS rfl (gS rfl g0)))))))) (gS rfl (gS rfl (gS rfl (gS rfl (gS rfl (gS rfl (gS rfl g0))))))) (gS rfl (gS rfl (gS rfl (gS rfl (gS rfl (gS rfl g0)))))) g0 (gS rfl (gS rfl (gS rfl (gS rfl g0)))) (gS rfl (gS rfl (gS rfl g0))) (fun g => ?_)
            refine c_seq (fun K26 hK26 => ?_)
            refine c_region ?_
            refine l_step (y_moveV (et (gS rfl g0) rfl)) ?_
            refine l_step (y_add (et g0 rfl) rfl (wrapU_add (b := 1) uk8)) ?_
            refine l_step (y_assignV (et g0 rfl)) ?_
            refine l_nil ?_
            refine hK26 _ _ ?_
            refine fg6 2 3 4 10 11 12 (gS rfl (gS rfl (gS rfl (gS rfl (gS rfl (gS rfl (gS rfl (gS rfl g0)))))))) (gS rfl (gS rfl (gS rfl (gS rfl (gS rfl (gS rfl (gS rfl g0))))))) (gS rfl (gS rfl (gS rfl (gS rfl (gS rfl (gS rfl g0)))))) (gS rfl (gS rfl (gS rfl (gS rfl (gS rfl g0))))) g0 (gS rfl (gS rfl (gS rfl g0))) (fun g => ?_)
            refine c_region ?_
            refine l_step (y_moveV (et g0 rfl)) ?_
            refine l_step (y_moveV (et (gS rfl (gS rfl (gS rfl (gS rfl (gS rfl g0))))) rfl)) ?_
            refine l_eff (e_callV cal_169 (aC (et (gS rfl g0) rfl) (aC (et g0 rfl) (aC (v := .int .u64 ((0 : Nat) : Int)) rfl aN))) (add64_r _ _ _ _ (by first | assumption | omega) (by first | assumption | omega) (by first | assumption | decide | omega))) (fun v27 w27 h27 => ?_)
            obtain ⟨s27, c27, rfl, hs27, hc27, he27, u27⟩ := h27
            replace U := U.tr u27
            replace V10 := V10.tr u27
            refine l_step (y_moveV (et g0 rfl)) ?_
            refine l_step (y_ext (et g0 rfl) rfl) ?_
            refine l_step (y_ext (et (gS rfl g0) rfl) rfl) ?_
            refine l_step (y_assignV (et (gS rfl g0) rfl)) ?_
            refine l_step (y_assignV (et (gS rfl g0) rfl)) ?_
            refine l_nil ?_
            refine hQ14 _ _ _ (in_normal ?_)
            refine fK7 2 3 4 10 11 12 14 (gS rfl (gS rfl (gS rfl (gS rfl (gS rfl (gS rfl (gS rfl (gS rfl (gS rfl (gS rfl (gS rfl (gS rfl (gS rfl g0))))))))))))) (gS rfl (gS rfl (gS rfl (gS rfl (gS rfl (gS rfl (gS rfl (gS rfl (gS rfl (gS rfl (gS rfl (gS rfl g0)))))))))))) (gS rfl (gS rfl (gS rfl (gS rfl (gS rfl (gS rfl (gS rfl (gS rfl (gS rfl (gS rfl (gS rfl g0))))))))))) (gS rfl (gS rfl (gS rfl (gS rfl (gS rfl (gS rfl (gS rfl (gS rfl (gS rfl (gS rfl g0)))))))))) (gS rfl (gS rfl (gS rfl (gS rfl (gS rfl (gS rfl (gS rfl (gS rfl (gS rfl g0))))))))) (gS rfl g0) g0 (fun g => ?_)
            exact hK10 ((q')) _ _ (by omega) ⟨g, q', _, _, _, rfl, rfl, by omega, by assumption, by assumption, tr_next _ _ _ 0 _ (by simpa using hI) _ _ (by assumption), .inr hlt, V10⟩
        · skip
          have hg2 := of_decide_eq_false q22
          have hgt : r * 18446744073709551616 + low < q * next := by omega
          refine l_gskip (j := 7) (t := 48) (by exact rfl) (by exact rfl) (et g0 rfl) (by decide) (by decide) ?_
          refine l_gskip (j := 7) (t := 48) (by exact rfl) (by exact rfl) (et (gS rfl g0) rfl) (by decide) (by decide) ?_
          refine l_gskip (j := 7) (t := 48) (by exact rfl) (by exact rfl) (et (gS rfl (gS rfl g0)) rfl) (by decide) (by decide) ?_
          refine l_gstep (j := 3) (t := 44) (by exact rfl) (by exact rfl) (et (gS rfl (gS rfl (gS rfl (gS rfl (gS rfl (gS rfl (gS rfl (gS rfl g0)))))))) rfl) (by decide) (y_pickF (et (gS rfl (gS rfl (gS rfl g0))) rfl) rfl) ?_
          refine l_step (y_pickF (et (gS rfl (gS rfl (gS rfl (gS rfl (gS rfl (gS rfl (gS rfl (gS rfl (gS rfl g0))))))))) rfl) (et g0 rfl)) ?_
          refine l_nil ?_
          refine hK18 _ _ ?_
          refine fg7 2 3 4 10 11 12 53 (gS rfl (gS rfl (gS rfl (gS rfl (gS rfl (gS rfl (gS rfl (gS rfl (gS rfl (gS rfl (gS rfl (gS rfl (gS rfl (gS rfl (gS rfl (gS rfl (gS rfl (gS rfl (gS rfl (gS rfl (gS rfl (gS rfl g0)))))))))))))))))))))) (gS rfl (gS rfl (gS rfl (gS rfl (gS rfl (gS rfl (gS rfl (gS rfl (gS rfl (gS rfl (gS rfl (gS rfl (gS rfl (gS rfl (gS rfl (gS rfl (gS rfl (gS rfl (gS rfl (gS rfl (gS rfl g0))))))))))))))))))))) (gS rfl (gS rfl (gS rfl (gS rfl (gS rfl (gS rfl (gS rfl (gS rfl (gS rfl (gS rfl (gS rfl (gS rfl (gS rfl (gS rfl (gS rfl (gS rfl (gS rfl (gS rfl (gS rfl (gS rfl g0)))))))))))))))))))) (gS rfl (gS rfl (gS rfl (gS rfl (gS rfl (gS rfl (gS rfl (gS rfl (gS rfl (gS rfl (gS rfl (gS rfl (gS rfl (gS rfl (gS rfl (gS rfl (gS rfl (gS rfl (gS rfl g0))))))))))))))))))) (gS rfl (gS rfl (gS rfl (gS rfl (gS rfl (gS rfl (gS rfl (gS rfl (gS rfl (gS rfl (gS rfl (gS rfl (gS rfl (gS rfl (gS rfl (gS rfl (gS rfl (gS rfl g0)))))))))))))))))) (gS rfl (gS rfl (gS rfl (gS rfl (gS rfl (gS rfl (gS rfl (gS rfl (gS rfl (gS rfl (gS rfl (gS rfl (gS rfl (gS rfl (gS rfl (gS rfl (gS rfl g0))))))))))))))))) g0 (fun g => ?_)
          refine c_false (et g0 rfl) rfl ?_
          refine c_skip ?_
          refine hK17 _ _ ?_
          refine fg6 2 3 4 10 11 12 (gS rfl (gS rfl (gS rfl (gS rfl (gS rfl (gS rfl g0)))))) (gS rfl (gS rfl (gS rfl (gS rfl (gS rfl g0))))) (gS rfl (gS rfl (gS rfl (gS rfl g0)))) (gS rfl (gS rfl (gS rfl g0))) (gS rfl (gS rfl g0)) (gS rfl g0) (fun g => ?_)
          refine c_seq (fun K29 hK29 => ?_)
          refine c_region ?_
          refine l_step (y_moveV (et (gS rfl (gS rfl g0)) rfl)) ?_
          have hlt := tr_gt q top next r _ low _ _ rfl (by simpa using hI) rfl hgt
          have hq0 : q ≠ 0 := fun h0 => by rw [h0, Nat.zero_mul] at hgt; omega
          obtain ⟨q', rfl⟩ : ∃ p, q = p + 1 := ⟨q - 1, by omega⟩
          refine l_step (y_sub (et g0 rfl) rfl (subOne ?_)) ?_
          omega
          refine l_step (y_assignV (et g0 rfl)) ?_
          refine l_nil ?_
          refine hK29 _ _ ?_
          refine fg6 2 3 4 10 11 12 (gS rfl (gS rfl (gS rfl (gS rfl (gS rfl (gS rfl (gS rfl (gS rfl g0)))))))) (gS rfl (gS rfl (gS rfl (gS rfl (gS rfl (gS rfl (gS rfl g0))))))) (gS rfl (gS rfl (gS rfl (gS rfl (gS rfl (gS rfl g0)))))) g0 (gS rfl (gS rfl (gS rfl (gS rfl g0)))) (gS rfl (gS rfl (gS rfl g0))) (fun g => ?_)
          refine c_seq (fun K30 hK30 => ?_)
          refine c_region ?_
          refine l_step (y_moveV (et (gS rfl g0) rfl)) ?_
          refine l_step (y_add (et g0 rfl) rfl (wrapU_add (b := 1) uk8)) ?_
          refine l_step (y_assignV (et g0 rfl)) ?_
          refine l_nil ?_
          refine hK30 _ _ ?_
          refine fg6 2 3 4 10 11 12 (gS rfl (gS rfl (gS rfl (gS rfl (gS rfl (gS rfl (gS rfl (gS rfl g0)))))))) (gS rfl (gS rfl (gS rfl (gS rfl (gS rfl (gS rfl (gS rfl g0))))))) (gS rfl (gS rfl (gS rfl (gS rfl (gS rfl (gS rfl g0)))))) (gS rfl (gS rfl (gS rfl (gS rfl (gS rfl g0))))) g0 (gS rfl (gS rfl (gS rfl g0))) (fun g => ?_)
          refine c_region ?_
          refine l_step (y_moveV (et g0 rfl)) ?_
          refine l_step (y_moveV (et (gS rfl (gS rfl (gS rfl (gS rfl (gS rfl g0))))) rfl)) ?_
          refine l_eff (e_callV cal_169 (aC (et (gS rfl g0) rfl) (aC (et g0 rfl) (aC (v := .int .u64 ((0 : Nat) : Int)) rfl aN))) (add64_r _ _ _ _ (by first | assumption | omega) (by first | assumption | omega) (by first | assumption | decide | omega))) (fun v31 w31 h31 => ?_)
          obtain ⟨s31, c31, rfl, hs31, hc31, he31, u31⟩ := h31
          replace U := U.tr u31
          replace V10 := V10.tr u31
          refine l_step (y_moveV (et g0 rfl)) ?_
          refine l_step (y_ext (et g0 rfl) rfl) ?_
          refine l_step (y_ext (et (gS rfl g0) rfl) rfl) ?_
          refine l_step (y_assignV (et (gS rfl g0) rfl)) ?_
          refine l_step (y_assignV (et (gS rfl g0) rfl)) ?_
          refine l_nil ?_
          refine hQ14 _ _ _ (in_normal ?_)
          refine fK7 2 3 4 10 11 12 14 (gS rfl (gS rfl (gS rfl (gS rfl (gS rfl (gS rfl (gS rfl (gS rfl (gS rfl (gS rfl (gS rfl (gS rfl (gS rfl g0))))))))))))) (gS rfl (gS rfl (gS rfl (gS rfl (gS rfl (gS rfl (gS rfl (gS rfl (gS rfl (gS rfl (gS rfl (gS rfl g0)))))))))))) (gS rfl (gS rfl (gS rfl (gS rfl (gS rfl (gS rfl (gS rfl (gS rfl (gS rfl (gS rfl (gS rfl g0))))))))))) (gS rfl (gS rfl (gS rfl (gS rfl (gS rfl (gS rfl (gS rfl (gS rfl (gS rfl (gS rfl g0)))))))))) (gS rfl (gS rfl (gS rfl (gS rfl (gS rfl (gS rfl (gS rfl (gS rfl (gS rfl g0))))))))) (gS rfl g0) g0 (fun g => ?_)
          exact hK10 ((q')) _ _ (by omega) ⟨g, q', _, _, _, rfl, rfl, by omega, by assumption, by assumption, tr_next _ _ _ 0 _ (by simpa using hI) _ _ (by assumption), .inr hlt, V10⟩
    · skip
      
      have hc1 : c = 1 := by have := of_decide_eq_false cB2; omega
      subst hc1
      have hfin := tr_le q top next (r + 1 * 18446744073709551616) _ low _ _ rfl hI rfl (tr_over q next r low hq hnext)
      refine c_exit ?_
      refine hQ9 _ _ _ (in_exit ?_)
      refine hK8 _ _ ?_
      refine fg2 10 11 (gS rfl (gS rfl (gS rfl g0))) (gS rfl (gS rfl g0)) (fun g => ?_)
      refine c_seq (fun K32 hK32 => ?_)
      refine c_region ?_
      refine l_step (y_moveV (et (gS rfl g0) rfl)) ?_
      refine l_step (y_moveV (et (gS rfl g0) rfl)) ?_
      refine l_step (y_assignV (et (gS rfl g0) rfl)) ?_
      refine l_step (y_assignV (et (gS rfl g0) rfl)) ?_
      refine l_nil ?_
      refine hK32 _ _ ?_
      refine fg2 10 11 (gS rfl g0) g0 (fun g => ?_)
      refine c_ret ?_
      refine ret2 rfl (res_tmp (et (gS rfl g0) rfl)) (res_tmp (et g0 rfl)) ?_
      exact ⟨q, f, rfl, hq, hfin, hU, U⟩
theorem tr_eq (t m : Nat) : 18446744073709551615 * t + (m + t + 0) = t * 18446744073709551616 + m := by omega
theorem trial_eq (high mid low top next : Nat) (w : World) (hmid : mid < 18446744073709551616) (hlow : low < 18446744073709551616) (htop : top < 18446744073709551616) (hnext : next < 18446744073709551616) (hh : high = top) :
    Ret 425 [.int .u64 high, .int .u64 mid, .int .u64 low, .int .u64 top, .int .u64 next] w (fun v w' => ∃ q f : Nat, v = .tuple #[.int .u64 q, .int .u8 f] ∧ q < 18446744073709551616 ∧ q * (top * 18446744073709551616 + next) ≤ (high * 18446744073709551616 + mid) * 18446744073709551616 + low ∧ (q = 18446744073709551615 ∨ (high * 18446744073709551616 + mid) * 18446744073709551616 + low < (q + 1) * (top * 18446744073709551616 + next)) ∧ Up w w') := by
  refine enter (n := 66) Hvaa.func425 rfl rfl (Nat.le_of_ble_eq_true rfl) ?_
  have U := Up.refl w
  refine c_seq (fun K1 hK1 => ?_)
  refine c_region ?_
  refine l_step y_assignC ?_
  refine l_step y_assignC ?_
  refine l_nil ?_
  refine hK1 _ _ ?_
  refine fg6 4 3 2 1 0 11 (gS rfl (gS rfl (gS rfl (gS rfl (gS rfl (gS rfl g0)))))) (gS rfl (gS rfl (gS rfl (gS rfl (gS rfl g0))))) (gS rfl (gS rfl (gS rfl (gS rfl g0)))) (gS rfl (gS rfl (gS rfl g0))) (gS rfl (gS rfl g0)) g0 (fun g => ?_)
  refine c_seq (fun K2 hK2 => ?_)
  refine c_region ?_
  refine l_step (y_moveV (et (gS rfl g0) rfl)) ?_
  refine l_step (y_moveV (et (gS rfl (gS rfl (gS rfl g0))) rfl)) ?_
  refine l_step (y_moveV (et (gS rfl (gS rfl (gS rfl (gS rfl (gS rfl (gS rfl g0)))))) rfl)) ?_
  refine l_eff (e_callV cal_370 (aC (et (gS rfl (gS rfl g0)) rfl) (aC (et (gS rfl g0) rfl) (aC (et g0 rfl) aN))) (div64_no _ _ _ _ (by omega))) (fun v3 w3 h3 => ?_)
  obtain ⟨rfl, u3⟩ := h3
  replace U := U.tr u3
  refine l_step (y_moveV (et g0 rfl)) ?_
  refine l_step (y_ext (et g0 rfl) rfl) ?_
  refine l_step (y_ext (et (gS rfl g0) rfl) rfl) ?_
  refine l_step (y_ext (et (gS rfl (gS rfl g0)) rfl) rfl) ?_
  refine l_step (y_assignV (et (gS rfl (gS rfl g0)) rfl)) ?_
  refine l_step (y_assignV (et (gS rfl (gS rfl g0)) rfl)) ?_
  refine l_step (y_assignV (et (gS rfl (gS rfl g0)) rfl)) ?_
  refine l_nil ?_
  refine hK2 _ _ ?_
  refine fg8 4 3 2 1 11 10 12 13 (gS rfl (gS rfl (gS rfl (gS rfl (gS rfl (gS rfl (gS rfl (gS rfl (gS rfl (gS rfl (gS rfl (gS rfl (gS rfl (gS rfl (gS rfl (gS rfl g0)))))))))))))))) (gS rfl (gS rfl (gS rfl (gS rfl (gS rfl (gS rfl (gS rfl (gS rfl (gS rfl (gS rfl (gS rfl (gS rfl (gS rfl (gS rfl (gS rfl g0))))))))))))))) (gS rfl (gS rfl (gS rfl (gS rfl (gS rfl (gS rfl (gS rfl (gS rfl (gS rfl (gS rfl (gS rfl (gS rfl (gS rfl (gS rfl g0)))))))))))))) (gS rfl (gS rfl (gS rfl (gS rfl (gS rfl (gS rfl (gS rfl (gS rfl (gS rfl (gS rfl (gS rfl (gS rfl (gS rfl g0))))))))))))) (gS rfl (gS rfl (gS rfl (gS rfl (gS rfl (gS rfl (gS rfl (gS rfl (gS rfl (gS rfl (gS rfl g0))))))))))) (gS rfl (gS rfl g0)) (gS rfl g0) g0 (fun g => ?_)
  refine c_seq (fun K4 hK4 => ?_)
  refine c_region ?_
  refine l_step y_assignC ?_
  refine l_nil ?_
  refine hK4 _ _ ?_
  refine c_seq (fun K5 hK5 => ?_)
  refine c_seq (fun K6 hK6 => ?_)
  refine c_region ?_
  refine l_step (y_moveV (et (gS rfl g0) rfl)) ?_
  refine l_step (y_not (et g0 rfl)) ?_
  refine l_nil ?_
  refine hK6 _ _ ?_
  refine fg9 4 3 2 1 11 10 12 14 26 (gS rfl (gS rfl (gS rfl (gS rfl (gS rfl (gS rfl (gS rfl (gS rfl (gS rfl (gS rfl g0)))))))))) (gS rfl (gS rfl (gS rfl (gS rfl (gS rfl (gS rfl (gS rfl (gS rfl (gS rfl g0))))))))) (gS rfl (gS rfl (gS rfl (gS rfl (gS rfl (gS rfl (gS rfl (gS rfl g0)))))))) (gS rfl (gS rfl (gS rfl (gS rfl (gS rfl (gS rfl (gS rfl g0))))))) (gS rfl (gS rfl (gS rfl (gS rfl (gS rfl (gS rfl g0)))))) (gS rfl (gS rfl (gS rfl (gS rfl (gS rfl g0))))) (gS rfl (gS rfl (gS rfl (gS rfl g0)))) (gS rfl (gS rfl g0)) g0 (fun g => ?_)
  refine c_true (et g0 rfl) (by rfl) ?_
  refine c_seq (fun K8 hK8 => ?_)
  refine c_region ?_
  refine l_step y_assignC ?_
  refine l_nil ?_
  refine hK8 _ _ ?_
  refine fg6 4 3 2 1 11 10 (gS rfl (gS rfl (gS rfl (gS rfl (gS rfl (gS rfl (gS rfl (gS rfl (gS rfl g0))))))))) (gS rfl (gS rfl (gS rfl (gS rfl (gS rfl (gS rfl (gS rfl (gS rfl g0)))))))) (gS rfl (gS rfl (gS rfl (gS rfl (gS rfl (gS rfl (gS rfl g0))))))) (gS rfl (gS rfl (gS rfl (gS rfl (gS rfl (gS rfl g0)))))) (gS rfl (gS rfl (gS rfl (gS rfl (gS rfl g0))))) g0 (fun g => ?_)
  refine c_region ?_
  refine l_step (y_moveV (et (gS rfl (gS rfl g0)) rfl)) ?_
  refine l_step (y_moveV (et (gS rfl (gS rfl (gS rfl (gS rfl (gS rfl g0))))) rfl)) ?_
  refine l_eff (e_callV cal_169 (aC (et (gS rfl g0) rfl) (aC (et g0 rfl) (aC (v := .int .u64 ((0 : Nat) : Int)) rfl aN))) (add64_r _ _ _ _ (by first | assumption | omega) (by first | assumption | omega) (by first | assumption | decide | omega))) (fun v9 w9 h9 => ?_)
  obtain ⟨s9, c9, rfl, hs9, hc9, he9, u9⟩ := h9
  replace U := U.tr u9
  refine l_step (y_moveV (et g0 rfl)) ?_
  refine l_step (y_ext (et g0 rfl) rfl) ?_
  refine l_step (y_ext (et (gS rfl g0) rfl) rfl) ?_
  refine l_step (y_assignV (et (gS rfl g0) rfl)) ?_
  refine l_step (y_assignV (et (gS rfl g0) rfl)) ?_
  refine l_nil ?_
  refine hK5 _ _ ?_
  refine fg7 4 3 2 11 10 12 14 (gS rfl (gS rfl (gS rfl (gS rfl (gS rfl (gS rfl (gS rfl (gS rfl (gS rfl (gS rfl (gS rfl (gS rfl (gS rfl g0))))))))))))) (gS rfl (gS rfl (gS rfl (gS rfl (gS rfl (gS rfl (gS rfl (gS rfl (gS rfl (gS rfl (gS rfl (gS rfl g0)))))))))))) (gS rfl (gS rfl (gS rfl (gS rfl (gS rfl (gS rfl (gS rfl (gS rfl (gS rfl (gS rfl (gS rfl g0))))))))))) (gS rfl (gS rfl (gS rfl (gS rfl (gS rfl (gS rfl (gS rfl (gS rfl (gS rfl g0))))))))) (gS rfl (gS rfl (gS rfl (gS rfl (gS rfl (gS rfl (gS rfl (gS rfl g0)))))))) (gS rfl g0) g0 (fun g => ?_)
  refine c_seq (fun K10 hK10 => ?_)
  refine c_block (fun Q11 hQ11 => ?_)
  refine fg7 2 3 4 10 11 12 14 (gS rfl (gS rfl (gS rfl (gS rfl g0)))) (gS rfl (gS rfl (gS rfl (gS rfl (gS rfl g0))))) (gS rfl (gS rfl (gS rfl (gS rfl (gS rfl (gS rfl g0)))))) (gS rfl (gS rfl g0)) (gS rfl (gS rfl (gS rfl g0))) (gS rfl g0) g0 (fun g => ?_)
  refine c_loop (fun k_ s_ W12 => ∃ (g : Nat → Value) (q f r c : Nat), s_ = (upd (upd (upd (upd (upd (upd (upd g 2 (.int .u64 (low : Nat))) 3 (.int .u64 (top : Nat))) 4 (.int .u64 (next : Nat))) 10 (.int .u64 (q : Nat))) 11 (.int .u8 (f : Nat))) 12 (.int .u64 (r : Nat))) 14 (.int .u64 (c : Nat))) ∧ q = k_ ∧ (q < 18446744073709551616) ∧ (r < 18446744073709551616) ∧ (c ≤ 1) ∧ (q * top + (r + c * 18446744073709551616) = high * 18446744073709551616 + mid) ∧ (q = 18446744073709551615 ∨ (high * 18446744073709551616 + mid) * 18446744073709551616 + low < (q + 1) * (top * 18446744073709551616 + next)) ∧ Ch (fun k => False) w9 W12) ((18446744073709551615)) ?_ ?_
  · exact ⟨g, 18446744073709551615, 0, _, _, rfl, rfl, by decide, by assumption, by assumption, by rw [hh, ← tr_eq top mid]; omega, .inl rfl, Ch.refl _ _⟩
  · skip
    intro k_ s_ W12 hI K12 hK12
    obtain ⟨g, q, f, r, c, rfl, rfl, hq, hr, hc, hI, hU, V12⟩ := hI
    replace U := U.cc V12 (by intro b hb; first | exact hb.elim | omega | (simp at hb ⊢; omega))
    refine c_seq (fun K13 hK13 => ?_)
    refine c_seq (fun K14 hK14 => ?_)
    refine c_region ?_
    refine l_step (y_moveV (et g0 rfl)) ?_
    refine l_step (y_eql (et g0 rfl) rfl) ?_
    refine l_nil ?_
    refine hK14 _ _ ?_
    refine fg7 2 3 4 10 11 12 34 (gS rfl (gS rfl (gS rfl (gS rfl (gS rfl (gS rfl (gS rfl (gS rfl g0)))))))) (gS rfl (gS rfl (gS rfl (gS rfl (gS rfl (gS rfl (gS rfl g0))))))) (gS rfl (gS rfl (gS rfl (gS rfl (gS rfl (gS rfl g0)))))) (gS rfl (gS rfl (gS rfl (gS rfl (gS rfl g0))))) (gS rfl (gS rfl (gS rfl (gS rfl g0)))) (gS rfl (gS rfl (gS rfl g0))) g0 (fun g => ?_)
    refine c_cond (et g0 rfl) (fun cB2 => ?_) (fun cB2 => ?_)
    · skip
      
      have hc0 : c = 0 := by have := of_decide_eq_true cB2; omega
      subst hc0
      refine c_skip ?_
      refine hK13 _ _ ?_
      refine fg6 2 3 4 10 11 12 (gS rfl (gS rfl (gS rfl (gS rfl (gS rfl (gS rfl g0)))))) (gS rfl (gS rfl (gS rfl (gS rfl (gS rfl g0))))) (gS rfl (gS rfl (gS rfl (gS rfl g0)))) (gS rfl (gS rfl (gS rfl g0))) (gS rfl (gS rfl g0)) (gS rfl g0) (fun g => ?_)
      refine c_block (fun Q16 hQ16 => ?_)
      refine c_seq (fun K17 hK17 => ?_)
      refine c_region ?_
      refine l_step (y_moveV (et (gS rfl (gS rfl g0)) rfl)) ?_
      refine l_step (y_moveV (et (gS rfl (gS rfl (gS rfl (gS rfl g0)))) rfl)) ?_
      refine l_eff (e_callV cal_168 (aC (et (gS rfl g0) rfl) (aC (et g0 rfl) aN)) (mul64_r _ _ _ (by assumption) (by assumption))) (fun v18 w18 h18 => ?_)
      obtain ⟨p18, q18, rfl, hp18, hq18, he18, u18⟩ := h18
      replace U := U.tr u18
      replace V12 := V12.tr u18
      refine l_step (y_moveV (et g0 rfl)) ?_
      refine l_step (y_ext (et g0 rfl) rfl) ?_
      refine l_step (y_ext (et (gS rfl g0) rfl) rfl) ?_
      refine l_step (y_assignV (et (gS rfl g0) rfl)) ?_
      refine l_step (y_assignV (et (gS rfl g0) rfl)) ?_
      refine l_nil ?_
      refine hK17 _ _ ?_
      refine fg8 2 3 4 10 11 12 15 16 (gS rfl (gS rfl (gS rfl (gS rfl (gS rfl (gS rfl (gS rfl (gS rfl (gS rfl (gS rfl (gS rfl (gS rfl (gS rfl g0))))))))))))) (gS rfl (gS rfl (gS rfl (gS rfl (gS rfl (gS rfl (gS rfl (gS rfl (gS rfl (gS rfl (gS rfl (gS rfl g0)))))))))))) (gS rfl (gS rfl (gS rfl (gS rfl (gS rfl (gS rfl (gS rfl (gS rfl (gS rfl (gS rfl (gS rfl g0))))))))))) (gS rfl (gS rfl (gS rfl (gS rfl (gS rfl (gS rfl (gS rfl (gS rfl (gS rfl (gS rfl g0)))))))))) (gS rfl (gS rfl (gS rfl (gS rfl (gS rfl (gS rfl (gS rfl (gS rfl (gS rfl g0))))))))) (gS rfl (gS rfl (gS rfl (gS rfl (gS rfl (gS rfl (gS rfl (gS rfl g0)))))))) (gS rfl g0) g0 (fun g => ?_)
      refine c_seq (fun K19 hK19 => ?_)
      refine c_seq (fun K20 hK20 => ?_)
      refine c_region ?_
      refine l_step (y_moveV (et (gS rfl g0) rfl)) ?_
      refine l_step (y_moveV (et (gS rfl (gS rfl (gS rfl g0))) rfl)) ?_
      refine l_step (y_lss (et (gS rfl g0) rfl) (et g0 rfl)) ?_
      refine l_step (y_moveV (et g0 rfl)) ?_
      refine gsplitL (i := 44) g0 (fun q21 => ?_) (fun q21 => ?_)
      · skip
        have hle : q * next ≤ r * 18446744073709551616 + low := by have := of_decide_eq_true q21; omega
        have hfin := tr_le q top next r _ low _ _ rfl (by simpa using hI) rfl hle
        refine l_gskip (j := 3) (t := 44) (by exact rfl) (by exact rfl) (et g0 rfl) (by decide) (by decide) ?_
        refine l_gskip (j := 3) (t := 44) (by exact rfl) (by exact rfl) (et (gS rfl g0) rfl) (by decide) (by decide) ?_
        refine l_gskip (j := 3) (t := 44) (by exact rfl) (by exact rfl) (et (gS rfl (gS rfl g0)) rfl) (by decide) (by decide) ?_
        refine l_gskip (j := 3) (t := 44) (by exact rfl) (by exact rfl) (et (gS rfl (gS rfl (gS rfl g0))) rfl) (by decide) (by decide) ?_
        refine l_uskip (j := 7) (t := 48) (by exact rfl) (by exact rfl) (et g0 rfl) rfl ?_
        refine l_uskip (j := 7) (t := 48) (by exact rfl) (by exact rfl) (et (gS rfl g0) rfl) rfl ?_
        refine l_uskip (j := 7) (t := 48) (by exact rfl) (by exact rfl) (et (gS rfl (gS rfl g0)) rfl) rfl ?_
        refine l_gskip (j := 3) (t := 44) (by exact rfl) (by exact rfl) (et (gS rfl (gS rfl (gS rfl (gS rfl (gS rfl (gS rfl (gS rfl g0))))))) rfl) (by decide) (by decide) ?_
        refine l_step (y_pickT (et (gS rfl (gS rfl (gS rfl (gS rfl (gS rfl (gS rfl (gS rfl (gS rfl g0)))))))) rfl) rfl) ?_
        refine l_nil ?_
        refine hK20 _ _ ?_
        refine fg7 2 3 4 10 11 12 53 (gS rfl (gS rfl (gS rfl (gS rfl (gS rfl (gS rfl (gS rfl (gS rfl (gS rfl (gS rfl (gS rfl (gS rfl (gS rfl (gS rfl (gS rfl (gS rfl (gS rfl (gS rfl (gS rfl (gS rfl (gS rfl g0))))))))))))))))))))) (gS rfl (gS rfl (gS rfl (gS rfl (gS rfl (gS rfl (gS rfl (gS rfl (gS rfl (gS rfl (gS rfl (gS rfl (gS rfl (gS rfl (gS rfl (gS rfl (gS rfl (gS rfl (gS rfl (gS rfl g0)))))))))))))))))))) (gS rfl (gS rfl (gS rfl (gS rfl (gS rfl (gS rfl (gS rfl (gS rfl (gS rfl (gS rfl (gS rfl (gS rfl (gS rfl (gS rfl (gS rfl (gS rfl (gS rfl (gS rfl (gS rfl g0))))))))))))))))))) (gS rfl (gS rfl (gS rfl (gS rfl (gS rfl (gS rfl (gS rfl (gS rfl (gS rfl (gS rfl (gS rfl (gS rfl (gS rfl (gS rfl (gS rfl (gS rfl (gS rfl (gS rfl g0)))))))))))))))))) (gS rfl (gS rfl (gS rfl (gS rfl (gS rfl (gS rfl (gS rfl (gS rfl (gS rfl (gS rfl (gS rfl (gS rfl (gS rfl (gS rfl (gS rfl (gS rfl (gS rfl g0))))))))))))))))) (gS rfl (gS rfl (gS rfl (gS rfl (gS rfl (gS rfl (gS rfl (gS rfl (gS rfl (gS rfl (gS rfl (gS rfl (gS rfl (gS rfl (gS rfl (gS rfl g0)))))))))))))))) g0 (fun g => ?_)
        refine c_true (et g0 rfl) rfl ?_
        refine c_exit ?_
        refine hQ16 _ _ _ (in_past (by decide) ?_)
        refine hQ11 _ _ _ (in_exit ?_)
        refine hK10 _ _ ?_
        refine fg2 10 11 (gS rfl (gS rfl (gS rfl g0))) (gS rfl (gS rfl g0)) (fun g => ?_)
        refine c_seq (fun K23 hK23 => ?_)
        refine c_region ?_
        refine l_step (y_moveV (et (gS rfl g0) rfl)) ?_
        refine l_step (y_moveV (et (gS rfl g0) rfl)) ?_
        refine l_step (y_assignV (et (gS rfl g0) rfl)) ?_
        refine l_step (y_assignV (et (gS rfl g0) rfl)) ?_
        refine l_nil ?_
        refine hK23 _ _ ?_
        refine fg2 10 11 (gS rfl g0) g0 (fun g => ?_)
        refine c_ret ?_
        refine ret2 rfl (res_tmp (et (gS rfl g0) rfl)) (res_tmp (et g0 rfl)) ?_
        exact ⟨q, f, rfl, hq, hfin, hU, U⟩
      · skip
        have hg1 := of_decide_eq_false q21
        refine l_gstep (j := 3) (t := 44) (by exact rfl) (by exact rfl) (et g0 rfl) (by decide) (y_moveV (et (gS rfl (gS rfl (gS rfl (gS rfl (gS rfl (gS rfl g0)))))) rfl)) ?_
        refine l_gstep (j := 3) (t := 44) (by exact rfl) (by exact rfl) (et (gS rfl g0) rfl) (by decide) (y_moveV (et (gS rfl (gS rfl (gS rfl (gS rfl (gS rfl (gS rfl (gS rfl (gS rfl g0)))))))) rfl)) ?_
        refine l_gstep (j := 3) (t := 44) (by exact rfl) (by exact rfl) (et (gS rfl (gS rfl g0)) rfl) (by decide) (y_eql (et (gS rfl g0) rfl) (et g0 rfl)) ?_
        refine l_gstep (j := 3) (t := 44) (by exact rfl) (by exact rfl) (et (gS rfl (gS rfl (gS rfl g0))) rfl) (by decide) (y_moveV (et g0 rfl)) ?_
        refine gsplitL (i := 48) g0 (fun q24 => ?_) (fun q24 => ?_)
        · skip
          have hg2 := of_decide_eq_true q24
          refine l_gstep (j := 7) (t := 48) (by exact rfl) (by exact rfl) (et g0 rfl) (by decide) (y_moveV (et (gS rfl (gS rfl (gS rfl (gS rfl (gS rfl (gS rfl (gS rfl (gS rfl (gS rfl (gS rfl g0)))))))))) rfl)) ?_
          refine l_gstep (j := 7) (t := 48) (by exact rfl) (by exact rfl) (et (gS rfl g0) rfl) (by decide) (y_moveV (et (gS rfl (gS rfl (gS rfl (gS rfl (gS rfl (gS rfl (gS rfl (gS rfl (gS rfl (gS rfl (gS rfl (gS rfl (gS rfl (gS rfl (gS rfl (gS rfl (gS rfl (gS rfl g0)))))))))))))))))) rfl)) ?_
          refine l_gstep (j := 7) (t := 48) (by exact rfl) (by exact rfl) (et (gS rfl (gS rfl g0)) rfl) (by decide) (y_leq (et (gS rfl g0) rfl) (et g0 rfl)) ?_
          refine l_gstep (j := 3) (t := 44) (by exact rfl) (by exact rfl) (et (gS rfl (gS rfl (gS rfl (gS rfl (gS rfl (gS rfl (gS rfl (gS rfl g0)))))))) rfl) (by decide) (y_pickT (et (gS rfl (gS rfl (gS rfl g0))) rfl) (et g0 rfl)) ?_
          refine l_step (y_pickF (et (gS rfl (gS rfl (gS rfl (gS rfl (gS rfl (gS rfl (gS rfl (gS rfl (gS rfl g0))))))))) rfl) (et g0 rfl)) ?_
          refine l_nil ?_
          refine hK20 _ _ ?_
          refine fg7 2 3 4 10 11 12 53 (gS rfl (gS rfl (gS rfl (gS rfl (gS rfl (gS rfl (gS rfl (gS rfl (gS rfl (gS rfl (gS rfl (gS rfl (gS rfl (gS rfl (gS rfl (gS rfl (gS rfl (gS rfl (gS rfl (gS rfl (gS rfl (gS rfl g0)))))))))))))))))))))) (gS rfl (gS rfl (gS rfl (gS rfl (gS rfl (gS rfl (gS rfl (gS rfl (gS rfl (gS rfl (gS rfl (gS rfl (gS rfl (gS rfl (gS rfl (gS rfl (gS rfl (gS rfl (gS rfl (gS rfl (gS rfl g0))))))))))))))))))))) (gS rfl (gS rfl (gS rfl (gS rfl (gS rfl (gS rfl (gS rfl (gS rfl (gS rfl (gS rfl (gS rfl (gS rfl (gS rfl (gS rfl (gS rfl (gS rfl (gS rfl (gS rfl (gS rfl (gS rfl g0)))))))))))))))))))) (gS rfl (gS rfl (gS rfl (gS rfl (gS rfl (gS rfl (gS rfl (gS rfl (gS rfl (gS rfl (gS rfl (gS rfl (gS rfl (gS rfl (gS rfl (gS rfl (gS rfl (gS rfl (gS rfl g0))))))))))))))))))) (gS rfl (gS rfl (gS rfl (gS rfl (gS rfl (gS rfl (gS rfl (gS rfl (gS rfl (gS rfl (gS rfl (gS rfl (gS rfl (gS rfl (gS rfl (gS rfl (gS rfl (gS rfl g0)))))))))))))))))) (gS rfl (gS rfl (gS rfl (gS rfl (gS rfl (gS rfl (gS rfl (gS rfl (gS rfl (gS rfl (gS rfl (gS rfl (gS rfl (gS rfl (gS rfl (gS rfl (gS rfl g0))))))))))))))))) g0 (fun g => ?_)
          refine c_cond (et g0 rfl) (fun cB3 => ?_) (fun cB3 => ?_)
          · skip
            
            have hle : q * next ≤ r * 18446744073709551616 + low := by have := of_decide_eq_true cB3; omega
            have hfin := tr_le q top next r _ low _ _ rfl (by simpa using hI) rfl hle
            refine c_exit ?_
            refine hQ16 _ _ _ (in_past (by decide) ?_)
            refine hQ11 _ _ _ (in_exit ?_)
            refine hK10 _ _ ?_
            refine fg2 10 11 (gS rfl (gS rfl (gS rfl g0))) (gS rfl (gS rfl g0)) (fun g => ?_)
            refine c_seq (fun K26 hK26 => ?_)
            refine c_region ?_
            refine l_step (y_moveV (et (gS rfl g0) rfl)) ?_
            refine l_step (y_moveV (et (gS rfl g0) rfl)) ?_
            refine l_step (y_assignV (et (gS rfl g0) rfl)) ?_
            refine l_step (y_assignV (et (gS rfl g0) rfl)) ?_
            refine l_nil ?_
            refine hK26 _ _ ?_
            refine fg2 10 11 (gS rfl g0) g0 (fun g => ?_)
            refine c_ret ?_
            refine ret2 rfl (res_tmp (et (gS rfl g0) rfl)) (res_tmp (et g0 rfl)) ?_
            exact ⟨q, f, rfl, hq, hfin, hU, U⟩
          · skip
            
            have hgt : r * 18446744073709551616 + low < q * next := by have := of_decide_eq_false cB3; omega
            refine c_skip ?_
            refine hK19 _ _ ?_
            refine fg6 2 3 4 10 11 12 (gS rfl (gS rfl (gS rfl (gS rfl (gS rfl (gS rfl g0)))))) (gS rfl (gS rfl (gS rfl (gS rfl (gS rfl g0))))) (gS rfl (gS rfl (gS rfl (gS rfl g0)))) (gS rfl (gS rfl (gS rfl g0))) (gS rfl (gS rfl g0)) (gS rfl g0) (fun g => ?_)
            refine c_seq (fun K27 hK27 => ?_)
            refine c_region ?_
            refine l_step (y_moveV (et (gS rfl (gS rfl g0)) rfl)) ?_
            have hlt := tr_gt q top next r _ low _ _ rfl (by simpa using hI) rfl hgt
            have hq0 : q ≠ 0 := fun h0 => by rw [h0, Nat.zero_mul] at hgt; omega
            obtain ⟨q', rfl⟩ : ∃ p, q = p + 1 := ⟨q - 1, by omega⟩
            refine l_step (y_sub (et g0 rfl) rfl (subOne ?_)) ?_
            omega
            refine l_step (y_assignV (et g0 rfl)) ?_
            refine l_nil ?_
            refine hK27 _ _ ?_
            refine fg6 2 3 4 10 11 12 (gS rfl (gS rfl (gS rfl (gS rfl (gS rfl (gS rfl (gS rfl (gS rfl g0)))))))) (gS rfl (gS rfl (gS rfl (gS rfl (gS rfl (gS rfl (gS rfl g0))))))) (gS rfl (gS rfl (gS rfl (gS rfl (gS rfl (gS rfl g0)))))) g0 (gS rfl (gS rfl (gS rfl (gS rfl g0)))) (gS rfl (gS rfl (gS rfl g0))) (fun g => ?_)
            refine c_seq (fun K28 hK28 => ?_)
            refine c_region ?_
            refine l_step (y_moveV (et (gS rfl g0) rfl)) ?_
            refine l_step (y_add (et g0 rfl) rfl (wrapU_add (b := 1) uk8)) ?_
            refine l_step (y_assignV (et g0 rfl)) ?_
            refine l_nil ?_
            refine hK28 _ _ ?_
            refine fg6 2 3 4 10 11 12 (gS rfl (gS rfl (gS rfl (gS rfl (gS rfl (gS rfl (gS rfl (gS rfl g0)))))))) (gS rfl (gS rfl (gS rfl (gS rfl (gS rfl (gS rfl (gS rfl g0))))))) (gS rfl (gS rfl (gS rfl (gS rfl (gS rfl (gS rfl g0)))))) (gS rfl (gS rfl (gS rfl (gS rfl (gS rfl g0))))) g0 (gS rfl (gS rfl (gS rfl g0))) (fun g => ?_)
            refine c_region ?_
            refine l_step (y_moveV (et g0 rfl)) ?_
            refine l_step (y_moveV (et (gS rfl (gS rfl (gS rfl (gS rfl (gS rfl g0))))) rfl)) ?_
            refine l_eff (e_callV cal_169 (aC (et (gS rfl g0) rfl) (aC (et g0 rfl) (aC (v := .int .u64 ((0 : Nat) : Int)) rfl aN))) (add64_r _ _ _ _ (by first | assumption | omega) (by first | assumption | omega) (by first | assumption | decide | omega))) (fun v29 w29 h29 => ?_)
            obtain ⟨s29, c29, rfl, hs29, hc29, he29, u29⟩ := h29
            replace U := U.tr u29
            replace V12 := V12.tr u29
            refine l_step (y_moveV (et g0 rfl)) ?_
            refine l_step (y_ext (et g0 rfl) rfl) ?_
            refine l_step (y_ext (et (gS rfl g0) rfl) rfl) ?_
            refine l_step (y_assignV (et (gS rfl g0) rfl)) ?_
            refine l_step (y_assignV (et (gS rfl g0) rfl)) ?_
            refine l_nil ?_
            refine hQ16 _ _ _ (in_normal ?_)
            refine fK7 2 3 4 10 11 12 14 (gS rfl (gS rfl (gS rfl (gS rfl (gS rfl (gS rfl (gS rfl (gS rfl (gS rfl (gS rfl (gS rfl (gS rfl (gS rfl g0))))))))))))) (gS rfl (gS rfl (gS rfl (gS rfl (gS rfl (gS rfl (gS rfl (gS rfl (gS rfl (gS rfl (gS rfl (gS rfl g0)))))))))))) (gS rfl (gS rfl (gS rfl (gS rfl (gS rfl (gS rfl (gS rfl (gS rfl (gS rfl (gS rfl (gS rfl g0))))))))))) (gS rfl (gS rfl (gS rfl (gS rfl (gS rfl (gS rfl (gS rfl (gS rfl (gS rfl (gS rfl g0)))))))))) (gS rfl (gS rfl (gS rfl (gS rfl (gS rfl (gS rfl (gS rfl (gS rfl (gS rfl g0))))))))) (gS rfl g0) g0 (fun g => ?_)
            exact hK12 ((q')) _ _ (by omega) ⟨g, q', _, _, _, rfl, rfl, by omega, by assumption, by assumption, tr_next _ _ _ 0 _ (by simpa using hI) _ _ (by assumption), .inr hlt, V12⟩
        · skip
          have hg2 := of_decide_eq_false q24
          have hgt : r * 18446744073709551616 + low < q * next := by omega
          refine l_gskip (j := 7) (t := 48) (by exact rfl) (by exact rfl) (et g0 rfl) (by decide) (by decide) ?_
          refine l_gskip (j := 7) (t := 48) (by exact rfl) (by exact rfl) (et (gS rfl g0) rfl) (by decide) (by decide) ?_
          refine l_gskip (j := 7) (t := 48) (by exact rfl) (by exact rfl) (et (gS rfl (gS rfl g0)) rfl) (by decide) (by decide) ?_
          refine l_gstep (j := 3) (t := 44) (by exact rfl) (by exact rfl) (et (gS rfl (gS rfl (gS rfl (gS rfl (gS rfl (gS rfl (gS rfl (gS rfl g0)))))))) rfl) (by decide) (y_pickF (et (gS rfl (gS rfl (gS rfl g0))) rfl) rfl) ?_
          refine l_step (y_pickF (et (gS rfl (gS rfl (gS rfl (gS rfl (gS rfl (gS rfl (gS rfl (gS rfl (gS rfl g0))))))))) rfl) (et g0 rfl)) ?_
          refine l_nil ?_
          refine hK20 _ _ ?_
          refine fg7 2 3 4 10 11 12 53 (gS rfl (gS rfl (gS rfl (gS rfl (gS rfl (gS rfl (gS rfl (gS rfl (gS rfl (gS rfl (gS rfl (gS rfl (gS rfl (gS rfl (gS rfl (gS rfl (gS rfl (gS rfl (gS rfl (gS rfl (gS rfl (gS rfl g0)))))))))))))))))))))) (gS rfl (gS rfl (gS rfl (gS rfl (gS rfl (gS rfl (gS rfl (gS rfl (gS rfl (gS rfl (gS rfl (gS rfl (gS rfl (gS rfl (gS rfl (gS rfl (gS rfl (gS rfl (gS rfl (gS rfl (gS rfl g0))))))))))))))))))))) (gS rfl (gS rfl (gS rfl (gS rfl (gS rfl (gS rfl (gS rfl (gS rfl (gS rfl (gS rfl (gS rfl (gS rfl (gS rfl (gS rfl (gS rfl (gS rfl (gS rfl (gS rfl (gS rfl (gS rfl g0)))))))))))))))))))) (gS rfl (gS rfl (gS rfl (gS rfl (gS rfl (gS rfl (gS rfl (gS rfl (gS rfl (gS rfl (gS rfl (gS rfl (gS rfl (gS rfl (gS rfl (gS rfl (gS rfl (gS rfl (gS rfl g0))))))))))))))))))) (gS rfl (gS rfl (gS rfl (gS rfl (gS rfl (gS rfl (gS rfl (gS rfl (gS rfl (gS rfl (gS rfl (gS rfl (gS rfl (gS rfl (gS rfl (gS rfl (gS rfl (gS rfl g0)))))))))))))))))) (gS rfl (gS rfl (gS rfl (gS rfl (gS rfl (gS rfl (gS rfl (gS rfl (gS rfl (gS rfl (gS rfl (gS rfl (gS rfl (gS rfl (gS rfl (gS rfl (gS rfl g0))))))))))))))))) g0 (fun g => ?_)
          refine c_false (et g0 rfl) rfl ?_
          refine c_skip ?_
          refine hK19 _ _ ?_
          refine fg6 2 3 4 10 11 12 (gS rfl (gS rfl (gS rfl (gS rfl (gS rfl (gS rfl g0)))))) (gS rfl (gS rfl (gS rfl (gS rfl (gS rfl g0))))) (gS rfl (gS rfl (gS rfl (gS rfl g0)))) (gS rfl (gS rfl (gS rfl g0))) (gS rfl (gS rfl g0)) (gS rfl g0) (fun g => ?_)
          refine c_seq (fun K31 hK31 => ?_)
          refine c_region ?_
          refine l_step (y_moveV (et (gS rfl (gS rfl g0)) rfl)) ?_
          have hlt := tr_gt q top next r _ low _ _ rfl (by simpa using hI) rfl hgt
          have hq0 : q ≠ 0 := fun h0 => by rw [h0, Nat.zero_mul] at hgt; omega
          obtain ⟨q', rfl⟩ : ∃ p, q = p + 1 := ⟨q - 1, by omega⟩
          refine l_step (y_sub (et g0 rfl) rfl (subOne ?_)) ?_
          omega
          refine l_step (y_assignV (et g0 rfl)) ?_
          refine l_nil ?_
          refine hK31 _ _ ?_
          refine fg6 2 3 4 10 11 12 (gS rfl (gS rfl (gS rfl (gS rfl (gS rfl (gS rfl (gS rfl (gS rfl g0)))))))) (gS rfl (gS rfl (gS rfl (gS rfl (gS rfl (gS rfl (gS rfl g0))))))) (gS rfl (gS rfl (gS rfl (gS rfl (gS rfl (gS rfl g0)))))) g0 (gS rfl (gS rfl (gS rfl (gS rfl g0)))) (gS rfl (gS rfl (gS rfl g0))) (fun g => ?_)
          refine c_seq (fun K32 hK32 => ?_)
          refine c_region ?_
          refine l_step (y_moveV (et (gS rfl g0) rfl)) ?_
          refine l_step (y_add (et g0 rfl) rfl (wrapU_add (b := 1) uk8)) ?_
          refine l_step (y_assignV (et g0 rfl)) ?_
          refine l_nil ?_
          refine hK32 _ _ ?_
          refine fg6 2 3 4 10 11 12 (gS rfl (gS rfl (gS rfl (gS rfl (gS rfl (gS rfl (gS rfl (gS rfl g0)))))))) (gS rfl (gS rfl (gS rfl (gS rfl (gS rfl (gS rfl (gS rfl g0))))))) (gS rfl (gS rfl (gS rfl (gS rfl (gS rfl (gS rfl g0)))))) (gS rfl (gS rfl (gS rfl (gS rfl (gS rfl g0))))) g0 (gS rfl (gS rfl (gS rfl g0))) (fun g => ?_)
          refine c_region ?_
          refine l_step (y_moveV (et g0 rfl)) ?_
          refine l_step (y_moveV (et (gS rfl (gS rfl (gS rfl (gS rfl (gS rfl g0))))) rfl)) ?_
          refine l_eff (e_callV cal_169 (aC (et (gS rfl g0) rfl) (aC (et g0 rfl) (aC (v := .int .u64 ((0 : Nat) : Int)) rfl aN))) (add64_r _ _ _ _ (by first | assumption | omega) (by first | assumption | omega) (by first | assumption | decide | omega))) (fun v33 w33 h33 => ?_)
          obtain ⟨s33, c33, rfl, hs33, hc33, he33, u33⟩ := h33
          replace U := U.tr u33
          replace V12 := V12.tr u33
          refine l_step (y_moveV (et g0 rfl)) ?_
          refine l_step (y_ext (et g0 rfl) rfl) ?_
          refine l_step (y_ext (et (gS rfl g0) rfl) rfl) ?_
          refine l_step (y_assignV (et (gS rfl g0) rfl)) ?_
          refine l_step (y_assignV (et (gS rfl g0) rfl)) ?_
          refine l_nil ?_
          refine hQ16 _ _ _ (in_normal ?_)
          refine fK7 2 3 4 10 11 12 14 (gS rfl (gS rfl (gS rfl (gS rfl (gS rfl (gS rfl (gS rfl (gS rfl (gS rfl (gS rfl (gS rfl (gS rfl (gS rfl g0))))))))))))) (gS rfl (gS rfl (gS rfl (gS rfl (gS rfl (gS rfl (gS rfl (gS rfl (gS rfl (gS rfl (gS rfl (gS rfl g0)))))))))))) (gS rfl (gS rfl (gS rfl (gS rfl (gS rfl (gS rfl (gS rfl (gS rfl (gS rfl (gS rfl (gS rfl g0))))))))))) (gS rfl (gS rfl (gS rfl (gS rfl (gS rfl (gS rfl (gS rfl (gS rfl (gS rfl (gS rfl g0)))))))))) (gS rfl (gS rfl (gS rfl (gS rfl (gS rfl (gS rfl (gS rfl (gS rfl (gS rfl g0))))))))) (gS rfl g0) g0 (fun g => ?_)
          exact hK12 ((q')) _ _ (by omega) ⟨g, q', _, _, _, rfl, rfl, by omega, by assumption, by assumption, tr_next _ _ _ 0 _ (by simpa using hI) _ _ (by assumption), .inr hlt, V12⟩
    · skip
      
      have hc1 : c = 1 := by have := of_decide_eq_false cB2; omega
      subst hc1
      have hfin := tr_le q top next (r + 1 * 18446744073709551616) _ low _ _ rfl hI rfl (tr_over q next r low hq hnext)
      refine c_exit ?_
      refine hQ11 _ _ _ (in_exit ?_)
      refine hK10 _ _ ?_
      refine fg2 10 11 (gS rfl (gS rfl (gS rfl g0))) (gS rfl (gS rfl g0)) (fun g => ?_)
      refine c_seq (fun K34 hK34 => ?_)
      refine c_region ?_
      refine l_step (y_moveV (et (gS rfl g0) rfl)) ?_
      refine l_step (y_moveV (et (gS rfl g0) rfl)) ?_
      refine l_step (y_assignV (et (gS rfl g0) rfl)) ?_
      refine l_step (y_assignV (et (gS rfl g0) rfl)) ?_
      refine l_nil ?_
      refine hK34 _ _ ?_
      refine fg2 10 11 (gS rfl g0) g0 (fun g => ?_)
      refine c_ret ?_
      refine ret2 rfl (res_tmp (et (gS rfl g0) rfl)) (res_tmp (et g0 rfl)) ?_
      exact ⟨q, f, rfl, hq, hfin, hU, U⟩
theorem tt_step (vd q vt vu c b t d lo hi x u k : Nat) (h : vd + q * vt = vu + (c + b) * t) (h1 : lo + hi * 18446744073709551616 = q * x + c + 0) (h2 : d + lo + b = u + k * 18446744073709551616) : (vd + t * d) + q * (vt + t * x) = (vu + t * u) + (hi + k) * (t * 18446744073709551616) := by
  have e1 : t * (d + lo + b) = t * (u + k * 18446744073709551616) := by rw [h2]
  have e2 : t * (lo + hi * 18446744073709551616) = t * (q * x + c + 0) := by rw [h1]
  grind
theorem tt_end (vd q vv vu c b t d u k : Nat) (h : vd + q * vv = vu + (c + b) * t) (h2 : d + c + b = u + k * 18446744073709551616) : (vd + t * d) + q * vv = (vu + t * u) + k * (t * 18446744073709551616) := by
  have e1 : t * (d + c + b) = t * (u + k * 18446744073709551616) := by rw [h2]
  grind
theorem takeTimes_spec (b o cap bv capv q : Nat) (L M R V RV : List Nat) (w : World) (hbb : b ≠ bv) (ho : o = L.length) (hq : q < 18446744073709551616) (hlm : M.length = V.length + 1) (hlv : V.length < 1000000) (hdu : Dig 18446744073709551616 M) (hdv : Dig 18446744073709551616 V) (kB : Blk w b (uL (L ++ (M ++ R))).toArray) (kC : Blk w bv (uL (V ++ RV)).toArray) :
    Ret 426 [.slice (some ⟨b, o, none⟩) M.length cap, .slice (some ⟨bv, 0, none⟩) V.length capv, .int .u64 q] w (fun v w' => ∃ (k : Nat) (D : List Nat), v = .bool (decide ((k : Int) ≠ 0)) ∧ k ≤ 1 ∧ D.length = M.length ∧ Dig 18446744073709551616 D ∧ val 18446744073709551616 D + q * val 18446744073709551616 V = val 18446744073709551616 M + k * 18446744073709551616 ^ M.length ∧ Blk w' b (uL (L ++ (D ++ R))).toArray ∧ Ch (fun k => k = b) w w') := by
  have lB := kB.lt
  have lC := kC.lt
  refine enter (n := 66) Hvaa.func426 rfl rfl (Nat.le_of_ble_eq_true rfl) ?_
  have U : Ch (fun k => k = b) w w := Ch.refl _ w
  refine c_seq (fun K1 hK1 => ?_)
  refine c_region ?_
  refine l_step y_assignC ?_
  refine l_nil ?_
  refine hK1 _ _ ?_
  refine fg3 2 1 0 (gS rfl (gS rfl (gS rfl g0))) (gS rfl (gS rfl g0)) (gS rfl g0) (fun g => ?_)
  refine c_seq (fun K2 hK2 => ?_)
  refine c_region ?_
  refine l_step y_assignC ?_
  refine l_nil ?_
  refine hK2 _ _ ?_
  refine c_seq (fun K3 hK3 => ?_)
  refine c_region ?_
  refine l_step y_assignC ?_
  refine l_nil ?_
  refine hK3 _ _ ?_
  refine c_seq (fun K4 hK4 => ?_)
  refine c_seq (fun K5 hK5 => ?_)
  refine c_region ?_
  refine l_step (y_moveV (et (gS rfl (gS rfl (gS rfl g0))) rfl)) ?_
  refine l_step (y_len Hvaa.underlying317 (et g0 rfl)) ?_
  refine l_step y_moveC ?_
  refine l_nil ?_
  refine hK5 _ _ ?_
  refine c_block (fun Q6 hQ6 => ?_)
  refine fg8 0 1 2 7 8 17 18 19 (gS rfl (gS rfl (gS rfl (gS rfl (gS rfl g0))))) (gS rfl (gS rfl (gS rfl (gS rfl (gS rfl (gS rfl g0)))))) (gS rfl (gS rfl (gS rfl (gS rfl (gS rfl (gS rfl (gS rfl g0))))))) (gS rfl (gS rfl (gS rfl (gS rfl g0)))) (gS rfl (gS rfl (gS rfl g0))) (gS rfl (gS rfl g0)) (gS rfl g0) g0 (fun g => ?_)
  refine c_loop (fun k_ s_ W7 => ∃ (g : Nat → Value) (Tv rv Tu ru D : List Nat) (c k : Nat), s_ = (upd (upd (upd (upd (upd (upd (upd (upd g 0 (.slice (some ⟨b, o, none⟩) M.length cap)) 1 (.slice (some ⟨bv, 0, none⟩) V.length capv)) 2 (.int .u64 (q : Nat))) 7 (.int .u64 (c : Nat))) 8 (.int .u64 (k : Nat))) 17 (.slice (some ⟨bv, 0, none⟩) V.length capv)) 18 (.int .i64 (V.length : Nat))) 19 (.int .i64 (Tv.length : Nat))) ∧ rv.length = k_ ∧ (Tv ++ rv = V) ∧ (Tu ++ ru = M) ∧ (Tu.length = Tv.length) ∧ (D.length = Tv.length) ∧ (Dig 18446744073709551616 D) ∧ (c < 18446744073709551616) ∧ (k ≤ 1) ∧ (val 18446744073709551616 D + q * val 18446744073709551616 Tv = val 18446744073709551616 Tu + (c + k) * 18446744073709551616 ^ Tv.length) ∧ Blk W7 b ((uL (L ++ (D ++ (ru ++ R)))).toArray) ∧ Ch (fun k => k = b) w W7) ((V).length) ?_ ?_
  · exact ⟨g, [], V, [], M, [], 0, 0, rfl, rfl, by simp, by simp, rfl, rfl, Dig.nil _, by decide, by decide, by simp [val], kB, Ch.refl _ _⟩
  · skip
    intro k_ s_ W7 hI K7 hK7
    obtain ⟨g, Tv, rv, Tu, ru, D, c, k, rfl, rfl, hV, hM, hTl, hDl, hD, hc, hk, hv, nkB, V7⟩ := hI
    replace kC := kC.ch V7 (by omega)
    replace kB := nkB
    replace U := U.cc V7 (by intro b hb; first | exact hb.elim | omega | (simp at hb ⊢; omega))
    have hlen := congrArg List.length hV
    simp only [List.length_append] at hlen
    have hlen2 := congrArg List.length hM
    simp only [List.length_append] at hlen2
    have hdV : Dig 18446744073709551616 (Tv ++ rv) := hV ▸ hdv
    have hdM : Dig 18446744073709551616 (Tu ++ ru) := hM ▸ hdu
    refine c_seq (fun K8 hK8 => ?_)
    refine c_region ?_
    refine l_step (y_lss (et g0 rfl) (et (gS rfl g0) rfl)) ?_
    refine l_nil ?_
    refine hK8 _ _ ?_
    refine c_seq (fun K9 hK9 => ?_)
    refine c_cond (et g0 rfl) (fun cB1 => ?_) (fun cB1 => ?_)
    · skip
      
      have hr0 : Tv.length < V.length := by have := of_decide_eq_true cB1; omega
      obtain ⟨x, rv', rfl⟩ := cons_of_len (l := rv) (by omega)
      obtain ⟨y, ru', rfl⟩ := cons_of_len (l := ru) (by simp only [List.length_cons] at hlen; omega)
      replace kB : Blk W7 b (uL ((L ++ D) ++ y :: (ru' ++ R))).toArray := by simpa using kB
      have kC' : Blk W7 bv (uL (Tv ++ x :: (rv' ++ RV))).toArray := by rw [← hV] at kC; simpa using kC
      have hx := hdV.right.head
      have hy := hdM.right.head
      simp only [List.length_cons] at hlen hlen2
      refine c_skip ?_
      refine hK9 _ _ ?_
      refine fg8 0 1 2 7 8 17 18 19 (gS rfl (gS rfl (gS rfl (gS rfl (gS rfl (gS rfl (gS rfl (gS rfl g0)))))))) (gS rfl (gS rfl (gS rfl (gS rfl (gS rfl (gS rfl (gS rfl g0))))))) (gS rfl (gS rfl (gS rfl (gS rfl (gS rfl (gS rfl g0)))))) (gS rfl (gS rfl (gS rfl (gS rfl (gS rfl g0))))) (gS rfl (gS rfl (gS rfl (gS rfl g0)))) (gS rfl (gS rfl (gS rfl g0))) (gS rfl (gS rfl g0)) (gS rfl g0) (fun g => ?_)
      refine c_seq (fun K11 hK11 => ?_)
      refine c_block (fun Q12 hQ12 => ?_)
      refine c_seq (fun K13 hK13 => ?_)
      refine c_region ?_
      refine l_step (y_moveV (et g0 rfl)) ?_
      refine l_step (y_idxS Hvaa.underlying317 sz_26 (et (gS rfl (gS rfl (gS rfl g0))) rfl) (et (gS rfl g0) rfl) ?_ ?_) ?_
      exact Int.natCast_nonneg _
      (exact_mod_cast (show _ from by omega))
      refine l_step (y_load1 one_26 (et g0 rfl) (at1 (kC'.cell (uL_get Tv x _ _ (by simp))))) ?_
      refine l_step (y_assignV (et (gS rfl (gS rfl g0)) rfl)) ?_
      refine l_step (y_assignV (et (gS rfl g0) rfl)) ?_
      refine l_nil ?_
      refine hK13 _ _ ?_
      refine fg10 0 1 2 7 8 17 18 19 9 10 (gS rfl (gS rfl (gS rfl (gS rfl (gS rfl (gS rfl (gS rfl (gS rfl (gS rfl (gS rfl (gS rfl (gS rfl g0)))))))))))) (gS rfl (gS rfl (gS rfl (gS rfl (gS rfl (gS rfl (gS rfl (gS rfl (gS rfl (gS rfl (gS rfl g0))))))))))) (gS rfl (gS rfl (gS rfl (gS rfl (gS rfl (gS rfl (gS rfl (gS rfl (gS rfl (gS rfl g0)))))))))) (gS rfl (gS rfl (gS rfl (gS rfl (gS rfl (gS rfl (gS rfl (gS rfl (gS rfl g0))))))))) (gS rfl (gS rfl (gS rfl (gS rfl (gS rfl (gS rfl (gS rfl (gS rfl g0)))))))) (gS rfl (gS rfl (gS rfl (gS rfl (gS rfl (gS rfl (gS rfl g0))))))) (gS rfl (gS rfl (gS rfl (gS rfl (gS rfl (gS rfl g0)))))) (gS rfl (gS rfl (gS rfl (gS rfl (gS rfl g0))))) (gS rfl g0) g0 (fun g => ?_)
      refine c_seq (fun K14 hK14 => ?_)
      refine c_region ?_
      refine l_step (y_moveV (et (gS rfl (gS rfl (gS rfl (gS rfl (gS rfl (gS rfl (gS rfl g0))))))) rfl)) ?_
      refine l_step (y_moveV (et (gS rfl g0) rfl)) ?_
      refine l_step (y_moveV (et (gS rfl (gS rfl (gS rfl (gS rfl (gS rfl (gS rfl (gS rfl (gS rfl g0)))))))) rfl)) ?_
      refine l_eff (e_callV cal_405 (aC (et (gS rfl (gS rfl g0)) rfl) (aC (et (gS rfl g0) rfl) (aC (et g0 rfl) (aC (v := .int .u64 ((0 : Nat) : Int)) rfl aN)))) (mulAdd_spec _ _ _ _ _ (by assumption) (by assumption) (by assumption) (by decide))) (fun v15 w15 h15 => ?_)
      obtain ⟨l15, m15, rfl, hl15, hm15, he15, u15⟩ := h15
      replace kB := kB.up u15
      replace kC := kC.up u15
      replace U := U.tr u15
      replace V7 := V7.tr u15
      try clear kC'
      refine l_step (y_moveV (et g0 rfl)) ?_
      refine l_step (y_ext (et g0 rfl) rfl) ?_
      refine l_step (y_ext (et (gS rfl g0) rfl) rfl) ?_
      refine l_step (y_assignV (et (gS rfl g0) rfl)) ?_
      refine l_step (y_assignV (et (gS rfl g0) rfl)) ?_
      refine l_nil ?_
      refine hK14 _ _ ?_
      refine fg10 0 1 2 8 17 18 19 9 11 12 (gS rfl (gS rfl (gS rfl (gS rfl (gS rfl (gS rfl (gS rfl (gS rfl (gS rfl (gS rfl (gS rfl (gS rfl (gS rfl (gS rfl (gS rfl (gS rfl (gS rfl (gS rfl g0)))))))))))))))))) (gS rfl (gS rfl (gS rfl (gS rfl (gS rfl (gS rfl (gS rfl (gS rfl (gS rfl (gS rfl (gS rfl (gS rfl (gS rfl (gS rfl (gS rfl (gS rfl (gS rfl g0))))))))))))))))) (gS rfl (gS rfl (gS rfl (gS rfl (gS rfl (gS rfl (gS rfl (gS rfl (gS rfl (gS rfl (gS rfl (gS rfl (gS rfl (gS rfl (gS rfl (gS rfl g0)))))))))))))))) (gS rfl (gS rfl (gS rfl (gS rfl (gS rfl (gS rfl (gS rfl (gS rfl (gS rfl (gS rfl (gS rfl (gS rfl (gS rfl (gS rfl g0)))))))))))))) (gS rfl (gS rfl (gS rfl (gS rfl (gS rfl (gS rfl (gS rfl (gS rfl (gS rfl (gS rfl (gS rfl (gS rfl (gS rfl g0))))))))))))) (gS rfl (gS rfl (gS rfl (gS rfl (gS rfl (gS rfl (gS rfl (gS rfl (gS rfl (gS rfl (gS rfl (gS rfl g0)))))))))))) (gS rfl (gS rfl (gS rfl (gS rfl (gS rfl (gS rfl (gS rfl (gS rfl (gS rfl (gS rfl (gS rfl g0))))))))))) (gS rfl (gS rfl (gS rfl (gS rfl (gS rfl (gS rfl (gS rfl (gS rfl (gS rfl (gS rfl g0)))))))))) (gS rfl g0) g0 (fun g => ?_)
      refine c_seq (fun K16 hK16 => ?_)
      refine c_region ?_
      refine l_step (y_moveV (et (gS rfl (gS rfl (gS rfl (gS rfl (gS rfl (gS rfl (gS rfl (gS rfl (gS rfl g0))))))))) rfl)) ?_
      refine l_step (y_moveV (et (gS rfl (gS rfl (gS rfl g0))) rfl)) ?_
      refine l_step (y_idxS Hvaa.underlying317 sz_26 (et (gS rfl g0) rfl) (et g0 rfl) ?_ ?_) ?_
      exact Int.natCast_nonneg _
      (exact_mod_cast (show _ from by omega))
      refine l_step (y_load1 one_26 (et g0 rfl) (at1 (kB.cell (uL_get (L ++ D) y _ _ (by simp [ho, hDl]))))) ?_
      refine l_step (y_moveV (et (gS rfl (gS rfl (gS rfl (gS rfl (gS rfl g0))))) rfl)) ?_
      refine l_step (y_moveV (et (gS rfl (gS rfl (gS rfl (gS rfl (gS rfl (gS rfl (gS rfl (gS rfl (gS rfl (gS rfl (gS rfl g0))))))))))) rfl)) ?_
      refine l_eff (e_callV cal_246 (aC (et (gS rfl (gS rfl g0)) rfl) (aC (et (gS rfl g0) rfl) (aC (et g0 rfl) aN))) (sub64_r _ _ _ _ (by assumption) (by assumption) (by first | assumption | decide))) (fun v17 w17 h17 => ?_)
      obtain ⟨s17, c17, rfl, hs17, hc17, he17, u17⟩ := h17
      replace kB := kB.up u17
      replace kC := kC.up u17
      replace U := U.tr u17
      replace V7 := V7.tr u17
      refine l_step (y_moveV (et g0 rfl)) ?_
      refine l_step (y_ext (et g0 rfl) rfl) ?_
      refine l_step (y_ext (et (gS rfl g0) rfl) rfl) ?_
      refine l_step (y_assignV (et (gS rfl g0) rfl)) ?_
      refine l_step (y_assignV (et (gS rfl g0) rfl)) ?_
      refine l_nil ?_
      refine hK16 _ _ ?_
      refine fg10 0 1 2 17 18 19 9 12 13 14 (gS rfl (gS rfl (gS rfl (gS rfl (gS rfl (gS rfl (gS rfl (gS rfl (gS rfl (gS rfl (gS rfl (gS rfl (gS rfl (gS rfl (gS rfl (gS rfl (gS rfl (gS rfl (gS rfl (gS rfl (gS rfl g0))))))))))))))))))))) (gS rfl (gS rfl (gS rfl (gS rfl (gS rfl (gS rfl (gS rfl (gS rfl (gS rfl (gS rfl (gS rfl (gS rfl (gS rfl (gS rfl (gS rfl (gS rfl (gS rfl (gS rfl (gS rfl (gS rfl g0)))))))))))))))))))) (gS rfl (gS rfl (gS rfl (gS rfl (gS rfl (gS rfl (gS rfl (gS rfl (gS rfl (gS rfl (gS rfl (gS rfl (gS rfl (gS rfl (gS rfl (gS rfl (gS rfl (gS rfl (gS rfl g0))))))))))))))))))) (gS rfl (gS rfl (gS rfl (gS rfl (gS rfl (gS rfl (gS rfl (gS rfl (gS rfl (gS rfl (gS rfl (gS rfl (gS rfl (gS rfl (gS rfl (gS rfl (gS rfl g0))))))))))))))))) (gS rfl (gS rfl (gS rfl (gS rfl (gS rfl (gS rfl (gS rfl (gS rfl (gS rfl (gS rfl (gS rfl (gS rfl (gS rfl (gS rfl (gS rfl (gS rfl g0)))))))))))))))) (gS rfl (gS rfl (gS rfl (gS rfl (gS rfl (gS rfl (gS rfl (gS rfl (gS rfl (gS rfl (gS rfl (gS rfl (gS rfl (gS rfl (gS rfl g0))))))))))))))) (gS rfl (gS rfl (gS rfl (gS rfl (gS rfl (gS rfl (gS rfl (gS rfl (gS rfl (gS rfl (gS rfl (gS rfl (gS rfl (gS rfl g0)))))))))))))) (gS rfl (gS rfl (gS rfl (gS rfl (gS rfl (gS rfl (gS rfl (gS rfl (gS rfl (gS rfl (gS rfl (gS rfl g0)))))))))))) (gS rfl g0) g0 (fun g => ?_)
      refine c_seq (fun K18 hK18 => ?_)
      refine c_region ?_
      refine l_step (y_moveV (et (gS rfl (gS rfl (gS rfl (gS rfl (gS rfl (gS rfl (gS rfl (gS rfl (gS rfl g0))))))))) rfl)) ?_
      refine l_step (y_moveV (et (gS rfl (gS rfl (gS rfl (gS rfl g0)))) rfl)) ?_
      refine l_step (y_moveV (et (gS rfl (gS rfl (gS rfl g0))) rfl)) ?_
      refine l_step (y_idxS Hvaa.underlying317 sz_26 (et (gS rfl (gS rfl g0)) rfl) (et (gS rfl g0) rfl) ?_ ?_) ?_
      exact Int.natCast_nonneg _
      (exact_mod_cast (show _ from by omega))
      refine l_effN (e_store sz_26 (et g0 rfl) (cellsV (et (gS rfl g0) rfl) rfl) rfl (by first | exact one_bL _ | exact one_uL _ | (intro v hv; simp at hv; subst hv; rfl)) kB (by (simp only [size_uL, List.length_append, List.length_cons, List.length_nil, ho, hDl, Int.toNat_natCast, Nat.mul_one]; omega))) (fun v19 w19 h19 => ?_)
      obtain ⟨rfl, x19⟩ := h19
      replace kC := kC.ch x19.ch (by omega)
      replace kB := x19.blk
      replace U := U.st x19 (.inl (by first | rfl | (simp; done)))
      replace V7 := V7.st x19 (by omega)
      replace kB := kB.setU (by simp [ho, hDl])
      replace kB : Blk w19 b (uL (L ++ ((D ++ [s17]) ++ (ru' ++ R)))).toArray := by simpa using kB
      have hv2 : val 18446744073709551616 (D ++ [s17]) + q * val 18446744073709551616 (Tv ++ [x]) = val 18446744073709551616 (Tu ++ [y]) + (m15 + c17) * 18446744073709551616 ^ (Tv ++ [x]).length := by
        rw [val_snoc, val_snoc, val_snoc, hDl, hTl, List.length_append, List.length_singleton, Nat.pow_succ]
        exact tt_step _ _ _ _ c k _ _ _ _ x y _ hv he15 he17
      refine l_nil ?_
      refine hK18 _ _ ?_
      refine fg8 0 1 2 17 18 19 12 14 (gS rfl (gS rfl (gS rfl (gS rfl (gS rfl (gS rfl (gS rfl (gS rfl (gS rfl (gS rfl (gS rfl (gS rfl (gS rfl g0))))))))))))) (gS rfl (gS rfl (gS rfl (gS rfl (gS rfl (gS rfl (gS rfl (gS rfl (gS rfl (gS rfl (gS rfl (gS rfl g0)))))))))))) (gS rfl (gS rfl (gS rfl (gS rfl (gS rfl (gS rfl (gS rfl (gS rfl (gS rfl (gS rfl (gS rfl g0))))))))))) (gS rfl (gS rfl (gS rfl (gS rfl (gS rfl (gS rfl (gS rfl (gS rfl (gS rfl (gS rfl g0)))))))))) (gS rfl (gS rfl (gS rfl (gS rfl (gS rfl (gS rfl (gS rfl (gS rfl (gS rfl g0))))))))) (gS rfl (gS rfl (gS rfl (gS rfl (gS rfl (gS rfl (gS rfl (gS rfl g0)))))))) (gS rfl (gS rfl (gS rfl (gS rfl (gS rfl (gS rfl g0)))))) (gS rfl (gS rfl (gS rfl (gS rfl g0)))) (fun g => ?_)
      refine c_seq (fun K20 hK20 => ?_)
      refine c_region ?_
      refine l_step (y_moveV (et (gS rfl g0) rfl)) ?_
      refine l_step (y_assignV (et g0 rfl)) ?_
      refine l_nil ?_
      refine hK20 _ _ ?_
      refine fg8 0 1 2 17 18 19 14 7 (gS rfl (gS rfl (gS rfl (gS rfl (gS rfl (gS rfl (gS rfl (gS rfl (gS rfl g0))))))))) (gS rfl (gS rfl (gS rfl (gS rfl (gS rfl (gS rfl (gS rfl (gS rfl g0)))))))) (gS rfl (gS rfl (gS rfl (gS rfl (gS rfl (gS rfl (gS rfl g0))))))) (gS rfl (gS rfl (gS rfl (gS rfl (gS rfl (gS rfl g0)))))) (gS rfl (gS rfl (gS rfl (gS rfl (gS rfl g0))))) (gS rfl (gS rfl (gS rfl (gS rfl g0)))) (gS rfl (gS rfl g0)) g0 (fun g => ?_)
      refine c_region ?_
      refine l_step (y_moveV (et (gS rfl g0) rfl)) ?_
      refine l_step (y_assignV (et g0 rfl)) ?_
      refine l_nil ?_
      refine hQ12 _ _ _ (in_normal ?_)
      refine hK11 _ _ ?_
      refine fg8 0 1 2 17 18 19 7 8 (gS rfl (gS rfl (gS rfl (gS rfl (gS rfl (gS rfl (gS rfl (gS rfl (gS rfl g0))))))))) (gS rfl (gS rfl (gS rfl (gS rfl (gS rfl (gS rfl (gS rfl (gS rfl g0)))))))) (gS rfl (gS rfl (gS rfl (gS rfl (gS rfl (gS rfl (gS rfl g0))))))) (gS rfl (gS rfl (gS rfl (gS rfl (gS rfl (gS rfl g0)))))) (gS rfl (gS rfl (gS rfl (gS rfl (gS rfl g0))))) (gS rfl (gS rfl (gS rfl (gS rfl g0)))) (gS rfl (gS rfl g0)) g0 (fun g => ?_)
      refine c_region ?_
      refine l_step (y_add (et (gS rfl (gS rfl g0)) rfl) rfl ((addIN (y := 1) ?_).trans (castE (show Tv.length + 1 = (Tv ++ [x]).length by simp)))) ?_
      omega
      refine l_step (y_moveV (et g0 rfl)) ?_
      refine l_nil ?_
      refine fK8 0 1 2 7 8 17 18 19 (gS rfl (gS rfl (gS rfl (gS rfl (gS rfl (gS rfl (gS rfl (gS rfl (gS rfl g0))))))))) (gS rfl (gS rfl (gS rfl (gS rfl (gS rfl (gS rfl (gS rfl (gS rfl g0)))))))) (gS rfl (gS rfl (gS rfl (gS rfl (gS rfl (gS rfl (gS rfl g0))))))) (gS rfl (gS rfl (gS rfl g0))) (gS rfl (gS rfl g0)) (gS rfl (gS rfl (gS rfl (gS rfl (gS rfl (gS rfl g0)))))) (gS rfl (gS rfl (gS rfl (gS rfl (gS rfl g0))))) g0 (fun g => ?_)
      exact hK7 ((rv').length) _ _ (by simp) ⟨g, (Tv ++ [x]), rv', (Tu ++ [y]), ru', (D ++ [_]), _, _, rfl, rfl, by simpa using hV, by simpa using hM, by simp [hTl], by simp [hDl], hD.app (Dig.one (by assumption)), by assumption, by assumption, hv2, kB, V7⟩
    · skip
      
      have hr0 : rv = [] := List.eq_nil_of_length_eq_zero (by have := of_decide_eq_false cB1; omega)
      subst hr0
      have hTV : Tv = V := by simpa using hV
      subst hTV
      obtain ⟨y, ru', rfl⟩ := cons_of_len (l := ru) (by simp only [List.length_nil] at hlen; omega)
      have hru : ru' = [] := List.eq_nil_of_length_eq_zero (by simp only [List.length_cons] at hlen2; omega)
      subst hru
      replace kB : Blk W7 b (uL ((L ++ D) ++ y :: R)).toArray := by simpa using kB
      have hy := hdM.right.head
      simp only [List.length_cons, List.length_nil] at hlen2
      refine c_exit ?_
      refine hQ6 _ _ _ (in_exit ?_)
      refine hK4 _ _ ?_
      refine fg4 0 1 7 8 (gS rfl (gS rfl (gS rfl (gS rfl (gS rfl (gS rfl (gS rfl (gS rfl g0)))))))) (gS rfl (gS rfl (gS rfl (gS rfl (gS rfl (gS rfl (gS rfl g0))))))) (gS rfl (gS rfl (gS rfl (gS rfl (gS rfl g0))))) (gS rfl (gS rfl (gS rfl (gS rfl g0)))) (fun g => ?_)
      refine c_seq (fun K21 hK21 => ?_)
      refine c_region ?_
      refine l_step (y_moveV (et (gS rfl (gS rfl (gS rfl g0))) rfl)) ?_
      refine l_step (y_moveV (et (gS rfl (gS rfl (gS rfl g0))) rfl)) ?_
      refine l_step (y_len Hvaa.underlying317 (et g0 rfl)) ?_
      refine l_step (y_idxS Hvaa.underlying317 sz_26 (et (gS rfl (gS rfl g0)) rfl) (et g0 rfl) ?_ ?_) ?_
      exact Int.natCast_nonneg _
      (exact_mod_cast (show _ from by omega))
      refine l_step (y_load1 one_26 (et g0 rfl) (at1 (kB.cell (uL_get (L ++ D) y _ _ (by simp [ho, hDl]))))) ?_
      refine l_step (y_moveV (et (gS rfl (gS rfl (gS rfl (gS rfl (gS rfl (gS rfl g0)))))) rfl)) ?_
      refine l_step (y_moveV (et (gS rfl (gS rfl (gS rfl (gS rfl (gS rfl (gS rfl g0)))))) rfl)) ?_
      refine l_eff (e_callV cal_246 (aC (et (gS rfl (gS rfl g0)) rfl) (aC (et (gS rfl g0) rfl) (aC (et g0 rfl) aN))) (sub64_r _ _ _ _ (by assumption) (by assumption) (by first | assumption | decide))) (fun v22 w22 h22 => ?_)
      obtain ⟨s22, c22, rfl, hs22, hc22, he22, u22⟩ := h22
      replace kB := kB.up u22
      replace kC := kC.up u22
      replace U := U.tr u22
      refine l_step (y_moveV (et g0 rfl)) ?_
      refine l_step (y_ext (et g0 rfl) rfl) ?_
      refine l_step (y_ext (et (gS rfl g0) rfl) rfl) ?_
      refine l_step (y_assignV (et (gS rfl g0) rfl)) ?_
      refine l_step (y_assignV (et (gS rfl g0) rfl)) ?_
      refine l_nil ?_
      refine hK21 _ _ ?_
      refine fg4 0 1 15 16 (gS rfl (gS rfl (gS rfl (gS rfl (gS rfl (gS rfl (gS rfl (gS rfl (gS rfl (gS rfl (gS rfl (gS rfl (gS rfl (gS rfl (gS rfl (gS rfl g0)))))))))))))))) (gS rfl (gS rfl (gS rfl (gS rfl (gS rfl (gS rfl (gS rfl (gS rfl (gS rfl (gS rfl (gS rfl (gS rfl (gS rfl (gS rfl (gS rfl g0))))))))))))))) (gS rfl g0) g0 (fun g => ?_)
      refine c_seq (fun K23 hK23 => ?_)
      refine c_region ?_
      refine l_step (y_moveV (et (gS rfl (gS rfl (gS rfl g0))) rfl)) ?_
      refine l_step (y_moveV (et (gS rfl (gS rfl (gS rfl g0))) rfl)) ?_
      refine l_step (y_len Hvaa.underlying317 (et g0 rfl)) ?_
      refine l_step (y_moveV (et (gS rfl (gS rfl (gS rfl (gS rfl g0)))) rfl)) ?_
      refine l_step (y_idxS Hvaa.underlying317 sz_26 (et (gS rfl (gS rfl (gS rfl g0))) rfl) (et (gS rfl g0) rfl) ?_ ?_) ?_
      exact Int.natCast_nonneg _
      (exact_mod_cast (show _ from by omega))
      refine l_effN (e_store sz_26 (et g0 rfl) (cellsV (et (gS rfl g0) rfl) rfl) rfl (by first | exact one_bL _ | exact one_uL _ | (intro v hv; simp at hv; subst hv; rfl)) kB (by (simp only [size_uL, List.length_append, List.length_cons, List.length_nil, ho, hDl, Int.toNat_natCast, Nat.mul_one]; omega))) (fun v24 w24 h24 => ?_)
      obtain ⟨rfl, x24⟩ := h24
      replace kC := kC.ch x24.ch (by omega)
      replace kB := x24.blk
      replace U := U.st x24 (.inl (by first | rfl | (simp; done)))
      replace kB := kB.setU (by simp [ho, hDl])
      refine l_nil ?_
      refine hK23 _ _ ?_
      refine fg1 16 (gS rfl (gS rfl (gS rfl (gS rfl (gS rfl g0))))) (fun g => ?_)
      refine c_seq (fun K25 hK25 => ?_)
      refine c_region ?_
      refine l_step (y_moveV (et g0 rfl)) ?_
      refine l_step (y_neq (et g0 rfl) rfl) ?_
      refine l_step (y_assignV (et g0 rfl)) ?_
      refine l_nil ?_
      refine hK25 _ _ ?_
      refine fg1 6 g0 (fun g => ?_)
      refine c_ret ?_
      refine ret1 rfl (res_tmp (et g0 rfl)) ?_
      refine ⟨c22, D ++ [s22], rfl, hc22, by simp [hDl, ← hM, hTl], hD.app (Dig.one (by assumption)), ?_, by simpa using kB, U⟩
      rw [val_snoc, ← hM, val_snoc, hDl, hTl, List.length_append, List.length_singleton, hTl, Nat.pow_succ]
      exact tt_end _ _ _ _ c k _ _ y _ hv he22
theorem pb_step (vd vt vu c t d x u k : Nat) (h : vd + c * t = vu + vt) (h2 : d + k * 18446744073709551616 = u + x + c) : (vd + t * d) + k * (t * 18446744073709551616) = (vu + t * u) + (vt + t * x) := by
  have e1 : t * (d + k * 18446744073709551616) = t * (u + x + c) := by rw [h2]
  grind
theorem pb_end (vd vv vu c t u : Nat) (h : vd + c * t = vu + vv) : (vd + t * ((u + c) % 18446744073709551616)) + (u + c) / 18446744073709551616 * (t * 18446744073709551616) = (vu + t * u) + vv := by
  have e2 := Nat.div_add_mod (u + c) 18446744073709551616
  have e1 : t * (18446744073709551616 * ((u + c) / 18446744073709551616) + (u + c) % 18446744073709551616) = t * (u + c) := by rw [e2]
  generalize (u + c) / 18446744073709551616 = p at *
  generalize (u + c) % 18446744073709551616 = r at *
  grind
theorem putBack_spec (b o cap bv capv : Nat) (L M R V RV : List Nat) (w : World) (hbb : b ≠ bv) (ho : o = L.length) (hlm : M.length = V.length + 1) (hlv : V.length < 1000000) (hdu : Dig 18446744073709551616 M) (hdv : Dig 18446744073709551616 V) (kB : Blk w b (uL (L ++ (M ++ R))).toArray) (kC : Blk w bv (uL (V ++ RV)).toArray) :
    Ret 427 [.slice (some ⟨b, o, none⟩) M.length cap, .slice (some ⟨bv, 0, none⟩) V.length capv] w (fun v w' => v = .tuple #[] ∧ ∃ (k : Nat) (D : List Nat), D.length = M.length ∧ Dig 18446744073709551616 D ∧ val 18446744073709551616 D + k * 18446744073709551616 ^ M.length = val 18446744073709551616 M + val 18446744073709551616 V ∧ Blk w' b (uL (L ++ (D ++ R))).toArray ∧ Ch (fun k => k = b) w w') := by
  have lB := kB.lt
  have lC := kC.lt
  refine enter (n := 40) Hvaa.func427 rfl rfl (Nat.le_of_ble_eq_true rfl) ?_
  have U : Ch (fun k => k = b) w w := Ch.refl _ w
  refine c_seq (fun K1 hK1 => ?_)
  refine c_region ?_
  refine l_step y_assignC ?_
  refine l_nil ?_
  refine hK1 _ _ ?_
  refine c_seq (fun K2 hK2 => ?_)
  refine c_seq (fun K3 hK3 => ?_)
  refine c_region ?_
  refine l_step (y_moveV (et (gS rfl (gS rfl g0)) rfl)) ?_
  refine l_step (y_len Hvaa.underlying317 (et g0 rfl)) ?_
  refine l_step y_moveC ?_
  refine l_nil ?_
  refine hK3 _ _ ?_
  refine c_block (fun Q4 hQ4 => ?_)
  refine fg6 0 1 4 9 10 11 (gS rfl (gS rfl (gS rfl (gS rfl g0)))) (gS rfl (gS rfl (gS rfl (gS rfl (gS rfl g0))))) (gS rfl (gS rfl (gS rfl g0))) (gS rfl (gS rfl g0)) (gS rfl g0) g0 (fun g => ?_)
  refine c_loop (fun k_ s_ W5 => ∃ (g : Nat → Value) (Tv rv Tu ru D : List Nat) (c : Nat), s_ = (upd (upd (upd (upd (upd (upd g 0 (.slice (some ⟨b, o, none⟩) M.length cap)) 1 (.slice (some ⟨bv, 0, none⟩) V.length capv)) 4 (.int .u64 (c : Nat))) 9 (.slice (some ⟨bv, 0, none⟩) V.length capv)) 10 (.int .i64 (V.length : Nat))) 11 (.int .i64 (Tv.length : Nat))) ∧ rv.length = k_ ∧ (Tv ++ rv = V) ∧ (Tu ++ ru = M) ∧ (Tu.length = Tv.length) ∧ (D.length = Tv.length) ∧ (Dig 18446744073709551616 D) ∧ (c ≤ 1) ∧ (val 18446744073709551616 D + c * 18446744073709551616 ^ Tv.length = val 18446744073709551616 Tu + val 18446744073709551616 Tv) ∧ Blk W5 b ((uL (L ++ (D ++ (ru ++ R)))).toArray) ∧ Ch (fun k => k = b) w W5) ((V).length) ?_ ?_
  · exact ⟨g, [], V, [], M, [], 0, rfl, rfl, by simp, by simp, rfl, rfl, Dig.nil _, by decide, by simp [val], kB, Ch.refl _ _⟩
  · skip
    intro k_ s_ W5 hI K5 hK5
    obtain ⟨g, Tv, rv, Tu, ru, D, c, rfl, rfl, hV, hM, hTl, hDl, hD, hc, hv, nkB, V5⟩ := hI
    replace kC := kC.ch V5 (by omega)
    replace kB := nkB
    replace U := U.cc V5 (by intro b hb; first | exact hb.elim | omega | (simp at hb ⊢; omega))
    have hlen := congrArg List.length hV
    simp only [List.length_append] at hlen
    have hlen2 := congrArg List.length hM
    simp only [List.length_append] at hlen2
    have hdV : Dig 18446744073709551616 (Tv ++ rv) := hV ▸ hdv
    have hdM : Dig 18446744073709551616 (Tu ++ ru) := hM ▸ hdu
    refine c_seq (fun K6 hK6 => ?_)
    refine c_region ?_
    refine l_step (y_lss (et g0 rfl) (et (gS rfl g0) rfl)) ?_
    refine l_nil ?_
    refine hK6 _ _ ?_
    refine c_seq (fun K7 hK7 => ?_)
    refine c_cond (et g0 rfl) (fun cB1 => ?_) (fun cB1 => ?_)
    · skip
      
      have hr0 : Tv.length < V.length := by have := of_decide_eq_true cB1; omega
      obtain ⟨x, rv', rfl⟩ := cons_of_len (l := rv) (by omega)
      obtain ⟨y, ru', rfl⟩ := cons_of_len (l := ru) (by simp only [List.length_cons] at hlen; omega)
      replace kB : Blk W5 b (uL ((L ++ D) ++ y :: (ru' ++ R))).toArray := by simpa using kB
      have kC' : Blk W5 bv (uL (Tv ++ x :: (rv' ++ RV))).toArray := by rw [← hV] at kC; simpa using kC
      have hx := hdV.right.head
      have hy := hdM.right.head
      simp only [List.length_cons] at hlen hlen2
      refine c_skip ?_
      refine hK7 _ _ ?_
      refine fg6 0 1 4 9 10 11 (gS rfl (gS rfl (gS rfl (gS rfl (gS rfl (gS rfl g0)))))) (gS rfl (gS rfl (gS rfl (gS rfl (gS rfl g0))))) (gS rfl (gS rfl (gS rfl (gS rfl g0)))) (gS rfl (gS rfl (gS rfl g0))) (gS rfl (gS rfl g0)) (gS rfl g0) (fun g => ?_)
      refine c_seq (fun K9 hK9 => ?_)
      refine c_block (fun Q10 hQ10 => ?_)
      refine c_seq (fun K11 hK11 => ?_)
      refine c_region ?_
      refine l_step (y_moveV (et g0 rfl)) ?_
      refine l_step (y_idxS Hvaa.underlying317 sz_26 (et (gS rfl (gS rfl (gS rfl g0))) rfl) (et (gS rfl g0) rfl) ?_ ?_) ?_
      exact Int.natCast_nonneg _
      (exact_mod_cast (show _ from by omega))
      refine l_step (y_load1 one_26 (et g0 rfl) (at1 (kC'.cell (uL_get Tv x _ _ (by simp))))) ?_
      refine l_step (y_assignV (et (gS rfl (gS rfl g0)) rfl)) ?_
      refine l_step (y_assignV (et (gS rfl g0) rfl)) ?_
      refine l_nil ?_
      refine hK11 _ _ ?_
      refine fg8 0 1 4 9 10 11 5 6 (gS rfl (gS rfl (gS rfl (gS rfl (gS rfl (gS rfl (gS rfl (gS rfl (gS rfl (gS rfl g0)))))))))) (gS rfl (gS rfl (gS rfl (gS rfl (gS rfl (gS rfl (gS rfl (gS rfl (gS rfl g0))))))))) (gS rfl (gS rfl (gS rfl (gS rfl (gS rfl (gS rfl (gS rfl (gS rfl g0)))))))) (gS rfl (gS rfl (gS rfl (gS rfl (gS rfl (gS rfl (gS rfl g0))))))) (gS rfl (gS rfl (gS rfl (gS rfl (gS rfl (gS rfl g0)))))) (gS rfl (gS rfl (gS rfl (gS rfl (gS rfl g0))))) (gS rfl g0) g0 (fun g => ?_)
      refine c_seq (fun K12 hK12 => ?_)
      refine c_region ?_
      refine l_step (y_moveV (et (gS rfl (gS rfl (gS rfl (gS rfl (gS rfl (gS rfl (gS rfl g0))))))) rfl)) ?_
      refine l_step (y_moveV (et (gS rfl (gS rfl g0)) rfl)) ?_
      refine l_step (y_idxS Hvaa.underlying317 sz_26 (et (gS rfl g0) rfl) (et g0 rfl) ?_ ?_) ?_
      exact Int.natCast_nonneg _
      (exact_mod_cast (show _ from by omega))
      refine l_step (y_load1 one_26 (et g0 rfl) (at1 (kB.cell (uL_get (L ++ D) y _ _ (by simp [ho, hDl]))))) ?_
      refine l_step (y_moveV (et (gS rfl (gS rfl (gS rfl (gS rfl g0)))) rfl)) ?_
      refine l_step (y_moveV (et (gS rfl (gS rfl (gS rfl (gS rfl (gS rfl (gS rfl (gS rfl (gS rfl (gS rfl (gS rfl g0)))))))))) rfl)) ?_
      refine l_eff (e_callV cal_169 (aC (et (gS rfl (gS rfl g0)) rfl) (aC (et (gS rfl g0) rfl) (aC (et g0 rfl) aN))) (add64_r _ _ _ _ (by first | assumption | omega) (by first | assumption | omega) (by first | assumption | decide | omega))) (fun v13 w13 h13 => ?_)
      obtain ⟨s13, c13, rfl, hs13, hc13, he13, u13⟩ := h13
      replace kB := kB.up u13
      replace kC := kC.up u13
      replace U := U.tr u13
      replace V5 := V5.tr u13
      try clear kC'
      refine l_step (y_moveV (et g0 rfl)) ?_
      refine l_step (y_ext (et g0 rfl) rfl) ?_
      refine l_step (y_ext (et (gS rfl g0) rfl) rfl) ?_
      refine l_step (y_assignV (et (gS rfl g0) rfl)) ?_
      refine l_step (y_assignV (et (gS rfl g0) rfl)) ?_
      refine l_nil ?_
      refine hK12 _ _ ?_
      refine fg8 0 1 9 10 11 5 7 8 (gS rfl (gS rfl (gS rfl (gS rfl (gS rfl (gS rfl (gS rfl (gS rfl (gS rfl (gS rfl (gS rfl (gS rfl (gS rfl (gS rfl (gS rfl (gS rfl (gS rfl (gS rfl (gS rfl g0))))))))))))))))))) (gS rfl (gS rfl (gS rfl (gS rfl (gS rfl (gS rfl (gS rfl (gS rfl (gS rfl (gS rfl (gS rfl (gS rfl (gS rfl (gS rfl (gS rfl (gS rfl (gS rfl (gS rfl g0)))))))))))))))))) (gS rfl (gS rfl (gS rfl (gS rfl (gS rfl (gS rfl (gS rfl (gS rfl (gS rfl (gS rfl (gS rfl (gS rfl (gS rfl (gS rfl (gS rfl (gS rfl g0)))))))))))))))) (gS rfl (gS rfl (gS rfl (gS rfl (gS rfl (gS rfl (gS rfl (gS rfl (gS rfl (gS rfl (gS rfl (gS rfl (gS rfl (gS rfl (gS rfl g0))))))))))))))) (gS rfl (gS rfl (gS rfl (gS rfl (gS rfl (gS rfl (gS rfl (gS rfl (gS rfl (gS rfl (gS rfl (gS rfl (gS rfl (gS rfl g0)))))))))))))) (gS rfl (gS rfl (gS rfl (gS rfl (gS rfl (gS rfl (gS rfl (gS rfl (gS rfl (gS rfl (gS rfl (gS rfl (gS rfl g0))))))))))))) (gS rfl g0) g0 (fun g => ?_)
      refine c_seq (fun K14 hK14 => ?_)
      refine c_region ?_
      refine l_step (y_moveV (et (gS rfl (gS rfl (gS rfl (gS rfl (gS rfl (gS rfl (gS rfl g0))))))) rfl)) ?_
      refine l_step (y_moveV (et (gS rfl (gS rfl (gS rfl g0))) rfl)) ?_
      refine l_step (y_moveV (et (gS rfl (gS rfl (gS rfl g0))) rfl)) ?_
      refine l_step (y_idxS Hvaa.underlying317 sz_26 (et (gS rfl (gS rfl g0)) rfl) (et (gS rfl g0) rfl) ?_ ?_) ?_
      exact Int.natCast_nonneg _
      (exact_mod_cast (show _ from by omega))
      refine l_effN (e_store sz_26 (et g0 rfl) (cellsV (et (gS rfl g0) rfl) rfl) rfl (by first | exact one_bL _ | exact one_uL _ | (intro v hv; simp at hv; subst hv; rfl)) kB (by (simp only [size_uL, List.length_append, List.length_cons, List.length_nil, ho, hDl, Int.toNat_natCast, Nat.mul_one]; omega))) (fun v15 w15 h15 => ?_)
      obtain ⟨rfl, x15⟩ := h15
      replace kC := kC.ch x15.ch (by omega)
      replace kB := x15.blk
      replace U := U.st x15 (.inl (by first | rfl | (simp; done)))
      replace V5 := V5.st x15 (by omega)
      replace kB := kB.setU (by simp [ho, hDl])
      replace kB : Blk w15 b (uL (L ++ ((D ++ [s13]) ++ (ru' ++ R)))).toArray := by simpa using kB
      have hv2 : val 18446744073709551616 (D ++ [s13]) + c13 * 18446744073709551616 ^ (Tv ++ [x]).length = val 18446744073709551616 (Tu ++ [y]) + val 18446744073709551616 (Tv ++ [x]) := by
        rw [val_snoc, val_snoc, val_snoc, hDl, hTl, List.length_append, List.length_singleton, Nat.pow_succ]
        exact pb_step _ _ _ c _ _ x y _ hv he13
      refine l_nil ?_
      refine hK14 _ _ ?_
      refine fg6 0 1 9 10 11 8 (gS rfl (gS rfl (gS rfl (gS rfl (gS rfl (gS rfl (gS rfl (gS rfl (gS rfl (gS rfl (gS rfl g0))))))))))) (gS rfl (gS rfl (gS rfl (gS rfl (gS rfl (gS rfl (gS rfl (gS rfl (gS rfl (gS rfl g0)))))))))) (gS rfl (gS rfl (gS rfl (gS rfl (gS rfl (gS rfl (gS rfl (gS rfl (gS rfl g0))))))))) (gS rfl (gS rfl (gS rfl (gS rfl (gS rfl (gS rfl (gS rfl (gS rfl g0)))))))) (gS rfl (gS rfl (gS rfl (gS rfl (gS rfl (gS rfl (gS rfl g0))))))) (gS rfl (gS rfl (gS rfl (gS rfl g0)))) (fun g => ?_)
      refine c_region ?_
      refine l_step (y_moveV (et g0 rfl)) ?_
      refine l_step (y_assignV (et g0 rfl)) ?_
      refine l_nil ?_
      refine hQ10 _ _ _ (in_normal ?_)
      refine hK9 _ _ ?_
      refine fg6 0 1 9 10 11 4 (gS rfl (gS rfl (gS rfl (gS rfl (gS rfl (gS rfl (gS rfl g0))))))) (gS rfl (gS rfl (gS rfl (gS rfl (gS rfl (gS rfl g0)))))) (gS rfl (gS rfl (gS rfl (gS rfl (gS rfl g0))))) (gS rfl (gS rfl (gS rfl (gS rfl g0)))) (gS rfl (gS rfl (gS rfl g0))) g0 (fun g => ?_)
      refine c_region ?_
      refine l_step (y_add (et (gS rfl g0) rfl) rfl ((addIN (y := 1) ?_).trans (castE (show Tv.length + 1 = (Tv ++ [x]).length by simp)))) ?_
      omega
      refine l_step (y_moveV (et g0 rfl)) ?_
      refine l_nil ?_
      refine fK6 0 1 4 9 10 11 (gS rfl (gS rfl (gS rfl (gS rfl (gS rfl (gS rfl (gS rfl g0))))))) (gS rfl (gS rfl (gS rfl (gS rfl (gS rfl (gS rfl g0)))))) (gS rfl (gS rfl g0)) (gS rfl (gS rfl (gS rfl (gS rfl (gS rfl g0))))) (gS rfl (gS rfl (gS rfl (gS rfl g0)))) g0 (fun g => ?_)
      exact hK5 ((rv').length) _ _ (by simp) ⟨g, (Tv ++ [x]), rv', (Tu ++ [y]), ru', (D ++ [_]), _, rfl, rfl, by simpa using hV, by simpa using hM, by simp [hTl], by simp [hDl], hD.app (Dig.one (by assumption)), by assumption, hv2, kB, V5⟩
    · skip
      
      have hr0 : rv = [] := List.eq_nil_of_length_eq_zero (by have := of_decide_eq_false cB1; omega)
      subst hr0
      have hTV : Tv = V := by simpa using hV
      subst hTV
      obtain ⟨y, ru', rfl⟩ := cons_of_len (l := ru) (by simp only [List.length_nil] at hlen; omega)
      have hru : ru' = [] := List.eq_nil_of_length_eq_zero (by simp only [List.length_cons] at hlen2; omega)
      subst hru
      replace kB : Blk W5 b (uL ((L ++ D) ++ y :: R)).toArray := by simpa using kB
      have hy := hdM.right.head
      simp only [List.length_cons, List.length_nil] at hlen2
      refine c_exit ?_
      refine hQ4 _ _ _ (in_exit ?_)
      refine hK2 _ _ ?_
      refine fg3 0 1 4 (gS rfl (gS rfl (gS rfl (gS rfl (gS rfl (gS rfl g0)))))) (gS rfl (gS rfl (gS rfl (gS rfl (gS rfl g0))))) (gS rfl (gS rfl (gS rfl (gS rfl g0)))) (fun g => ?_)
      refine c_region ?_
      refine l_step (y_moveV (et (gS rfl (gS rfl g0)) rfl)) ?_
      refine l_step (y_moveV (et (gS rfl (gS rfl g0)) rfl)) ?_
      refine l_step (y_len Hvaa.underlying317 (et g0 rfl)) ?_
      refine l_step (y_idxS Hvaa.underlying317 sz_26 (et (gS rfl (gS rfl g0)) rfl) (et g0 rfl) ?_ ?_) ?_
      exact Int.natCast_nonneg _
      (exact_mod_cast (show _ from by omega))
      refine l_step (y_load1 one_26 (et g0 rfl) (at1 (kB.cell (uL_get (L ++ D) y _ _ (by simp [ho, hDl]))))) ?_
      refine l_step (y_moveV (et (gS rfl (gS rfl (gS rfl (gS rfl (gS rfl g0))))) rfl)) ?_
      refine l_step (y_add (et (gS rfl g0) rfl) (et g0 rfl) (wrapU_add uk64)) ?_
      refine l_step (y_idxS Hvaa.underlying317 sz_26 (et (gS rfl (gS rfl (gS rfl (gS rfl (gS rfl (gS rfl g0)))))) rfl) (et (gS rfl (gS rfl (gS rfl (gS rfl g0)))) rfl) ?_ ?_) ?_
      exact Int.natCast_nonneg _
      (exact_mod_cast (show _ from by omega))
      refine l_effN (e_store sz_26 (et g0 rfl) (cellsV (et (gS rfl g0) rfl) rfl) rfl (by first | exact one_bL _ | exact one_uL _ | (intro v hv; simp at hv; subst hv; rfl)) kB (by (simp only [size_uL, List.length_append, List.length_cons, List.length_nil, ho, hDl, Int.toNat_natCast, Nat.mul_one]; omega))) (fun v16 w16 h16 => ?_)
      obtain ⟨rfl, x16⟩ := h16
      replace kC := kC.ch x16.ch (by omega)
      replace kB := x16.blk
      replace U := U.st x16 (.inl (by first | rfl | (simp; done)))
      replace kB := kB.setU (by simp [ho, hDl])
      refine l_nil ?_
      refine end0 rfl ?_
      refine ⟨rfl, (y + c) / 18446744073709551616, D ++ [(y + c) % 18446744073709551616], by simp [hDl, ← hM, hTl], hD.app (Dig.one (Nat.mod_lt _ (by decide))), ?_, by simpa using kB, U⟩
      rw [val_snoc, ← hM, val_snoc, hDl, hTl, List.length_append, List.length_singleton, hTl, Nat.pow_succ]
      exact pb_end _ _ _ c _ y hv
theorem trial_spec (high mid low top next : Nat) (w : World) (hmid : mid < 18446744073709551616) (hlow : low < 18446744073709551616) (htop : top < 18446744073709551616) (hnext : next < 18446744073709551616) (hh : high ≤ top) :
    Ret 425 [.int .u64 high, .int .u64 mid, .int .u64 low, .int .u64 top, .int .u64 next] w (fun v w' => ∃ q f : Nat, v = .tuple #[.int .u64 q, .int .u8 f] ∧ q < 18446744073709551616 ∧ q * (top * 18446744073709551616 + next) ≤ (high * 18446744073709551616 + mid) * 18446744073709551616 + low ∧ (q = 18446744073709551615 ∨ (high * 18446744073709551616 + mid) * 18446744073709551616 + low < (q + 1) * (top * 18446744073709551616 + next)) ∧ Up w w') := by
  rcases Nat.lt_or_ge high top with h | h
  · exact trial_lt high mid low top next w hmid hlow htop hnext h
  · exact trial_eq high mid low top next w hmid hlow htop hnext (by omega)
end Go.Proofs.YgvaawGreat
