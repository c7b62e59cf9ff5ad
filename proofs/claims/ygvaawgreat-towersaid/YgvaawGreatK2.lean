import Derived.Test.YgvaawGreatK1
set_option maxRecDepth 100000
set_option maxHeartbeats 4000000
set_option linter.unusedSimpArgs false
set_option linter.unusedVariables false
namespace Go.Proofs.YgvaawGreat
open Go
def uvN : Nat → Nat × Nat
  | 0 => (1, 0)
  | t + 1 => ((uvN t).2, (2 * (uvN t).1 + 3 * (uvN t).2) % 5)
theorem uv_lt (t : Nat) : (uvN t).1 < 5 ∧ (uvN t).2 < 5 := by
  induction t with
  | zero => decide
  | succ t ih => exact ⟨ih.2, Nat.mod_lt _ (by decide)⟩
theorem off_at {t : Nat} (h : t < 24) : kOff (uvN t).1 (uvN t).2 = (t + 1) * (t + 2) / 2 % 64 := by
  have : ∀ x : Fin 24, kOff (uvN x.1).1 (uvN x.1).2 = (x.1 + 1) * (x.1 + 2) / 2 % 64 := by decide
  exact this ⟨t, h⟩
theorem off_no {x y : Nat} (hx : x < 5) (hy : y < 5) (h : ∀ t, t < 24 → ¬ ((uvN t).1 = x ∧ (uvN t).2 = y)) : kOff x y = 0 := by
  have : ∀ (a b : Fin 5), (∃ t : Fin 24, (uvN t.1).1 = a.1 ∧ (uvN t.1).2 = b.1) ∨ kOff a.1 b.1 = 0 := by decide
  rcases this ⟨x, hx⟩ ⟨y, hy⟩ with ⟨t, ht⟩ | h9
  · exact absurd ht (h t.1 t.2)
  · exact h9
def offN (x y : Nat) : Nat := if x < 5 ∧ y < 5 then kOff x y else 0
theorem km_offset (x y : Nat) (w : World) (hx : x < 256) (hy : y < 256) :
    Ret 413 [.int .u8 x, .int .u8 y] w (fun v w' => v = .int .u8 (offN x y : Nat) ∧ Up w w') := by
  refine enter (n := 43) Hvaa.func413 rfl rfl (Nat.le_of_ble_eq_true rfl) ?_
  have U := Up.refl w
  refine c_seq (fun K1 hK1 => ?_)
  exact (by
    refine c_region ?_
    refine l_step y_assignC ?_
    refine l_nil ?_
    refine hK1 _ _ ?_
    refine fg2 1 0 (gS rfl (gS rfl g0)) (gS rfl g0) (fun g => ?_)
    refine c_seq (fun K2 hK2 => ?_)
    refine c_seq (fun K3 hK3 => ?_)
    exact (by
      refine c_region ?_
      refine l_step (y_moveV (et g0 rfl)) ?_
      refine l_step (y_geq (et g0 rfl) rfl) ?_
      refine l_step (y_moveV (et g0 rfl)) ?_
      refine l_gpure (j := 2) (t := 10) (by exact rfl) (by exact rfl) (et g0 rfl) rfl (fun hc => (y_moveV (et (gS rfl (gS rfl (gS rfl (gS rfl g0)))) rfl))) ?_
      refine l_gpure (j := 2) (t := 10) (by exact rfl) (by exact rfl) (et (gS rfl g0) rfl) rfl (fun hc => (y_geq (et (cT g0 hc) rfl) rfl)) ?_
      refine l_step (y_pickO (et (gS rfl (gS rfl g0)) rfl) rfl (et g0 rfl)) ?_
      refine l_nil ?_
      refine hK3 _ _ ?_
      refine fg3 1 0 13 (gS rfl (gS rfl (gS rfl (gS rfl (gS rfl (gS rfl (gS rfl g0))))))) (gS rfl (gS rfl (gS rfl (gS rfl (gS rfl (gS rfl g0)))))) g0 (fun g => ?_)
      refine c_cond (et g0 rfl) (fun cB1 => ?_) (fun cB1 => ?_)
      · skip
        simp only [Bool.or_eq_true, Bool.or_eq_false_iff, decide_eq_true_eq, decide_eq_false_iff_not] at cB1
        have hxy : ¬ (x < 5 ∧ y < 5) := by omega
        refine c_seq (fun K5 hK5 => ?_)
        exact (by
          refine c_region ?_
          refine l_step y_assignC ?_
          refine l_nil ?_
          refine hK5 _ _ ?_
          refine fg1 4 g0 (fun g => ?_)
          refine c_ret ?_
          repeat with_reducible refine then_ret ?_
          refine ret1 rfl (res_tmp (et g0 rfl)) ?_
          exact ⟨by rw [offN, if_neg hxy]; rfl, U⟩)
      · skip
        simp only [Bool.or_eq_true, Bool.or_eq_false_iff, decide_eq_true_eq, decide_eq_false_iff_not] at cB1
        have hxy : x < 5 ∧ y < 5 := by omega
        refine c_skip ?_
        refine hK2 _ _ ?_
        refine fg2 1 0 (gS rfl (gS rfl g0)) (gS rfl g0) (fun g => ?_)
        refine c_seq (fun K6 hK6 => ?_)
        exact (by
          refine c_region ?_
          refine l_step y_assignC ?_
          refine l_step y_assignC ?_
          refine l_nil ?_
          refine hK6 _ _ ?_
          refine c_seq (fun K7 hK7 => ?_)
          refine c_seq (fun K8 hK8 => ?_)
          exact (by
            refine c_region ?_
            refine l_step y_assignC ?_
            refine l_nil ?_
            refine hK8 _ _ ?_
            refine c_block (fun Q9 hQ9 => ?_)
            refine fg5 0 1 5 6 7 (gS rfl (gS rfl (gS rfl g0))) (gS rfl (gS rfl (gS rfl (gS rfl g0)))) (gS rfl (gS rfl g0)) (gS rfl g0) g0 (fun g => ?_)
            refine c_loop (fun k_ s_ W10 => ∃ (g : Nat → Value) (u z t : Nat), s_ = (upd (upd (upd (upd (upd g 0 (.int .u8 (x : Nat))) 1 (.int .u8 (y : Nat))) 5 (.int .i64 (u : Nat))) 6 (.int .i64 (z : Nat))) 7 (.int .i64 (t : Nat))) ∧ 24 - t = k_ ∧ (t ≤ 24) ∧ (u = (uvN t).1) ∧ (z = (uvN t).2) ∧ (∀ j, j < t → ¬ ((uvN j).1 = x ∧ (uvN j).2 = y)) ∧ Ch (fun k => False) w W10) (24 - (0)) ?_ ?_
            · exact ⟨g, 1, 0, 0, rfl, rfl, Nat.zero_le _, rfl, rfl, fun j hj => absurd hj (Nat.not_lt_zero _), Ch.refl _ _⟩
            · skip
              intro k_ s_ W10 hI K10 hK10
              obtain ⟨g, u, z, t, rfl, rfl, ht, hu, hz, hno, V10⟩ := hI
              replace U := U.cc V10 (by intro b hb; first | exact hb.elim | omega | (simp at hb ⊢; omega))
              refine c_seq (fun K11 hK11 => ?_)
              refine c_seq (fun K12 hK12 => ?_)
              exact (by
                refine c_region ?_
                refine l_step (y_moveV (et g0 rfl)) ?_
                refine l_step (y_lss (et g0 rfl) rfl) ?_
                refine l_nil ?_
                refine hK12 _ _ ?_
                refine fg6 0 1 5 6 7 15 (gS rfl (gS rfl (gS rfl (gS rfl (gS rfl (gS rfl g0)))))) (gS rfl (gS rfl (gS rfl (gS rfl (gS rfl g0))))) (gS rfl (gS rfl (gS rfl (gS rfl g0)))) (gS rfl (gS rfl (gS rfl g0))) (gS rfl (gS rfl g0)) g0 (fun g => ?_)
                refine c_cond (et g0 rfl) (fun cB2 => ?_) (fun cB2 => ?_)
                · skip
                  
                  have htl : t < 24 := by have := of_decide_eq_true cB2; omega
                  have huv := uv_lt t
                  have hmul : (t + 1) * (t + 2) ≤ 25 * 26 := Nat.mul_le_mul (by omega) (by omega)
                  refine c_skip ?_
                  refine hK11 _ _ ?_
                  refine fg5 0 1 5 6 7 (gS rfl (gS rfl (gS rfl (gS rfl (gS rfl g0))))) (gS rfl (gS rfl (gS rfl (gS rfl g0)))) (gS rfl (gS rfl (gS rfl g0))) (gS rfl (gS rfl g0)) (gS rfl g0) (fun g => ?_)
                  refine c_seq (fun K14 hK14 => ?_)
                  refine c_block (fun Q15 hQ15 => ?_)
                  refine c_seq (fun K16 hK16 => ?_)
                  refine c_seq (fun K17 hK17 => ?_)
                  exact (by
                    refine c_region ?_
                    refine l_step (y_moveV (et (gS rfl (gS rfl g0)) rfl)) ?_
                    refine l_step (y_moveV (et (gS rfl (gS rfl (gS rfl (gS rfl (gS rfl g0))))) rfl)) ?_
                    refine l_step (y_conv Hvaa.underlying5 Hvaa.underlying3 (et g0 rfl) (wrapIN ?_)) ?_
                    omega
                    refine l_step (y_eql (et (gS rfl (gS rfl g0)) rfl) (et g0 rfl)) ?_
                    refine l_step (y_moveV (et g0 rfl)) ?_
                    refine l_gpure (j := 4) (t := 22) (by exact rfl) (by exact rfl) (et g0 rfl) rfl (fun hc => (y_moveV (et (gS rfl (gS rfl (gS rfl (gS rfl (gS rfl (gS rfl g0)))))) rfl))) ?_
                    refine l_gpure (j := 4) (t := 22) (by exact rfl) (by exact rfl) (et (gS rfl g0) rfl) rfl (fun hc => (y_moveV (et (gS rfl (gS rfl (gS rfl (gS rfl (gS rfl (gS rfl (gS rfl (gS rfl (gS rfl g0))))))))) rfl))) ?_
                    refine l_gpure (j := 4) (t := 22) (by exact rfl) (by exact rfl) (et (gS rfl (gS rfl g0)) rfl) rfl (fun hc => (y_conv Hvaa.underlying5 Hvaa.underlying3 (et (cT g0 hc) rfl) (wrapIN ?_))) ?_
                    omega
                    refine l_gpure (j := 4) (t := 22) (by exact rfl) (by exact rfl) (et (gS rfl (gS rfl (gS rfl g0))) rfl) rfl (fun hc => (y_eql (et (cT (gS rfl (gS rfl g0)) hc) rfl) (et (cT g0 hc) rfl))) ?_
                    refine l_step (y_pickA (et (gS rfl (gS rfl (gS rfl (gS rfl g0)))) rfl) (et g0 rfl) rfl) ?_
                    refine l_nil ?_
                    refine hK17 _ _ ?_
                    refine fg6 0 1 5 6 7 27 (gS rfl (gS rfl (gS rfl (gS rfl (gS rfl (gS rfl (gS rfl (gS rfl (gS rfl (gS rfl (gS rfl (gS rfl (gS rfl (gS rfl g0)))))))))))))) (gS rfl (gS rfl (gS rfl (gS rfl (gS rfl (gS rfl (gS rfl (gS rfl (gS rfl (gS rfl (gS rfl (gS rfl (gS rfl g0))))))))))))) (gS rfl (gS rfl (gS rfl (gS rfl (gS rfl (gS rfl (gS rfl (gS rfl (gS rfl (gS rfl (gS rfl (gS rfl g0)))))))))))) (gS rfl (gS rfl (gS rfl (gS rfl (gS rfl (gS rfl (gS rfl (gS rfl (gS rfl (gS rfl (gS rfl g0))))))))))) (gS rfl (gS rfl (gS rfl (gS rfl (gS rfl (gS rfl (gS rfl (gS rfl (gS rfl (gS rfl g0)))))))))) g0 (fun g => ?_)
                    refine c_cond (et g0 rfl) (fun cB3 => ?_) (fun cB3 => ?_)
                    · skip
                      simp only [Bool.and_eq_true, Bool.and_eq_false_imp, decide_eq_true_eq, decide_eq_false_iff_not] at cB3
                      have heq : u = x ∧ z = y := by omega
                      refine c_seq (fun K19 hK19 => ?_)
                      exact (by
                        refine c_region ?_
                        refine l_step (y_moveV (et (gS rfl g0) rfl)) ?_
                        refine l_step (y_add (et g0 rfl) rfl (addIN (y := 1) ?_)) ?_
                        omega
                        refine l_step (y_moveV (et (gS rfl (gS rfl (gS rfl g0))) rfl)) ?_
                        refine l_step (y_add (et g0 rfl) rfl (addIN (y := 2) ?_)) ?_
                        omega
                        refine l_step (y_mul (et (gS rfl (gS rfl g0)) rfl) (et g0 rfl) (mulIN ?_)) ?_
                        omega
                        refine l_step (y_quo (et g0 rfl) rfl (by decide) (quoI (b := 2) ?_)) ?_
                        omega
                        refine l_step (y_rem (et g0 rfl) rfl (by decide) (remN (b := 64))) ?_
                        refine l_step (y_conv Hvaa.underlying3 Hvaa.underlying5 (et g0 rfl) (wrapU_id uk8 ?_)) ?_
                        omega
                        refine l_step (y_assignV (et g0 rfl)) ?_
                        refine l_nil ?_
                        refine hK19 _ _ ?_
                        refine fg1 4 g0 (fun g => ?_)
                        refine c_ret ?_
                        refine hQ15 _ _ _ (in_ret ?_)
                        refine hQ9 _ _ _ (in_ret ?_)
                        repeat with_reducible refine then_ret ?_
                        refine ret1 rfl (res_tmp (et g0 rfl)) ?_
                        exact ⟨by rw [offN, if_pos hxy, ← heq.1, ← heq.2, hu, hz, off_at htl], U⟩)
                    · skip
                      simp only [Bool.and_eq_true, Bool.and_eq_false_imp, decide_eq_true_eq, decide_eq_false_iff_not] at cB3
                      have hne : ¬ (u = x ∧ z = y) := by omega
                      refine c_skip ?_
                      refine hK16 _ _ ?_
                      refine fg5 0 1 5 6 7 (gS rfl (gS rfl (gS rfl (gS rfl (gS rfl g0))))) (gS rfl (gS rfl (gS rfl (gS rfl g0)))) (gS rfl (gS rfl (gS rfl g0))) (gS rfl (gS rfl g0)) (gS rfl g0) (fun g => ?_)
                      refine c_region ?_
                      refine l_step (y_moveV (et (gS rfl g0) rfl)) ?_
                      refine l_step (y_moveV (et (gS rfl (gS rfl (gS rfl g0))) rfl)) ?_
                      refine l_step (y_mul rfl (et g0 rfl) (mulIN (x := 2) ?_)) ?_
                      omega
                      refine l_step (y_moveV (et (gS rfl (gS rfl (gS rfl (gS rfl g0)))) rfl)) ?_
                      refine l_step (y_mul rfl (et g0 rfl) (mulIN (x := 3) ?_)) ?_
                      omega
                      refine l_step (y_add (et (gS rfl (gS rfl g0)) rfl) (et g0 rfl) (addIN ?_)) ?_
                      omega
                      refine l_step (y_rem (et g0 rfl) rfl (by decide) (remN (b := 5))) ?_
                      refine l_step (y_assignV (et (gS rfl (gS rfl (gS rfl (gS rfl (gS rfl (gS rfl g0)))))) rfl)) ?_
                      refine l_step (y_assignV (et (gS rfl g0) rfl)) ?_
                      refine l_nil ?_
                      refine hQ15 _ _ _ (in_normal ?_)
                      refine hK14 _ _ ?_
                      refine fg5 0 1 5 6 7 (gS rfl (gS rfl (gS rfl (gS rfl (gS rfl (gS rfl (gS rfl (gS rfl (gS rfl (gS rfl (gS rfl (gS rfl (gS rfl g0))))))))))))) (gS rfl (gS rfl (gS rfl (gS rfl (gS rfl (gS rfl (gS rfl (gS rfl (gS rfl (gS rfl (gS rfl (gS rfl g0)))))))))))) (gS rfl g0) g0 (gS rfl (gS rfl (gS rfl (gS rfl (gS rfl (gS rfl (gS rfl (gS rfl (gS rfl g0))))))))) (fun g => ?_)
                      refine c_region ?_
                      refine l_step (y_moveV (et g0 rfl)) ?_
                      refine l_step (y_add (et g0 rfl) rfl (addIN (y := 1) ?_)) ?_
                      omega
                      refine l_step (y_assignV (et g0 rfl)) ?_
                      refine l_nil ?_
                      refine fK5 0 1 5 6 7 (gS rfl (gS rfl (gS rfl (gS rfl (gS rfl (gS rfl (gS rfl g0))))))) (gS rfl (gS rfl (gS rfl (gS rfl (gS rfl (gS rfl g0)))))) (gS rfl (gS rfl (gS rfl (gS rfl (gS rfl g0))))) (gS rfl (gS rfl (gS rfl (gS rfl g0)))) g0 (fun g => ?_)
                      exact hK10 (24 - ((t + 1))) _ _ (by omega) ⟨g, _, _, (t + 1), rfl, rfl, by omega, by rw [uvN]; exact hz, by rw [uvN, hu, hz], fun j hj => (show j < t ∨ j = t by omega).elim (hno j) (fun e => by rw [e, ← hu, ← hz]; exact hne), V10⟩)
                · skip
                  
                  have htl : t = 24 := by have := of_decide_eq_false cB2; omega
                  refine c_exit ?_
                  refine hQ9 _ _ _ (in_exit ?_)
                  refine hK7 _ _ ?_
                  refine fg0 (fun g => ?_)
                  refine c_seq (fun K20 hK20 => ?_)
                  exact (by
                    refine c_region ?_
                    refine l_step y_assignC ?_
                    refine l_nil ?_
                    refine hK20 _ _ ?_
                    refine c_ret ?_
                    repeat with_reducible refine then_ret ?_
                    refine ret1 rfl (res_tmp (et g0 rfl)) ?_
                    subst htl
                    exact ⟨by rw [offN, if_pos hxy, off_no hxy.1 hxy.2 hno]; rfl, U⟩))))))
end Go.Proofs.YgvaawGreat
