import Derived.Test.YgvaawGreatKit7
set_option maxRecDepth 100000
set_option maxHeartbeats 4000000
set_option linter.unusedSimpArgs false
set_option linter.unusedVariables false
namespace Go.Proofs.YgvaawGreat
open Go
def immN (o : Nat) : Nat := if 95 < o ∧ o ≤ 127 then o - 95 else 0
def famN (o : Nat) : Nat :=
  if o = 0 ∨ o = 243 ∨ o = 253 then 31 else if (1 ≤ o ∧ o ≤ 11) ∨ (16 ≤ o ∧ o ≤ 29) ∨ o = 32 then 1
  else if (48 ≤ o ∧ o ≤ 72) ∨ (80 ≤ o ∧ o ≤ 83) ∨ o = 89 ∨ (94 ≤ o ∧ o ≤ 159) then 2
  else if (86 ≤ o ∧ o ≤ 88) ∨ o = 90 ∨ o = 91 then 4
  else if o = 84 ∨ o = 85 ∨ o = 92 ∨ o = 93 ∨ (160 ≤ o ∧ o ≤ 164) then 8
  else if o = 240 ∨ o = 241 ∨ o = 242 ∨ o = 244 ∨ o = 245 ∨ o = 250 ∨ o = 255 then 16 else 0
theorem imm_spec (o : Nat) (w : World) (ho : o < 256) :
    Ret 151 [.int .u8 o] w (fun v w' => v = .int .u8 (immN o : Nat) ∧ Up w w') := by
  refine enter (n := 11) Hvaa.func151 rfl rfl (Nat.le_of_ble_eq_true rfl) ?_
  have U := Up.refl w
  refine c_seq (fun K1 hK1 => ?_)
  refine c_region ?_
  refine l_step y_assignC ?_
  refine l_nil ?_
  refine hK1 _ _ ?_
  refine fg1 0 (gS rfl g0) (fun g => ?_)
  refine c_seq (fun K2 hK2 => ?_)
  refine c_seq (fun K3 hK3 => ?_)
  refine c_region ?_
  refine l_step (y_moveV (et g0 rfl)) ?_
  refine l_step (y_gtr (et g0 rfl) rfl) ?_
  refine l_step (y_moveV (et g0 rfl)) ?_
  refine l_gpure (j := 2) (t := 5) (by exact rfl) (by exact rfl) (et g0 rfl) rfl (fun hc => (y_moveV (et (gS rfl (gS rfl (gS rfl g0))) rfl))) ?_
  refine l_gpure (j := 2) (t := 5) (by exact rfl) (by exact rfl) (et (gS rfl g0) rfl) rfl (fun hc => (y_leq (et (cT g0 hc) rfl) rfl)) ?_
  refine l_step (y_pickA (et (gS rfl (gS rfl g0)) rfl) (et g0 rfl) rfl) ?_
  refine l_nil ?_
  refine hK3 _ _ ?_
  refine fg2 0 8 (gS rfl (gS rfl (gS rfl (gS rfl (gS rfl (gS rfl g0)))))) g0 (fun g => ?_)
  refine c_condV (i := 8) g0 rfl (fun cB1 => ?_) (fun cB1 => ?_)
  · skip
    simp only [Bool.and_eq_true, Bool.or_eq_true, Bool.and_eq_false_imp, Bool.or_eq_false_iff, decide_eq_true_eq, decide_eq_false_iff_not] at cB1
    refine c_seq (fun K5 hK5 => ?_)
    refine c_region ?_
    refine l_step (y_moveV (et (gS rfl (gS rfl g0)) rfl)) ?_
    refine l_step (y_sub (et g0 rfl) rfl (wrapU_subN (b := 95) uk8 ?_ ?_)) ?_
    omega
    omega
    refine l_step (y_assignV (et g0 rfl)) ?_
    refine l_nil ?_
    refine hK5 _ _ ?_
    refine fg1 2 g0 (fun g => ?_)
    refine c_ret ?_
    refine ret1 rfl (res_tmp (et g0 rfl)) ?_
    exact ⟨by rw [immN, if_pos (by omega)], U⟩
  · skip
    simp only [Bool.and_eq_true, Bool.or_eq_true, Bool.and_eq_false_imp, Bool.or_eq_false_iff, decide_eq_true_eq, decide_eq_false_iff_not] at cB1
    refine c_skip ?_
    refine hK2 _ _ ?_
    refine fg0 (fun g => ?_)
    refine c_seq (fun K6 hK6 => ?_)
    refine c_region ?_
    refine l_step y_assignC ?_
    refine l_nil ?_
    refine hK6 _ _ ?_
    refine c_ret ?_
    refine ret1 rfl (res_tmp (et g0 rfl)) ?_
    exact ⟨by rw [immN, if_neg (by omega)]; rfl, U⟩
theorem fam_spec (o : Nat) (w : World) (ho : o < 256) :
    Ret 65 [.int .u8 o] w (fun v w' => v = .int .u8 (famN o : Nat) ∧ Up w w') := by
  refine enter (n := 87) Hvaa.func65 rfl rfl (Nat.le_of_ble_eq_true rfl) ?_
  have U := Up.refl w
  refine c_seq (fun K1 hK1 => ?_)
  refine c_region ?_
  refine l_step y_assignC ?_
  refine l_nil ?_
  refine hK1 _ _ ?_
  refine fg1 0 (gS rfl g0) (fun g => ?_)
  refine c_seq (fun K2 hK2 => ?_)
  refine c_block (fun Q3 hQ3 => ?_)
  refine c_seq (fun K4 hK4 => ?_)
  refine c_seq (fun K5 hK5 => ?_)
  refine c_region ?_
  refine l_step (y_moveV (et g0 rfl)) ?_
  refine l_step (y_eql (et g0 rfl) rfl) ?_
  refine l_step (y_assignV (et g0 rfl)) ?_
  refine l_nil ?_
  refine hK5 _ _ ?_
  refine fg2 0 3 (gS rfl (gS rfl (gS rfl g0))) g0 (fun g => ?_)
  refine c_condV (i := 3) g0 rfl (fun cB1 => ?_) (fun cB1 => ?_)
  · skip
    simp only [Bool.and_eq_true, Bool.or_eq_true, Bool.and_eq_false_imp, Bool.or_eq_false_iff, decide_eq_true_eq, decide_eq_false_iff_not] at cB1
    refine c_skip ?_
    refine hK4 _ _ ?_
    refine fg2 0 3 (gS rfl (gS rfl g0)) g0 (fun g => ?_)
    refine c_true (et g0 rfl) rfl ?_
    refine c_seq (fun K8 hK8 => ?_)
    refine c_region ?_
    refine l_step y_assignC ?_
    refine l_nil ?_
    refine hK8 _ _ ?_
    refine fg1 2 g0 (fun g => ?_)
    refine c_ret ?_
    refine hQ3 _ _ _ (in_ret ?_)
    refine ret1 rfl (res_tmp (et g0 rfl)) ?_
    refine ⟨?_, U⟩
    unfold famN
    first | (rw [if_pos (by omega)]; rfl) | (rw [if_neg (by omega), if_pos (by omega)]; rfl) | (rw [if_neg (by omega), if_neg (by omega), if_pos (by omega)]; rfl) | (rw [if_neg (by omega), if_neg (by omega), if_neg (by omega), if_pos (by omega)]; rfl) | (rw [if_neg (by omega), if_neg (by omega), if_neg (by omega), if_neg (by omega), if_pos (by omega)]; rfl) | (rw [if_neg (by omega), if_neg (by omega), if_neg (by omega), if_neg (by omega), if_neg (by omega), if_pos (by omega)]; rfl) | (rw [if_neg (by omega), if_neg (by omega), if_neg (by omega), if_neg (by omega), if_neg (by omega), if_neg (by omega)]; rfl)
  · skip
    simp only [Bool.and_eq_true, Bool.or_eq_true, Bool.and_eq_false_imp, Bool.or_eq_false_iff, decide_eq_true_eq, decide_eq_false_iff_not] at cB1
    refine c_seq (fun K9 hK9 => ?_)
    refine c_region ?_
    refine l_step (y_moveV (et (gS rfl (gS rfl g0)) rfl)) ?_
    refine l_step (y_eql (et g0 rfl) rfl) ?_
    refine l_step (y_assignV (et g0 rfl)) ?_
    refine l_nil ?_
    refine hK9 _ _ ?_
    refine fg2 0 3 (gS rfl (gS rfl (gS rfl (gS rfl (gS rfl g0))))) g0 (fun g => ?_)
    refine c_condV (i := 3) g0 rfl (fun cB2 => ?_) (fun cB2 => ?_)
    · skip
      simp only [Bool.and_eq_true, Bool.or_eq_true, Bool.and_eq_false_imp, Bool.or_eq_false_iff, decide_eq_true_eq, decide_eq_false_iff_not] at cB2
      refine c_skip ?_
      refine hK4 _ _ ?_
      refine fg2 0 3 (gS rfl (gS rfl g0)) g0 (fun g => ?_)
      refine c_true (et g0 rfl) rfl ?_
      refine c_seq (fun K12 hK12 => ?_)
      refine c_region ?_
      refine l_step y_assignC ?_
      refine l_nil ?_
      refine hK12 _ _ ?_
      refine fg1 2 g0 (fun g => ?_)
      refine c_ret ?_
      refine hQ3 _ _ _ (in_ret ?_)
      refine ret1 rfl (res_tmp (et g0 rfl)) ?_
      refine ⟨?_, U⟩
      unfold famN
      first | (rw [if_pos (by omega)]; rfl) | (rw [if_neg (by omega), if_pos (by omega)]; rfl) | (rw [if_neg (by omega), if_neg (by omega), if_pos (by omega)]; rfl) | (rw [if_neg (by omega), if_neg (by omega), if_neg (by omega), if_pos (by omega)]; rfl) | (rw [if_neg (by omega), if_neg (by omega), if_neg (by omega), if_neg (by omega), if_pos (by omega)]; rfl) | (rw [if_neg (by omega), if_neg (by omega), if_neg (by omega), if_neg (by omega), if_neg (by omega), if_pos (by omega)]; rfl) | (rw [if_neg (by omega), if_neg (by omega), if_neg (by omega), if_neg (by omega), if_neg (by omega), if_neg (by omega)]; rfl)
    · skip
      simp only [Bool.and_eq_true, Bool.or_eq_true, Bool.and_eq_false_imp, Bool.or_eq_false_iff, decide_eq_true_eq, decide_eq_false_iff_not] at cB2
      refine c_region ?_
      refine l_step (y_moveV (et (gS rfl (gS rfl g0)) rfl)) ?_
      refine l_step (y_eql (et g0 rfl) rfl) ?_
      refine l_step (y_assignV (et g0 rfl)) ?_
      refine l_nil ?_
      refine hK4 _ _ ?_
      refine fg2 0 3 (gS rfl (gS rfl (gS rfl (gS rfl (gS rfl g0))))) g0 (fun g => ?_)
      refine c_condV (i := 3) g0 rfl (fun cB3 => ?_) (fun cB3 => ?_)
      · skip
        simp only [Bool.and_eq_true, Bool.or_eq_true, Bool.and_eq_false_imp, Bool.or_eq_false_iff, decide_eq_true_eq, decide_eq_false_iff_not] at cB3
        refine c_seq (fun K14 hK14 => ?_)
        refine c_region ?_
        refine l_step y_assignC ?_
        refine l_nil ?_
        refine hK14 _ _ ?_
        refine fg1 2 g0 (fun g => ?_)
        refine c_ret ?_
        refine hQ3 _ _ _ (in_ret ?_)
        refine ret1 rfl (res_tmp (et g0 rfl)) ?_
        refine ⟨?_, U⟩
        unfold famN
        first | (rw [if_pos (by omega)]; rfl) | (rw [if_neg (by omega), if_pos (by omega)]; rfl) | (rw [if_neg (by omega), if_neg (by omega), if_pos (by omega)]; rfl) | (rw [if_neg (by omega), if_neg (by omega), if_neg (by omega), if_pos (by omega)]; rfl) | (rw [if_neg (by omega), if_neg (by omega), if_neg (by omega), if_neg (by omega), if_pos (by omega)]; rfl) | (rw [if_neg (by omega), if_neg (by omega), if_neg (by omega), if_neg (by omega), if_neg (by omega), if_pos (by omega)]; rfl) | (rw [if_neg (by omega), if_neg (by omega), if_neg (by omega), if_neg (by omega), if_neg (by omega), if_neg (by omega)]; rfl)
      · skip
        simp only [Bool.and_eq_true, Bool.or_eq_true, Bool.and_eq_false_imp, Bool.or_eq_false_iff, decide_eq_true_eq, decide_eq_false_iff_not] at cB3
        refine c_seq (fun K15 hK15 => ?_)
        refine c_seq (fun K16 hK16 => ?_)
        refine c_region ?_
        refine l_step (y_moveV (et (gS rfl (gS rfl g0)) rfl)) ?_
        refine l_step (y_geq (et g0 rfl) rfl) ?_
        refine l_step (y_moveV (et g0 rfl)) ?_
        refine l_gpure (j := 2) (t := 13) (by exact rfl) (by exact rfl) (et g0 rfl) rfl (fun hc => (y_moveV (et (gS rfl (gS rfl (gS rfl (gS rfl (gS rfl g0))))) rfl))) ?_
        refine l_gpure (j := 2) (t := 13) (by exact rfl) (by exact rfl) (et (gS rfl g0) rfl) rfl (fun hc => (y_leq (et (cT g0 hc) rfl) rfl)) ?_
        refine l_step (y_pickA (et (gS rfl (gS rfl g0)) rfl) (et g0 rfl) rfl) ?_
        refine l_step (y_assignV (et g0 rfl)) ?_
        refine l_nil ?_
        refine hK16 _ _ ?_
        refine fg2 0 10 (gS rfl (gS rfl (gS rfl (gS rfl (gS rfl (gS rfl (gS rfl (gS rfl (gS rfl g0))))))))) g0 (fun g => ?_)
        refine c_condV (i := 10) g0 rfl (fun cB4 => ?_) (fun cB4 => ?_)
        · skip
          simp only [Bool.and_eq_true, Bool.or_eq_true, Bool.and_eq_false_imp, Bool.or_eq_false_iff, decide_eq_true_eq, decide_eq_false_iff_not] at cB4
          refine c_skip ?_
          refine hK15 _ _ ?_
          refine fg2 0 10 (gS rfl (gS rfl g0)) g0 (fun g => ?_)
          refine c_true (et g0 rfl) rfl ?_
          refine c_seq (fun K19 hK19 => ?_)
          refine c_region ?_
          refine l_step y_assignC ?_
          refine l_nil ?_
          refine hK19 _ _ ?_
          refine fg1 2 g0 (fun g => ?_)
          refine c_ret ?_
          refine hQ3 _ _ _ (in_ret ?_)
          refine ret1 rfl (res_tmp (et g0 rfl)) ?_
          refine ⟨?_, U⟩
          unfold famN
          first | (rw [if_pos (by omega)]; rfl) | (rw [if_neg (by omega), if_pos (by omega)]; rfl) | (rw [if_neg (by omega), if_neg (by omega), if_pos (by omega)]; rfl) | (rw [if_neg (by omega), if_neg (by omega), if_neg (by omega), if_pos (by omega)]; rfl) | (rw [if_neg (by omega), if_neg (by omega), if_neg (by omega), if_neg (by omega), if_pos (by omega)]; rfl) | (rw [if_neg (by omega), if_neg (by omega), if_neg (by omega), if_neg (by omega), if_neg (by omega), if_pos (by omega)]; rfl) | (rw [if_neg (by omega), if_neg (by omega), if_neg (by omega), if_neg (by omega), if_neg (by omega), if_neg (by omega)]; rfl)
        · skip
          simp only [Bool.and_eq_true, Bool.or_eq_true, Bool.and_eq_false_imp, Bool.or_eq_false_iff, decide_eq_true_eq, decide_eq_false_iff_not] at cB4
          refine c_seq (fun K20 hK20 => ?_)
          refine c_region ?_
          refine l_step (y_moveV (et (gS rfl (gS rfl g0)) rfl)) ?_
          refine l_step (y_geq (et g0 rfl) rfl) ?_
          refine l_step (y_moveV (et g0 rfl)) ?_
          refine l_gpure (j := 2) (t := 19) (by exact rfl) (by exact rfl) (et g0 rfl) rfl (fun hc => (y_moveV (et (gS rfl (gS rfl (gS rfl (gS rfl (gS rfl g0))))) rfl))) ?_
          refine l_gpure (j := 2) (t := 19) (by exact rfl) (by exact rfl) (et (gS rfl g0) rfl) rfl (fun hc => (y_leq (et (cT g0 hc) rfl) rfl)) ?_
          refine l_step (y_pickA (et (gS rfl (gS rfl g0)) rfl) (et g0 rfl) rfl) ?_
          refine l_step (y_assignV (et g0 rfl)) ?_
          refine l_nil ?_
          refine hK20 _ _ ?_
          refine fg2 0 10 (gS rfl (gS rfl (gS rfl (gS rfl (gS rfl (gS rfl (gS rfl (gS rfl (gS rfl g0))))))))) g0 (fun g => ?_)
          refine c_condV (i := 10) g0 rfl (fun cB5 => ?_) (fun cB5 => ?_)
          · skip
            simp only [Bool.and_eq_true, Bool.or_eq_true, Bool.and_eq_false_imp, Bool.or_eq_false_iff, decide_eq_true_eq, decide_eq_false_iff_not] at cB5
            refine c_skip ?_
            refine hK15 _ _ ?_
            refine fg2 0 10 (gS rfl (gS rfl g0)) g0 (fun g => ?_)
            refine c_true (et g0 rfl) rfl ?_
            refine c_seq (fun K23 hK23 => ?_)
            refine c_region ?_
            refine l_step y_assignC ?_
            refine l_nil ?_
            refine hK23 _ _ ?_
            refine fg1 2 g0 (fun g => ?_)
            refine c_ret ?_
            refine hQ3 _ _ _ (in_ret ?_)
            refine ret1 rfl (res_tmp (et g0 rfl)) ?_
            refine ⟨?_, U⟩
            unfold famN
            first | (rw [if_pos (by omega)]; rfl) | (rw [if_neg (by omega), if_pos (by omega)]; rfl) | (rw [if_neg (by omega), if_neg (by omega), if_pos (by omega)]; rfl) | (rw [if_neg (by omega), if_neg (by omega), if_neg (by omega), if_pos (by omega)]; rfl) | (rw [if_neg (by omega), if_neg (by omega), if_neg (by omega), if_neg (by omega), if_pos (by omega)]; rfl) | (rw [if_neg (by omega), if_neg (by omega), if_neg (by omega), if_neg (by omega), if_neg (by omega), if_pos (by omega)]; rfl) | (rw [if_neg (by omega), if_neg (by omega), if_neg (by omega), if_neg (by omega), if_neg (by omega), if_neg (by omega)]; rfl)
          · skip
            simp only [Bool.and_eq_true, Bool.or_eq_true, Bool.and_eq_false_imp, Bool.or_eq_false_iff, decide_eq_true_eq, decide_eq_false_iff_not] at cB5
            refine c_region ?_
            refine l_step (y_moveV (et (gS rfl (gS rfl g0)) rfl)) ?_
            refine l_step (y_eql (et g0 rfl) rfl) ?_
            refine l_step (y_assignV (et g0 rfl)) ?_
            refine l_nil ?_
            refine hK15 _ _ ?_
            refine fg2 0 10 (gS rfl (gS rfl (gS rfl (gS rfl (gS rfl g0))))) g0 (fun g => ?_)
            refine c_condV (i := 10) g0 rfl (fun cB6 => ?_) (fun cB6 => ?_)
            · skip
              simp only [Bool.and_eq_true, Bool.or_eq_true, Bool.and_eq_false_imp, Bool.or_eq_false_iff, decide_eq_true_eq, decide_eq_false_iff_not] at cB6
              refine c_seq (fun K25 hK25 => ?_)
              refine c_region ?_
              refine l_step y_assignC ?_
              refine l_nil ?_
              refine hK25 _ _ ?_
              refine fg1 2 g0 (fun g => ?_)
              refine c_ret ?_
              refine hQ3 _ _ _ (in_ret ?_)
              refine ret1 rfl (res_tmp (et g0 rfl)) ?_
              refine ⟨?_, U⟩
              unfold famN
              first | (rw [if_pos (by omega)]; rfl) | (rw [if_neg (by omega), if_pos (by omega)]; rfl) | (rw [if_neg (by omega), if_neg (by omega), if_pos (by omega)]; rfl) | (rw [if_neg (by omega), if_neg (by omega), if_neg (by omega), if_pos (by omega)]; rfl) | (rw [if_neg (by omega), if_neg (by omega), if_neg (by omega), if_neg (by omega), if_pos (by omega)]; rfl) | (rw [if_neg (by omega), if_neg (by omega), if_neg (by omega), if_neg (by omega), if_neg (by omega), if_pos (by omega)]; rfl) | (rw [if_neg (by omega), if_neg (by omega), if_neg (by omega), if_neg (by omega), if_neg (by omega), if_neg (by omega)]; rfl)
            · skip
              simp only [Bool.and_eq_true, Bool.or_eq_true, Bool.and_eq_false_imp, Bool.or_eq_false_iff, decide_eq_true_eq, decide_eq_false_iff_not] at cB6
              refine c_seq (fun K26 hK26 => ?_)
              refine c_seq (fun K27 hK27 => ?_)
              refine c_region ?_
              refine l_step (y_moveV (et (gS rfl (gS rfl g0)) rfl)) ?_
              refine l_step (y_geq (et g0 rfl) rfl) ?_
              refine l_step (y_moveV (et g0 rfl)) ?_
              refine l_gpure (j := 2) (t := 28) (by exact rfl) (by exact rfl) (et g0 rfl) rfl (fun hc => (y_moveV (et (gS rfl (gS rfl (gS rfl (gS rfl (gS rfl g0))))) rfl))) ?_
              refine l_gpure (j := 2) (t := 28) (by exact rfl) (by exact rfl) (et (gS rfl g0) rfl) rfl (fun hc => (y_leq (et (cT g0 hc) rfl) rfl)) ?_
              refine l_step (y_pickA (et (gS rfl (gS rfl g0)) rfl) (et g0 rfl) rfl) ?_
              refine l_step (y_assignV (et g0 rfl)) ?_
              refine l_nil ?_
              refine hK27 _ _ ?_
              refine fg2 0 25 (gS rfl (gS rfl (gS rfl (gS rfl (gS rfl (gS rfl (gS rfl (gS rfl (gS rfl g0))))))))) g0 (fun g => ?_)
              refine c_condV (i := 25) g0 rfl (fun cB7 => ?_) (fun cB7 => ?_)
              · skip
                simp only [Bool.and_eq_true, Bool.or_eq_true, Bool.and_eq_false_imp, Bool.or_eq_false_iff, decide_eq_true_eq, decide_eq_false_iff_not] at cB7
                refine c_skip ?_
                refine hK26 _ _ ?_
                refine fg2 0 25 (gS rfl (gS rfl g0)) g0 (fun g => ?_)
                refine c_true (et g0 rfl) rfl ?_
                refine c_seq (fun K30 hK30 => ?_)
                refine c_region ?_
                refine l_step y_assignC ?_
                refine l_nil ?_
                refine hK30 _ _ ?_
                refine fg1 2 g0 (fun g => ?_)
                refine c_ret ?_
                refine hQ3 _ _ _ (in_ret ?_)
                refine ret1 rfl (res_tmp (et g0 rfl)) ?_
                refine ⟨?_, U⟩
                unfold famN
                first | (rw [if_pos (by omega)]; rfl) | (rw [if_neg (by omega), if_pos (by omega)]; rfl) | (rw [if_neg (by omega), if_neg (by omega), if_pos (by omega)]; rfl) | (rw [if_neg (by omega), if_neg (by omega), if_neg (by omega), if_pos (by omega)]; rfl) | (rw [if_neg (by omega), if_neg (by omega), if_neg (by omega), if_neg (by omega), if_pos (by omega)]; rfl) | (rw [if_neg (by omega), if_neg (by omega), if_neg (by omega), if_neg (by omega), if_neg (by omega), if_pos (by omega)]; rfl) | (rw [if_neg (by omega), if_neg (by omega), if_neg (by omega), if_neg (by omega), if_neg (by omega), if_neg (by omega)]; rfl)
              · skip
                simp only [Bool.and_eq_true, Bool.or_eq_true, Bool.and_eq_false_imp, Bool.or_eq_false_iff, decide_eq_true_eq, decide_eq_false_iff_not] at cB7
                refine c_seq (fun K31 hK31 => ?_)
                refine c_region ?_
                refine l_step (y_moveV (et (gS rfl (gS rfl g0)) rfl)) ?_
                refine l_step (y_geq (et g0 rfl) rfl) ?_
                refine l_step (y_moveV (et g0 rfl)) ?_
                refine l_gpure (j := 2) (t := 34) (by exact rfl) (by exact rfl) (et g0 rfl) rfl (fun hc => (y_moveV (et (gS rfl (gS rfl (gS rfl (gS rfl (gS rfl g0))))) rfl))) ?_
                refine l_gpure (j := 2) (t := 34) (by exact rfl) (by exact rfl) (et (gS rfl g0) rfl) rfl (fun hc => (y_leq (et (cT g0 hc) rfl) rfl)) ?_
                refine l_step (y_pickA (et (gS rfl (gS rfl g0)) rfl) (et g0 rfl) rfl) ?_
                refine l_step (y_assignV (et g0 rfl)) ?_
                refine l_nil ?_
                refine hK31 _ _ ?_
                refine fg2 0 25 (gS rfl (gS rfl (gS rfl (gS rfl (gS rfl (gS rfl (gS rfl (gS rfl (gS rfl g0))))))))) g0 (fun g => ?_)
                refine c_condV (i := 25) g0 rfl (fun cB8 => ?_) (fun cB8 => ?_)
                · skip
                  simp only [Bool.and_eq_true, Bool.or_eq_true, Bool.and_eq_false_imp, Bool.or_eq_false_iff, decide_eq_true_eq, decide_eq_false_iff_not] at cB8
                  refine c_skip ?_
                  refine hK26 _ _ ?_
                  refine fg2 0 25 (gS rfl (gS rfl g0)) g0 (fun g => ?_)
                  refine c_true (et g0 rfl) rfl ?_
                  refine c_seq (fun K34 hK34 => ?_)
                  refine c_region ?_
                  refine l_step y_assignC ?_
                  refine l_nil ?_
                  refine hK34 _ _ ?_
                  refine fg1 2 g0 (fun g => ?_)
                  refine c_ret ?_
                  refine hQ3 _ _ _ (in_ret ?_)
                  refine ret1 rfl (res_tmp (et g0 rfl)) ?_
                  refine ⟨?_, U⟩
                  unfold famN
                  first | (rw [if_pos (by omega)]; rfl) | (rw [if_neg (by omega), if_pos (by omega)]; rfl) | (rw [if_neg (by omega), if_neg (by omega), if_pos (by omega)]; rfl) | (rw [if_neg (by omega), if_neg (by omega), if_neg (by omega), if_pos (by omega)]; rfl) | (rw [if_neg (by omega), if_neg (by omega), if_neg (by omega), if_neg (by omega), if_pos (by omega)]; rfl) | (rw [if_neg (by omega), if_neg (by omega), if_neg (by omega), if_neg (by omega), if_neg (by omega), if_pos (by omega)]; rfl) | (rw [if_neg (by omega), if_neg (by omega), if_neg (by omega), if_neg (by omega), if_neg (by omega), if_neg (by omega)]; rfl)
                · skip
                  simp only [Bool.and_eq_true, Bool.or_eq_true, Bool.and_eq_false_imp, Bool.or_eq_false_iff, decide_eq_true_eq, decide_eq_false_iff_not] at cB8
                  refine c_seq (fun K35 hK35 => ?_)
                  refine c_region ?_
                  refine l_step (y_moveV (et (gS rfl (gS rfl g0)) rfl)) ?_
                  refine l_step (y_eql (et g0 rfl) rfl) ?_
                  refine l_step (y_assignV (et g0 rfl)) ?_
                  refine l_nil ?_
                  refine hK35 _ _ ?_
                  refine fg2 0 25 (gS rfl (gS rfl (gS rfl (gS rfl (gS rfl g0))))) g0 (fun g => ?_)
                  refine c_condV (i := 25) g0 rfl (fun cB9 => ?_) (fun cB9 => ?_)
                  · skip
                    simp only [Bool.and_eq_true, Bool.or_eq_true, Bool.and_eq_false_imp, Bool.or_eq_false_iff, decide_eq_true_eq, decide_eq_false_iff_not] at cB9
                    refine c_skip ?_
                    refine hK26 _ _ ?_
                    refine fg2 0 25 (gS rfl (gS rfl g0)) g0 (fun g => ?_)
                    refine c_true (et g0 rfl) rfl ?_
                    refine c_seq (fun K38 hK38 => ?_)
                    refine c_region ?_
                    refine l_step y_assignC ?_
                    refine l_nil ?_
                    refine hK38 _ _ ?_
                    refine fg1 2 g0 (fun g => ?_)
                    refine c_ret ?_
                    refine hQ3 _ _ _ (in_ret ?_)
                    refine ret1 rfl (res_tmp (et g0 rfl)) ?_
                    refine ⟨?_, U⟩
                    unfold famN
                    first | (rw [if_pos (by omega)]; rfl) | (rw [if_neg (by omega), if_pos (by omega)]; rfl) | (rw [if_neg (by omega), if_neg (by omega), if_pos (by omega)]; rfl) | (rw [if_neg (by omega), if_neg (by omega), if_neg (by omega), if_pos (by omega)]; rfl) | (rw [if_neg (by omega), if_neg (by omega), if_neg (by omega), if_neg (by omega), if_pos (by omega)]; rfl) | (rw [if_neg (by omega), if_neg (by omega), if_neg (by omega), if_neg (by omega), if_neg (by omega), if_pos (by omega)]; rfl) | (rw [if_neg (by omega), if_neg (by omega), if_neg (by omega), if_neg (by omega), if_neg (by omega), if_neg (by omega)]; rfl)
                  · skip
                    simp only [Bool.and_eq_true, Bool.or_eq_true, Bool.and_eq_false_imp, Bool.or_eq_false_iff, decide_eq_true_eq, decide_eq_false_iff_not] at cB9
                    refine c_region ?_
                    refine l_step (y_moveV (et (gS rfl (gS rfl g0)) rfl)) ?_
                    refine l_step (y_geq (et g0 rfl) rfl) ?_
                    refine l_step (y_moveV (et g0 rfl)) ?_
                    refine l_gpure (j := 2) (t := 42) (by exact rfl) (by exact rfl) (et g0 rfl) rfl (fun hc => (y_moveV (et (gS rfl (gS rfl (gS rfl (gS rfl (gS rfl g0))))) rfl))) ?_
                    refine l_gpure (j := 2) (t := 42) (by exact rfl) (by exact rfl) (et (gS rfl g0) rfl) rfl (fun hc => (y_leq (et (cT g0 hc) rfl) rfl)) ?_
                    refine l_step (y_pickA (et (gS rfl (gS rfl g0)) rfl) (et g0 rfl) rfl) ?_
                    refine l_step (y_assignV (et g0 rfl)) ?_
                    refine l_nil ?_
                    refine hK26 _ _ ?_
                    refine fg2 0 25 (gS rfl (gS rfl (gS rfl (gS rfl (gS rfl (gS rfl (gS rfl (gS rfl (gS rfl g0))))))))) g0 (fun g => ?_)
                    refine c_condV (i := 25) g0 rfl (fun cB10 => ?_) (fun cB10 => ?_)
                    · skip
                      simp only [Bool.and_eq_true, Bool.or_eq_true, Bool.and_eq_false_imp, Bool.or_eq_false_iff, decide_eq_true_eq, decide_eq_false_iff_not] at cB10
                      refine c_seq (fun K40 hK40 => ?_)
                      refine c_region ?_
                      refine l_step y_assignC ?_
                      refine l_nil ?_
                      refine hK40 _ _ ?_
                      refine fg1 2 g0 (fun g => ?_)
                      refine c_ret ?_
                      refine hQ3 _ _ _ (in_ret ?_)
                      refine ret1 rfl (res_tmp (et g0 rfl)) ?_
                      refine ⟨?_, U⟩
                      unfold famN
                      first | (rw [if_pos (by omega)]; rfl) | (rw [if_neg (by omega), if_pos (by omega)]; rfl) | (rw [if_neg (by omega), if_neg (by omega), if_pos (by omega)]; rfl) | (rw [if_neg (by omega), if_neg (by omega), if_neg (by omega), if_pos (by omega)]; rfl) | (rw [if_neg (by omega), if_neg (by omega), if_neg (by omega), if_neg (by omega), if_pos (by omega)]; rfl) | (rw [if_neg (by omega), if_neg (by omega), if_neg (by omega), if_neg (by omega), if_neg (by omega), if_pos (by omega)]; rfl) | (rw [if_neg (by omega), if_neg (by omega), if_neg (by omega), if_neg (by omega), if_neg (by omega), if_neg (by omega)]; rfl)
                    · skip
                      simp only [Bool.and_eq_true, Bool.or_eq_true, Bool.and_eq_false_imp, Bool.or_eq_false_iff, decide_eq_true_eq, decide_eq_false_iff_not] at cB10
                      refine c_seq (fun K41 hK41 => ?_)
                      refine c_seq (fun K42 hK42 => ?_)
                      refine c_region ?_
                      refine l_step (y_moveV (et (gS rfl (gS rfl g0)) rfl)) ?_
                      refine l_step (y_geq (et g0 rfl) rfl) ?_
                      refine l_step (y_moveV (et g0 rfl)) ?_
                      refine l_gpure (j := 2) (t := 49) (by exact rfl) (by exact rfl) (et g0 rfl) rfl (fun hc => (y_moveV (et (gS rfl (gS rfl (gS rfl (gS rfl (gS rfl g0))))) rfl))) ?_
                      refine l_gpure (j := 2) (t := 49) (by exact rfl) (by exact rfl) (et (gS rfl g0) rfl) rfl (fun hc => (y_leq (et (cT g0 hc) rfl) rfl)) ?_
                      refine l_step (y_pickA (et (gS rfl (gS rfl g0)) rfl) (et g0 rfl) rfl) ?_
                      refine l_step (y_assignV (et g0 rfl)) ?_
                      refine l_nil ?_
                      refine hK42 _ _ ?_
                      refine fg2 0 46 (gS rfl (gS rfl (gS rfl (gS rfl (gS rfl (gS rfl (gS rfl (gS rfl (gS rfl g0))))))))) g0 (fun g => ?_)
                      refine c_condV (i := 46) g0 rfl (fun cB11 => ?_) (fun cB11 => ?_)
                      · skip
                        simp only [Bool.and_eq_true, Bool.or_eq_true, Bool.and_eq_false_imp, Bool.or_eq_false_iff, decide_eq_true_eq, decide_eq_false_iff_not] at cB11
                        refine c_skip ?_
                        refine hK41 _ _ ?_
                        refine fg2 0 46 (gS rfl (gS rfl g0)) g0 (fun g => ?_)
                        refine c_true (et g0 rfl) rfl ?_
                        refine c_seq (fun K45 hK45 => ?_)
                        refine c_region ?_
                        refine l_step y_assignC ?_
                        refine l_nil ?_
                        refine hK45 _ _ ?_
                        refine fg1 2 g0 (fun g => ?_)
                        refine c_ret ?_
                        refine hQ3 _ _ _ (in_ret ?_)
                        refine ret1 rfl (res_tmp (et g0 rfl)) ?_
                        refine ⟨?_, U⟩
                        unfold famN
                        first | (rw [if_pos (by omega)]; rfl) | (rw [if_neg (by omega), if_pos (by omega)]; rfl) | (rw [if_neg (by omega), if_neg (by omega), if_pos (by omega)]; rfl) | (rw [if_neg (by omega), if_neg (by omega), if_neg (by omega), if_pos (by omega)]; rfl) | (rw [if_neg (by omega), if_neg (by omega), if_neg (by omega), if_neg (by omega), if_pos (by omega)]; rfl) | (rw [if_neg (by omega), if_neg (by omega), if_neg (by omega), if_neg (by omega), if_neg (by omega), if_pos (by omega)]; rfl) | (rw [if_neg (by omega), if_neg (by omega), if_neg (by omega), if_neg (by omega), if_neg (by omega), if_neg (by omega)]; rfl)
                      · skip
                        simp only [Bool.and_eq_true, Bool.or_eq_true, Bool.and_eq_false_imp, Bool.or_eq_false_iff, decide_eq_true_eq, decide_eq_false_iff_not] at cB11
                        refine c_seq (fun K46 hK46 => ?_)
                        refine c_region ?_
                        refine l_step (y_moveV (et (gS rfl (gS rfl g0)) rfl)) ?_
                        refine l_step (y_eql (et g0 rfl) rfl) ?_
                        refine l_step (y_assignV (et g0 rfl)) ?_
                        refine l_nil ?_
                        refine hK46 _ _ ?_
                        refine fg2 0 46 (gS rfl (gS rfl (gS rfl (gS rfl (gS rfl g0))))) g0 (fun g => ?_)
                        refine c_condV (i := 46) g0 rfl (fun cB12 => ?_) (fun cB12 => ?_)
                        · skip
                          simp only [Bool.and_eq_true, Bool.or_eq_true, Bool.and_eq_false_imp, Bool.or_eq_false_iff, decide_eq_true_eq, decide_eq_false_iff_not] at cB12
                          refine c_skip ?_
                          refine hK41 _ _ ?_
                          refine fg2 0 46 (gS rfl (gS rfl g0)) g0 (fun g => ?_)
                          refine c_true (et g0 rfl) rfl ?_
                          refine c_seq (fun K49 hK49 => ?_)
                          refine c_region ?_
                          refine l_step y_assignC ?_
                          refine l_nil ?_
                          refine hK49 _ _ ?_
                          refine fg1 2 g0 (fun g => ?_)
                          refine c_ret ?_
                          refine hQ3 _ _ _ (in_ret ?_)
                          refine ret1 rfl (res_tmp (et g0 rfl)) ?_
                          refine ⟨?_, U⟩
                          unfold famN
                          first | (rw [if_pos (by omega)]; rfl) | (rw [if_neg (by omega), if_pos (by omega)]; rfl) | (rw [if_neg (by omega), if_neg (by omega), if_pos (by omega)]; rfl) | (rw [if_neg (by omega), if_neg (by omega), if_neg (by omega), if_pos (by omega)]; rfl) | (rw [if_neg (by omega), if_neg (by omega), if_neg (by omega), if_neg (by omega), if_pos (by omega)]; rfl) | (rw [if_neg (by omega), if_neg (by omega), if_neg (by omega), if_neg (by omega), if_neg (by omega), if_pos (by omega)]; rfl) | (rw [if_neg (by omega), if_neg (by omega), if_neg (by omega), if_neg (by omega), if_neg (by omega), if_neg (by omega)]; rfl)
                        · skip
                          simp only [Bool.and_eq_true, Bool.or_eq_true, Bool.and_eq_false_imp, Bool.or_eq_false_iff, decide_eq_true_eq, decide_eq_false_iff_not] at cB12
                          refine c_region ?_
                          refine l_step (y_moveV (et (gS rfl (gS rfl g0)) rfl)) ?_
                          refine l_step (y_eql (et g0 rfl) rfl) ?_
                          refine l_step (y_assignV (et g0 rfl)) ?_
                          refine l_nil ?_
                          refine hK41 _ _ ?_
                          refine fg2 0 46 (gS rfl (gS rfl (gS rfl (gS rfl (gS rfl g0))))) g0 (fun g => ?_)
                          refine c_condV (i := 46) g0 rfl (fun cB13 => ?_) (fun cB13 => ?_)
                          · skip
                            simp only [Bool.and_eq_true, Bool.or_eq_true, Bool.and_eq_false_imp, Bool.or_eq_false_iff, decide_eq_true_eq, decide_eq_false_iff_not] at cB13
                            refine c_seq (fun K51 hK51 => ?_)
                            refine c_region ?_
                            refine l_step y_assignC ?_
                            refine l_nil ?_
                            refine hK51 _ _ ?_
                            refine fg1 2 g0 (fun g => ?_)
                            refine c_ret ?_
                            refine hQ3 _ _ _ (in_ret ?_)
                            refine ret1 rfl (res_tmp (et g0 rfl)) ?_
                            refine ⟨?_, U⟩
                            unfold famN
                            first | (rw [if_pos (by omega)]; rfl) | (rw [if_neg (by omega), if_pos (by omega)]; rfl) | (rw [if_neg (by omega), if_neg (by omega), if_pos (by omega)]; rfl) | (rw [if_neg (by omega), if_neg (by omega), if_neg (by omega), if_pos (by omega)]; rfl) | (rw [if_neg (by omega), if_neg (by omega), if_neg (by omega), if_neg (by omega), if_pos (by omega)]; rfl) | (rw [if_neg (by omega), if_neg (by omega), if_neg (by omega), if_neg (by omega), if_neg (by omega), if_pos (by omega)]; rfl) | (rw [if_neg (by omega), if_neg (by omega), if_neg (by omega), if_neg (by omega), if_neg (by omega), if_neg (by omega)]; rfl)
                          · skip
                            simp only [Bool.and_eq_true, Bool.or_eq_true, Bool.and_eq_false_imp, Bool.or_eq_false_iff, decide_eq_true_eq, decide_eq_false_iff_not] at cB13
                            refine c_seq (fun K52 hK52 => ?_)
                            refine c_seq (fun K53 hK53 => ?_)
                            refine c_region ?_
                            refine l_step (y_moveV (et (gS rfl (gS rfl g0)) rfl)) ?_
                            refine l_step (y_eql (et g0 rfl) rfl) ?_
                            refine l_step (y_assignV (et g0 rfl)) ?_
                            refine l_nil ?_
                            refine hK53 _ _ ?_
                            refine fg2 0 57 (gS rfl (gS rfl (gS rfl (gS rfl (gS rfl g0))))) g0 (fun g => ?_)
                            refine c_condV (i := 57) g0 rfl (fun cB14 => ?_) (fun cB14 => ?_)
                            · skip
                              simp only [Bool.and_eq_true, Bool.or_eq_true, Bool.and_eq_false_imp, Bool.or_eq_false_iff, decide_eq_true_eq, decide_eq_false_iff_not] at cB14
                              refine c_skip ?_
                              refine hK52 _ _ ?_
                              refine fg2 0 57 (gS rfl (gS rfl g0)) g0 (fun g => ?_)
                              refine c_true (et g0 rfl) rfl ?_
                              refine c_seq (fun K56 hK56 => ?_)
                              refine c_region ?_
                              refine l_step y_assignC ?_
                              refine l_nil ?_
                              refine hK56 _ _ ?_
                              refine fg1 2 g0 (fun g => ?_)
                              refine c_ret ?_
                              refine hQ3 _ _ _ (in_ret ?_)
                              refine ret1 rfl (res_tmp (et g0 rfl)) ?_
                              refine ⟨?_, U⟩
                              unfold famN
                              first | (rw [if_pos (by omega)]; rfl) | (rw [if_neg (by omega), if_pos (by omega)]; rfl) | (rw [if_neg (by omega), if_neg (by omega), if_pos (by omega)]; rfl) | (rw [if_neg (by omega), if_neg (by omega), if_neg (by omega), if_pos (by omega)]; rfl) | (rw [if_neg (by omega), if_neg (by omega), if_neg (by omega), if_neg (by omega), if_pos (by omega)]; rfl) | (rw [if_neg (by omega), if_neg (by omega), if_neg (by omega), if_neg (by omega), if_neg (by omega), if_pos (by omega)]; rfl) | (rw [if_neg (by omega), if_neg (by omega), if_neg (by omega), if_neg (by omega), if_neg (by omega), if_neg (by omega)]; rfl)
                            · skip
                              simp only [Bool.and_eq_true, Bool.or_eq_true, Bool.and_eq_false_imp, Bool.or_eq_false_iff, decide_eq_true_eq, decide_eq_false_iff_not] at cB14
                              refine c_seq (fun K57 hK57 => ?_)
                              refine c_region ?_
                              refine l_step (y_moveV (et (gS rfl (gS rfl g0)) rfl)) ?_
                              refine l_step (y_eql (et g0 rfl) rfl) ?_
                              refine l_step (y_assignV (et g0 rfl)) ?_
                              refine l_nil ?_
                              refine hK57 _ _ ?_
                              refine fg2 0 57 (gS rfl (gS rfl (gS rfl (gS rfl (gS rfl g0))))) g0 (fun g => ?_)
                              refine c_condV (i := 57) g0 rfl (fun cB15 => ?_) (fun cB15 => ?_)
                              · skip
                                simp only [Bool.and_eq_true, Bool.or_eq_true, Bool.and_eq_false_imp, Bool.or_eq_false_iff, decide_eq_true_eq, decide_eq_false_iff_not] at cB15
                                refine c_skip ?_
                                refine hK52 _ _ ?_
                                refine fg2 0 57 (gS rfl (gS rfl g0)) g0 (fun g => ?_)
                                refine c_true (et g0 rfl) rfl ?_
                                refine c_seq (fun K60 hK60 => ?_)
                                refine c_region ?_
                                refine l_step y_assignC ?_
                                refine l_nil ?_
                                refine hK60 _ _ ?_
                                refine fg1 2 g0 (fun g => ?_)
                                refine c_ret ?_
                                refine hQ3 _ _ _ (in_ret ?_)
                                refine ret1 rfl (res_tmp (et g0 rfl)) ?_
                                refine ⟨?_, U⟩
                                unfold famN
                                first | (rw [if_pos (by omega)]; rfl) | (rw [if_neg (by omega), if_pos (by omega)]; rfl) | (rw [if_neg (by omega), if_neg (by omega), if_pos (by omega)]; rfl) | (rw [if_neg (by omega), if_neg (by omega), if_neg (by omega), if_pos (by omega)]; rfl) | (rw [if_neg (by omega), if_neg (by omega), if_neg (by omega), if_neg (by omega), if_pos (by omega)]; rfl) | (rw [if_neg (by omega), if_neg (by omega), if_neg (by omega), if_neg (by omega), if_neg (by omega), if_pos (by omega)]; rfl) | (rw [if_neg (by omega), if_neg (by omega), if_neg (by omega), if_neg (by omega), if_neg (by omega), if_neg (by omega)]; rfl)
                              · skip
                                simp only [Bool.and_eq_true, Bool.or_eq_true, Bool.and_eq_false_imp, Bool.or_eq_false_iff, decide_eq_true_eq, decide_eq_false_iff_not] at cB15
                                refine c_seq (fun K61 hK61 => ?_)
                                refine c_region ?_
                                refine l_step (y_moveV (et (gS rfl (gS rfl g0)) rfl)) ?_
                                refine l_step (y_eql (et g0 rfl) rfl) ?_
                                refine l_step (y_assignV (et g0 rfl)) ?_
                                refine l_nil ?_
                                refine hK61 _ _ ?_
                                refine fg2 0 57 (gS rfl (gS rfl (gS rfl (gS rfl (gS rfl g0))))) g0 (fun g => ?_)
                                refine c_condV (i := 57) g0 rfl (fun cB16 => ?_) (fun cB16 => ?_)
                                · skip
                                  simp only [Bool.and_eq_true, Bool.or_eq_true, Bool.and_eq_false_imp, Bool.or_eq_false_iff, decide_eq_true_eq, decide_eq_false_iff_not] at cB16
                                  refine c_skip ?_
                                  refine hK52 _ _ ?_
                                  refine fg2 0 57 (gS rfl (gS rfl g0)) g0 (fun g => ?_)
                                  refine c_true (et g0 rfl) rfl ?_
                                  refine c_seq (fun K64 hK64 => ?_)
                                  refine c_region ?_
                                  refine l_step y_assignC ?_
                                  refine l_nil ?_
                                  refine hK64 _ _ ?_
                                  refine fg1 2 g0 (fun g => ?_)
                                  refine c_ret ?_
                                  refine hQ3 _ _ _ (in_ret ?_)
                                  refine ret1 rfl (res_tmp (et g0 rfl)) ?_
                                  refine ⟨?_, U⟩
                                  unfold famN
                                  first | (rw [if_pos (by omega)]; rfl) | (rw [if_neg (by omega), if_pos (by omega)]; rfl) | (rw [if_neg (by omega), if_neg (by omega), if_pos (by omega)]; rfl) | (rw [if_neg (by omega), if_neg (by omega), if_neg (by omega), if_pos (by omega)]; rfl) | (rw [if_neg (by omega), if_neg (by omega), if_neg (by omega), if_neg (by omega), if_pos (by omega)]; rfl) | (rw [if_neg (by omega), if_neg (by omega), if_neg (by omega), if_neg (by omega), if_neg (by omega), if_pos (by omega)]; rfl) | (rw [if_neg (by omega), if_neg (by omega), if_neg (by omega), if_neg (by omega), if_neg (by omega), if_neg (by omega)]; rfl)
                                · skip
                                  simp only [Bool.and_eq_true, Bool.or_eq_true, Bool.and_eq_false_imp, Bool.or_eq_false_iff, decide_eq_true_eq, decide_eq_false_iff_not] at cB16
                                  refine c_seq (fun K65 hK65 => ?_)
                                  refine c_region ?_
                                  refine l_step (y_moveV (et (gS rfl (gS rfl g0)) rfl)) ?_
                                  refine l_step (y_eql (et g0 rfl) rfl) ?_
                                  refine l_step (y_assignV (et g0 rfl)) ?_
                                  refine l_nil ?_
                                  refine hK65 _ _ ?_
                                  refine fg2 0 57 (gS rfl (gS rfl (gS rfl (gS rfl (gS rfl g0))))) g0 (fun g => ?_)
                                  refine c_condV (i := 57) g0 rfl (fun cB17 => ?_) (fun cB17 => ?_)
                                  · skip
                                    simp only [Bool.and_eq_true, Bool.or_eq_true, Bool.and_eq_false_imp, Bool.or_eq_false_iff, decide_eq_true_eq, decide_eq_false_iff_not] at cB17
                                    refine c_skip ?_
                                    refine hK52 _ _ ?_
                                    refine fg2 0 57 (gS rfl (gS rfl g0)) g0 (fun g => ?_)
                                    refine c_true (et g0 rfl) rfl ?_
                                    refine c_seq (fun K68 hK68 => ?_)
                                    refine c_region ?_
                                    refine l_step y_assignC ?_
                                    refine l_nil ?_
                                    refine hK68 _ _ ?_
                                    refine fg1 2 g0 (fun g => ?_)
                                    refine c_ret ?_
                                    refine hQ3 _ _ _ (in_ret ?_)
                                    refine ret1 rfl (res_tmp (et g0 rfl)) ?_
                                    refine ⟨?_, U⟩
                                    unfold famN
                                    first | (rw [if_pos (by omega)]; rfl) | (rw [if_neg (by omega), if_pos (by omega)]; rfl) | (rw [if_neg (by omega), if_neg (by omega), if_pos (by omega)]; rfl) | (rw [if_neg (by omega), if_neg (by omega), if_neg (by omega), if_pos (by omega)]; rfl) | (rw [if_neg (by omega), if_neg (by omega), if_neg (by omega), if_neg (by omega), if_pos (by omega)]; rfl) | (rw [if_neg (by omega), if_neg (by omega), if_neg (by omega), if_neg (by omega), if_neg (by omega), if_pos (by omega)]; rfl) | (rw [if_neg (by omega), if_neg (by omega), if_neg (by omega), if_neg (by omega), if_neg (by omega), if_neg (by omega)]; rfl)
                                  · skip
                                    simp only [Bool.and_eq_true, Bool.or_eq_true, Bool.and_eq_false_imp, Bool.or_eq_false_iff, decide_eq_true_eq, decide_eq_false_iff_not] at cB17
                                    refine c_region ?_
                                    refine l_step (y_moveV (et (gS rfl (gS rfl g0)) rfl)) ?_
                                    refine l_step (y_geq (et g0 rfl) rfl) ?_
                                    refine l_step (y_moveV (et g0 rfl)) ?_
                                    refine l_gpure (j := 2) (t := 68) (by exact rfl) (by exact rfl) (et g0 rfl) rfl (fun hc => (y_moveV (et (gS rfl (gS rfl (gS rfl (gS rfl (gS rfl g0))))) rfl))) ?_
                                    refine l_gpure (j := 2) (t := 68) (by exact rfl) (by exact rfl) (et (gS rfl g0) rfl) rfl (fun hc => (y_leq (et (cT g0 hc) rfl) rfl)) ?_
                                    refine l_step (y_pickA (et (gS rfl (gS rfl g0)) rfl) (et g0 rfl) rfl) ?_
                                    refine l_step (y_assignV (et g0 rfl)) ?_
                                    refine l_nil ?_
                                    refine hK52 _ _ ?_
                                    refine fg2 0 57 (gS rfl (gS rfl (gS rfl (gS rfl (gS rfl (gS rfl (gS rfl (gS rfl (gS rfl g0))))))))) g0 (fun g => ?_)
                                    refine c_condV (i := 57) g0 rfl (fun cB18 => ?_) (fun cB18 => ?_)
                                    · skip
                                      simp only [Bool.and_eq_true, Bool.or_eq_true, Bool.and_eq_false_imp, Bool.or_eq_false_iff, decide_eq_true_eq, decide_eq_false_iff_not] at cB18
                                      refine c_seq (fun K70 hK70 => ?_)
                                      refine c_region ?_
                                      refine l_step y_assignC ?_
                                      refine l_nil ?_
                                      refine hK70 _ _ ?_
                                      refine fg1 2 g0 (fun g => ?_)
                                      refine c_ret ?_
                                      refine hQ3 _ _ _ (in_ret ?_)
                                      refine ret1 rfl (res_tmp (et g0 rfl)) ?_
                                      refine ⟨?_, U⟩
                                      unfold famN
                                      first | (rw [if_pos (by omega)]; rfl) | (rw [if_neg (by omega), if_pos (by omega)]; rfl) | (rw [if_neg (by omega), if_neg (by omega), if_pos (by omega)]; rfl) | (rw [if_neg (by omega), if_neg (by omega), if_neg (by omega), if_pos (by omega)]; rfl) | (rw [if_neg (by omega), if_neg (by omega), if_neg (by omega), if_neg (by omega), if_pos (by omega)]; rfl) | (rw [if_neg (by omega), if_neg (by omega), if_neg (by omega), if_neg (by omega), if_neg (by omega), if_pos (by omega)]; rfl) | (rw [if_neg (by omega), if_neg (by omega), if_neg (by omega), if_neg (by omega), if_neg (by omega), if_neg (by omega)]; rfl)
                                    · skip
                                      simp only [Bool.and_eq_true, Bool.or_eq_true, Bool.and_eq_false_imp, Bool.or_eq_false_iff, decide_eq_true_eq, decide_eq_false_iff_not] at cB18
                                      refine c_seq (fun K71 hK71 => ?_)
                                      refine c_seq (fun K72 hK72 => ?_)
                                      refine c_region ?_
                                      refine l_step (y_moveV (et (gS rfl (gS rfl g0)) rfl)) ?_
                                      refine l_step (y_eql (et g0 rfl) rfl) ?_
                                      refine l_step (y_assignV (et g0 rfl)) ?_
                                      refine l_nil ?_
                                      refine hK72 _ _ ?_
                                      refine fg2 0 72 (gS rfl (gS rfl (gS rfl (gS rfl (gS rfl g0))))) g0 (fun g => ?_)
                                      refine c_condV (i := 72) g0 rfl (fun cB19 => ?_) (fun cB19 => ?_)
                                      · skip
                                        simp only [Bool.and_eq_true, Bool.or_eq_true, Bool.and_eq_false_imp, Bool.or_eq_false_iff, decide_eq_true_eq, decide_eq_false_iff_not] at cB19
                                        refine c_skip ?_
                                        refine hK71 _ _ ?_
                                        refine fg1 72 g0 (fun g => ?_)
                                        refine c_true (et g0 rfl) rfl ?_
                                        refine c_seq (fun K75 hK75 => ?_)
                                        refine c_region ?_
                                        refine l_step y_assignC ?_
                                        refine l_nil ?_
                                        refine hK75 _ _ ?_
                                        refine fg1 2 g0 (fun g => ?_)
                                        refine c_ret ?_
                                        refine hQ3 _ _ _ (in_ret ?_)
                                        refine ret1 rfl (res_tmp (et g0 rfl)) ?_
                                        refine ⟨?_, U⟩
                                        unfold famN
                                        first | (rw [if_pos (by omega)]; rfl) | (rw [if_neg (by omega), if_pos (by omega)]; rfl) | (rw [if_neg (by omega), if_neg (by omega), if_pos (by omega)]; rfl) | (rw [if_neg (by omega), if_neg (by omega), if_neg (by omega), if_pos (by omega)]; rfl) | (rw [if_neg (by omega), if_neg (by omega), if_neg (by omega), if_neg (by omega), if_pos (by omega)]; rfl) | (rw [if_neg (by omega), if_neg (by omega), if_neg (by omega), if_neg (by omega), if_neg (by omega), if_pos (by omega)]; rfl) | (rw [if_neg (by omega), if_neg (by omega), if_neg (by omega), if_neg (by omega), if_neg (by omega), if_neg (by omega)]; rfl)
                                      · skip
                                        simp only [Bool.and_eq_true, Bool.or_eq_true, Bool.and_eq_false_imp, Bool.or_eq_false_iff, decide_eq_true_eq, decide_eq_false_iff_not] at cB19
                                        refine c_seq (fun K76 hK76 => ?_)
                                        refine c_region ?_
                                        refine l_step (y_moveV (et (gS rfl (gS rfl g0)) rfl)) ?_
                                        refine l_step (y_eql (et g0 rfl) rfl) ?_
                                        refine l_step (y_assignV (et g0 rfl)) ?_
                                        refine l_nil ?_
                                        refine hK76 _ _ ?_
                                        refine fg2 0 72 (gS rfl (gS rfl (gS rfl (gS rfl (gS rfl g0))))) g0 (fun g => ?_)
                                        refine c_condV (i := 72) g0 rfl (fun cB20 => ?_) (fun cB20 => ?_)
                                        · skip
                                          simp only [Bool.and_eq_true, Bool.or_eq_true, Bool.and_eq_false_imp, Bool.or_eq_false_iff, decide_eq_true_eq, decide_eq_false_iff_not] at cB20
                                          refine c_skip ?_
                                          refine hK71 _ _ ?_
                                          refine fg1 72 g0 (fun g => ?_)
                                          refine c_true (et g0 rfl) rfl ?_
                                          refine c_seq (fun K79 hK79 => ?_)
                                          refine c_region ?_
                                          refine l_step y_assignC ?_
                                          refine l_nil ?_
                                          refine hK79 _ _ ?_
                                          refine fg1 2 g0 (fun g => ?_)
                                          refine c_ret ?_
                                          refine hQ3 _ _ _ (in_ret ?_)
                                          refine ret1 rfl (res_tmp (et g0 rfl)) ?_
                                          refine ⟨?_, U⟩
                                          unfold famN
                                          first | (rw [if_pos (by omega)]; rfl) | (rw [if_neg (by omega), if_pos (by omega)]; rfl) | (rw [if_neg (by omega), if_neg (by omega), if_pos (by omega)]; rfl) | (rw [if_neg (by omega), if_neg (by omega), if_neg (by omega), if_pos (by omega)]; rfl) | (rw [if_neg (by omega), if_neg (by omega), if_neg (by omega), if_neg (by omega), if_pos (by omega)]; rfl) | (rw [if_neg (by omega), if_neg (by omega), if_neg (by omega), if_neg (by omega), if_neg (by omega), if_pos (by omega)]; rfl) | (rw [if_neg (by omega), if_neg (by omega), if_neg (by omega), if_neg (by omega), if_neg (by omega), if_neg (by omega)]; rfl)
                                        · skip
                                          simp only [Bool.and_eq_true, Bool.or_eq_true, Bool.and_eq_false_imp, Bool.or_eq_false_iff, decide_eq_true_eq, decide_eq_false_iff_not] at cB20
                                          refine c_seq (fun K80 hK80 => ?_)
                                          refine c_region ?_
                                          refine l_step (y_moveV (et (gS rfl (gS rfl g0)) rfl)) ?_
                                          refine l_step (y_eql (et g0 rfl) rfl) ?_
                                          refine l_step (y_assignV (et g0 rfl)) ?_
                                          refine l_nil ?_
                                          refine hK80 _ _ ?_
                                          refine fg2 0 72 (gS rfl (gS rfl (gS rfl (gS rfl (gS rfl g0))))) g0 (fun g => ?_)
                                          refine c_condV (i := 72) g0 rfl (fun cB21 => ?_) (fun cB21 => ?_)
                                          · skip
                                            simp only [Bool.and_eq_true, Bool.or_eq_true, Bool.and_eq_false_imp, Bool.or_eq_false_iff, decide_eq_true_eq, decide_eq_false_iff_not] at cB21
                                            refine c_skip ?_
                                            refine hK71 _ _ ?_
                                            refine fg1 72 g0 (fun g => ?_)
                                            refine c_true (et g0 rfl) rfl ?_
                                            refine c_seq (fun K83 hK83 => ?_)
                                            refine c_region ?_
                                            refine l_step y_assignC ?_
                                            refine l_nil ?_
                                            refine hK83 _ _ ?_
                                            refine fg1 2 g0 (fun g => ?_)
                                            refine c_ret ?_
                                            refine hQ3 _ _ _ (in_ret ?_)
                                            refine ret1 rfl (res_tmp (et g0 rfl)) ?_
                                            refine ⟨?_, U⟩
                                            unfold famN
                                            first | (rw [if_pos (by omega)]; rfl) | (rw [if_neg (by omega), if_pos (by omega)]; rfl) | (rw [if_neg (by omega), if_neg (by omega), if_pos (by omega)]; rfl) | (rw [if_neg (by omega), if_neg (by omega), if_neg (by omega), if_pos (by omega)]; rfl) | (rw [if_neg (by omega), if_neg (by omega), if_neg (by omega), if_neg (by omega), if_pos (by omega)]; rfl) | (rw [if_neg (by omega), if_neg (by omega), if_neg (by omega), if_neg (by omega), if_neg (by omega), if_pos (by omega)]; rfl) | (rw [if_neg (by omega), if_neg (by omega), if_neg (by omega), if_neg (by omega), if_neg (by omega), if_neg (by omega)]; rfl)
                                          · skip
                                            simp only [Bool.and_eq_true, Bool.or_eq_true, Bool.and_eq_false_imp, Bool.or_eq_false_iff, decide_eq_true_eq, decide_eq_false_iff_not] at cB21
                                            refine c_seq (fun K84 hK84 => ?_)
                                            refine c_region ?_
                                            refine l_step (y_moveV (et (gS rfl (gS rfl g0)) rfl)) ?_
                                            refine l_step (y_eql (et g0 rfl) rfl) ?_
                                            refine l_step (y_assignV (et g0 rfl)) ?_
                                            refine l_nil ?_
                                            refine hK84 _ _ ?_
                                            refine fg2 0 72 (gS rfl (gS rfl (gS rfl (gS rfl (gS rfl g0))))) g0 (fun g => ?_)
                                            refine c_condV (i := 72) g0 rfl (fun cB22 => ?_) (fun cB22 => ?_)
                                            · skip
                                              simp only [Bool.and_eq_true, Bool.or_eq_true, Bool.and_eq_false_imp, Bool.or_eq_false_iff, decide_eq_true_eq, decide_eq_false_iff_not] at cB22
                                              refine c_skip ?_
                                              refine hK71 _ _ ?_
                                              refine fg1 72 g0 (fun g => ?_)
                                              refine c_true (et g0 rfl) rfl ?_
                                              refine c_seq (fun K87 hK87 => ?_)
                                              refine c_region ?_
                                              refine l_step y_assignC ?_
                                              refine l_nil ?_
                                              refine hK87 _ _ ?_
                                              refine fg1 2 g0 (fun g => ?_)
                                              refine c_ret ?_
                                              refine hQ3 _ _ _ (in_ret ?_)
                                              refine ret1 rfl (res_tmp (et g0 rfl)) ?_
                                              refine ⟨?_, U⟩
                                              unfold famN
                                              first | (rw [if_pos (by omega)]; rfl) | (rw [if_neg (by omega), if_pos (by omega)]; rfl) | (rw [if_neg (by omega), if_neg (by omega), if_pos (by omega)]; rfl) | (rw [if_neg (by omega), if_neg (by omega), if_neg (by omega), if_pos (by omega)]; rfl) | (rw [if_neg (by omega), if_neg (by omega), if_neg (by omega), if_neg (by omega), if_pos (by omega)]; rfl) | (rw [if_neg (by omega), if_neg (by omega), if_neg (by omega), if_neg (by omega), if_neg (by omega), if_pos (by omega)]; rfl) | (rw [if_neg (by omega), if_neg (by omega), if_neg (by omega), if_neg (by omega), if_neg (by omega), if_neg (by omega)]; rfl)
                                            · skip
                                              simp only [Bool.and_eq_true, Bool.or_eq_true, Bool.and_eq_false_imp, Bool.or_eq_false_iff, decide_eq_true_eq, decide_eq_false_iff_not] at cB22
                                              refine c_seq (fun K88 hK88 => ?_)
                                              refine c_region ?_
                                              refine l_step (y_moveV (et (gS rfl (gS rfl g0)) rfl)) ?_
                                              refine l_step (y_eql (et g0 rfl) rfl) ?_
                                              refine l_step (y_assignV (et g0 rfl)) ?_
                                              refine l_nil ?_
                                              refine hK88 _ _ ?_
                                              refine fg2 0 72 (gS rfl (gS rfl (gS rfl (gS rfl (gS rfl g0))))) g0 (fun g => ?_)
                                              refine c_condV (i := 72) g0 rfl (fun cB23 => ?_) (fun cB23 => ?_)
                                              · skip
                                                simp only [Bool.and_eq_true, Bool.or_eq_true, Bool.and_eq_false_imp, Bool.or_eq_false_iff, decide_eq_true_eq, decide_eq_false_iff_not] at cB23
                                                refine c_skip ?_
                                                refine hK71 _ _ ?_
                                                refine fg1 72 g0 (fun g => ?_)
                                                refine c_true (et g0 rfl) rfl ?_
                                                refine c_seq (fun K91 hK91 => ?_)
                                                refine c_region ?_
                                                refine l_step y_assignC ?_
                                                refine l_nil ?_
                                                refine hK91 _ _ ?_
                                                refine fg1 2 g0 (fun g => ?_)
                                                refine c_ret ?_
                                                refine hQ3 _ _ _ (in_ret ?_)
                                                refine ret1 rfl (res_tmp (et g0 rfl)) ?_
                                                refine ⟨?_, U⟩
                                                unfold famN
                                                first | (rw [if_pos (by omega)]; rfl) | (rw [if_neg (by omega), if_pos (by omega)]; rfl) | (rw [if_neg (by omega), if_neg (by omega), if_pos (by omega)]; rfl) | (rw [if_neg (by omega), if_neg (by omega), if_neg (by omega), if_pos (by omega)]; rfl) | (rw [if_neg (by omega), if_neg (by omega), if_neg (by omega), if_neg (by omega), if_pos (by omega)]; rfl) | (rw [if_neg (by omega), if_neg (by omega), if_neg (by omega), if_neg (by omega), if_neg (by omega), if_pos (by omega)]; rfl) | (rw [if_neg (by omega), if_neg (by omega), if_neg (by omega), if_neg (by omega), if_neg (by omega), if_neg (by omega)]; rfl)
                                              · skip
                                                simp only [Bool.and_eq_true, Bool.or_eq_true, Bool.and_eq_false_imp, Bool.or_eq_false_iff, decide_eq_true_eq, decide_eq_false_iff_not] at cB23
                                                refine c_seq (fun K92 hK92 => ?_)
                                                refine c_region ?_
                                                refine l_step (y_moveV (et (gS rfl (gS rfl g0)) rfl)) ?_
                                                refine l_step (y_eql (et g0 rfl) rfl) ?_
                                                refine l_step (y_assignV (et g0 rfl)) ?_
                                                refine l_nil ?_
                                                refine hK92 _ _ ?_
                                                refine fg2 0 72 (gS rfl (gS rfl (gS rfl (gS rfl (gS rfl g0))))) g0 (fun g => ?_)
                                                refine c_condV (i := 72) g0 rfl (fun cB24 => ?_) (fun cB24 => ?_)
                                                · skip
                                                  simp only [Bool.and_eq_true, Bool.or_eq_true, Bool.and_eq_false_imp, Bool.or_eq_false_iff, decide_eq_true_eq, decide_eq_false_iff_not] at cB24
                                                  refine c_skip ?_
                                                  refine hK71 _ _ ?_
                                                  refine fg1 72 g0 (fun g => ?_)
                                                  refine c_true (et g0 rfl) rfl ?_
                                                  refine c_seq (fun K95 hK95 => ?_)
                                                  refine c_region ?_
                                                  refine l_step y_assignC ?_
                                                  refine l_nil ?_
                                                  refine hK95 _ _ ?_
                                                  refine fg1 2 g0 (fun g => ?_)
                                                  refine c_ret ?_
                                                  refine hQ3 _ _ _ (in_ret ?_)
                                                  refine ret1 rfl (res_tmp (et g0 rfl)) ?_
                                                  refine ⟨?_, U⟩
                                                  unfold famN
                                                  first | (rw [if_pos (by omega)]; rfl) | (rw [if_neg (by omega), if_pos (by omega)]; rfl) | (rw [if_neg (by omega), if_neg (by omega), if_pos (by omega)]; rfl) | (rw [if_neg (by omega), if_neg (by omega), if_neg (by omega), if_pos (by omega)]; rfl) | (rw [if_neg (by omega), if_neg (by omega), if_neg (by omega), if_neg (by omega), if_pos (by omega)]; rfl) | (rw [if_neg (by omega), if_neg (by omega), if_neg (by omega), if_neg (by omega), if_neg (by omega), if_pos (by omega)]; rfl) | (rw [if_neg (by omega), if_neg (by omega), if_neg (by omega), if_neg (by omega), if_neg (by omega), if_neg (by omega)]; rfl)
                                                · skip
                                                  simp only [Bool.and_eq_true, Bool.or_eq_true, Bool.and_eq_false_imp, Bool.or_eq_false_iff, decide_eq_true_eq, decide_eq_false_iff_not] at cB24
                                                  refine c_region ?_
                                                  refine l_step (y_moveV (et (gS rfl (gS rfl g0)) rfl)) ?_
                                                  refine l_step (y_eql (et g0 rfl) rfl) ?_
                                                  refine l_step (y_assignV (et g0 rfl)) ?_
                                                  refine l_nil ?_
                                                  refine hK71 _ _ ?_
                                                  refine fg1 72 g0 (fun g => ?_)
                                                  refine c_condV (i := 72) g0 rfl (fun cB25 => ?_) (fun cB25 => ?_)
                                                  · skip
                                                    simp only [Bool.and_eq_true, Bool.or_eq_true, Bool.and_eq_false_imp, Bool.or_eq_false_iff, decide_eq_true_eq, decide_eq_false_iff_not] at cB25
                                                    refine c_seq (fun K97 hK97 => ?_)
                                                    refine c_region ?_
                                                    refine l_step y_assignC ?_
                                                    refine l_nil ?_
                                                    refine hK97 _ _ ?_
                                                    refine fg1 2 g0 (fun g => ?_)
                                                    refine c_ret ?_
                                                    refine hQ3 _ _ _ (in_ret ?_)
                                                    refine ret1 rfl (res_tmp (et g0 rfl)) ?_
                                                    refine ⟨?_, U⟩
                                                    unfold famN
                                                    first | (rw [if_pos (by omega)]; rfl) | (rw [if_neg (by omega), if_pos (by omega)]; rfl) | (rw [if_neg (by omega), if_neg (by omega), if_pos (by omega)]; rfl) | (rw [if_neg (by omega), if_neg (by omega), if_neg (by omega), if_pos (by omega)]; rfl) | (rw [if_neg (by omega), if_neg (by omega), if_neg (by omega), if_neg (by omega), if_pos (by omega)]; rfl) | (rw [if_neg (by omega), if_neg (by omega), if_neg (by omega), if_neg (by omega), if_neg (by omega), if_pos (by omega)]; rfl) | (rw [if_neg (by omega), if_neg (by omega), if_neg (by omega), if_neg (by omega), if_neg (by omega), if_neg (by omega)]; rfl)
                                                  · skip
                                                    simp only [Bool.and_eq_true, Bool.or_eq_true, Bool.and_eq_false_imp, Bool.or_eq_false_iff, decide_eq_true_eq, decide_eq_false_iff_not] at cB25
                                                    refine c_skip ?_
                                                    refine hQ3 _ _ _ (in_normal ?_)
                                                    refine hK2 _ _ ?_
                                                    refine fg0 (fun g => ?_)
                                                    refine c_seq (fun K98 hK98 => ?_)
                                                    refine c_region ?_
                                                    refine l_step y_assignC ?_
                                                    refine l_nil ?_
                                                    refine hK98 _ _ ?_
                                                    refine c_ret ?_
                                                    refine ret1 rfl (res_tmp (et g0 rfl)) ?_
                                                    refine ⟨?_, U⟩
                                                    unfold famN
                                                    first | (rw [if_pos (by omega)]; rfl) | (rw [if_neg (by omega), if_pos (by omega)]; rfl) | (rw [if_neg (by omega), if_neg (by omega), if_pos (by omega)]; rfl) | (rw [if_neg (by omega), if_neg (by omega), if_neg (by omega), if_pos (by omega)]; rfl) | (rw [if_neg (by omega), if_neg (by omega), if_neg (by omega), if_neg (by omega), if_pos (by omega)]; rfl) | (rw [if_neg (by omega), if_neg (by omega), if_neg (by omega), if_neg (by omega), if_neg (by omega), if_pos (by omega)]; rfl) | (rw [if_neg (by omega), if_neg (by omega), if_neg (by omega), if_neg (by omega), if_neg (by omega), if_neg (by omega)]; rfl)
end Go.Proofs.YgvaawGreat
