import Derived.Test.YgvaawGreatO2
set_option maxRecDepth 100000
set_option maxHeartbeats 4000000
set_option linter.unusedSimpArgs false
set_option linter.unusedVariables false
namespace Go.Proofs.YgvaawGreat
open Go
/-- the fixed part of the gas -/
def sgN (o : Nat) : Nat :=
  if 96 ≤ o ∧ o ≤ 127 then 3
  else if 128 ≤ o ∧ o ≤ 143 then 3
  else if 144 ≤ o ∧ o ≤ 159 then 3
  else if 160 ≤ o ∧ o ≤ 164 then 375 * (o - 160 + 1)
  else if o = 0 then 0
  else if o = 91 then 1
  else if o = 48 ∨ o = 50 ∨ o = 51 ∨ o = 52 ∨ o = 54 ∨ o = 56 ∨ o = 58 ∨ o = 61 ∨ o = 65 ∨ o = 66 ∨ o = 67 ∨ o = 68 ∨ o = 69 ∨ o = 70 ∨ o = 72 ∨ o = 88 ∨ o = 89 ∨ o = 90 ∨ o = 95 then 2
  else if o = 71 then 5
  else if o = 1 ∨ o = 3 ∨ o = 16 ∨ o = 17 ∨ o = 18 ∨ o = 19 ∨ o = 20 ∨ o = 22 ∨ o = 23 ∨ o = 24 ∨ o = 26 ∨ o = 27 ∨ o = 28 ∨ o = 29 then 3
  else if o = 2 ∨ o = 4 ∨ o = 5 ∨ o = 6 ∨ o = 7 ∨ o = 11 then 5
  else if o = 10 then 10
  else if o = 32 then 30
  else if o = 8 ∨ o = 9 then 8
  else if o = 21 ∨ o = 25 ∨ o = 53 ∨ o = 81 then 3
  else if o = 49 ∨ o = 59 ∨ o = 63 ∨ o = 84 then 0
  else if o = 92 then 100
  else if o = 93 then 100
  else if o = 255 then 5000
  else if o = 64 then 20
  else if o = 80 then 2
  else if o = 86 then 8
  else if o = 87 then 10
  else if o = 82 ∨ o = 83 then 3
  else if o = 85 ∨ o = 243 ∨ o = 253 then 0
  else if o = 55 ∨ o = 57 ∨ o = 62 ∨ o = 94 then 3
  else if o = 60 then 0
  else if o = 240 then 32000
  else if o = 245 then 32000
  else if o = 241 ∨ o = 242 then 0
  else if o = 244 ∨ o = 250 then 0 else 0
def KN (o : Nat) : Prop := o ≤ 11 ∨ (16 ≤ o ∧ o ≤ 29) ∨ o = 32 ∨ (48 ≤ o ∧ o ≤ 72) ∨ (80 ≤ o ∧ o ≤ 164) ∨ (240 ≤ o ∧ o ≤ 245) ∨ o = 250 ∨ o = 253 ∨ o = 255
theorem fam_known {o : Nat} (h : KN o) : famN o ≠ 0 := by
  unfold KN at h
  unfold famN
  repeat' split
  all_goals first | decide | omega
theorem fam_unknown {o : Nat} (h : ¬ KN o) : famN o = 0 := by
  unfold KN at h
  unfold famN
  repeat' split
  all_goals first | rfl | omega
theorem info_ret {o a b c : Nat} (hk : KN o) (h : arN o = (a, b)) (hs : sgN o = c) : Value.tuple #[.int .u8 (a : Nat), .int .u8 (b : Nat), .int .u16 (c : Nat), .bool true] = Value.tuple #[.int .u8 (tkN o : Nat), .int .u8 (gvN o : Nat), .int .u16 (sgN o : Nat), .bool (knN o)] := by
  have hf := fam_known hk
  unfold tkN gvN knN
  rw [if_neg hf, if_neg hf, h, hs, decide_eq_true hf]
theorem info_spec (o : Nat) (w : World) (ho : o < 256) :
    Ret 109 [.int .u8 o] w (fun v w' => v = .tuple #[.int .u8 (tkN o : Nat), .int .u8 (gvN o : Nat), .int .u16 (sgN o : Nat), .bool (knN o)] ∧ Up w w') := by
  refine enter (n := 158) Hvaa.func109 rfl rfl (Nat.le_of_ble_eq_true rfl) ?_
  have U := Up.refl w
  refine c_seq (fun K1 hK1 => ?_)
  refine c_region ?_
  refine l_step y_assignC ?_
  refine l_step y_assignC ?_
  refine l_step y_assignC ?_
  refine l_step y_assignC ?_
  refine l_nil ?_
  refine hK1 _ _ ?_
  refine fg1 0 (gS rfl (gS rfl (gS rfl (gS rfl g0)))) (fun g => ?_)
  refine c_seq (fun K2 hK2 => ?_)
  refine c_block (fun Q3 hQ3 => ?_)
  refine c_seq (fun K4 hK4 => ?_)
  refine c_region ?_
  refine l_step (y_moveV (et g0 rfl)) ?_
  refine l_step (y_geq (et g0 rfl) rfl) ?_
  refine l_step (y_moveV (et g0 rfl)) ?_
  refine l_gpure (j := 2) (t := 9) (by exact rfl) (by exact rfl) (et g0 rfl) rfl (fun hc => (y_moveV (et (gS rfl (gS rfl (gS rfl g0))) rfl))) ?_
  refine l_gpure (j := 2) (t := 9) (by exact rfl) (by exact rfl) (et (gS rfl g0) rfl) rfl (fun hc => (y_leq (et (cT g0 hc) rfl) rfl)) ?_
  refine l_step (y_pickA (et (gS rfl (gS rfl g0)) rfl) (et g0 rfl) rfl) ?_
  refine l_step (y_assignV (et g0 rfl)) ?_
  refine l_nil ?_
  refine hK4 _ _ ?_
  refine fg2 0 6 (gS rfl (gS rfl (gS rfl (gS rfl (gS rfl (gS rfl (gS rfl g0))))))) g0 (fun g => ?_)
  refine c_condV (i := 6) g0 rfl (fun cB1 => ?_) (fun cB1 => ?_)
  · skip
    simp only [Bool.and_eq_true, Bool.or_eq_true, Bool.and_eq_false_imp, Bool.or_eq_false_iff, decide_eq_true_eq, decide_eq_false_iff_not] at cB1
    refine c_seq (fun K6 hK6 => ?_)
    refine c_region ?_
    refine l_step y_assignC ?_
    refine l_step y_assignC ?_
    refine l_step y_assignC ?_
    refine l_step y_assignC ?_
    refine l_nil ?_
    refine hK6 _ _ ?_
    refine fg4 2 3 4 5 (gS rfl (gS rfl (gS rfl g0))) (gS rfl (gS rfl g0)) (gS rfl g0) g0 (fun g => ?_)
    refine c_ret ?_
    refine hQ3 _ _ _ (in_ret ?_)
    refine ret4 rfl (res_tmp (et (gS rfl (gS rfl (gS rfl g0))) rfl)) (res_tmp (et (gS rfl (gS rfl g0)) rfl)) (res_tmp (et (gS rfl g0) rfl)) (res_tmp (et g0 rfl)) ?_
    refine ⟨info_ret (a := 0) (b := 1) (c := 3) (by unfold KN; omega) ?_ ?_, U⟩
    · rw [arN, if_neg (by omega), if_neg (by omega), if_neg (by omega), if_neg (by omega), if_neg (by omega), if_neg (by omega), if_neg (by omega), if_neg (by omega), if_neg (by omega), if_neg (by omega), if_neg (by omega), if_neg (by omega), if_neg (by omega), if_neg (by omega)]
    · rw [sgN, if_pos (by omega)]
  · skip
    simp only [Bool.and_eq_true, Bool.or_eq_true, Bool.and_eq_false_imp, Bool.or_eq_false_iff, decide_eq_true_eq, decide_eq_false_iff_not] at cB1
    refine c_seq (fun K7 hK7 => ?_)
    refine c_region ?_
    refine l_step (y_moveV (et (gS rfl (gS rfl g0)) rfl)) ?_
    refine l_step (y_geq (et g0 rfl) rfl) ?_
    refine l_step (y_moveV (et g0 rfl)) ?_
    refine l_gpure (j := 2) (t := 16) (by exact rfl) (by exact rfl) (et g0 rfl) rfl (fun hc => (y_moveV (et (gS rfl (gS rfl (gS rfl (gS rfl (gS rfl g0))))) rfl))) ?_
    refine l_gpure (j := 2) (t := 16) (by exact rfl) (by exact rfl) (et (gS rfl g0) rfl) rfl (fun hc => (y_leq (et (cT g0 hc) rfl) rfl)) ?_
    refine l_step (y_pickA (et (gS rfl (gS rfl g0)) rfl) (et g0 rfl) rfl) ?_
    refine l_step (y_assignV (et g0 rfl)) ?_
    refine l_nil ?_
    refine hK7 _ _ ?_
    refine fg2 0 13 (gS rfl (gS rfl (gS rfl (gS rfl (gS rfl (gS rfl (gS rfl (gS rfl (gS rfl g0))))))))) g0 (fun g => ?_)
    refine c_condV (i := 13) g0 rfl (fun cB2 => ?_) (fun cB2 => ?_)
    · skip
      simp only [Bool.and_eq_true, Bool.or_eq_true, Bool.and_eq_false_imp, Bool.or_eq_false_iff, decide_eq_true_eq, decide_eq_false_iff_not] at cB2
      refine c_seq (fun K9 hK9 => ?_)
      refine c_region ?_
      refine l_step (y_moveV (et (gS rfl (gS rfl g0)) rfl)) ?_
      refine l_step (y_sub (et g0 rfl) rfl (wrapU_subN (b := 128) uk8 ?_ ?_)) ?_
      omega
      omega
      refine l_step (y_add (et g0 rfl) rfl (wrapU_addN (b := 1) uk8 ?_)) ?_
      omega
      refine l_step (y_moveV (et (gS rfl (gS rfl (gS rfl (gS rfl (gS rfl g0))))) rfl)) ?_
      refine l_step (y_sub (et g0 rfl) rfl (wrapU_subN (b := 128) uk8 ?_ ?_)) ?_
      omega
      omega
      refine l_step (y_add (et g0 rfl) rfl (wrapU_addN (b := 2) uk8 ?_)) ?_
      omega
      refine l_step (y_assignV (et (gS rfl (gS rfl (gS rfl g0))) rfl)) ?_
      refine l_step (y_assignV (et (gS rfl g0) rfl)) ?_
      refine l_step y_assignC ?_
      refine l_step y_assignC ?_
      refine l_nil ?_
      refine hK9 _ _ ?_
      refine fg4 2 3 4 5 (gS rfl (gS rfl (gS rfl g0))) (gS rfl (gS rfl g0)) (gS rfl g0) g0 (fun g => ?_)
      refine c_ret ?_
      refine hQ3 _ _ _ (in_ret ?_)
      refine ret4 rfl (res_tmp (et (gS rfl (gS rfl (gS rfl g0))) rfl)) (res_tmp (et (gS rfl (gS rfl g0)) rfl)) (res_tmp (et (gS rfl g0) rfl)) (res_tmp (et g0 rfl)) ?_
      refine ⟨info_ret (a := o - 128 + 1) (b := o - 128 + 2) (c := 3) (by unfold KN; omega) ?_ ?_, U⟩
      · rw [arN, if_pos (by omega)]
        exact Prod.ext (by show _ = _; omega) (by show _ = _; omega)
      · rw [sgN, if_neg (by omega), if_pos (by omega)]
    · skip
      simp only [Bool.and_eq_true, Bool.or_eq_true, Bool.and_eq_false_imp, Bool.or_eq_false_iff, decide_eq_true_eq, decide_eq_false_iff_not] at cB2
      refine c_seq (fun K10 hK10 => ?_)
      refine c_region ?_
      refine l_step (y_moveV (et (gS rfl (gS rfl g0)) rfl)) ?_
      refine l_step (y_geq (et g0 rfl) rfl) ?_
      refine l_step (y_moveV (et g0 rfl)) ?_
      refine l_gpure (j := 2) (t := 29) (by exact rfl) (by exact rfl) (et g0 rfl) rfl (fun hc => (y_moveV (et (gS rfl (gS rfl (gS rfl (gS rfl (gS rfl g0))))) rfl))) ?_
      refine l_gpure (j := 2) (t := 29) (by exact rfl) (by exact rfl) (et (gS rfl g0) rfl) rfl (fun hc => (y_leq (et (cT g0 hc) rfl) rfl)) ?_
      refine l_step (y_pickA (et (gS rfl (gS rfl g0)) rfl) (et g0 rfl) rfl) ?_
      refine l_step (y_assignV (et g0 rfl)) ?_
      refine l_nil ?_
      refine hK10 _ _ ?_
      refine fg2 0 26 (gS rfl (gS rfl (gS rfl (gS rfl (gS rfl (gS rfl (gS rfl (gS rfl (gS rfl g0))))))))) g0 (fun g => ?_)
      refine c_condV (i := 26) g0 rfl (fun cB3 => ?_) (fun cB3 => ?_)
      · skip
        simp only [Bool.and_eq_true, Bool.or_eq_true, Bool.and_eq_false_imp, Bool.or_eq_false_iff, decide_eq_true_eq, decide_eq_false_iff_not] at cB3
        refine c_seq (fun K12 hK12 => ?_)
        refine c_region ?_
        refine l_step (y_moveV (et (gS rfl (gS rfl g0)) rfl)) ?_
        refine l_step (y_sub (et g0 rfl) rfl (wrapU_subN (b := 144) uk8 ?_ ?_)) ?_
        omega
        omega
        refine l_step (y_add (et g0 rfl) rfl (wrapU_addN (b := 2) uk8 ?_)) ?_
        omega
        refine l_step (y_moveV (et (gS rfl (gS rfl (gS rfl (gS rfl (gS rfl g0))))) rfl)) ?_
        refine l_step (y_sub (et g0 rfl) rfl (wrapU_subN (b := 144) uk8 ?_ ?_)) ?_
        omega
        omega
        refine l_step (y_add (et g0 rfl) rfl (wrapU_addN (b := 2) uk8 ?_)) ?_
        omega
        refine l_step (y_assignV (et (gS rfl (gS rfl (gS rfl g0))) rfl)) ?_
        refine l_step (y_assignV (et (gS rfl g0) rfl)) ?_
        refine l_step y_assignC ?_
        refine l_step y_assignC ?_
        refine l_nil ?_
        refine hK12 _ _ ?_
        refine fg4 2 3 4 5 (gS rfl (gS rfl (gS rfl g0))) (gS rfl (gS rfl g0)) (gS rfl g0) g0 (fun g => ?_)
        refine c_ret ?_
        refine hQ3 _ _ _ (in_ret ?_)
        refine ret4 rfl (res_tmp (et (gS rfl (gS rfl (gS rfl g0))) rfl)) (res_tmp (et (gS rfl (gS rfl g0)) rfl)) (res_tmp (et (gS rfl g0) rfl)) (res_tmp (et g0 rfl)) ?_
        refine ⟨info_ret (a := o - 144 + 2) (b := o - 144 + 2) (c := 3) (by unfold KN; omega) ?_ ?_, U⟩
        · rw [arN, if_neg (by omega), if_pos (by omega)]
          exact Prod.ext (by show _ = _; omega) (by show _ = _; omega)
        · rw [sgN, if_neg (by omega), if_neg (by omega), if_pos (by omega)]
      · skip
        simp only [Bool.and_eq_true, Bool.or_eq_true, Bool.and_eq_false_imp, Bool.or_eq_false_iff, decide_eq_true_eq, decide_eq_false_iff_not] at cB3
        refine c_seq (fun K13 hK13 => ?_)
        refine c_region ?_
        refine l_step (y_moveV (et (gS rfl (gS rfl g0)) rfl)) ?_
        refine l_step (y_geq (et g0 rfl) rfl) ?_
        refine l_step (y_moveV (et g0 rfl)) ?_
        refine l_gpure (j := 2) (t := 42) (by exact rfl) (by exact rfl) (et g0 rfl) rfl (fun hc => (y_moveV (et (gS rfl (gS rfl (gS rfl (gS rfl (gS rfl g0))))) rfl))) ?_
        refine l_gpure (j := 2) (t := 42) (by exact rfl) (by exact rfl) (et (gS rfl g0) rfl) rfl (fun hc => (y_leq (et (cT g0 hc) rfl) rfl)) ?_
        refine l_step (y_pickA (et (gS rfl (gS rfl g0)) rfl) (et g0 rfl) rfl) ?_
        refine l_step (y_assignV (et g0 rfl)) ?_
        refine l_nil ?_
        refine hK13 _ _ ?_
        refine fg2 0 39 (gS rfl (gS rfl (gS rfl (gS rfl (gS rfl (gS rfl (gS rfl (gS rfl (gS rfl g0))))))))) g0 (fun g => ?_)
        refine c_condV (i := 39) g0 rfl (fun cB4 => ?_) (fun cB4 => ?_)
        · skip
          simp only [Bool.and_eq_true, Bool.or_eq_true, Bool.and_eq_false_imp, Bool.or_eq_false_iff, decide_eq_true_eq, decide_eq_false_iff_not] at cB4
          refine c_seq (fun K15 hK15 => ?_)
          refine c_region ?_
          refine l_step (y_moveV (et (gS rfl (gS rfl g0)) rfl)) ?_
          refine l_step (y_sub (et g0 rfl) rfl (wrapU_subN (b := 160) uk8 ?_ ?_)) ?_
          omega
          omega
          refine l_step (y_add (et g0 rfl) rfl (wrapU_addN (b := 2) uk8 ?_)) ?_
          omega
          refine l_step (y_moveV (et (gS rfl (gS rfl (gS rfl (gS rfl (gS rfl g0))))) rfl)) ?_
          refine l_step (y_sub (et g0 rfl) rfl (wrapU_subN (b := 160) uk8 ?_ ?_)) ?_
          omega
          omega
          refine l_step (y_conv Hvaa.underlying5 Hvaa.underlying67 (et g0 rfl) (wrapU_id uk16 ?_)) ?_
          omega
          refine l_step (y_add (et g0 rfl) rfl (wrapU_addN (b := 1) uk16 ?_)) ?_
          omega
          refine l_step (y_mul rfl (et g0 rfl) (wrapU_mulN (a := 375) uk16 ?_)) ?_
          omega
          refine l_step (y_assignV (et (gS rfl (gS rfl (gS rfl (gS rfl (gS rfl g0))))) rfl)) ?_
          refine l_step y_assignC ?_
          refine l_step (y_assignV (et (gS rfl (gS rfl g0)) rfl)) ?_
          refine l_step y_assignC ?_
          refine l_nil ?_
          refine hK15 _ _ ?_
          refine fg4 2 3 4 5 (gS rfl (gS rfl (gS rfl g0))) (gS rfl (gS rfl g0)) (gS rfl g0) g0 (fun g => ?_)
          refine c_ret ?_
          refine hQ3 _ _ _ (in_ret ?_)
          refine ret4 rfl (res_tmp (et (gS rfl (gS rfl (gS rfl g0))) rfl)) (res_tmp (et (gS rfl (gS rfl g0)) rfl)) (res_tmp (et (gS rfl g0) rfl)) (res_tmp (et g0 rfl)) ?_
          refine ⟨info_ret (a := o - 160 + 2) (b := 0) (c := 375 * (o - 160 + 1)) (by unfold KN; omega) ?_ ?_, U⟩
          · rw [arN, if_neg (by omega), if_neg (by omega), if_pos (by omega)]
            exact Prod.ext (by show _ = _; omega) (by show _ = _; omega)
          · rw [sgN, if_neg (by omega), if_neg (by omega), if_neg (by omega), if_pos (by omega)]
        · skip
          simp only [Bool.and_eq_true, Bool.or_eq_true, Bool.and_eq_false_imp, Bool.or_eq_false_iff, decide_eq_true_eq, decide_eq_false_iff_not] at cB4
          refine c_skip ?_
          refine hQ3 _ _ _ (in_normal ?_)
          refine hK2 _ _ ?_
          refine fg1 0 (gS rfl (gS rfl g0)) (fun g => ?_)
          refine c_seq (fun K16 hK16 => ?_)
          refine c_seq (fun K17 hK17 => ?_)
          refine c_region ?_
          refine l_step (y_moveV (et g0 rfl)) ?_
          refine l_nil ?_
          refine hK17 _ _ ?_
          refine fg1 54 g0 (fun g => ?_)
          refine c_block (fun Q18 hQ18 => ?_)
          refine c_seq (fun K19 hK19 => ?_)
          refine c_region ?_
          refine l_step (y_eql (et g0 rfl) rfl) ?_
          refine l_step (y_assignV (et g0 rfl)) ?_
          refine l_nil ?_
          refine hK19 _ _ ?_
          refine fg2 54 55 (gS rfl (gS rfl g0)) g0 (fun g => ?_)
          refine c_condV (i := 55) g0 rfl (fun cB5 => ?_) (fun cB5 => ?_)
          · skip
            simp only [Bool.and_eq_true, Bool.or_eq_true, Bool.and_eq_false_imp, Bool.or_eq_false_iff, decide_eq_true_eq, decide_eq_false_iff_not] at cB5
            refine c_seq (fun K21 hK21 => ?_)
            refine c_region ?_
            refine l_step y_assignC ?_
            refine l_step y_assignC ?_
            refine l_step y_assignC ?_
            refine l_step y_assignC ?_
            refine l_nil ?_
            refine hK21 _ _ ?_
            refine fg4 2 3 4 5 (gS rfl (gS rfl (gS rfl g0))) (gS rfl (gS rfl g0)) (gS rfl g0) g0 (fun g => ?_)
            refine c_ret ?_
            refine hQ18 _ _ _ (in_ret ?_)
            refine ret4 rfl (res_tmp (et (gS rfl (gS rfl (gS rfl g0))) rfl)) (res_tmp (et (gS rfl (gS rfl g0)) rfl)) (res_tmp (et (gS rfl g0) rfl)) (res_tmp (et g0 rfl)) ?_
            refine ⟨info_ret (a := 0) (b := 0) (c := 0) (by unfold KN; omega) ?_ ?_, U⟩
            · rw [arN, if_neg (by omega), if_neg (by omega), if_neg (by omega), if_pos (by omega)]
            · rw [sgN, if_neg (by omega), if_neg (by omega), if_neg (by omega), if_neg (by omega), if_pos (by omega)]
          · skip
            simp only [Bool.and_eq_true, Bool.or_eq_true, Bool.and_eq_false_imp, Bool.or_eq_false_iff, decide_eq_true_eq, decide_eq_false_iff_not] at cB5
            refine c_seq (fun K22 hK22 => ?_)
            refine c_region ?_
            refine l_step (y_eql (et (gS rfl (gS rfl g0)) rfl) rfl) ?_
            refine l_step (y_assignV (et g0 rfl)) ?_
            refine l_nil ?_
            refine hK22 _ _ ?_
            refine fg2 54 57 (gS rfl (gS rfl (gS rfl (gS rfl g0)))) g0 (fun g => ?_)
            refine c_condV (i := 57) g0 rfl (fun cB6 => ?_) (fun cB6 => ?_)
            · skip
              simp only [Bool.and_eq_true, Bool.or_eq_true, Bool.and_eq_false_imp, Bool.or_eq_false_iff, decide_eq_true_eq, decide_eq_false_iff_not] at cB6
              refine c_seq (fun K24 hK24 => ?_)
              refine c_region ?_
              refine l_step y_assignC ?_
              refine l_step y_assignC ?_
              refine l_step y_assignC ?_
              refine l_step y_assignC ?_
              refine l_nil ?_
              refine hK24 _ _ ?_
              refine fg4 2 3 4 5 (gS rfl (gS rfl (gS rfl g0))) (gS rfl (gS rfl g0)) (gS rfl g0) g0 (fun g => ?_)
              refine c_ret ?_
              refine hQ18 _ _ _ (in_ret ?_)
              refine ret4 rfl (res_tmp (et (gS rfl (gS rfl (gS rfl g0))) rfl)) (res_tmp (et (gS rfl (gS rfl g0)) rfl)) (res_tmp (et (gS rfl g0) rfl)) (res_tmp (et g0 rfl)) ?_
              refine ⟨info_ret (a := 0) (b := 0) (c := 1) (by unfold KN; omega) ?_ ?_, U⟩
              · rw [arN, if_neg (by omega), if_neg (by omega), if_neg (by omega), if_pos (by omega)]
              · rw [sgN, if_neg (by omega), if_neg (by omega), if_neg (by omega), if_neg (by omega), if_neg (by omega), if_pos (by omega)]
            · skip
              simp only [Bool.and_eq_true, Bool.or_eq_true, Bool.and_eq_false_imp, Bool.or_eq_false_iff, decide_eq_true_eq, decide_eq_false_iff_not] at cB6
              refine c_seq (fun K25 hK25 => ?_)
              refine c_seq (fun K26 hK26 => ?_)
              refine c_region ?_
              refine l_step (y_eql (et (gS rfl (gS rfl g0)) rfl) rfl) ?_
              refine l_step (y_assignV (et g0 rfl)) ?_
              refine l_nil ?_
              refine hK26 _ _ ?_
              refine fg2 54 59 (gS rfl (gS rfl (gS rfl (gS rfl g0)))) g0 (fun g => ?_)
              refine c_condV (i := 59) g0 rfl (fun cB7 => ?_) (fun cB7 => ?_)
              · skip
                simp only [Bool.and_eq_true, Bool.or_eq_true, Bool.and_eq_false_imp, Bool.or_eq_false_iff, decide_eq_true_eq, decide_eq_false_iff_not] at cB7
                refine c_skip ?_
                refine hK25 _ _ ?_
                refine fg2 54 59 (gS rfl (gS rfl g0)) g0 (fun g => ?_)
                refine c_true (et g0 rfl) rfl ?_
                refine c_seq (fun K29 hK29 => ?_)
                refine c_region ?_
                refine l_step y_assignC ?_
                refine l_step y_assignC ?_
                refine l_step y_assignC ?_
                refine l_step y_assignC ?_
                refine l_nil ?_
                refine hK29 _ _ ?_
                refine fg4 2 3 4 5 (gS rfl (gS rfl (gS rfl g0))) (gS rfl (gS rfl g0)) (gS rfl g0) g0 (fun g => ?_)
                refine c_ret ?_
                refine hQ18 _ _ _ (in_ret ?_)
                refine ret4 rfl (res_tmp (et (gS rfl (gS rfl (gS rfl g0))) rfl)) (res_tmp (et (gS rfl (gS rfl g0)) rfl)) (res_tmp (et (gS rfl g0) rfl)) (res_tmp (et g0 rfl)) ?_
                refine ⟨info_ret (a := 0) (b := 1) (c := 2) (by unfold KN; omega) ?_ ?_, U⟩
                · rw [arN, if_neg (by omega), if_neg (by omega), if_neg (by omega), if_neg (by omega), if_neg (by omega), if_neg (by omega), if_neg (by omega), if_neg (by omega), if_neg (by omega), if_neg (by omega), if_neg (by omega), if_neg (by omega), if_neg (by omega), if_neg (by omega)]
                · rw [sgN, if_neg (by omega), if_neg (by omega), if_neg (by omega), if_neg (by omega), if_neg (by omega), if_neg (by omega), if_pos (by omega)]
              · skip
                simp only [Bool.and_eq_true, Bool.or_eq_true, Bool.and_eq_false_imp, Bool.or_eq_false_iff, decide_eq_true_eq, decide_eq_false_iff_not] at cB7
                refine c_seq (fun K30 hK30 => ?_)
                refine c_region ?_
                refine l_step (y_eql (et (gS rfl (gS rfl g0)) rfl) rfl) ?_
                refine l_step (y_assignV (et g0 rfl)) ?_
                refine l_nil ?_
                refine hK30 _ _ ?_
                refine fg2 54 59 (gS rfl (gS rfl (gS rfl (gS rfl g0)))) g0 (fun g => ?_)
                refine c_condV (i := 59) g0 rfl (fun cB8 => ?_) (fun cB8 => ?_)
                · skip
                  simp only [Bool.and_eq_true, Bool.or_eq_true, Bool.and_eq_false_imp, Bool.or_eq_false_iff, decide_eq_true_eq, decide_eq_false_iff_not] at cB8
                  refine c_skip ?_
                  refine hK25 _ _ ?_
                  refine fg2 54 59 (gS rfl (gS rfl g0)) g0 (fun g => ?_)
                  refine c_true (et g0 rfl) rfl ?_
                  refine c_seq (fun K33 hK33 => ?_)
                  refine c_region ?_
                  refine l_step y_assignC ?_
                  refine l_step y_assignC ?_
                  refine l_step y_assignC ?_
                  refine l_step y_assignC ?_
                  refine l_nil ?_
                  refine hK33 _ _ ?_
                  refine fg4 2 3 4 5 (gS rfl (gS rfl (gS rfl g0))) (gS rfl (gS rfl g0)) (gS rfl g0) g0 (fun g => ?_)
                  refine c_ret ?_
                  refine hQ18 _ _ _ (in_ret ?_)
                  refine ret4 rfl (res_tmp (et (gS rfl (gS rfl (gS rfl g0))) rfl)) (res_tmp (et (gS rfl (gS rfl g0)) rfl)) (res_tmp (et (gS rfl g0) rfl)) (res_tmp (et g0 rfl)) ?_
                  refine ⟨info_ret (a := 0) (b := 1) (c := 2) (by unfold KN; omega) ?_ ?_, U⟩
                  · rw [arN, if_neg (by omega), if_neg (by omega), if_neg (by omega), if_neg (by omega), if_neg (by omega), if_neg (by omega), if_neg (by omega), if_neg (by omega), if_neg (by omega), if_neg (by omega), if_neg (by omega), if_neg (by omega), if_neg (by omega), if_neg (by omega)]
                  · rw [sgN, if_neg (by omega), if_neg (by omega), if_neg (by omega), if_neg (by omega), if_neg (by omega), if_neg (by omega), if_pos (by omega)]
                · skip
                  simp only [Bool.and_eq_true, Bool.or_eq_true, Bool.and_eq_false_imp, Bool.or_eq_false_iff, decide_eq_true_eq, decide_eq_false_iff_not] at cB8
                  refine c_seq (fun K34 hK34 => ?_)
                  refine c_region ?_
                  refine l_step (y_eql (et (gS rfl (gS rfl g0)) rfl) rfl) ?_
                  refine l_step (y_assignV (et g0 rfl)) ?_
                  refine l_nil ?_
                  refine hK34 _ _ ?_
                  refine fg2 54 59 (gS rfl (gS rfl (gS rfl (gS rfl g0)))) g0 (fun g => ?_)
                  refine c_condV (i := 59) g0 rfl (fun cB9 => ?_) (fun cB9 => ?_)
                  · skip
                    simp only [Bool.and_eq_true, Bool.or_eq_true, Bool.and_eq_false_imp, Bool.or_eq_false_iff, decide_eq_true_eq, decide_eq_false_iff_not] at cB9
                    refine c_skip ?_
                    refine hK25 _ _ ?_
                    refine fg2 54 59 (gS rfl (gS rfl g0)) g0 (fun g => ?_)
                    refine c_true (et g0 rfl) rfl ?_
                    refine c_seq (fun K37 hK37 => ?_)
                    refine c_region ?_
                    refine l_step y_assignC ?_
                    refine l_step y_assignC ?_
                    refine l_step y_assignC ?_
                    refine l_step y_assignC ?_
                    refine l_nil ?_
                    refine hK37 _ _ ?_
                    refine fg4 2 3 4 5 (gS rfl (gS rfl (gS rfl g0))) (gS rfl (gS rfl g0)) (gS rfl g0) g0 (fun g => ?_)
                    refine c_ret ?_
                    refine hQ18 _ _ _ (in_ret ?_)
                    refine ret4 rfl (res_tmp (et (gS rfl (gS rfl (gS rfl g0))) rfl)) (res_tmp (et (gS rfl (gS rfl g0)) rfl)) (res_tmp (et (gS rfl g0) rfl)) (res_tmp (et g0 rfl)) ?_
                    refine ⟨info_ret (a := 0) (b := 1) (c := 2) (by unfold KN; omega) ?_ ?_, U⟩
                    · rw [arN, if_neg (by omega), if_neg (by omega), if_neg (by omega), if_neg (by omega), if_neg (by omega), if_neg (by omega), if_neg (by omega), if_neg (by omega), if_neg (by omega), if_neg (by omega), if_neg (by omega), if_neg (by omega), if_neg (by omega), if_neg (by omega)]
                    · rw [sgN, if_neg (by omega), if_neg (by omega), if_neg (by omega), if_neg (by omega), if_neg (by omega), if_neg (by omega), if_pos (by omega)]
                  · skip
                    simp only [Bool.and_eq_true, Bool.or_eq_true, Bool.and_eq_false_imp, Bool.or_eq_false_iff, decide_eq_true_eq, decide_eq_false_iff_not] at cB9
                    refine c_seq (fun K38 hK38 => ?_)
                    refine c_region ?_
                    refine l_step (y_eql (et (gS rfl (gS rfl g0)) rfl) rfl) ?_
                    refine l_step (y_assignV (et g0 rfl)) ?_
                    refine l_nil ?_
                    refine hK38 _ _ ?_
                    refine fg2 54 59 (gS rfl (gS rfl (gS rfl (gS rfl g0)))) g0 (fun g => ?_)
                    refine c_condV (i := 59) g0 rfl (fun cB10 => ?_) (fun cB10 => ?_)
                    · skip
                      simp only [Bool.and_eq_true, Bool.or_eq_true, Bool.and_eq_false_imp, Bool.or_eq_false_iff, decide_eq_true_eq, decide_eq_false_iff_not] at cB10
                      refine c_skip ?_
                      refine hK25 _ _ ?_
                      refine fg2 54 59 (gS rfl (gS rfl g0)) g0 (fun g => ?_)
                      refine c_true (et g0 rfl) rfl ?_
                      refine c_seq (fun K41 hK41 => ?_)
                      refine c_region ?_
                      refine l_step y_assignC ?_
                      refine l_step y_assignC ?_
                      refine l_step y_assignC ?_
                      refine l_step y_assignC ?_
                      refine l_nil ?_
                      refine hK41 _ _ ?_
                      refine fg4 2 3 4 5 (gS rfl (gS rfl (gS rfl g0))) (gS rfl (gS rfl g0)) (gS rfl g0) g0 (fun g => ?_)
                      refine c_ret ?_
                      refine hQ18 _ _ _ (in_ret ?_)
                      refine ret4 rfl (res_tmp (et (gS rfl (gS rfl (gS rfl g0))) rfl)) (res_tmp (et (gS rfl (gS rfl g0)) rfl)) (res_tmp (et (gS rfl g0) rfl)) (res_tmp (et g0 rfl)) ?_
                      refine ⟨info_ret (a := 0) (b := 1) (c := 2) (by unfold KN; omega) ?_ ?_, U⟩
                      · rw [arN, if_neg (by omega), if_neg (by omega), if_neg (by omega), if_neg (by omega), if_neg (by omega), if_neg (by omega), if_neg (by omega), if_neg (by omega), if_neg (by omega), if_neg (by omega), if_neg (by omega), if_neg (by omega), if_neg (by omega), if_neg (by omega)]
                      · rw [sgN, if_neg (by omega), if_neg (by omega), if_neg (by omega), if_neg (by omega), if_neg (by omega), if_neg (by omega), if_pos (by omega)]
                    · skip
                      simp only [Bool.and_eq_true, Bool.or_eq_true, Bool.and_eq_false_imp, Bool.or_eq_false_iff, decide_eq_true_eq, decide_eq_false_iff_not] at cB10
                      refine c_seq (fun K42 hK42 => ?_)
                      refine c_region ?_
                      refine l_step (y_eql (et (gS rfl (gS rfl g0)) rfl) rfl) ?_
                      refine l_step (y_assignV (et g0 rfl)) ?_
                      refine l_nil ?_
                      refine hK42 _ _ ?_
                      refine fg2 54 59 (gS rfl (gS rfl (gS rfl (gS rfl g0)))) g0 (fun g => ?_)
                      refine c_condV (i := 59) g0 rfl (fun cB11 => ?_) (fun cB11 => ?_)
                      · skip
                        simp only [Bool.and_eq_true, Bool.or_eq_true, Bool.and_eq_false_imp, Bool.or_eq_false_iff, decide_eq_true_eq, decide_eq_false_iff_not] at cB11
                        refine c_skip ?_
                        refine hK25 _ _ ?_
                        refine fg2 54 59 (gS rfl (gS rfl g0)) g0 (fun g => ?_)
                        refine c_true (et g0 rfl) rfl ?_
                        refine c_seq (fun K45 hK45 => ?_)
                        refine c_region ?_
                        refine l_step y_assignC ?_
                        refine l_step y_assignC ?_
                        refine l_step y_assignC ?_
                        refine l_step y_assignC ?_
                        refine l_nil ?_
                        refine hK45 _ _ ?_
                        refine fg4 2 3 4 5 (gS rfl (gS rfl (gS rfl g0))) (gS rfl (gS rfl g0)) (gS rfl g0) g0 (fun g => ?_)
                        refine c_ret ?_
                        refine hQ18 _ _ _ (in_ret ?_)
                        refine ret4 rfl (res_tmp (et (gS rfl (gS rfl (gS rfl g0))) rfl)) (res_tmp (et (gS rfl (gS rfl g0)) rfl)) (res_tmp (et (gS rfl g0) rfl)) (res_tmp (et g0 rfl)) ?_
                        refine ⟨info_ret (a := 0) (b := 1) (c := 2) (by unfold KN; omega) ?_ ?_, U⟩
                        · rw [arN, if_neg (by omega), if_neg (by omega), if_neg (by omega), if_neg (by omega), if_neg (by omega), if_neg (by omega), if_neg (by omega), if_neg (by omega), if_neg (by omega), if_neg (by omega), if_neg (by omega), if_neg (by omega), if_neg (by omega), if_neg (by omega)]
                        · rw [sgN, if_neg (by omega), if_neg (by omega), if_neg (by omega), if_neg (by omega), if_neg (by omega), if_neg (by omega), if_pos (by omega)]
                      · skip
                        simp only [Bool.and_eq_true, Bool.or_eq_true, Bool.and_eq_false_imp, Bool.or_eq_false_iff, decide_eq_true_eq, decide_eq_false_iff_not] at cB11
                        refine c_seq (fun K46 hK46 => ?_)
                        refine c_region ?_
                        refine l_step (y_eql (et (gS rfl (gS rfl g0)) rfl) rfl) ?_
                        refine l_step (y_assignV (et g0 rfl)) ?_
                        refine l_nil ?_
                        refine hK46 _ _ ?_
                        refine fg2 54 59 (gS rfl (gS rfl (gS rfl (gS rfl g0)))) g0 (fun g => ?_)
                        refine c_condV (i := 59) g0 rfl (fun cB12 => ?_) (fun cB12 => ?_)
                        · skip
                          simp only [Bool.and_eq_true, Bool.or_eq_true, Bool.and_eq_false_imp, Bool.or_eq_false_iff, decide_eq_true_eq, decide_eq_false_iff_not] at cB12
                          refine c_skip ?_
                          refine hK25 _ _ ?_
                          refine fg2 54 59 (gS rfl (gS rfl g0)) g0 (fun g => ?_)
                          refine c_true (et g0 rfl) rfl ?_
                          refine c_seq (fun K49 hK49 => ?_)
                          refine c_region ?_
                          refine l_step y_assignC ?_
                          refine l_step y_assignC ?_
                          refine l_step y_assignC ?_
                          refine l_step y_assignC ?_
                          refine l_nil ?_
                          refine hK49 _ _ ?_
                          refine fg4 2 3 4 5 (gS rfl (gS rfl (gS rfl g0))) (gS rfl (gS rfl g0)) (gS rfl g0) g0 (fun g => ?_)
                          refine c_ret ?_
                          refine hQ18 _ _ _ (in_ret ?_)
                          refine ret4 rfl (res_tmp (et (gS rfl (gS rfl (gS rfl g0))) rfl)) (res_tmp (et (gS rfl (gS rfl g0)) rfl)) (res_tmp (et (gS rfl g0) rfl)) (res_tmp (et g0 rfl)) ?_
                          refine ⟨info_ret (a := 0) (b := 1) (c := 2) (by unfold KN; omega) ?_ ?_, U⟩
                          · rw [arN, if_neg (by omega), if_neg (by omega), if_neg (by omega), if_neg (by omega), if_neg (by omega), if_neg (by omega), if_neg (by omega), if_neg (by omega), if_neg (by omega), if_neg (by omega), if_neg (by omega), if_neg (by omega), if_neg (by omega), if_neg (by omega)]
                          · rw [sgN, if_neg (by omega), if_neg (by omega), if_neg (by omega), if_neg (by omega), if_neg (by omega), if_neg (by omega), if_pos (by omega)]
                        · skip
                          simp only [Bool.and_eq_true, Bool.or_eq_true, Bool.and_eq_false_imp, Bool.or_eq_false_iff, decide_eq_true_eq, decide_eq_false_iff_not] at cB12
                          refine c_seq (fun K50 hK50 => ?_)
                          refine c_region ?_
                          refine l_step (y_eql (et (gS rfl (gS rfl g0)) rfl) rfl) ?_
                          refine l_step (y_assignV (et g0 rfl)) ?_
                          refine l_nil ?_
                          refine hK50 _ _ ?_
                          refine fg2 54 59 (gS rfl (gS rfl (gS rfl (gS rfl g0)))) g0 (fun g => ?_)
                          refine c_condV (i := 59) g0 rfl (fun cB13 => ?_) (fun cB13 => ?_)
                          · skip
                            simp only [Bool.and_eq_true, Bool.or_eq_true, Bool.and_eq_false_imp, Bool.or_eq_false_iff, decide_eq_true_eq, decide_eq_false_iff_not] at cB13
                            refine c_skip ?_
                            refine hK25 _ _ ?_
                            refine fg2 54 59 (gS rfl (gS rfl g0)) g0 (fun g => ?_)
                            refine c_true (et g0 rfl) rfl ?_
                            refine c_seq (fun K53 hK53 => ?_)
                            refine c_region ?_
                            refine l_step y_assignC ?_
                            refine l_step y_assignC ?_
                            refine l_step y_assignC ?_
                            refine l_step y_assignC ?_
                            refine l_nil ?_
                            refine hK53 _ _ ?_
                            refine fg4 2 3 4 5 (gS rfl (gS rfl (gS rfl g0))) (gS rfl (gS rfl g0)) (gS rfl g0) g0 (fun g => ?_)
                            refine c_ret ?_
                            refine hQ18 _ _ _ (in_ret ?_)
                            refine ret4 rfl (res_tmp (et (gS rfl (gS rfl (gS rfl g0))) rfl)) (res_tmp (et (gS rfl (gS rfl g0)) rfl)) (res_tmp (et (gS rfl g0) rfl)) (res_tmp (et g0 rfl)) ?_
                            refine ⟨info_ret (a := 0) (b := 1) (c := 2) (by unfold KN; omega) ?_ ?_, U⟩
                            · rw [arN, if_neg (by omega), if_neg (by omega), if_neg (by omega), if_neg (by omega), if_neg (by omega), if_neg (by omega), if_neg (by omega), if_neg (by omega), if_neg (by omega), if_neg (by omega), if_neg (by omega), if_neg (by omega), if_neg (by omega), if_neg (by omega)]
                            · rw [sgN, if_neg (by omega), if_neg (by omega), if_neg (by omega), if_neg (by omega), if_neg (by omega), if_neg (by omega), if_pos (by omega)]
                          · skip
                            simp only [Bool.and_eq_true, Bool.or_eq_true, Bool.and_eq_false_imp, Bool.or_eq_false_iff, decide_eq_true_eq, decide_eq_false_iff_not] at cB13
                            refine c_seq (fun K54 hK54 => ?_)
                            refine c_region ?_
                            refine l_step (y_eql (et (gS rfl (gS rfl g0)) rfl) rfl) ?_
                            refine l_step (y_assignV (et g0 rfl)) ?_
                            refine l_nil ?_
                            refine hK54 _ _ ?_
                            refine fg2 54 59 (gS rfl (gS rfl (gS rfl (gS rfl g0)))) g0 (fun g => ?_)
                            refine c_condV (i := 59) g0 rfl (fun cB14 => ?_) (fun cB14 => ?_)
                            · skip
                              simp only [Bool.and_eq_true, Bool.or_eq_true, Bool.and_eq_false_imp, Bool.or_eq_false_iff, decide_eq_true_eq, decide_eq_false_iff_not] at cB14
                              refine c_skip ?_
                              refine hK25 _ _ ?_
                              refine fg2 54 59 (gS rfl (gS rfl g0)) g0 (fun g => ?_)
                              refine c_true (et g0 rfl) rfl ?_
                              refine c_seq (fun K57 hK57 => ?_)
                              refine c_region ?_
                              refine l_step y_assignC ?_
                              refine l_step y_assignC ?_
                              refine l_step y_assignC ?_
                              refine l_step y_assignC ?_
                              refine l_nil ?_
                              refine hK57 _ _ ?_
                              refine fg4 2 3 4 5 (gS rfl (gS rfl (gS rfl g0))) (gS rfl (gS rfl g0)) (gS rfl g0) g0 (fun g => ?_)
                              refine c_ret ?_
                              refine hQ18 _ _ _ (in_ret ?_)
                              refine ret4 rfl (res_tmp (et (gS rfl (gS rfl (gS rfl g0))) rfl)) (res_tmp (et (gS rfl (gS rfl g0)) rfl)) (res_tmp (et (gS rfl g0) rfl)) (res_tmp (et g0 rfl)) ?_
                              refine ⟨info_ret (a := 0) (b := 1) (c := 2) (by unfold KN; omega) ?_ ?_, U⟩
                              · rw [arN, if_neg (by omega), if_neg (by omega), if_neg (by omega), if_neg (by omega), if_neg (by omega), if_neg (by omega), if_neg (by omega), if_neg (by omega), if_neg (by omega), if_neg (by omega), if_neg (by omega), if_neg (by omega), if_neg (by omega), if_neg (by omega)]
                              · rw [sgN, if_neg (by omega), if_neg (by omega), if_neg (by omega), if_neg (by omega), if_neg (by omega), if_neg (by omega), if_pos (by omega)]
                            · skip
                              simp only [Bool.and_eq_true, Bool.or_eq_true, Bool.and_eq_false_imp, Bool.or_eq_false_iff, decide_eq_true_eq, decide_eq_false_iff_not] at cB14
                              refine c_seq (fun K58 hK58 => ?_)
                              refine c_region ?_
                              refine l_step (y_eql (et (gS rfl (gS rfl g0)) rfl) rfl) ?_
                              refine l_step (y_assignV (et g0 rfl)) ?_
                              refine l_nil ?_
                              refine hK58 _ _ ?_
                              refine fg2 54 59 (gS rfl (gS rfl (gS rfl (gS rfl g0)))) g0 (fun g => ?_)
                              refine c_condV (i := 59) g0 rfl (fun cB15 => ?_) (fun cB15 => ?_)
                              · skip
                                simp only [Bool.and_eq_true, Bool.or_eq_true, Bool.and_eq_false_imp, Bool.or_eq_false_iff, decide_eq_true_eq, decide_eq_false_iff_not] at cB15
                                refine c_skip ?_
                                refine hK25 _ _ ?_
                                refine fg2 54 59 (gS rfl (gS rfl g0)) g0 (fun g => ?_)
                                refine c_true (et g0 rfl) rfl ?_
                                refine c_seq (fun K61 hK61 => ?_)
                                refine c_region ?_
                                refine l_step y_assignC ?_
                                refine l_step y_assignC ?_
                                refine l_step y_assignC ?_
                                refine l_step y_assignC ?_
                                refine l_nil ?_
                                refine hK61 _ _ ?_
                                refine fg4 2 3 4 5 (gS rfl (gS rfl (gS rfl g0))) (gS rfl (gS rfl g0)) (gS rfl g0) g0 (fun g => ?_)
                                refine c_ret ?_
                                refine hQ18 _ _ _ (in_ret ?_)
                                refine ret4 rfl (res_tmp (et (gS rfl (gS rfl (gS rfl g0))) rfl)) (res_tmp (et (gS rfl (gS rfl g0)) rfl)) (res_tmp (et (gS rfl g0) rfl)) (res_tmp (et g0 rfl)) ?_
                                refine ⟨info_ret (a := 0) (b := 1) (c := 2) (by unfold KN; omega) ?_ ?_, U⟩
                                · rw [arN, if_neg (by omega), if_neg (by omega), if_neg (by omega), if_neg (by omega), if_neg (by omega), if_neg (by omega), if_neg (by omega), if_neg (by omega), if_neg (by omega), if_neg (by omega), if_neg (by omega), if_neg (by omega), if_neg (by omega), if_neg (by omega)]
                                · rw [sgN, if_neg (by omega), if_neg (by omega), if_neg (by omega), if_neg (by omega), if_neg (by omega), if_neg (by omega), if_pos (by omega)]
                              · skip
                                simp only [Bool.and_eq_true, Bool.or_eq_true, Bool.and_eq_false_imp, Bool.or_eq_false_iff, decide_eq_true_eq, decide_eq_false_iff_not] at cB15
                                refine c_seq (fun K62 hK62 => ?_)
                                refine c_region ?_
                                refine l_step (y_eql (et (gS rfl (gS rfl g0)) rfl) rfl) ?_
                                refine l_step (y_assignV (et g0 rfl)) ?_
                                refine l_nil ?_
                                refine hK62 _ _ ?_
                                refine fg2 54 59 (gS rfl (gS rfl (gS rfl (gS rfl g0)))) g0 (fun g => ?_)
                                refine c_condV (i := 59) g0 rfl (fun cB16 => ?_) (fun cB16 => ?_)
                                · skip
                                  simp only [Bool.and_eq_true, Bool.or_eq_true, Bool.and_eq_false_imp, Bool.or_eq_false_iff, decide_eq_true_eq, decide_eq_false_iff_not] at cB16
                                  refine c_skip ?_
                                  refine hK25 _ _ ?_
                                  refine fg2 54 59 (gS rfl (gS rfl g0)) g0 (fun g => ?_)
                                  refine c_true (et g0 rfl) rfl ?_
                                  refine c_seq (fun K65 hK65 => ?_)
                                  refine c_region ?_
                                  refine l_step y_assignC ?_
                                  refine l_step y_assignC ?_
                                  refine l_step y_assignC ?_
                                  refine l_step y_assignC ?_
                                  refine l_nil ?_
                                  refine hK65 _ _ ?_
                                  refine fg4 2 3 4 5 (gS rfl (gS rfl (gS rfl g0))) (gS rfl (gS rfl g0)) (gS rfl g0) g0 (fun g => ?_)
                                  refine c_ret ?_
                                  refine hQ18 _ _ _ (in_ret ?_)
                                  refine ret4 rfl (res_tmp (et (gS rfl (gS rfl (gS rfl g0))) rfl)) (res_tmp (et (gS rfl (gS rfl g0)) rfl)) (res_tmp (et (gS rfl g0) rfl)) (res_tmp (et g0 rfl)) ?_
                                  refine ⟨info_ret (a := 0) (b := 1) (c := 2) (by unfold KN; omega) ?_ ?_, U⟩
                                  · rw [arN, if_neg (by omega), if_neg (by omega), if_neg (by omega), if_neg (by omega), if_neg (by omega), if_neg (by omega), if_neg (by omega), if_neg (by omega), if_neg (by omega), if_neg (by omega), if_neg (by omega), if_neg (by omega), if_neg (by omega), if_neg (by omega)]
                                  · rw [sgN, if_neg (by omega), if_neg (by omega), if_neg (by omega), if_neg (by omega), if_neg (by omega), if_neg (by omega), if_pos (by omega)]
                                · skip
                                  simp only [Bool.and_eq_true, Bool.or_eq_true, Bool.and_eq_false_imp, Bool.or_eq_false_iff, decide_eq_true_eq, decide_eq_false_iff_not] at cB16
                                  refine c_seq (fun K66 hK66 => ?_)
                                  refine c_region ?_
                                  refine l_step (y_eql (et (gS rfl (gS rfl g0)) rfl) rfl) ?_
                                  refine l_step (y_assignV (et g0 rfl)) ?_
                                  refine l_nil ?_
                                  refine hK66 _ _ ?_
                                  refine fg2 54 59 (gS rfl (gS rfl (gS rfl (gS rfl g0)))) g0 (fun g => ?_)
                                  refine c_condV (i := 59) g0 rfl (fun cB17 => ?_) (fun cB17 => ?_)
                                  · skip
                                    simp only [Bool.and_eq_true, Bool.or_eq_true, Bool.and_eq_false_imp, Bool.or_eq_false_iff, decide_eq_true_eq, decide_eq_false_iff_not] at cB17
                                    refine c_skip ?_
                                    refine hK25 _ _ ?_
                                    refine fg2 54 59 (gS rfl (gS rfl g0)) g0 (fun g => ?_)
                                    refine c_true (et g0 rfl) rfl ?_
                                    refine c_seq (fun K69 hK69 => ?_)
                                    refine c_region ?_
                                    refine l_step y_assignC ?_
                                    refine l_step y_assignC ?_
                                    refine l_step y_assignC ?_
                                    refine l_step y_assignC ?_
                                    refine l_nil ?_
                                    refine hK69 _ _ ?_
                                    refine fg4 2 3 4 5 (gS rfl (gS rfl (gS rfl g0))) (gS rfl (gS rfl g0)) (gS rfl g0) g0 (fun g => ?_)
                                    refine c_ret ?_
                                    refine hQ18 _ _ _ (in_ret ?_)
                                    refine ret4 rfl (res_tmp (et (gS rfl (gS rfl (gS rfl g0))) rfl)) (res_tmp (et (gS rfl (gS rfl g0)) rfl)) (res_tmp (et (gS rfl g0) rfl)) (res_tmp (et g0 rfl)) ?_
                                    refine ⟨info_ret (a := 0) (b := 1) (c := 2) (by unfold KN; omega) ?_ ?_, U⟩
                                    · rw [arN, if_neg (by omega), if_neg (by omega), if_neg (by omega), if_neg (by omega), if_neg (by omega), if_neg (by omega), if_neg (by omega), if_neg (by omega), if_neg (by omega), if_neg (by omega), if_neg (by omega), if_neg (by omega), if_neg (by omega), if_neg (by omega)]
                                    · rw [sgN, if_neg (by omega), if_neg (by omega), if_neg (by omega), if_neg (by omega), if_neg (by omega), if_neg (by omega), if_pos (by omega)]
                                  · skip
                                    simp only [Bool.and_eq_true, Bool.or_eq_true, Bool.and_eq_false_imp, Bool.or_eq_false_iff, decide_eq_true_eq, decide_eq_false_iff_not] at cB17
                                    refine c_seq (fun K70 hK70 => ?_)
                                    refine c_region ?_
                                    refine l_step (y_eql (et (gS rfl (gS rfl g0)) rfl) rfl) ?_
                                    refine l_step (y_assignV (et g0 rfl)) ?_
                                    refine l_nil ?_
                                    refine hK70 _ _ ?_
                                    refine fg2 54 59 (gS rfl (gS rfl (gS rfl (gS rfl g0)))) g0 (fun g => ?_)
                                    refine c_condV (i := 59) g0 rfl (fun cB18 => ?_) (fun cB18 => ?_)
                                    · skip
                                      simp only [Bool.and_eq_true, Bool.or_eq_true, Bool.and_eq_false_imp, Bool.or_eq_false_iff, decide_eq_true_eq, decide_eq_false_iff_not] at cB18
                                      refine c_skip ?_
                                      refine hK25 _ _ ?_
                                      refine fg2 54 59 (gS rfl (gS rfl g0)) g0 (fun g => ?_)
                                      refine c_true (et g0 rfl) rfl ?_
                                      refine c_seq (fun K73 hK73 => ?_)
                                      refine c_region ?_
                                      refine l_step y_assignC ?_
                                      refine l_step y_assignC ?_
                                      refine l_step y_assignC ?_
                                      refine l_step y_assignC ?_
                                      refine l_nil ?_
                                      refine hK73 _ _ ?_
                                      refine fg4 2 3 4 5 (gS rfl (gS rfl (gS rfl g0))) (gS rfl (gS rfl g0)) (gS rfl g0) g0 (fun g => ?_)
                                      refine c_ret ?_
                                      refine hQ18 _ _ _ (in_ret ?_)
                                      refine ret4 rfl (res_tmp (et (gS rfl (gS rfl (gS rfl g0))) rfl)) (res_tmp (et (gS rfl (gS rfl g0)) rfl)) (res_tmp (et (gS rfl g0) rfl)) (res_tmp (et g0 rfl)) ?_
                                      refine ⟨info_ret (a := 0) (b := 1) (c := 2) (by unfold KN; omega) ?_ ?_, U⟩
                                      · rw [arN, if_neg (by omega), if_neg (by omega), if_neg (by omega), if_neg (by omega), if_neg (by omega), if_neg (by omega), if_neg (by omega), if_neg (by omega), if_neg (by omega), if_neg (by omega), if_neg (by omega), if_neg (by omega), if_neg (by omega), if_neg (by omega)]
                                      · rw [sgN, if_neg (by omega), if_neg (by omega), if_neg (by omega), if_neg (by omega), if_neg (by omega), if_neg (by omega), if_pos (by omega)]
                                    · skip
                                      simp only [Bool.and_eq_true, Bool.or_eq_true, Bool.and_eq_false_imp, Bool.or_eq_false_iff, decide_eq_true_eq, decide_eq_false_iff_not] at cB18
                                      refine c_seq (fun K74 hK74 => ?_)
                                      refine c_region ?_
                                      refine l_step (y_eql (et (gS rfl (gS rfl g0)) rfl) rfl) ?_
                                      refine l_step (y_assignV (et g0 rfl)) ?_
                                      refine l_nil ?_
                                      refine hK74 _ _ ?_
                                      refine fg2 54 59 (gS rfl (gS rfl (gS rfl (gS rfl g0)))) g0 (fun g => ?_)
                                      refine c_condV (i := 59) g0 rfl (fun cB19 => ?_) (fun cB19 => ?_)
                                      · skip
                                        simp only [Bool.and_eq_true, Bool.or_eq_true, Bool.and_eq_false_imp, Bool.or_eq_false_iff, decide_eq_true_eq, decide_eq_false_iff_not] at cB19
                                        refine c_skip ?_
                                        refine hK25 _ _ ?_
                                        refine fg2 54 59 (gS rfl (gS rfl g0)) g0 (fun g => ?_)
                                        refine c_true (et g0 rfl) rfl ?_
                                        refine c_seq (fun K77 hK77 => ?_)
                                        refine c_region ?_
                                        refine l_step y_assignC ?_
                                        refine l_step y_assignC ?_
                                        refine l_step y_assignC ?_
                                        refine l_step y_assignC ?_
                                        refine l_nil ?_
                                        refine hK77 _ _ ?_
                                        refine fg4 2 3 4 5 (gS rfl (gS rfl (gS rfl g0))) (gS rfl (gS rfl g0)) (gS rfl g0) g0 (fun g => ?_)
                                        refine c_ret ?_
                                        refine hQ18 _ _ _ (in_ret ?_)
                                        refine ret4 rfl (res_tmp (et (gS rfl (gS rfl (gS rfl g0))) rfl)) (res_tmp (et (gS rfl (gS rfl g0)) rfl)) (res_tmp (et (gS rfl g0) rfl)) (res_tmp (et g0 rfl)) ?_
                                        refine ⟨info_ret (a := 0) (b := 1) (c := 2) (by unfold KN; omega) ?_ ?_, U⟩
                                        · rw [arN, if_neg (by omega), if_neg (by omega), if_neg (by omega), if_neg (by omega), if_neg (by omega), if_neg (by omega), if_neg (by omega), if_neg (by omega), if_neg (by omega), if_neg (by omega), if_neg (by omega), if_neg (by omega), if_neg (by omega), if_neg (by omega)]
                                        · rw [sgN, if_neg (by omega), if_neg (by omega), if_neg (by omega), if_neg (by omega), if_neg (by omega), if_neg (by omega), if_pos (by omega)]
                                      · skip
                                        simp only [Bool.and_eq_true, Bool.or_eq_true, Bool.and_eq_false_imp, Bool.or_eq_false_iff, decide_eq_true_eq, decide_eq_false_iff_not] at cB19
                                        refine c_seq (fun K78 hK78 => ?_)
                                        refine c_region ?_
                                        refine l_step (y_eql (et (gS rfl (gS rfl g0)) rfl) rfl) ?_
                                        refine l_step (y_assignV (et g0 rfl)) ?_
                                        refine l_nil ?_
                                        refine hK78 _ _ ?_
                                        refine fg2 54 59 (gS rfl (gS rfl (gS rfl (gS rfl g0)))) g0 (fun g => ?_)
                                        refine c_condV (i := 59) g0 rfl (fun cB20 => ?_) (fun cB20 => ?_)
                                        · skip
                                          simp only [Bool.and_eq_true, Bool.or_eq_true, Bool.and_eq_false_imp, Bool.or_eq_false_iff, decide_eq_true_eq, decide_eq_false_iff_not] at cB20
                                          refine c_skip ?_
                                          refine hK25 _ _ ?_
                                          refine fg2 54 59 (gS rfl (gS rfl g0)) g0 (fun g => ?_)
                                          refine c_true (et g0 rfl) rfl ?_
                                          refine c_seq (fun K81 hK81 => ?_)
                                          refine c_region ?_
                                          refine l_step y_assignC ?_
                                          refine l_step y_assignC ?_
                                          refine l_step y_assignC ?_
                                          refine l_step y_assignC ?_
                                          refine l_nil ?_
                                          refine hK81 _ _ ?_
                                          refine fg4 2 3 4 5 (gS rfl (gS rfl (gS rfl g0))) (gS rfl (gS rfl g0)) (gS rfl g0) g0 (fun g => ?_)
                                          refine c_ret ?_
                                          refine hQ18 _ _ _ (in_ret ?_)
                                          refine ret4 rfl (res_tmp (et (gS rfl (gS rfl (gS rfl g0))) rfl)) (res_tmp (et (gS rfl (gS rfl g0)) rfl)) (res_tmp (et (gS rfl g0) rfl)) (res_tmp (et g0 rfl)) ?_
                                          refine ⟨info_ret (a := 0) (b := 1) (c := 2) (by unfold KN; omega) ?_ ?_, U⟩
                                          · rw [arN, if_neg (by omega), if_neg (by omega), if_neg (by omega), if_neg (by omega), if_neg (by omega), if_neg (by omega), if_neg (by omega), if_neg (by omega), if_neg (by omega), if_neg (by omega), if_neg (by omega), if_neg (by omega), if_neg (by omega), if_neg (by omega)]
                                          · rw [sgN, if_neg (by omega), if_neg (by omega), if_neg (by omega), if_neg (by omega), if_neg (by omega), if_neg (by omega), if_pos (by omega)]
                                        · skip
                                          simp only [Bool.and_eq_true, Bool.or_eq_true, Bool.and_eq_false_imp, Bool.or_eq_false_iff, decide_eq_true_eq, decide_eq_false_iff_not] at cB20
                                          refine c_seq (fun K82 hK82 => ?_)
                                          refine c_region ?_
                                          refine l_step (y_eql (et (gS rfl (gS rfl g0)) rfl) rfl) ?_
                                          refine l_step (y_assignV (et g0 rfl)) ?_
                                          refine l_nil ?_
                                          refine hK82 _ _ ?_
                                          refine fg2 54 59 (gS rfl (gS rfl (gS rfl (gS rfl g0)))) g0 (fun g => ?_)
                                          refine c_condV (i := 59) g0 rfl (fun cB21 => ?_) (fun cB21 => ?_)
                                          · skip
                                            simp only [Bool.and_eq_true, Bool.or_eq_true, Bool.and_eq_false_imp, Bool.or_eq_false_iff, decide_eq_true_eq, decide_eq_false_iff_not] at cB21
                                            refine c_skip ?_
                                            refine hK25 _ _ ?_
                                            refine fg2 54 59 (gS rfl (gS rfl g0)) g0 (fun g => ?_)
                                            refine c_true (et g0 rfl) rfl ?_
                                            refine c_seq (fun K85 hK85 => ?_)
                                            refine c_region ?_
                                            refine l_step y_assignC ?_
                                            refine l_step y_assignC ?_
                                            refine l_step y_assignC ?_
                                            refine l_step y_assignC ?_
                                            refine l_nil ?_
                                            refine hK85 _ _ ?_
                                            refine fg4 2 3 4 5 (gS rfl (gS rfl (gS rfl g0))) (gS rfl (gS rfl g0)) (gS rfl g0) g0 (fun g => ?_)
                                            refine c_ret ?_
                                            refine hQ18 _ _ _ (in_ret ?_)
                                            refine ret4 rfl (res_tmp (et (gS rfl (gS rfl (gS rfl g0))) rfl)) (res_tmp (et (gS rfl (gS rfl g0)) rfl)) (res_tmp (et (gS rfl g0) rfl)) (res_tmp (et g0 rfl)) ?_
                                            refine ⟨info_ret (a := 0) (b := 1) (c := 2) (by unfold KN; omega) ?_ ?_, U⟩
                                            · rw [arN, if_neg (by omega), if_neg (by omega), if_neg (by omega), if_neg (by omega), if_neg (by omega), if_neg (by omega), if_neg (by omega), if_neg (by omega), if_neg (by omega), if_neg (by omega), if_neg (by omega), if_neg (by omega), if_neg (by omega), if_neg (by omega)]
                                            · rw [sgN, if_neg (by omega), if_neg (by omega), if_neg (by omega), if_neg (by omega), if_neg (by omega), if_neg (by omega), if_pos (by omega)]
                                          · skip
                                            simp only [Bool.and_eq_true, Bool.or_eq_true, Bool.and_eq_false_imp, Bool.or_eq_false_iff, decide_eq_true_eq, decide_eq_false_iff_not] at cB21
                                            refine c_seq (fun K86 hK86 => ?_)
                                            refine c_region ?_
                                            refine l_step (y_eql (et (gS rfl (gS rfl g0)) rfl) rfl) ?_
                                            refine l_step (y_assignV (et g0 rfl)) ?_
                                            refine l_nil ?_
                                            refine hK86 _ _ ?_
                                            refine fg2 54 59 (gS rfl (gS rfl (gS rfl (gS rfl g0)))) g0 (fun g => ?_)
                                            refine c_condV (i := 59) g0 rfl (fun cB22 => ?_) (fun cB22 => ?_)
                                            · skip
                                              simp only [Bool.and_eq_true, Bool.or_eq_true, Bool.and_eq_false_imp, Bool.or_eq_false_iff, decide_eq_true_eq, decide_eq_false_iff_not] at cB22
                                              refine c_skip ?_
                                              refine hK25 _ _ ?_
                                              refine fg2 54 59 (gS rfl (gS rfl g0)) g0 (fun g => ?_)
                                              refine c_true (et g0 rfl) rfl ?_
                                              refine c_seq (fun K89 hK89 => ?_)
                                              refine c_region ?_
                                              refine l_step y_assignC ?_
                                              refine l_step y_assignC ?_
                                              refine l_step y_assignC ?_
                                              refine l_step y_assignC ?_
                                              refine l_nil ?_
                                              refine hK89 _ _ ?_
                                              refine fg4 2 3 4 5 (gS rfl (gS rfl (gS rfl g0))) (gS rfl (gS rfl g0)) (gS rfl g0) g0 (fun g => ?_)
                                              refine c_ret ?_
                                              refine hQ18 _ _ _ (in_ret ?_)
                                              refine ret4 rfl (res_tmp (et (gS rfl (gS rfl (gS rfl g0))) rfl)) (res_tmp (et (gS rfl (gS rfl g0)) rfl)) (res_tmp (et (gS rfl g0) rfl)) (res_tmp (et g0 rfl)) ?_
                                              refine ⟨info_ret (a := 0) (b := 1) (c := 2) (by unfold KN; omega) ?_ ?_, U⟩
                                              · rw [arN, if_neg (by omega), if_neg (by omega), if_neg (by omega), if_neg (by omega), if_neg (by omega), if_neg (by omega), if_neg (by omega), if_neg (by omega), if_neg (by omega), if_neg (by omega), if_neg (by omega), if_neg (by omega), if_neg (by omega), if_neg (by omega)]
                                              · rw [sgN, if_neg (by omega), if_neg (by omega), if_neg (by omega), if_neg (by omega), if_neg (by omega), if_neg (by omega), if_pos (by omega)]
                                            · skip
                                              simp only [Bool.and_eq_true, Bool.or_eq_true, Bool.and_eq_false_imp, Bool.or_eq_false_iff, decide_eq_true_eq, decide_eq_false_iff_not] at cB22
                                              refine c_seq (fun K90 hK90 => ?_)
                                              refine c_region ?_
                                              refine l_step (y_eql (et (gS rfl (gS rfl g0)) rfl) rfl) ?_
                                              refine l_step (y_assignV (et g0 rfl)) ?_
                                              refine l_nil ?_
                                              refine hK90 _ _ ?_
                                              refine fg2 54 59 (gS rfl (gS rfl (gS rfl (gS rfl g0)))) g0 (fun g => ?_)
                                              refine c_condV (i := 59) g0 rfl (fun cB23 => ?_) (fun cB23 => ?_)
                                              · skip
                                                simp only [Bool.and_eq_true, Bool.or_eq_true, Bool.and_eq_false_imp, Bool.or_eq_false_iff, decide_eq_true_eq, decide_eq_false_iff_not] at cB23
                                                refine c_skip ?_
                                                refine hK25 _ _ ?_
                                                refine fg2 54 59 (gS rfl (gS rfl g0)) g0 (fun g => ?_)
                                                refine c_true (et g0 rfl) rfl ?_
                                                refine c_seq (fun K93 hK93 => ?_)
                                                refine c_region ?_
                                                refine l_step y_assignC ?_
                                                refine l_step y_assignC ?_
                                                refine l_step y_assignC ?_
                                                refine l_step y_assignC ?_
                                                refine l_nil ?_
                                                refine hK93 _ _ ?_
                                                refine fg4 2 3 4 5 (gS rfl (gS rfl (gS rfl g0))) (gS rfl (gS rfl g0)) (gS rfl g0) g0 (fun g => ?_)
                                                refine c_ret ?_
                                                refine hQ18 _ _ _ (in_ret ?_)
                                                refine ret4 rfl (res_tmp (et (gS rfl (gS rfl (gS rfl g0))) rfl)) (res_tmp (et (gS rfl (gS rfl g0)) rfl)) (res_tmp (et (gS rfl g0) rfl)) (res_tmp (et g0 rfl)) ?_
                                                refine ⟨info_ret (a := 0) (b := 1) (c := 2) (by unfold KN; omega) ?_ ?_, U⟩
                                                · rw [arN, if_neg (by omega), if_neg (by omega), if_neg (by omega), if_neg (by omega), if_neg (by omega), if_neg (by omega), if_neg (by omega), if_neg (by omega), if_neg (by omega), if_neg (by omega), if_neg (by omega), if_neg (by omega), if_neg (by omega), if_neg (by omega)]
                                                · rw [sgN, if_neg (by omega), if_neg (by omega), if_neg (by omega), if_neg (by omega), if_neg (by omega), if_neg (by omega), if_pos (by omega)]
                                              · skip
                                                simp only [Bool.and_eq_true, Bool.or_eq_true, Bool.and_eq_false_imp, Bool.or_eq_false_iff, decide_eq_true_eq, decide_eq_false_iff_not] at cB23
                                                refine c_seq (fun K94 hK94 => ?_)
                                                refine c_region ?_
                                                refine l_step (y_eql (et (gS rfl (gS rfl g0)) rfl) rfl) ?_
                                                refine l_step (y_assignV (et g0 rfl)) ?_
                                                refine l_nil ?_
                                                refine hK94 _ _ ?_
                                                refine fg2 54 59 (gS rfl (gS rfl (gS rfl (gS rfl g0)))) g0 (fun g => ?_)
                                                refine c_condV (i := 59) g0 rfl (fun cB24 => ?_) (fun cB24 => ?_)
                                                · skip
                                                  simp only [Bool.and_eq_true, Bool.or_eq_true, Bool.and_eq_false_imp, Bool.or_eq_false_iff, decide_eq_true_eq, decide_eq_false_iff_not] at cB24
                                                  refine c_skip ?_
                                                  refine hK25 _ _ ?_
                                                  refine fg2 54 59 (gS rfl (gS rfl g0)) g0 (fun g => ?_)
                                                  refine c_true (et g0 rfl) rfl ?_
                                                  refine c_seq (fun K97 hK97 => ?_)
                                                  refine c_region ?_
                                                  refine l_step y_assignC ?_
                                                  refine l_step y_assignC ?_
                                                  refine l_step y_assignC ?_
                                                  refine l_step y_assignC ?_
                                                  refine l_nil ?_
                                                  refine hK97 _ _ ?_
                                                  refine fg4 2 3 4 5 (gS rfl (gS rfl (gS rfl g0))) (gS rfl (gS rfl g0)) (gS rfl g0) g0 (fun g => ?_)
                                                  refine c_ret ?_
                                                  refine hQ18 _ _ _ (in_ret ?_)
                                                  refine ret4 rfl (res_tmp (et (gS rfl (gS rfl (gS rfl g0))) rfl)) (res_tmp (et (gS rfl (gS rfl g0)) rfl)) (res_tmp (et (gS rfl g0) rfl)) (res_tmp (et g0 rfl)) ?_
                                                  refine ⟨info_ret (a := 0) (b := 1) (c := 2) (by unfold KN; omega) ?_ ?_, U⟩
                                                  · rw [arN, if_neg (by omega), if_neg (by omega), if_neg (by omega), if_neg (by omega), if_neg (by omega), if_neg (by omega), if_neg (by omega), if_neg (by omega), if_neg (by omega), if_neg (by omega), if_neg (by omega), if_neg (by omega), if_neg (by omega), if_neg (by omega)]
                                                  · rw [sgN, if_neg (by omega), if_neg (by omega), if_neg (by omega), if_neg (by omega), if_neg (by omega), if_neg (by omega), if_pos (by omega)]
                                                · skip
                                                  simp only [Bool.and_eq_true, Bool.or_eq_true, Bool.and_eq_false_imp, Bool.or_eq_false_iff, decide_eq_true_eq, decide_eq_false_iff_not] at cB24
                                                  refine c_region ?_
                                                  refine l_step (y_eql (et (gS rfl (gS rfl g0)) rfl) rfl) ?_
                                                  refine l_step (y_assignV (et g0 rfl)) ?_
                                                  refine l_nil ?_
                                                  refine hK25 _ _ ?_
                                                  refine fg2 54 59 (gS rfl (gS rfl (gS rfl (gS rfl g0)))) g0 (fun g => ?_)
                                                  refine c_condV (i := 59) g0 rfl (fun cB25 => ?_) (fun cB25 => ?_)
                                                  · skip
                                                    simp only [Bool.and_eq_true, Bool.or_eq_true, Bool.and_eq_false_imp, Bool.or_eq_false_iff, decide_eq_true_eq, decide_eq_false_iff_not] at cB25
                                                    refine c_seq (fun K99 hK99 => ?_)
                                                    refine c_region ?_
                                                    refine l_step y_assignC ?_
                                                    refine l_step y_assignC ?_
                                                    refine l_step y_assignC ?_
                                                    refine l_step y_assignC ?_
                                                    refine l_nil ?_
                                                    refine hK99 _ _ ?_
                                                    refine fg4 2 3 4 5 (gS rfl (gS rfl (gS rfl g0))) (gS rfl (gS rfl g0)) (gS rfl g0) g0 (fun g => ?_)
                                                    refine c_ret ?_
                                                    refine hQ18 _ _ _ (in_ret ?_)
                                                    refine ret4 rfl (res_tmp (et (gS rfl (gS rfl (gS rfl g0))) rfl)) (res_tmp (et (gS rfl (gS rfl g0)) rfl)) (res_tmp (et (gS rfl g0) rfl)) (res_tmp (et g0 rfl)) ?_
                                                    refine ⟨info_ret (a := 0) (b := 1) (c := 2) (by unfold KN; omega) ?_ ?_, U⟩
                                                    · rw [arN, if_neg (by omega), if_neg (by omega), if_neg (by omega), if_neg (by omega), if_neg (by omega), if_neg (by omega), if_neg (by omega), if_neg (by omega), if_neg (by omega), if_neg (by omega), if_neg (by omega), if_neg (by omega), if_neg (by omega), if_neg (by omega)]
                                                    · rw [sgN, if_neg (by omega), if_neg (by omega), if_neg (by omega), if_neg (by omega), if_neg (by omega), if_neg (by omega), if_pos (by omega)]
                                                  · skip
                                                    simp only [Bool.and_eq_true, Bool.or_eq_true, Bool.and_eq_false_imp, Bool.or_eq_false_iff, decide_eq_true_eq, decide_eq_false_iff_not] at cB25
                                                    refine c_seq (fun K100 hK100 => ?_)
                                                    refine c_region ?_
                                                    refine l_step (y_eql (et (gS rfl (gS rfl g0)) rfl) rfl) ?_
                                                    refine l_step (y_assignV (et g0 rfl)) ?_
                                                    refine l_nil ?_
                                                    refine hK100 _ _ ?_
                                                    refine fg2 54 79 (gS rfl (gS rfl (gS rfl (gS rfl g0)))) g0 (fun g => ?_)
                                                    refine c_condV (i := 79) g0 rfl (fun cB26 => ?_) (fun cB26 => ?_)
                                                    · skip
                                                      simp only [Bool.and_eq_true, Bool.or_eq_true, Bool.and_eq_false_imp, Bool.or_eq_false_iff, decide_eq_true_eq, decide_eq_false_iff_not] at cB26
                                                      refine c_seq (fun K102 hK102 => ?_)
                                                      refine c_region ?_
                                                      refine l_step y_assignC ?_
                                                      refine l_step y_assignC ?_
                                                      refine l_step y_assignC ?_
                                                      refine l_step y_assignC ?_
                                                      refine l_nil ?_
                                                      refine hK102 _ _ ?_
                                                      refine fg4 2 3 4 5 (gS rfl (gS rfl (gS rfl g0))) (gS rfl (gS rfl g0)) (gS rfl g0) g0 (fun g => ?_)
                                                      refine c_ret ?_
                                                      refine hQ18 _ _ _ (in_ret ?_)
                                                      refine ret4 rfl (res_tmp (et (gS rfl (gS rfl (gS rfl g0))) rfl)) (res_tmp (et (gS rfl (gS rfl g0)) rfl)) (res_tmp (et (gS rfl g0) rfl)) (res_tmp (et g0 rfl)) ?_
                                                      refine ⟨info_ret (a := 0) (b := 1) (c := 5) (by unfold KN; omega) ?_ ?_, U⟩
                                                      · rw [arN, if_neg (by omega), if_neg (by omega), if_neg (by omega), if_neg (by omega), if_neg (by omega), if_neg (by omega), if_neg (by omega), if_neg (by omega), if_neg (by omega), if_neg (by omega), if_neg (by omega), if_neg (by omega), if_neg (by omega), if_neg (by omega)]
                                                      · rw [sgN, if_neg (by omega), if_neg (by omega), if_neg (by omega), if_neg (by omega), if_neg (by omega), if_neg (by omega), if_neg (by omega), if_pos (by omega)]
                                                    · skip
                                                      simp only [Bool.and_eq_true, Bool.or_eq_true, Bool.and_eq_false_imp, Bool.or_eq_false_iff, decide_eq_true_eq, decide_eq_false_iff_not] at cB26
                                                      refine c_seq (fun K103 hK103 => ?_)
                                                      refine c_seq (fun K104 hK104 => ?_)
                                                      refine c_region ?_
                                                      refine l_step (y_eql (et (gS rfl (gS rfl g0)) rfl) rfl) ?_
                                                      refine l_step (y_assignV (et g0 rfl)) ?_
                                                      refine l_nil ?_
                                                      refine hK104 _ _ ?_
                                                      refine fg2 54 81 (gS rfl (gS rfl (gS rfl (gS rfl g0)))) g0 (fun g => ?_)
                                                      refine c_condV (i := 81) g0 rfl (fun cB27 => ?_) (fun cB27 => ?_)
                                                      · skip
                                                        simp only [Bool.and_eq_true, Bool.or_eq_true, Bool.and_eq_false_imp, Bool.or_eq_false_iff, decide_eq_true_eq, decide_eq_false_iff_not] at cB27
                                                        refine c_skip ?_
                                                        refine hK103 _ _ ?_
                                                        refine fg2 54 81 (gS rfl (gS rfl g0)) g0 (fun g => ?_)
                                                        refine c_true (et g0 rfl) rfl ?_
                                                        refine c_seq (fun K107 hK107 => ?_)
                                                        refine c_region ?_
                                                        refine l_step y_assignC ?_
                                                        refine l_step y_assignC ?_
                                                        refine l_step y_assignC ?_
                                                        refine l_step y_assignC ?_
                                                        refine l_nil ?_
                                                        refine hK107 _ _ ?_
                                                        refine fg4 2 3 4 5 (gS rfl (gS rfl (gS rfl g0))) (gS rfl (gS rfl g0)) (gS rfl g0) g0 (fun g => ?_)
                                                        refine c_ret ?_
                                                        refine hQ18 _ _ _ (in_ret ?_)
                                                        refine ret4 rfl (res_tmp (et (gS rfl (gS rfl (gS rfl g0))) rfl)) (res_tmp (et (gS rfl (gS rfl g0)) rfl)) (res_tmp (et (gS rfl g0) rfl)) (res_tmp (et g0 rfl)) ?_
                                                        refine ⟨info_ret (a := 2) (b := 1) (c := 3) (by unfold KN; omega) ?_ ?_, U⟩
                                                        · rw [arN, if_neg (by omega), if_neg (by omega), if_neg (by omega), if_neg (by omega), if_neg (by omega), if_neg (by omega), if_neg (by omega), if_neg (by omega), if_neg (by omega), if_neg (by omega), if_neg (by omega), if_neg (by omega), if_neg (by omega), if_pos (by omega)]
                                                        · rw [sgN, if_neg (by omega), if_neg (by omega), if_neg (by omega), if_neg (by omega), if_neg (by omega), if_neg (by omega), if_neg (by omega), if_neg (by omega), if_pos (by omega)]
                                                      · skip
                                                        simp only [Bool.and_eq_true, Bool.or_eq_true, Bool.and_eq_false_imp, Bool.or_eq_false_iff, decide_eq_true_eq, decide_eq_false_iff_not] at cB27
                                                        refine c_seq (fun K108 hK108 => ?_)
                                                        refine c_region ?_
                                                        refine l_step (y_eql (et (gS rfl (gS rfl g0)) rfl) rfl) ?_
                                                        refine l_step (y_assignV (et g0 rfl)) ?_
                                                        refine l_nil ?_
                                                        refine hK108 _ _ ?_
                                                        refine fg2 54 81 (gS rfl (gS rfl (gS rfl (gS rfl g0)))) g0 (fun g => ?_)
                                                        refine c_condV (i := 81) g0 rfl (fun cB28 => ?_) (fun cB28 => ?_)
                                                        · skip
                                                          simp only [Bool.and_eq_true, Bool.or_eq_true, Bool.and_eq_false_imp, Bool.or_eq_false_iff, decide_eq_true_eq, decide_eq_false_iff_not] at cB28
                                                          refine c_skip ?_
                                                          refine hK103 _ _ ?_
                                                          refine fg2 54 81 (gS rfl (gS rfl g0)) g0 (fun g => ?_)
                                                          refine c_true (et g0 rfl) rfl ?_
                                                          refine c_seq (fun K111 hK111 => ?_)
                                                          refine c_region ?_
                                                          refine l_step y_assignC ?_
                                                          refine l_step y_assignC ?_
                                                          refine l_step y_assignC ?_
                                                          refine l_step y_assignC ?_
                                                          refine l_nil ?_
                                                          refine hK111 _ _ ?_
                                                          refine fg4 2 3 4 5 (gS rfl (gS rfl (gS rfl g0))) (gS rfl (gS rfl g0)) (gS rfl g0) g0 (fun g => ?_)
                                                          refine c_ret ?_
                                                          refine hQ18 _ _ _ (in_ret ?_)
                                                          refine ret4 rfl (res_tmp (et (gS rfl (gS rfl (gS rfl g0))) rfl)) (res_tmp (et (gS rfl (gS rfl g0)) rfl)) (res_tmp (et (gS rfl g0) rfl)) (res_tmp (et g0 rfl)) ?_
                                                          refine ⟨info_ret (a := 2) (b := 1) (c := 3) (by unfold KN; omega) ?_ ?_, U⟩
                                                          · rw [arN, if_neg (by omega), if_neg (by omega), if_neg (by omega), if_neg (by omega), if_neg (by omega), if_neg (by omega), if_neg (by omega), if_neg (by omega), if_neg (by omega), if_neg (by omega), if_neg (by omega), if_neg (by omega), if_neg (by omega), if_pos (by omega)]
                                                          · rw [sgN, if_neg (by omega), if_neg (by omega), if_neg (by omega), if_neg (by omega), if_neg (by omega), if_neg (by omega), if_neg (by omega), if_neg (by omega), if_pos (by omega)]
                                                        · skip
                                                          simp only [Bool.and_eq_true, Bool.or_eq_true, Bool.and_eq_false_imp, Bool.or_eq_false_iff, decide_eq_true_eq, decide_eq_false_iff_not] at cB28
                                                          refine c_seq (fun K112 hK112 => ?_)
                                                          refine c_region ?_
                                                          refine l_step (y_eql (et (gS rfl (gS rfl g0)) rfl) rfl) ?_
                                                          refine l_step (y_assignV (et g0 rfl)) ?_
                                                          refine l_nil ?_
                                                          refine hK112 _ _ ?_
                                                          refine fg2 54 81 (gS rfl (gS rfl (gS rfl (gS rfl g0)))) g0 (fun g => ?_)
                                                          refine c_condV (i := 81) g0 rfl (fun cB29 => ?_) (fun cB29 => ?_)
                                                          · skip
                                                            simp only [Bool.and_eq_true, Bool.or_eq_true, Bool.and_eq_false_imp, Bool.or_eq_false_iff, decide_eq_true_eq, decide_eq_false_iff_not] at cB29
                                                            refine c_skip ?_
                                                            refine hK103 _ _ ?_
                                                            refine fg2 54 81 (gS rfl (gS rfl g0)) g0 (fun g => ?_)
                                                            refine c_true (et g0 rfl) rfl ?_
                                                            refine c_seq (fun K115 hK115 => ?_)
                                                            refine c_region ?_
                                                            refine l_step y_assignC ?_
                                                            refine l_step y_assignC ?_
                                                            refine l_step y_assignC ?_
                                                            refine l_step y_assignC ?_
                                                            refine l_nil ?_
                                                            refine hK115 _ _ ?_
                                                            refine fg4 2 3 4 5 (gS rfl (gS rfl (gS rfl g0))) (gS rfl (gS rfl g0)) (gS rfl g0) g0 (fun g => ?_)
                                                            refine c_ret ?_
                                                            refine hQ18 _ _ _ (in_ret ?_)
                                                            refine ret4 rfl (res_tmp (et (gS rfl (gS rfl (gS rfl g0))) rfl)) (res_tmp (et (gS rfl (gS rfl g0)) rfl)) (res_tmp (et (gS rfl g0) rfl)) (res_tmp (et g0 rfl)) ?_
                                                            refine ⟨info_ret (a := 2) (b := 1) (c := 3) (by unfold KN; omega) ?_ ?_, U⟩
                                                            · rw [arN, if_neg (by omega), if_neg (by omega), if_neg (by omega), if_neg (by omega), if_neg (by omega), if_neg (by omega), if_neg (by omega), if_neg (by omega), if_neg (by omega), if_neg (by omega), if_neg (by omega), if_neg (by omega), if_neg (by omega), if_pos (by omega)]
                                                            · rw [sgN, if_neg (by omega), if_neg (by omega), if_neg (by omega), if_neg (by omega), if_neg (by omega), if_neg (by omega), if_neg (by omega), if_neg (by omega), if_pos (by omega)]
                                                          · skip
                                                            simp only [Bool.and_eq_true, Bool.or_eq_true, Bool.and_eq_false_imp, Bool.or_eq_false_iff, decide_eq_true_eq, decide_eq_false_iff_not] at cB29
                                                            refine c_seq (fun K116 hK116 => ?_)
                                                            refine c_region ?_
                                                            refine l_step (y_eql (et (gS rfl (gS rfl g0)) rfl) rfl) ?_
                                                            refine l_step (y_assignV (et g0 rfl)) ?_
                                                            refine l_nil ?_
                                                            refine hK116 _ _ ?_
                                                            refine fg2 54 81 (gS rfl (gS rfl (gS rfl (gS rfl g0)))) g0 (fun g => ?_)
                                                            refine c_condV (i := 81) g0 rfl (fun cB30 => ?_) (fun cB30 => ?_)
                                                            · skip
                                                              simp only [Bool.and_eq_true, Bool.or_eq_true, Bool.and_eq_false_imp, Bool.or_eq_false_iff, decide_eq_true_eq, decide_eq_false_iff_not] at cB30
                                                              refine c_skip ?_
                                                              refine hK103 _ _ ?_
                                                              refine fg2 54 81 (gS rfl (gS rfl g0)) g0 (fun g => ?_)
                                                              refine c_true (et g0 rfl) rfl ?_
                                                              refine c_seq (fun K119 hK119 => ?_)
                                                              refine c_region ?_
                                                              refine l_step y_assignC ?_
                                                              refine l_step y_assignC ?_
                                                              refine l_step y_assignC ?_
                                                              refine l_step y_assignC ?_
                                                              refine l_nil ?_
                                                              refine hK119 _ _ ?_
                                                              refine fg4 2 3 4 5 (gS rfl (gS rfl (gS rfl g0))) (gS rfl (gS rfl g0)) (gS rfl g0) g0 (fun g => ?_)
                                                              refine c_ret ?_
                                                              refine hQ18 _ _ _ (in_ret ?_)
                                                              refine ret4 rfl (res_tmp (et (gS rfl (gS rfl (gS rfl g0))) rfl)) (res_tmp (et (gS rfl (gS rfl g0)) rfl)) (res_tmp (et (gS rfl g0) rfl)) (res_tmp (et g0 rfl)) ?_
                                                              refine ⟨info_ret (a := 2) (b := 1) (c := 3) (by unfold KN; omega) ?_ ?_, U⟩
                                                              · rw [arN, if_neg (by omega), if_neg (by omega), if_neg (by omega), if_neg (by omega), if_neg (by omega), if_neg (by omega), if_neg (by omega), if_neg (by omega), if_neg (by omega), if_neg (by omega), if_neg (by omega), if_neg (by omega), if_neg (by omega), if_pos (by omega)]
                                                              · rw [sgN, if_neg (by omega), if_neg (by omega), if_neg (by omega), if_neg (by omega), if_neg (by omega), if_neg (by omega), if_neg (by omega), if_neg (by omega), if_pos (by omega)]
                                                            · skip
                                                              simp only [Bool.and_eq_true, Bool.or_eq_true, Bool.and_eq_false_imp, Bool.or_eq_false_iff, decide_eq_true_eq, decide_eq_false_iff_not] at cB30
                                                              refine c_seq (fun K120 hK120 => ?_)
                                                              refine c_region ?_
                                                              refine l_step (y_eql (et (gS rfl (gS rfl g0)) rfl) rfl) ?_
                                                              refine l_step (y_assignV (et g0 rfl)) ?_
                                                              refine l_nil ?_
                                                              refine hK120 _ _ ?_
                                                              refine fg2 54 81 (gS rfl (gS rfl (gS rfl (gS rfl g0)))) g0 (fun g => ?_)
                                                              refine c_condV (i := 81) g0 rfl (fun cB31 => ?_) (fun cB31 => ?_)
                                                              · skip
                                                                simp only [Bool.and_eq_true, Bool.or_eq_true, Bool.and_eq_false_imp, Bool.or_eq_false_iff, decide_eq_true_eq, decide_eq_false_iff_not] at cB31
                                                                refine c_skip ?_
                                                                refine hK103 _ _ ?_
                                                                refine fg2 54 81 (gS rfl (gS rfl g0)) g0 (fun g => ?_)
                                                                refine c_true (et g0 rfl) rfl ?_
                                                                refine c_seq (fun K123 hK123 => ?_)
                                                                refine c_region ?_
                                                                refine l_step y_assignC ?_
                                                                refine l_step y_assignC ?_
                                                                refine l_step y_assignC ?_
                                                                refine l_step y_assignC ?_
                                                                refine l_nil ?_
                                                                refine hK123 _ _ ?_
                                                                refine fg4 2 3 4 5 (gS rfl (gS rfl (gS rfl g0))) (gS rfl (gS rfl g0)) (gS rfl g0) g0 (fun g => ?_)
                                                                refine c_ret ?_
                                                                refine hQ18 _ _ _ (in_ret ?_)
                                                                refine ret4 rfl (res_tmp (et (gS rfl (gS rfl (gS rfl g0))) rfl)) (res_tmp (et (gS rfl (gS rfl g0)) rfl)) (res_tmp (et (gS rfl g0) rfl)) (res_tmp (et g0 rfl)) ?_
                                                                refine ⟨info_ret (a := 2) (b := 1) (c := 3) (by unfold KN; omega) ?_ ?_, U⟩
                                                                · rw [arN, if_neg (by omega), if_neg (by omega), if_neg (by omega), if_neg (by omega), if_neg (by omega), if_neg (by omega), if_neg (by omega), if_neg (by omega), if_neg (by omega), if_neg (by omega), if_neg (by omega), if_neg (by omega), if_neg (by omega), if_pos (by omega)]
                                                                · rw [sgN, if_neg (by omega), if_neg (by omega), if_neg (by omega), if_neg (by omega), if_neg (by omega), if_neg (by omega), if_neg (by omega), if_neg (by omega), if_pos (by omega)]
                                                              · skip
                                                                simp only [Bool.and_eq_true, Bool.or_eq_true, Bool.and_eq_false_imp, Bool.or_eq_false_iff, decide_eq_true_eq, decide_eq_false_iff_not] at cB31
                                                                refine c_seq (fun K124 hK124 => ?_)
                                                                refine c_region ?_
                                                                refine l_step (y_eql (et (gS rfl (gS rfl g0)) rfl) rfl) ?_
                                                                refine l_step (y_assignV (et g0 rfl)) ?_
                                                                refine l_nil ?_
                                                                refine hK124 _ _ ?_
                                                                refine fg2 54 81 (gS rfl (gS rfl (gS rfl (gS rfl g0)))) g0 (fun g => ?_)
                                                                refine c_condV (i := 81) g0 rfl (fun cB32 => ?_) (fun cB32 => ?_)
                                                                · skip
                                                                  simp only [Bool.and_eq_true, Bool.or_eq_true, Bool.and_eq_false_imp, Bool.or_eq_false_iff, decide_eq_true_eq, decide_eq_false_iff_not] at cB32
                                                                  refine c_skip ?_
                                                                  refine hK103 _ _ ?_
                                                                  refine fg2 54 81 (gS rfl (gS rfl g0)) g0 (fun g => ?_)
                                                                  refine c_true (et g0 rfl) rfl ?_
                                                                  refine c_seq (fun K127 hK127 => ?_)
                                                                  refine c_region ?_
                                                                  refine l_step y_assignC ?_
                                                                  refine l_step y_assignC ?_
                                                                  refine l_step y_assignC ?_
                                                                  refine l_step y_assignC ?_
                                                                  refine l_nil ?_
                                                                  refine hK127 _ _ ?_
                                                                  refine fg4 2 3 4 5 (gS rfl (gS rfl (gS rfl g0))) (gS rfl (gS rfl g0)) (gS rfl g0) g0 (fun g => ?_)
                                                                  refine c_ret ?_
                                                                  refine hQ18 _ _ _ (in_ret ?_)
                                                                  refine ret4 rfl (res_tmp (et (gS rfl (gS rfl (gS rfl g0))) rfl)) (res_tmp (et (gS rfl (gS rfl g0)) rfl)) (res_tmp (et (gS rfl g0) rfl)) (res_tmp (et g0 rfl)) ?_
                                                                  refine ⟨info_ret (a := 2) (b := 1) (c := 3) (by unfold KN; omega) ?_ ?_, U⟩
                                                                  · rw [arN, if_neg (by omega), if_neg (by omega), if_neg (by omega), if_neg (by omega), if_neg (by omega), if_neg (by omega), if_neg (by omega), if_neg (by omega), if_neg (by omega), if_neg (by omega), if_neg (by omega), if_neg (by omega), if_neg (by omega), if_pos (by omega)]
                                                                  · rw [sgN, if_neg (by omega), if_neg (by omega), if_neg (by omega), if_neg (by omega), if_neg (by omega), if_neg (by omega), if_neg (by omega), if_neg (by omega), if_pos (by omega)]
                                                                · skip
                                                                  simp only [Bool.and_eq_true, Bool.or_eq_true, Bool.and_eq_false_imp, Bool.or_eq_false_iff, decide_eq_true_eq, decide_eq_false_iff_not] at cB32
                                                                  refine c_seq (fun K128 hK128 => ?_)
                                                                  refine c_region ?_
                                                                  refine l_step (y_eql (et (gS rfl (gS rfl g0)) rfl) rfl) ?_
                                                                  refine l_step (y_assignV (et g0 rfl)) ?_
                                                                  refine l_nil ?_
                                                                  refine hK128 _ _ ?_
                                                                  refine fg2 54 81 (gS rfl (gS rfl (gS rfl (gS rfl g0)))) g0 (fun g => ?_)
                                                                  refine c_condV (i := 81) g0 rfl (fun cB33 => ?_) (fun cB33 => ?_)
                                                                  · skip
                                                                    simp only [Bool.and_eq_true, Bool.or_eq_true, Bool.and_eq_false_imp, Bool.or_eq_false_iff, decide_eq_true_eq, decide_eq_false_iff_not] at cB33
                                                                    refine c_skip ?_
                                                                    refine hK103 _ _ ?_
                                                                    refine fg2 54 81 (gS rfl (gS rfl g0)) g0 (fun g => ?_)
                                                                    refine c_true (et g0 rfl) rfl ?_
                                                                    refine c_seq (fun K131 hK131 => ?_)
                                                                    refine c_region ?_
                                                                    refine l_step y_assignC ?_
                                                                    refine l_step y_assignC ?_
                                                                    refine l_step y_assignC ?_
                                                                    refine l_step y_assignC ?_
                                                                    refine l_nil ?_
                                                                    refine hK131 _ _ ?_
                                                                    refine fg4 2 3 4 5 (gS rfl (gS rfl (gS rfl g0))) (gS rfl (gS rfl g0)) (gS rfl g0) g0 (fun g => ?_)
                                                                    refine c_ret ?_
                                                                    refine hQ18 _ _ _ (in_ret ?_)
                                                                    refine ret4 rfl (res_tmp (et (gS rfl (gS rfl (gS rfl g0))) rfl)) (res_tmp (et (gS rfl (gS rfl g0)) rfl)) (res_tmp (et (gS rfl g0) rfl)) (res_tmp (et g0 rfl)) ?_
                                                                    refine ⟨info_ret (a := 2) (b := 1) (c := 3) (by unfold KN; omega) ?_ ?_, U⟩
                                                                    · rw [arN, if_neg (by omega), if_neg (by omega), if_neg (by omega), if_neg (by omega), if_neg (by omega), if_neg (by omega), if_neg (by omega), if_neg (by omega), if_neg (by omega), if_neg (by omega), if_neg (by omega), if_neg (by omega), if_neg (by omega), if_pos (by omega)]
                                                                    · rw [sgN, if_neg (by omega), if_neg (by omega), if_neg (by omega), if_neg (by omega), if_neg (by omega), if_neg (by omega), if_neg (by omega), if_neg (by omega), if_pos (by omega)]
                                                                  · skip
                                                                    simp only [Bool.and_eq_true, Bool.or_eq_true, Bool.and_eq_false_imp, Bool.or_eq_false_iff, decide_eq_true_eq, decide_eq_false_iff_not] at cB33
                                                                    refine c_seq (fun K132 hK132 => ?_)
                                                                    refine c_region ?_
                                                                    refine l_step (y_eql (et (gS rfl (gS rfl g0)) rfl) rfl) ?_
                                                                    refine l_step (y_assignV (et g0 rfl)) ?_
                                                                    refine l_nil ?_
                                                                    refine hK132 _ _ ?_
                                                                    refine fg2 54 81 (gS rfl (gS rfl (gS rfl (gS rfl g0)))) g0 (fun g => ?_)
                                                                    refine c_condV (i := 81) g0 rfl (fun cB34 => ?_) (fun cB34 => ?_)
                                                                    · skip
                                                                      simp only [Bool.and_eq_true, Bool.or_eq_true, Bool.and_eq_false_imp, Bool.or_eq_false_iff, decide_eq_true_eq, decide_eq_false_iff_not] at cB34
                                                                      refine c_skip ?_
                                                                      refine hK103 _ _ ?_
                                                                      refine fg2 54 81 (gS rfl (gS rfl g0)) g0 (fun g => ?_)
                                                                      refine c_true (et g0 rfl) rfl ?_
                                                                      refine c_seq (fun K135 hK135 => ?_)
                                                                      refine c_region ?_
                                                                      refine l_step y_assignC ?_
                                                                      refine l_step y_assignC ?_
                                                                      refine l_step y_assignC ?_
                                                                      refine l_step y_assignC ?_
                                                                      refine l_nil ?_
                                                                      refine hK135 _ _ ?_
                                                                      refine fg4 2 3 4 5 (gS rfl (gS rfl (gS rfl g0))) (gS rfl (gS rfl g0)) (gS rfl g0) g0 (fun g => ?_)
                                                                      refine c_ret ?_
                                                                      refine hQ18 _ _ _ (in_ret ?_)
                                                                      refine ret4 rfl (res_tmp (et (gS rfl (gS rfl (gS rfl g0))) rfl)) (res_tmp (et (gS rfl (gS rfl g0)) rfl)) (res_tmp (et (gS rfl g0) rfl)) (res_tmp (et g0 rfl)) ?_
                                                                      refine ⟨info_ret (a := 2) (b := 1) (c := 3) (by unfold KN; omega) ?_ ?_, U⟩
                                                                      · rw [arN, if_neg (by omega), if_neg (by omega), if_neg (by omega), if_neg (by omega), if_neg (by omega), if_neg (by omega), if_neg (by omega), if_neg (by omega), if_neg (by omega), if_neg (by omega), if_neg (by omega), if_neg (by omega), if_neg (by omega), if_pos (by omega)]
                                                                      · rw [sgN, if_neg (by omega), if_neg (by omega), if_neg (by omega), if_neg (by omega), if_neg (by omega), if_neg (by omega), if_neg (by omega), if_neg (by omega), if_pos (by omega)]
                                                                    · skip
                                                                      simp only [Bool.and_eq_true, Bool.or_eq_true, Bool.and_eq_false_imp, Bool.or_eq_false_iff, decide_eq_true_eq, decide_eq_false_iff_not] at cB34
                                                                      refine c_seq (fun K136 hK136 => ?_)
                                                                      refine c_region ?_
                                                                      refine l_step (y_eql (et (gS rfl (gS rfl g0)) rfl) rfl) ?_
                                                                      refine l_step (y_assignV (et g0 rfl)) ?_
                                                                      refine l_nil ?_
                                                                      refine hK136 _ _ ?_
                                                                      refine fg2 54 81 (gS rfl (gS rfl (gS rfl (gS rfl g0)))) g0 (fun g => ?_)
                                                                      refine c_condV (i := 81) g0 rfl (fun cB35 => ?_) (fun cB35 => ?_)
                                                                      · skip
                                                                        simp only [Bool.and_eq_true, Bool.or_eq_true, Bool.and_eq_false_imp, Bool.or_eq_false_iff, decide_eq_true_eq, decide_eq_false_iff_not] at cB35
                                                                        refine c_skip ?_
                                                                        refine hK103 _ _ ?_
                                                                        refine fg2 54 81 (gS rfl (gS rfl g0)) g0 (fun g => ?_)
                                                                        refine c_true (et g0 rfl) rfl ?_
                                                                        refine c_seq (fun K139 hK139 => ?_)
                                                                        refine c_region ?_
                                                                        refine l_step y_assignC ?_
                                                                        refine l_step y_assignC ?_
                                                                        refine l_step y_assignC ?_
                                                                        refine l_step y_assignC ?_
                                                                        refine l_nil ?_
                                                                        refine hK139 _ _ ?_
                                                                        refine fg4 2 3 4 5 (gS rfl (gS rfl (gS rfl g0))) (gS rfl (gS rfl g0)) (gS rfl g0) g0 (fun g => ?_)
                                                                        refine c_ret ?_
                                                                        refine hQ18 _ _ _ (in_ret ?_)
                                                                        refine ret4 rfl (res_tmp (et (gS rfl (gS rfl (gS rfl g0))) rfl)) (res_tmp (et (gS rfl (gS rfl g0)) rfl)) (res_tmp (et (gS rfl g0) rfl)) (res_tmp (et g0 rfl)) ?_
                                                                        refine ⟨info_ret (a := 2) (b := 1) (c := 3) (by unfold KN; omega) ?_ ?_, U⟩
                                                                        · rw [arN, if_neg (by omega), if_neg (by omega), if_neg (by omega), if_neg (by omega), if_neg (by omega), if_neg (by omega), if_neg (by omega), if_neg (by omega), if_neg (by omega), if_neg (by omega), if_neg (by omega), if_neg (by omega), if_neg (by omega), if_pos (by omega)]
                                                                        · rw [sgN, if_neg (by omega), if_neg (by omega), if_neg (by omega), if_neg (by omega), if_neg (by omega), if_neg (by omega), if_neg (by omega), if_neg (by omega), if_pos (by omega)]
                                                                      · skip
                                                                        simp only [Bool.and_eq_true, Bool.or_eq_true, Bool.and_eq_false_imp, Bool.or_eq_false_iff, decide_eq_true_eq, decide_eq_false_iff_not] at cB35
                                                                        refine c_seq (fun K140 hK140 => ?_)
                                                                        refine c_region ?_
                                                                        refine l_step (y_eql (et (gS rfl (gS rfl g0)) rfl) rfl) ?_
                                                                        refine l_step (y_assignV (et g0 rfl)) ?_
                                                                        refine l_nil ?_
                                                                        refine hK140 _ _ ?_
                                                                        refine fg2 54 81 (gS rfl (gS rfl (gS rfl (gS rfl g0)))) g0 (fun g => ?_)
                                                                        refine c_condV (i := 81) g0 rfl (fun cB36 => ?_) (fun cB36 => ?_)
                                                                        · skip
                                                                          simp only [Bool.and_eq_true, Bool.or_eq_true, Bool.and_eq_false_imp, Bool.or_eq_false_iff, decide_eq_true_eq, decide_eq_false_iff_not] at cB36
                                                                          refine c_skip ?_
                                                                          refine hK103 _ _ ?_
                                                                          refine fg2 54 81 (gS rfl (gS rfl g0)) g0 (fun g => ?_)
                                                                          refine c_true (et g0 rfl) rfl ?_
                                                                          refine c_seq (fun K143 hK143 => ?_)
                                                                          refine c_region ?_
                                                                          refine l_step y_assignC ?_
                                                                          refine l_step y_assignC ?_
                                                                          refine l_step y_assignC ?_
                                                                          refine l_step y_assignC ?_
                                                                          refine l_nil ?_
                                                                          refine hK143 _ _ ?_
                                                                          refine fg4 2 3 4 5 (gS rfl (gS rfl (gS rfl g0))) (gS rfl (gS rfl g0)) (gS rfl g0) g0 (fun g => ?_)
                                                                          refine c_ret ?_
                                                                          refine hQ18 _ _ _ (in_ret ?_)
                                                                          refine ret4 rfl (res_tmp (et (gS rfl (gS rfl (gS rfl g0))) rfl)) (res_tmp (et (gS rfl (gS rfl g0)) rfl)) (res_tmp (et (gS rfl g0) rfl)) (res_tmp (et g0 rfl)) ?_
                                                                          refine ⟨info_ret (a := 2) (b := 1) (c := 3) (by unfold KN; omega) ?_ ?_, U⟩
                                                                          · rw [arN, if_neg (by omega), if_neg (by omega), if_neg (by omega), if_neg (by omega), if_neg (by omega), if_neg (by omega), if_neg (by omega), if_neg (by omega), if_neg (by omega), if_neg (by omega), if_neg (by omega), if_neg (by omega), if_neg (by omega), if_pos (by omega)]
                                                                          · rw [sgN, if_neg (by omega), if_neg (by omega), if_neg (by omega), if_neg (by omega), if_neg (by omega), if_neg (by omega), if_neg (by omega), if_neg (by omega), if_pos (by omega)]
                                                                        · skip
                                                                          simp only [Bool.and_eq_true, Bool.or_eq_true, Bool.and_eq_false_imp, Bool.or_eq_false_iff, decide_eq_true_eq, decide_eq_false_iff_not] at cB36
                                                                          refine c_seq (fun K144 hK144 => ?_)
                                                                          refine c_region ?_
                                                                          refine l_step (y_eql (et (gS rfl (gS rfl g0)) rfl) rfl) ?_
                                                                          refine l_step (y_assignV (et g0 rfl)) ?_
                                                                          refine l_nil ?_
                                                                          refine hK144 _ _ ?_
                                                                          refine fg2 54 81 (gS rfl (gS rfl (gS rfl (gS rfl g0)))) g0 (fun g => ?_)
                                                                          refine c_condV (i := 81) g0 rfl (fun cB37 => ?_) (fun cB37 => ?_)
                                                                          · skip
                                                                            simp only [Bool.and_eq_true, Bool.or_eq_true, Bool.and_eq_false_imp, Bool.or_eq_false_iff, decide_eq_true_eq, decide_eq_false_iff_not] at cB37
                                                                            refine c_skip ?_
                                                                            refine hK103 _ _ ?_
                                                                            refine fg2 54 81 (gS rfl (gS rfl g0)) g0 (fun g => ?_)
                                                                            refine c_true (et g0 rfl) rfl ?_
                                                                            refine c_seq (fun K147 hK147 => ?_)
                                                                            refine c_region ?_
                                                                            refine l_step y_assignC ?_
                                                                            refine l_step y_assignC ?_
                                                                            refine l_step y_assignC ?_
                                                                            refine l_step y_assignC ?_
                                                                            refine l_nil ?_
                                                                            refine hK147 _ _ ?_
                                                                            refine fg4 2 3 4 5 (gS rfl (gS rfl (gS rfl g0))) (gS rfl (gS rfl g0)) (gS rfl g0) g0 (fun g => ?_)
                                                                            refine c_ret ?_
                                                                            refine hQ18 _ _ _ (in_ret ?_)
                                                                            refine ret4 rfl (res_tmp (et (gS rfl (gS rfl (gS rfl g0))) rfl)) (res_tmp (et (gS rfl (gS rfl g0)) rfl)) (res_tmp (et (gS rfl g0) rfl)) (res_tmp (et g0 rfl)) ?_
                                                                            refine ⟨info_ret (a := 2) (b := 1) (c := 3) (by unfold KN; omega) ?_ ?_, U⟩
                                                                            · rw [arN, if_neg (by omega), if_neg (by omega), if_neg (by omega), if_neg (by omega), if_neg (by omega), if_neg (by omega), if_neg (by omega), if_neg (by omega), if_neg (by omega), if_neg (by omega), if_neg (by omega), if_neg (by omega), if_neg (by omega), if_pos (by omega)]
                                                                            · rw [sgN, if_neg (by omega), if_neg (by omega), if_neg (by omega), if_neg (by omega), if_neg (by omega), if_neg (by omega), if_neg (by omega), if_neg (by omega), if_pos (by omega)]
                                                                          · skip
                                                                            simp only [Bool.and_eq_true, Bool.or_eq_true, Bool.and_eq_false_imp, Bool.or_eq_false_iff, decide_eq_true_eq, decide_eq_false_iff_not] at cB37
                                                                            refine c_seq (fun K148 hK148 => ?_)
                                                                            refine c_region ?_
                                                                            refine l_step (y_eql (et (gS rfl (gS rfl g0)) rfl) rfl) ?_
                                                                            refine l_step (y_assignV (et g0 rfl)) ?_
                                                                            refine l_nil ?_
                                                                            refine hK148 _ _ ?_
                                                                            refine fg2 54 81 (gS rfl (gS rfl (gS rfl (gS rfl g0)))) g0 (fun g => ?_)
                                                                            refine c_condV (i := 81) g0 rfl (fun cB38 => ?_) (fun cB38 => ?_)
                                                                            · skip
                                                                              simp only [Bool.and_eq_true, Bool.or_eq_true, Bool.and_eq_false_imp, Bool.or_eq_false_iff, decide_eq_true_eq, decide_eq_false_iff_not] at cB38
                                                                              refine c_skip ?_
                                                                              refine hK103 _ _ ?_
                                                                              refine fg2 54 81 (gS rfl (gS rfl g0)) g0 (fun g => ?_)
                                                                              refine c_true (et g0 rfl) rfl ?_
                                                                              refine c_seq (fun K151 hK151 => ?_)
                                                                              refine c_region ?_
                                                                              refine l_step y_assignC ?_
                                                                              refine l_step y_assignC ?_
                                                                              refine l_step y_assignC ?_
                                                                              refine l_step y_assignC ?_
                                                                              refine l_nil ?_
                                                                              refine hK151 _ _ ?_
                                                                              refine fg4 2 3 4 5 (gS rfl (gS rfl (gS rfl g0))) (gS rfl (gS rfl g0)) (gS rfl g0) g0 (fun g => ?_)
                                                                              refine c_ret ?_
                                                                              refine hQ18 _ _ _ (in_ret ?_)
                                                                              refine ret4 rfl (res_tmp (et (gS rfl (gS rfl (gS rfl g0))) rfl)) (res_tmp (et (gS rfl (gS rfl g0)) rfl)) (res_tmp (et (gS rfl g0) rfl)) (res_tmp (et g0 rfl)) ?_
                                                                              refine ⟨info_ret (a := 2) (b := 1) (c := 3) (by unfold KN; omega) ?_ ?_, U⟩
                                                                              · rw [arN, if_neg (by omega), if_neg (by omega), if_neg (by omega), if_neg (by omega), if_neg (by omega), if_neg (by omega), if_neg (by omega), if_neg (by omega), if_neg (by omega), if_neg (by omega), if_neg (by omega), if_neg (by omega), if_neg (by omega), if_pos (by omega)]
                                                                              · rw [sgN, if_neg (by omega), if_neg (by omega), if_neg (by omega), if_neg (by omega), if_neg (by omega), if_neg (by omega), if_neg (by omega), if_neg (by omega), if_pos (by omega)]
                                                                            · skip
                                                                              simp only [Bool.and_eq_true, Bool.or_eq_true, Bool.and_eq_false_imp, Bool.or_eq_false_iff, decide_eq_true_eq, decide_eq_false_iff_not] at cB38
                                                                              refine c_seq (fun K152 hK152 => ?_)
                                                                              refine c_region ?_
                                                                              refine l_step (y_eql (et (gS rfl (gS rfl g0)) rfl) rfl) ?_
                                                                              refine l_step (y_assignV (et g0 rfl)) ?_
                                                                              refine l_nil ?_
                                                                              refine hK152 _ _ ?_
                                                                              refine fg2 54 81 (gS rfl (gS rfl (gS rfl (gS rfl g0)))) g0 (fun g => ?_)
                                                                              refine c_condV (i := 81) g0 rfl (fun cB39 => ?_) (fun cB39 => ?_)
                                                                              · skip
                                                                                simp only [Bool.and_eq_true, Bool.or_eq_true, Bool.and_eq_false_imp, Bool.or_eq_false_iff, decide_eq_true_eq, decide_eq_false_iff_not] at cB39
                                                                                refine c_skip ?_
                                                                                refine hK103 _ _ ?_
                                                                                refine fg2 54 81 (gS rfl (gS rfl g0)) g0 (fun g => ?_)
                                                                                refine c_true (et g0 rfl) rfl ?_
                                                                                refine c_seq (fun K155 hK155 => ?_)
                                                                                refine c_region ?_
                                                                                refine l_step y_assignC ?_
                                                                                refine l_step y_assignC ?_
                                                                                refine l_step y_assignC ?_
                                                                                refine l_step y_assignC ?_
                                                                                refine l_nil ?_
                                                                                refine hK155 _ _ ?_
                                                                                refine fg4 2 3 4 5 (gS rfl (gS rfl (gS rfl g0))) (gS rfl (gS rfl g0)) (gS rfl g0) g0 (fun g => ?_)
                                                                                refine c_ret ?_
                                                                                refine hQ18 _ _ _ (in_ret ?_)
                                                                                refine ret4 rfl (res_tmp (et (gS rfl (gS rfl (gS rfl g0))) rfl)) (res_tmp (et (gS rfl (gS rfl g0)) rfl)) (res_tmp (et (gS rfl g0) rfl)) (res_tmp (et g0 rfl)) ?_
                                                                                refine ⟨info_ret (a := 2) (b := 1) (c := 3) (by unfold KN; omega) ?_ ?_, U⟩
                                                                                · rw [arN, if_neg (by omega), if_neg (by omega), if_neg (by omega), if_neg (by omega), if_neg (by omega), if_neg (by omega), if_neg (by omega), if_neg (by omega), if_neg (by omega), if_neg (by omega), if_neg (by omega), if_neg (by omega), if_neg (by omega), if_pos (by omega)]
                                                                                · rw [sgN, if_neg (by omega), if_neg (by omega), if_neg (by omega), if_neg (by omega), if_neg (by omega), if_neg (by omega), if_neg (by omega), if_neg (by omega), if_pos (by omega)]
                                                                              · skip
                                                                                simp only [Bool.and_eq_true, Bool.or_eq_true, Bool.and_eq_false_imp, Bool.or_eq_false_iff, decide_eq_true_eq, decide_eq_false_iff_not] at cB39
                                                                                refine c_region ?_
                                                                                refine l_step (y_eql (et (gS rfl (gS rfl g0)) rfl) rfl) ?_
                                                                                refine l_step (y_assignV (et g0 rfl)) ?_
                                                                                refine l_nil ?_
                                                                                refine hK103 _ _ ?_
                                                                                refine fg2 54 81 (gS rfl (gS rfl (gS rfl (gS rfl g0)))) g0 (fun g => ?_)
                                                                                refine c_condV (i := 81) g0 rfl (fun cB40 => ?_) (fun cB40 => ?_)
                                                                                · skip
                                                                                  simp only [Bool.and_eq_true, Bool.or_eq_true, Bool.and_eq_false_imp, Bool.or_eq_false_iff, decide_eq_true_eq, decide_eq_false_iff_not] at cB40
                                                                                  refine c_seq (fun K157 hK157 => ?_)
                                                                                  refine c_region ?_
                                                                                  refine l_step y_assignC ?_
                                                                                  refine l_step y_assignC ?_
                                                                                  refine l_step y_assignC ?_
                                                                                  refine l_step y_assignC ?_
                                                                                  refine l_nil ?_
                                                                                  refine hK157 _ _ ?_
                                                                                  refine fg4 2 3 4 5 (gS rfl (gS rfl (gS rfl g0))) (gS rfl (gS rfl g0)) (gS rfl g0) g0 (fun g => ?_)
                                                                                  refine c_ret ?_
                                                                                  refine hQ18 _ _ _ (in_ret ?_)
                                                                                  refine ret4 rfl (res_tmp (et (gS rfl (gS rfl (gS rfl g0))) rfl)) (res_tmp (et (gS rfl (gS rfl g0)) rfl)) (res_tmp (et (gS rfl g0) rfl)) (res_tmp (et g0 rfl)) ?_
                                                                                  refine ⟨info_ret (a := 2) (b := 1) (c := 3) (by unfold KN; omega) ?_ ?_, U⟩
                                                                                  · rw [arN, if_neg (by omega), if_neg (by omega), if_neg (by omega), if_neg (by omega), if_neg (by omega), if_neg (by omega), if_neg (by omega), if_neg (by omega), if_neg (by omega), if_neg (by omega), if_neg (by omega), if_neg (by omega), if_neg (by omega), if_pos (by omega)]
                                                                                  · rw [sgN, if_neg (by omega), if_neg (by omega), if_neg (by omega), if_neg (by omega), if_neg (by omega), if_neg (by omega), if_neg (by omega), if_neg (by omega), if_pos (by omega)]
                                                                                · skip
                                                                                  simp only [Bool.and_eq_true, Bool.or_eq_true, Bool.and_eq_false_imp, Bool.or_eq_false_iff, decide_eq_true_eq, decide_eq_false_iff_not] at cB40
                                                                                  refine c_seq (fun K158 hK158 => ?_)
                                                                                  refine c_seq (fun K159 hK159 => ?_)
                                                                                  refine c_region ?_
                                                                                  refine l_step (y_eql (et (gS rfl (gS rfl g0)) rfl) rfl) ?_
                                                                                  refine l_step (y_assignV (et g0 rfl)) ?_
                                                                                  refine l_nil ?_
                                                                                  refine hK159 _ _ ?_
                                                                                  refine fg2 54 96 (gS rfl (gS rfl (gS rfl (gS rfl g0)))) g0 (fun g => ?_)
                                                                                  refine c_condV (i := 96) g0 rfl (fun cB41 => ?_) (fun cB41 => ?_)
                                                                                  · skip
                                                                                    simp only [Bool.and_eq_true, Bool.or_eq_true, Bool.and_eq_false_imp, Bool.or_eq_false_iff, decide_eq_true_eq, decide_eq_false_iff_not] at cB41
                                                                                    refine c_skip ?_
                                                                                    refine hK158 _ _ ?_
                                                                                    refine fg2 54 96 (gS rfl (gS rfl g0)) g0 (fun g => ?_)
                                                                                    refine c_true (et g0 rfl) rfl ?_
                                                                                    refine c_seq (fun K162 hK162 => ?_)
                                                                                    refine c_region ?_
                                                                                    refine l_step y_assignC ?_
                                                                                    refine l_step y_assignC ?_
                                                                                    refine l_step y_assignC ?_
                                                                                    refine l_step y_assignC ?_
                                                                                    refine l_nil ?_
                                                                                    refine hK162 _ _ ?_
                                                                                    refine fg4 2 3 4 5 (gS rfl (gS rfl (gS rfl g0))) (gS rfl (gS rfl g0)) (gS rfl g0) g0 (fun g => ?_)
                                                                                    refine c_ret ?_
                                                                                    refine hQ18 _ _ _ (in_ret ?_)
                                                                                    refine ret4 rfl (res_tmp (et (gS rfl (gS rfl (gS rfl g0))) rfl)) (res_tmp (et (gS rfl (gS rfl g0)) rfl)) (res_tmp (et (gS rfl g0) rfl)) (res_tmp (et g0 rfl)) ?_
                                                                                    refine ⟨info_ret (a := 2) (b := 1) (c := 5) (by unfold KN; omega) ?_ ?_, U⟩
                                                                                    · rw [arN, if_neg (by omega), if_neg (by omega), if_neg (by omega), if_neg (by omega), if_neg (by omega), if_neg (by omega), if_neg (by omega), if_neg (by omega), if_neg (by omega), if_neg (by omega), if_neg (by omega), if_neg (by omega), if_neg (by omega), if_pos (by omega)]
                                                                                    · rw [sgN, if_neg (by omega), if_neg (by omega), if_neg (by omega), if_neg (by omega), if_neg (by omega), if_neg (by omega), if_neg (by omega), if_neg (by omega), if_neg (by omega), if_pos (by omega)]
                                                                                  · skip
                                                                                    simp only [Bool.and_eq_true, Bool.or_eq_true, Bool.and_eq_false_imp, Bool.or_eq_false_iff, decide_eq_true_eq, decide_eq_false_iff_not] at cB41
                                                                                    refine c_seq (fun K163 hK163 => ?_)
                                                                                    refine c_region ?_
                                                                                    refine l_step (y_eql (et (gS rfl (gS rfl g0)) rfl) rfl) ?_
                                                                                    refine l_step (y_assignV (et g0 rfl)) ?_
                                                                                    refine l_nil ?_
                                                                                    refine hK163 _ _ ?_
                                                                                    refine fg2 54 96 (gS rfl (gS rfl (gS rfl (gS rfl g0)))) g0 (fun g => ?_)
                                                                                    refine c_condV (i := 96) g0 rfl (fun cB42 => ?_) (fun cB42 => ?_)
                                                                                    · skip
                                                                                      simp only [Bool.and_eq_true, Bool.or_eq_true, Bool.and_eq_false_imp, Bool.or_eq_false_iff, decide_eq_true_eq, decide_eq_false_iff_not] at cB42
                                                                                      refine c_skip ?_
                                                                                      refine hK158 _ _ ?_
                                                                                      refine fg2 54 96 (gS rfl (gS rfl g0)) g0 (fun g => ?_)
                                                                                      refine c_true (et g0 rfl) rfl ?_
                                                                                      refine c_seq (fun K166 hK166 => ?_)
                                                                                      refine c_region ?_
                                                                                      refine l_step y_assignC ?_
                                                                                      refine l_step y_assignC ?_
                                                                                      refine l_step y_assignC ?_
                                                                                      refine l_step y_assignC ?_
                                                                                      refine l_nil ?_
                                                                                      refine hK166 _ _ ?_
                                                                                      refine fg4 2 3 4 5 (gS rfl (gS rfl (gS rfl g0))) (gS rfl (gS rfl g0)) (gS rfl g0) g0 (fun g => ?_)
                                                                                      refine c_ret ?_
                                                                                      refine hQ18 _ _ _ (in_ret ?_)
                                                                                      refine ret4 rfl (res_tmp (et (gS rfl (gS rfl (gS rfl g0))) rfl)) (res_tmp (et (gS rfl (gS rfl g0)) rfl)) (res_tmp (et (gS rfl g0) rfl)) (res_tmp (et g0 rfl)) ?_
                                                                                      refine ⟨info_ret (a := 2) (b := 1) (c := 5) (by unfold KN; omega) ?_ ?_, U⟩
                                                                                      · rw [arN, if_neg (by omega), if_neg (by omega), if_neg (by omega), if_neg (by omega), if_neg (by omega), if_neg (by omega), if_neg (by omega), if_neg (by omega), if_neg (by omega), if_neg (by omega), if_neg (by omega), if_neg (by omega), if_neg (by omega), if_pos (by omega)]
                                                                                      · rw [sgN, if_neg (by omega), if_neg (by omega), if_neg (by omega), if_neg (by omega), if_neg (by omega), if_neg (by omega), if_neg (by omega), if_neg (by omega), if_neg (by omega), if_pos (by omega)]
                                                                                    · skip
                                                                                      simp only [Bool.and_eq_true, Bool.or_eq_true, Bool.and_eq_false_imp, Bool.or_eq_false_iff, decide_eq_true_eq, decide_eq_false_iff_not] at cB42
                                                                                      refine c_seq (fun K167 hK167 => ?_)
                                                                                      refine c_region ?_
                                                                                      refine l_step (y_eql (et (gS rfl (gS rfl g0)) rfl) rfl) ?_
                                                                                      refine l_step (y_assignV (et g0 rfl)) ?_
                                                                                      refine l_nil ?_
                                                                                      refine hK167 _ _ ?_
                                                                                      refine fg2 54 96 (gS rfl (gS rfl (gS rfl (gS rfl g0)))) g0 (fun g => ?_)
                                                                                      refine c_condV (i := 96) g0 rfl (fun cB43 => ?_) (fun cB43 => ?_)
                                                                                      · skip
                                                                                        simp only [Bool.and_eq_true, Bool.or_eq_true, Bool.and_eq_false_imp, Bool.or_eq_false_iff, decide_eq_true_eq, decide_eq_false_iff_not] at cB43
                                                                                        refine c_skip ?_
                                                                                        refine hK158 _ _ ?_
                                                                                        refine fg2 54 96 (gS rfl (gS rfl g0)) g0 (fun g => ?_)
                                                                                        refine c_true (et g0 rfl) rfl ?_
                                                                                        refine c_seq (fun K170 hK170 => ?_)
                                                                                        refine c_region ?_
                                                                                        refine l_step y_assignC ?_
                                                                                        refine l_step y_assignC ?_
                                                                                        refine l_step y_assignC ?_
                                                                                        refine l_step y_assignC ?_
                                                                                        refine l_nil ?_
                                                                                        refine hK170 _ _ ?_
                                                                                        refine fg4 2 3 4 5 (gS rfl (gS rfl (gS rfl g0))) (gS rfl (gS rfl g0)) (gS rfl g0) g0 (fun g => ?_)
                                                                                        refine c_ret ?_
                                                                                        refine hQ18 _ _ _ (in_ret ?_)
                                                                                        refine ret4 rfl (res_tmp (et (gS rfl (gS rfl (gS rfl g0))) rfl)) (res_tmp (et (gS rfl (gS rfl g0)) rfl)) (res_tmp (et (gS rfl g0) rfl)) (res_tmp (et g0 rfl)) ?_
                                                                                        refine ⟨info_ret (a := 2) (b := 1) (c := 5) (by unfold KN; omega) ?_ ?_, U⟩
                                                                                        · rw [arN, if_neg (by omega), if_neg (by omega), if_neg (by omega), if_neg (by omega), if_neg (by omega), if_neg (by omega), if_neg (by omega), if_neg (by omega), if_neg (by omega), if_neg (by omega), if_neg (by omega), if_neg (by omega), if_neg (by omega), if_pos (by omega)]
                                                                                        · rw [sgN, if_neg (by omega), if_neg (by omega), if_neg (by omega), if_neg (by omega), if_neg (by omega), if_neg (by omega), if_neg (by omega), if_neg (by omega), if_neg (by omega), if_pos (by omega)]
                                                                                      · skip
                                                                                        simp only [Bool.and_eq_true, Bool.or_eq_true, Bool.and_eq_false_imp, Bool.or_eq_false_iff, decide_eq_true_eq, decide_eq_false_iff_not] at cB43
                                                                                        refine c_seq (fun K171 hK171 => ?_)
                                                                                        refine c_region ?_
                                                                                        refine l_step (y_eql (et (gS rfl (gS rfl g0)) rfl) rfl) ?_
                                                                                        refine l_step (y_assignV (et g0 rfl)) ?_
                                                                                        refine l_nil ?_
                                                                                        refine hK171 _ _ ?_
                                                                                        refine fg2 54 96 (gS rfl (gS rfl (gS rfl (gS rfl g0)))) g0 (fun g => ?_)
                                                                                        refine c_condV (i := 96) g0 rfl (fun cB44 => ?_) (fun cB44 => ?_)
                                                                                        · skip
                                                                                          simp only [Bool.and_eq_true, Bool.or_eq_true, Bool.and_eq_false_imp, Bool.or_eq_false_iff, decide_eq_true_eq, decide_eq_false_iff_not] at cB44
                                                                                          refine c_skip ?_
                                                                                          refine hK158 _ _ ?_
                                                                                          refine fg2 54 96 (gS rfl (gS rfl g0)) g0 (fun g => ?_)
                                                                                          refine c_true (et g0 rfl) rfl ?_
                                                                                          refine c_seq (fun K174 hK174 => ?_)
                                                                                          refine c_region ?_
                                                                                          refine l_step y_assignC ?_
                                                                                          refine l_step y_assignC ?_
                                                                                          refine l_step y_assignC ?_
                                                                                          refine l_step y_assignC ?_
                                                                                          refine l_nil ?_
                                                                                          refine hK174 _ _ ?_
                                                                                          refine fg4 2 3 4 5 (gS rfl (gS rfl (gS rfl g0))) (gS rfl (gS rfl g0)) (gS rfl g0) g0 (fun g => ?_)
                                                                                          refine c_ret ?_
                                                                                          refine hQ18 _ _ _ (in_ret ?_)
                                                                                          refine ret4 rfl (res_tmp (et (gS rfl (gS rfl (gS rfl g0))) rfl)) (res_tmp (et (gS rfl (gS rfl g0)) rfl)) (res_tmp (et (gS rfl g0) rfl)) (res_tmp (et g0 rfl)) ?_
                                                                                          refine ⟨info_ret (a := 2) (b := 1) (c := 5) (by unfold KN; omega) ?_ ?_, U⟩
                                                                                          · rw [arN, if_neg (by omega), if_neg (by omega), if_neg (by omega), if_neg (by omega), if_neg (by omega), if_neg (by omega), if_neg (by omega), if_neg (by omega), if_neg (by omega), if_neg (by omega), if_neg (by omega), if_neg (by omega), if_neg (by omega), if_pos (by omega)]
                                                                                          · rw [sgN, if_neg (by omega), if_neg (by omega), if_neg (by omega), if_neg (by omega), if_neg (by omega), if_neg (by omega), if_neg (by omega), if_neg (by omega), if_neg (by omega), if_pos (by omega)]
                                                                                        · skip
                                                                                          simp only [Bool.and_eq_true, Bool.or_eq_true, Bool.and_eq_false_imp, Bool.or_eq_false_iff, decide_eq_true_eq, decide_eq_false_iff_not] at cB44
                                                                                          refine c_seq (fun K175 hK175 => ?_)
                                                                                          refine c_region ?_
                                                                                          refine l_step (y_eql (et (gS rfl (gS rfl g0)) rfl) rfl) ?_
                                                                                          refine l_step (y_assignV (et g0 rfl)) ?_
                                                                                          refine l_nil ?_
                                                                                          refine hK175 _ _ ?_
                                                                                          refine fg2 54 96 (gS rfl (gS rfl (gS rfl (gS rfl g0)))) g0 (fun g => ?_)
                                                                                          refine c_condV (i := 96) g0 rfl (fun cB45 => ?_) (fun cB45 => ?_)
                                                                                          · skip
                                                                                            simp only [Bool.and_eq_true, Bool.or_eq_true, Bool.and_eq_false_imp, Bool.or_eq_false_iff, decide_eq_true_eq, decide_eq_false_iff_not] at cB45
                                                                                            refine c_skip ?_
                                                                                            refine hK158 _ _ ?_
                                                                                            refine fg2 54 96 (gS rfl (gS rfl g0)) g0 (fun g => ?_)
                                                                                            refine c_true (et g0 rfl) rfl ?_
                                                                                            refine c_seq (fun K178 hK178 => ?_)
                                                                                            refine c_region ?_
                                                                                            refine l_step y_assignC ?_
                                                                                            refine l_step y_assignC ?_
                                                                                            refine l_step y_assignC ?_
                                                                                            refine l_step y_assignC ?_
                                                                                            refine l_nil ?_
                                                                                            refine hK178 _ _ ?_
                                                                                            refine fg4 2 3 4 5 (gS rfl (gS rfl (gS rfl g0))) (gS rfl (gS rfl g0)) (gS rfl g0) g0 (fun g => ?_)
                                                                                            refine c_ret ?_
                                                                                            refine hQ18 _ _ _ (in_ret ?_)
                                                                                            refine ret4 rfl (res_tmp (et (gS rfl (gS rfl (gS rfl g0))) rfl)) (res_tmp (et (gS rfl (gS rfl g0)) rfl)) (res_tmp (et (gS rfl g0) rfl)) (res_tmp (et g0 rfl)) ?_
                                                                                            refine ⟨info_ret (a := 2) (b := 1) (c := 5) (by unfold KN; omega) ?_ ?_, U⟩
                                                                                            · rw [arN, if_neg (by omega), if_neg (by omega), if_neg (by omega), if_neg (by omega), if_neg (by omega), if_neg (by omega), if_neg (by omega), if_neg (by omega), if_neg (by omega), if_neg (by omega), if_neg (by omega), if_neg (by omega), if_neg (by omega), if_pos (by omega)]
                                                                                            · rw [sgN, if_neg (by omega), if_neg (by omega), if_neg (by omega), if_neg (by omega), if_neg (by omega), if_neg (by omega), if_neg (by omega), if_neg (by omega), if_neg (by omega), if_pos (by omega)]
                                                                                          · skip
                                                                                            simp only [Bool.and_eq_true, Bool.or_eq_true, Bool.and_eq_false_imp, Bool.or_eq_false_iff, decide_eq_true_eq, decide_eq_false_iff_not] at cB45
                                                                                            refine c_region ?_
                                                                                            refine l_step (y_eql (et (gS rfl (gS rfl g0)) rfl) rfl) ?_
                                                                                            refine l_step (y_assignV (et g0 rfl)) ?_
                                                                                            refine l_nil ?_
                                                                                            refine hK158 _ _ ?_
                                                                                            refine fg2 54 96 (gS rfl (gS rfl (gS rfl (gS rfl g0)))) g0 (fun g => ?_)
                                                                                            refine c_condV (i := 96) g0 rfl (fun cB46 => ?_) (fun cB46 => ?_)
                                                                                            · skip
                                                                                              simp only [Bool.and_eq_true, Bool.or_eq_true, Bool.and_eq_false_imp, Bool.or_eq_false_iff, decide_eq_true_eq, decide_eq_false_iff_not] at cB46
                                                                                              refine c_seq (fun K180 hK180 => ?_)
                                                                                              refine c_region ?_
                                                                                              refine l_step y_assignC ?_
                                                                                              refine l_step y_assignC ?_
                                                                                              refine l_step y_assignC ?_
                                                                                              refine l_step y_assignC ?_
                                                                                              refine l_nil ?_
                                                                                              refine hK180 _ _ ?_
                                                                                              refine fg4 2 3 4 5 (gS rfl (gS rfl (gS rfl g0))) (gS rfl (gS rfl g0)) (gS rfl g0) g0 (fun g => ?_)
                                                                                              refine c_ret ?_
                                                                                              refine hQ18 _ _ _ (in_ret ?_)
                                                                                              refine ret4 rfl (res_tmp (et (gS rfl (gS rfl (gS rfl g0))) rfl)) (res_tmp (et (gS rfl (gS rfl g0)) rfl)) (res_tmp (et (gS rfl g0) rfl)) (res_tmp (et g0 rfl)) ?_
                                                                                              refine ⟨info_ret (a := 2) (b := 1) (c := 5) (by unfold KN; omega) ?_ ?_, U⟩
                                                                                              · rw [arN, if_neg (by omega), if_neg (by omega), if_neg (by omega), if_neg (by omega), if_neg (by omega), if_neg (by omega), if_neg (by omega), if_neg (by omega), if_neg (by omega), if_neg (by omega), if_neg (by omega), if_neg (by omega), if_neg (by omega), if_pos (by omega)]
                                                                                              · rw [sgN, if_neg (by omega), if_neg (by omega), if_neg (by omega), if_neg (by omega), if_neg (by omega), if_neg (by omega), if_neg (by omega), if_neg (by omega), if_neg (by omega), if_pos (by omega)]
                                                                                            · skip
                                                                                              simp only [Bool.and_eq_true, Bool.or_eq_true, Bool.and_eq_false_imp, Bool.or_eq_false_iff, decide_eq_true_eq, decide_eq_false_iff_not] at cB46
                                                                                              refine c_seq (fun K181 hK181 => ?_)
                                                                                              refine c_region ?_
                                                                                              refine l_step (y_eql (et (gS rfl (gS rfl g0)) rfl) rfl) ?_
                                                                                              refine l_step (y_assignV (et g0 rfl)) ?_
                                                                                              refine l_nil ?_
                                                                                              refine hK181 _ _ ?_
                                                                                              refine fg2 54 103 (gS rfl (gS rfl (gS rfl (gS rfl g0)))) g0 (fun g => ?_)
                                                                                              refine c_condV (i := 103) g0 rfl (fun cB47 => ?_) (fun cB47 => ?_)
                                                                                              · skip
                                                                                                simp only [Bool.and_eq_true, Bool.or_eq_true, Bool.and_eq_false_imp, Bool.or_eq_false_iff, decide_eq_true_eq, decide_eq_false_iff_not] at cB47
                                                                                                refine c_seq (fun K183 hK183 => ?_)
                                                                                                refine c_region ?_
                                                                                                refine l_step y_assignC ?_
                                                                                                refine l_step y_assignC ?_
                                                                                                refine l_step y_assignC ?_
                                                                                                refine l_step y_assignC ?_
                                                                                                refine l_nil ?_
                                                                                                refine hK183 _ _ ?_
                                                                                                refine fg4 2 3 4 5 (gS rfl (gS rfl (gS rfl g0))) (gS rfl (gS rfl g0)) (gS rfl g0) g0 (fun g => ?_)
                                                                                                refine c_ret ?_
                                                                                                refine hQ18 _ _ _ (in_ret ?_)
                                                                                                refine ret4 rfl (res_tmp (et (gS rfl (gS rfl (gS rfl g0))) rfl)) (res_tmp (et (gS rfl (gS rfl g0)) rfl)) (res_tmp (et (gS rfl g0) rfl)) (res_tmp (et g0 rfl)) ?_
                                                                                                refine ⟨info_ret (a := 2) (b := 1) (c := 10) (by unfold KN; omega) ?_ ?_, U⟩
                                                                                                · rw [arN, if_neg (by omega), if_neg (by omega), if_neg (by omega), if_neg (by omega), if_neg (by omega), if_neg (by omega), if_neg (by omega), if_neg (by omega), if_neg (by omega), if_neg (by omega), if_neg (by omega), if_neg (by omega), if_neg (by omega), if_pos (by omega)]
                                                                                                · rw [sgN, if_neg (by omega), if_neg (by omega), if_neg (by omega), if_neg (by omega), if_neg (by omega), if_neg (by omega), if_neg (by omega), if_neg (by omega), if_neg (by omega), if_neg (by omega), if_pos (by omega)]
                                                                                              · skip
                                                                                                simp only [Bool.and_eq_true, Bool.or_eq_true, Bool.and_eq_false_imp, Bool.or_eq_false_iff, decide_eq_true_eq, decide_eq_false_iff_not] at cB47
                                                                                                refine c_seq (fun K184 hK184 => ?_)
                                                                                                refine c_region ?_
                                                                                                refine l_step (y_eql (et (gS rfl (gS rfl g0)) rfl) rfl) ?_
                                                                                                refine l_step (y_assignV (et g0 rfl)) ?_
                                                                                                refine l_nil ?_
                                                                                                refine hK184 _ _ ?_
                                                                                                refine fg2 54 105 (gS rfl (gS rfl (gS rfl (gS rfl g0)))) g0 (fun g => ?_)
                                                                                                refine c_condV (i := 105) g0 rfl (fun cB48 => ?_) (fun cB48 => ?_)
                                                                                                · skip
                                                                                                  simp only [Bool.and_eq_true, Bool.or_eq_true, Bool.and_eq_false_imp, Bool.or_eq_false_iff, decide_eq_true_eq, decide_eq_false_iff_not] at cB48
                                                                                                  refine c_seq (fun K186 hK186 => ?_)
                                                                                                  refine c_region ?_
                                                                                                  refine l_step y_assignC ?_
                                                                                                  refine l_step y_assignC ?_
                                                                                                  refine l_step y_assignC ?_
                                                                                                  refine l_step y_assignC ?_
                                                                                                  refine l_nil ?_
                                                                                                  refine hK186 _ _ ?_
                                                                                                  refine fg4 2 3 4 5 (gS rfl (gS rfl (gS rfl g0))) (gS rfl (gS rfl g0)) (gS rfl g0) g0 (fun g => ?_)
                                                                                                  refine c_ret ?_
                                                                                                  refine hQ18 _ _ _ (in_ret ?_)
                                                                                                  refine ret4 rfl (res_tmp (et (gS rfl (gS rfl (gS rfl g0))) rfl)) (res_tmp (et (gS rfl (gS rfl g0)) rfl)) (res_tmp (et (gS rfl g0) rfl)) (res_tmp (et g0 rfl)) ?_
                                                                                                  refine ⟨info_ret (a := 2) (b := 1) (c := 30) (by unfold KN; omega) ?_ ?_, U⟩
                                                                                                  · rw [arN, if_neg (by omega), if_neg (by omega), if_neg (by omega), if_neg (by omega), if_neg (by omega), if_neg (by omega), if_neg (by omega), if_neg (by omega), if_neg (by omega), if_neg (by omega), if_neg (by omega), if_neg (by omega), if_neg (by omega), if_pos (by omega)]
                                                                                                  · rw [sgN, if_neg (by omega), if_neg (by omega), if_neg (by omega), if_neg (by omega), if_neg (by omega), if_neg (by omega), if_neg (by omega), if_neg (by omega), if_neg (by omega), if_neg (by omega), if_neg (by omega), if_pos (by omega)]
                                                                                                · skip
                                                                                                  simp only [Bool.and_eq_true, Bool.or_eq_true, Bool.and_eq_false_imp, Bool.or_eq_false_iff, decide_eq_true_eq, decide_eq_false_iff_not] at cB48
                                                                                                  refine c_seq (fun K187 hK187 => ?_)
                                                                                                  refine c_seq (fun K188 hK188 => ?_)
                                                                                                  refine c_region ?_
                                                                                                  refine l_step (y_eql (et (gS rfl (gS rfl g0)) rfl) rfl) ?_
                                                                                                  refine l_step (y_assignV (et g0 rfl)) ?_
                                                                                                  refine l_nil ?_
                                                                                                  refine hK188 _ _ ?_
                                                                                                  refine fg2 54 107 (gS rfl (gS rfl (gS rfl (gS rfl g0)))) g0 (fun g => ?_)
                                                                                                  refine c_condV (i := 107) g0 rfl (fun cB49 => ?_) (fun cB49 => ?_)
                                                                                                  · skip
                                                                                                    simp only [Bool.and_eq_true, Bool.or_eq_true, Bool.and_eq_false_imp, Bool.or_eq_false_iff, decide_eq_true_eq, decide_eq_false_iff_not] at cB49
                                                                                                    refine c_skip ?_
                                                                                                    refine hK187 _ _ ?_
                                                                                                    refine fg2 54 107 (gS rfl (gS rfl g0)) g0 (fun g => ?_)
                                                                                                    refine c_true (et g0 rfl) rfl ?_
                                                                                                    refine c_seq (fun K191 hK191 => ?_)
                                                                                                    refine c_region ?_
                                                                                                    refine l_step y_assignC ?_
                                                                                                    refine l_step y_assignC ?_
                                                                                                    refine l_step y_assignC ?_
                                                                                                    refine l_step y_assignC ?_
                                                                                                    refine l_nil ?_
                                                                                                    refine hK191 _ _ ?_
                                                                                                    refine fg4 2 3 4 5 (gS rfl (gS rfl (gS rfl g0))) (gS rfl (gS rfl g0)) (gS rfl g0) g0 (fun g => ?_)
                                                                                                    refine c_ret ?_
                                                                                                    refine hQ18 _ _ _ (in_ret ?_)
                                                                                                    refine ret4 rfl (res_tmp (et (gS rfl (gS rfl (gS rfl g0))) rfl)) (res_tmp (et (gS rfl (gS rfl g0)) rfl)) (res_tmp (et (gS rfl g0) rfl)) (res_tmp (et g0 rfl)) ?_
                                                                                                    refine ⟨info_ret (a := 3) (b := 1) (c := 8) (by unfold KN; omega) ?_ ?_, U⟩
                                                                                                    · rw [arN, if_neg (by omega), if_neg (by omega), if_neg (by omega), if_neg (by omega), if_neg (by omega), if_pos (by omega)]
                                                                                                    · rw [sgN, if_neg (by omega), if_neg (by omega), if_neg (by omega), if_neg (by omega), if_neg (by omega), if_neg (by omega), if_neg (by omega), if_neg (by omega), if_neg (by omega), if_neg (by omega), if_neg (by omega), if_neg (by omega), if_pos (by omega)]
                                                                                                  · skip
                                                                                                    simp only [Bool.and_eq_true, Bool.or_eq_true, Bool.and_eq_false_imp, Bool.or_eq_false_iff, decide_eq_true_eq, decide_eq_false_iff_not] at cB49
                                                                                                    refine c_region ?_
                                                                                                    refine l_step (y_eql (et (gS rfl (gS rfl g0)) rfl) rfl) ?_
                                                                                                    refine l_step (y_assignV (et g0 rfl)) ?_
                                                                                                    refine l_nil ?_
                                                                                                    refine hK187 _ _ ?_
                                                                                                    refine fg2 54 107 (gS rfl (gS rfl (gS rfl (gS rfl g0)))) g0 (fun g => ?_)
                                                                                                    refine c_condV (i := 107) g0 rfl (fun cB50 => ?_) (fun cB50 => ?_)
                                                                                                    · skip
                                                                                                      simp only [Bool.and_eq_true, Bool.or_eq_true, Bool.and_eq_false_imp, Bool.or_eq_false_iff, decide_eq_true_eq, decide_eq_false_iff_not] at cB50
                                                                                                      refine c_seq (fun K193 hK193 => ?_)
                                                                                                      refine c_region ?_
                                                                                                      refine l_step y_assignC ?_
                                                                                                      refine l_step y_assignC ?_
                                                                                                      refine l_step y_assignC ?_
                                                                                                      refine l_step y_assignC ?_
                                                                                                      refine l_nil ?_
                                                                                                      refine hK193 _ _ ?_
                                                                                                      refine fg4 2 3 4 5 (gS rfl (gS rfl (gS rfl g0))) (gS rfl (gS rfl g0)) (gS rfl g0) g0 (fun g => ?_)
                                                                                                      refine c_ret ?_
                                                                                                      refine hQ18 _ _ _ (in_ret ?_)
                                                                                                      refine ret4 rfl (res_tmp (et (gS rfl (gS rfl (gS rfl g0))) rfl)) (res_tmp (et (gS rfl (gS rfl g0)) rfl)) (res_tmp (et (gS rfl g0) rfl)) (res_tmp (et g0 rfl)) ?_
                                                                                                      refine ⟨info_ret (a := 3) (b := 1) (c := 8) (by unfold KN; omega) ?_ ?_, U⟩
                                                                                                      · rw [arN, if_neg (by omega), if_neg (by omega), if_neg (by omega), if_neg (by omega), if_neg (by omega), if_pos (by omega)]
                                                                                                      · rw [sgN, if_neg (by omega), if_neg (by omega), if_neg (by omega), if_neg (by omega), if_neg (by omega), if_neg (by omega), if_neg (by omega), if_neg (by omega), if_neg (by omega), if_neg (by omega), if_neg (by omega), if_neg (by omega), if_pos (by omega)]
                                                                                                    · skip
                                                                                                      simp only [Bool.and_eq_true, Bool.or_eq_true, Bool.and_eq_false_imp, Bool.or_eq_false_iff, decide_eq_true_eq, decide_eq_false_iff_not] at cB50
                                                                                                      refine c_seq (fun K194 hK194 => ?_)
                                                                                                      refine c_seq (fun K195 hK195 => ?_)
                                                                                                      refine c_region ?_
                                                                                                      refine l_step (y_eql (et (gS rfl (gS rfl g0)) rfl) rfl) ?_
                                                                                                      refine l_step (y_assignV (et g0 rfl)) ?_
                                                                                                      refine l_nil ?_
                                                                                                      refine hK195 _ _ ?_
                                                                                                      refine fg2 54 110 (gS rfl (gS rfl (gS rfl (gS rfl g0)))) g0 (fun g => ?_)
                                                                                                      refine c_condV (i := 110) g0 rfl (fun cB51 => ?_) (fun cB51 => ?_)
                                                                                                      · skip
                                                                                                        simp only [Bool.and_eq_true, Bool.or_eq_true, Bool.and_eq_false_imp, Bool.or_eq_false_iff, decide_eq_true_eq, decide_eq_false_iff_not] at cB51
                                                                                                        refine c_skip ?_
                                                                                                        refine hK194 _ _ ?_
                                                                                                        refine fg2 54 110 (gS rfl (gS rfl g0)) g0 (fun g => ?_)
                                                                                                        refine c_true (et g0 rfl) rfl ?_
                                                                                                        refine c_seq (fun K198 hK198 => ?_)
                                                                                                        refine c_region ?_
                                                                                                        refine l_step y_assignC ?_
                                                                                                        refine l_step y_assignC ?_
                                                                                                        refine l_step y_assignC ?_
                                                                                                        refine l_step y_assignC ?_
                                                                                                        refine l_nil ?_
                                                                                                        refine hK198 _ _ ?_
                                                                                                        refine fg4 2 3 4 5 (gS rfl (gS rfl (gS rfl g0))) (gS rfl (gS rfl g0)) (gS rfl g0) g0 (fun g => ?_)
                                                                                                        refine c_ret ?_
                                                                                                        refine hQ18 _ _ _ (in_ret ?_)
                                                                                                        refine ret4 rfl (res_tmp (et (gS rfl (gS rfl (gS rfl g0))) rfl)) (res_tmp (et (gS rfl (gS rfl g0)) rfl)) (res_tmp (et (gS rfl g0) rfl)) (res_tmp (et g0 rfl)) ?_
                                                                                                        refine ⟨info_ret (a := 1) (b := 1) (c := 3) (by unfold KN; omega) ?_ ?_, U⟩
                                                                                                        · rw [arN, if_neg (by omega), if_neg (by omega), if_neg (by omega), if_neg (by omega), if_neg (by omega), if_neg (by omega), if_pos (by omega)]
                                                                                                        · rw [sgN, if_neg (by omega), if_neg (by omega), if_neg (by omega), if_neg (by omega), if_neg (by omega), if_neg (by omega), if_neg (by omega), if_neg (by omega), if_neg (by omega), if_neg (by omega), if_neg (by omega), if_neg (by omega), if_neg (by omega), if_pos (by omega)]
                                                                                                      · skip
                                                                                                        simp only [Bool.and_eq_true, Bool.or_eq_true, Bool.and_eq_false_imp, Bool.or_eq_false_iff, decide_eq_true_eq, decide_eq_false_iff_not] at cB51
                                                                                                        refine c_seq (fun K199 hK199 => ?_)
                                                                                                        refine c_region ?_
                                                                                                        refine l_step (y_eql (et (gS rfl (gS rfl g0)) rfl) rfl) ?_
                                                                                                        refine l_step (y_assignV (et g0 rfl)) ?_
                                                                                                        refine l_nil ?_
                                                                                                        refine hK199 _ _ ?_
                                                                                                        refine fg2 54 110 (gS rfl (gS rfl (gS rfl (gS rfl g0)))) g0 (fun g => ?_)
                                                                                                        refine c_condV (i := 110) g0 rfl (fun cB52 => ?_) (fun cB52 => ?_)
                                                                                                        · skip
                                                                                                          simp only [Bool.and_eq_true, Bool.or_eq_true, Bool.and_eq_false_imp, Bool.or_eq_false_iff, decide_eq_true_eq, decide_eq_false_iff_not] at cB52
                                                                                                          refine c_skip ?_
                                                                                                          refine hK194 _ _ ?_
                                                                                                          refine fg2 54 110 (gS rfl (gS rfl g0)) g0 (fun g => ?_)
                                                                                                          refine c_true (et g0 rfl) rfl ?_
                                                                                                          refine c_seq (fun K202 hK202 => ?_)
                                                                                                          refine c_region ?_
                                                                                                          refine l_step y_assignC ?_
                                                                                                          refine l_step y_assignC ?_
                                                                                                          refine l_step y_assignC ?_
                                                                                                          refine l_step y_assignC ?_
                                                                                                          refine l_nil ?_
                                                                                                          refine hK202 _ _ ?_
                                                                                                          refine fg4 2 3 4 5 (gS rfl (gS rfl (gS rfl g0))) (gS rfl (gS rfl g0)) (gS rfl g0) g0 (fun g => ?_)
                                                                                                          refine c_ret ?_
                                                                                                          refine hQ18 _ _ _ (in_ret ?_)
                                                                                                          refine ret4 rfl (res_tmp (et (gS rfl (gS rfl (gS rfl g0))) rfl)) (res_tmp (et (gS rfl (gS rfl g0)) rfl)) (res_tmp (et (gS rfl g0) rfl)) (res_tmp (et g0 rfl)) ?_
                                                                                                          refine ⟨info_ret (a := 1) (b := 1) (c := 3) (by unfold KN; omega) ?_ ?_, U⟩
                                                                                                          · rw [arN, if_neg (by omega), if_neg (by omega), if_neg (by omega), if_neg (by omega), if_neg (by omega), if_neg (by omega), if_pos (by omega)]
                                                                                                          · rw [sgN, if_neg (by omega), if_neg (by omega), if_neg (by omega), if_neg (by omega), if_neg (by omega), if_neg (by omega), if_neg (by omega), if_neg (by omega), if_neg (by omega), if_neg (by omega), if_neg (by omega), if_neg (by omega), if_neg (by omega), if_pos (by omega)]
                                                                                                        · skip
                                                                                                          simp only [Bool.and_eq_true, Bool.or_eq_true, Bool.and_eq_false_imp, Bool.or_eq_false_iff, decide_eq_true_eq, decide_eq_false_iff_not] at cB52
                                                                                                          refine c_seq (fun K203 hK203 => ?_)
                                                                                                          refine c_region ?_
                                                                                                          refine l_step (y_eql (et (gS rfl (gS rfl g0)) rfl) rfl) ?_
                                                                                                          refine l_step (y_assignV (et g0 rfl)) ?_
                                                                                                          refine l_nil ?_
                                                                                                          refine hK203 _ _ ?_
                                                                                                          refine fg2 54 110 (gS rfl (gS rfl (gS rfl (gS rfl g0)))) g0 (fun g => ?_)
                                                                                                          refine c_condV (i := 110) g0 rfl (fun cB53 => ?_) (fun cB53 => ?_)
                                                                                                          · skip
                                                                                                            simp only [Bool.and_eq_true, Bool.or_eq_true, Bool.and_eq_false_imp, Bool.or_eq_false_iff, decide_eq_true_eq, decide_eq_false_iff_not] at cB53
                                                                                                            refine c_skip ?_
                                                                                                            refine hK194 _ _ ?_
                                                                                                            refine fg2 54 110 (gS rfl (gS rfl g0)) g0 (fun g => ?_)
                                                                                                            refine c_true (et g0 rfl) rfl ?_
                                                                                                            refine c_seq (fun K206 hK206 => ?_)
                                                                                                            refine c_region ?_
                                                                                                            refine l_step y_assignC ?_
                                                                                                            refine l_step y_assignC ?_
                                                                                                            refine l_step y_assignC ?_
                                                                                                            refine l_step y_assignC ?_
                                                                                                            refine l_nil ?_
                                                                                                            refine hK206 _ _ ?_
                                                                                                            refine fg4 2 3 4 5 (gS rfl (gS rfl (gS rfl g0))) (gS rfl (gS rfl g0)) (gS rfl g0) g0 (fun g => ?_)
                                                                                                            refine c_ret ?_
                                                                                                            refine hQ18 _ _ _ (in_ret ?_)
                                                                                                            refine ret4 rfl (res_tmp (et (gS rfl (gS rfl (gS rfl g0))) rfl)) (res_tmp (et (gS rfl (gS rfl g0)) rfl)) (res_tmp (et (gS rfl g0) rfl)) (res_tmp (et g0 rfl)) ?_
                                                                                                            refine ⟨info_ret (a := 1) (b := 1) (c := 3) (by unfold KN; omega) ?_ ?_, U⟩
                                                                                                            · rw [arN, if_neg (by omega), if_neg (by omega), if_neg (by omega), if_neg (by omega), if_neg (by omega), if_neg (by omega), if_pos (by omega)]
                                                                                                            · rw [sgN, if_neg (by omega), if_neg (by omega), if_neg (by omega), if_neg (by omega), if_neg (by omega), if_neg (by omega), if_neg (by omega), if_neg (by omega), if_neg (by omega), if_neg (by omega), if_neg (by omega), if_neg (by omega), if_neg (by omega), if_pos (by omega)]
                                                                                                          · skip
                                                                                                            simp only [Bool.and_eq_true, Bool.or_eq_true, Bool.and_eq_false_imp, Bool.or_eq_false_iff, decide_eq_true_eq, decide_eq_false_iff_not] at cB53
                                                                                                            refine c_region ?_
                                                                                                            refine l_step (y_eql (et (gS rfl (gS rfl g0)) rfl) rfl) ?_
                                                                                                            refine l_step (y_assignV (et g0 rfl)) ?_
                                                                                                            refine l_nil ?_
                                                                                                            refine hK194 _ _ ?_
                                                                                                            refine fg2 54 110 (gS rfl (gS rfl (gS rfl (gS rfl g0)))) g0 (fun g => ?_)
                                                                                                            refine c_condV (i := 110) g0 rfl (fun cB54 => ?_) (fun cB54 => ?_)
                                                                                                            · skip
                                                                                                              simp only [Bool.and_eq_true, Bool.or_eq_true, Bool.and_eq_false_imp, Bool.or_eq_false_iff, decide_eq_true_eq, decide_eq_false_iff_not] at cB54
                                                                                                              refine c_seq (fun K208 hK208 => ?_)
                                                                                                              refine c_region ?_
                                                                                                              refine l_step y_assignC ?_
                                                                                                              refine l_step y_assignC ?_
                                                                                                              refine l_step y_assignC ?_
                                                                                                              refine l_step y_assignC ?_
                                                                                                              refine l_nil ?_
                                                                                                              refine hK208 _ _ ?_
                                                                                                              refine fg4 2 3 4 5 (gS rfl (gS rfl (gS rfl g0))) (gS rfl (gS rfl g0)) (gS rfl g0) g0 (fun g => ?_)
                                                                                                              refine c_ret ?_
                                                                                                              refine hQ18 _ _ _ (in_ret ?_)
                                                                                                              refine ret4 rfl (res_tmp (et (gS rfl (gS rfl (gS rfl g0))) rfl)) (res_tmp (et (gS rfl (gS rfl g0)) rfl)) (res_tmp (et (gS rfl g0) rfl)) (res_tmp (et g0 rfl)) ?_
                                                                                                              refine ⟨info_ret (a := 1) (b := 1) (c := 3) (by unfold KN; omega) ?_ ?_, U⟩
                                                                                                              · rw [arN, if_neg (by omega), if_neg (by omega), if_neg (by omega), if_neg (by omega), if_neg (by omega), if_neg (by omega), if_pos (by omega)]
                                                                                                              · rw [sgN, if_neg (by omega), if_neg (by omega), if_neg (by omega), if_neg (by omega), if_neg (by omega), if_neg (by omega), if_neg (by omega), if_neg (by omega), if_neg (by omega), if_neg (by omega), if_neg (by omega), if_neg (by omega), if_neg (by omega), if_pos (by omega)]
                                                                                                            · skip
                                                                                                              simp only [Bool.and_eq_true, Bool.or_eq_true, Bool.and_eq_false_imp, Bool.or_eq_false_iff, decide_eq_true_eq, decide_eq_false_iff_not] at cB54
                                                                                                              refine c_seq (fun K209 hK209 => ?_)
                                                                                                              refine c_seq (fun K210 hK210 => ?_)
                                                                                                              refine c_region ?_
                                                                                                              refine l_step (y_eql (et (gS rfl (gS rfl g0)) rfl) rfl) ?_
                                                                                                              refine l_step (y_assignV (et g0 rfl)) ?_
                                                                                                              refine l_nil ?_
                                                                                                              refine hK210 _ _ ?_
                                                                                                              refine fg2 54 115 (gS rfl (gS rfl (gS rfl (gS rfl g0)))) g0 (fun g => ?_)
                                                                                                              refine c_condV (i := 115) g0 rfl (fun cB55 => ?_) (fun cB55 => ?_)
                                                                                                              · skip
                                                                                                                simp only [Bool.and_eq_true, Bool.or_eq_true, Bool.and_eq_false_imp, Bool.or_eq_false_iff, decide_eq_true_eq, decide_eq_false_iff_not] at cB55
                                                                                                                refine c_skip ?_
                                                                                                                refine hK209 _ _ ?_
                                                                                                                refine fg2 54 115 (gS rfl (gS rfl g0)) g0 (fun g => ?_)
                                                                                                                refine c_true (et g0 rfl) rfl ?_
                                                                                                                refine c_seq (fun K213 hK213 => ?_)
                                                                                                                refine c_region ?_
                                                                                                                refine l_step y_assignC ?_
                                                                                                                refine l_step y_assignC ?_
                                                                                                                refine l_step y_assignC ?_
                                                                                                                refine l_step y_assignC ?_
                                                                                                                refine l_nil ?_
                                                                                                                refine hK213 _ _ ?_
                                                                                                                refine fg4 2 3 4 5 (gS rfl (gS rfl (gS rfl g0))) (gS rfl (gS rfl g0)) (gS rfl g0) g0 (fun g => ?_)
                                                                                                                refine c_ret ?_
                                                                                                                refine hQ18 _ _ _ (in_ret ?_)
                                                                                                                refine ret4 rfl (res_tmp (et (gS rfl (gS rfl (gS rfl g0))) rfl)) (res_tmp (et (gS rfl (gS rfl g0)) rfl)) (res_tmp (et (gS rfl g0) rfl)) (res_tmp (et g0 rfl)) ?_
                                                                                                                refine ⟨info_ret (a := 1) (b := 1) (c := 0) (by unfold KN; omega) ?_ ?_, U⟩
                                                                                                                · rw [arN, if_neg (by omega), if_neg (by omega), if_neg (by omega), if_neg (by omega), if_neg (by omega), if_neg (by omega), if_pos (by omega)]
                                                                                                                · rw [sgN, if_neg (by omega), if_neg (by omega), if_neg (by omega), if_neg (by omega), if_neg (by omega), if_neg (by omega), if_neg (by omega), if_neg (by omega), if_neg (by omega), if_neg (by omega), if_neg (by omega), if_neg (by omega), if_neg (by omega), if_neg (by omega), if_pos (by omega)]
                                                                                                              · skip
                                                                                                                simp only [Bool.and_eq_true, Bool.or_eq_true, Bool.and_eq_false_imp, Bool.or_eq_false_iff, decide_eq_true_eq, decide_eq_false_iff_not] at cB55
                                                                                                                refine c_seq (fun K214 hK214 => ?_)
                                                                                                                refine c_region ?_
                                                                                                                refine l_step (y_eql (et (gS rfl (gS rfl g0)) rfl) rfl) ?_
                                                                                                                refine l_step (y_assignV (et g0 rfl)) ?_
                                                                                                                refine l_nil ?_
                                                                                                                refine hK214 _ _ ?_
                                                                                                                refine fg2 54 115 (gS rfl (gS rfl (gS rfl (gS rfl g0)))) g0 (fun g => ?_)
                                                                                                                refine c_condV (i := 115) g0 rfl (fun cB56 => ?_) (fun cB56 => ?_)
                                                                                                                · skip
                                                                                                                  simp only [Bool.and_eq_true, Bool.or_eq_true, Bool.and_eq_false_imp, Bool.or_eq_false_iff, decide_eq_true_eq, decide_eq_false_iff_not] at cB56
                                                                                                                  refine c_skip ?_
                                                                                                                  refine hK209 _ _ ?_
                                                                                                                  refine fg2 54 115 (gS rfl (gS rfl g0)) g0 (fun g => ?_)
                                                                                                                  refine c_true (et g0 rfl) rfl ?_
                                                                                                                  refine c_seq (fun K217 hK217 => ?_)
                                                                                                                  refine c_region ?_
                                                                                                                  refine l_step y_assignC ?_
                                                                                                                  refine l_step y_assignC ?_
                                                                                                                  refine l_step y_assignC ?_
                                                                                                                  refine l_step y_assignC ?_
                                                                                                                  refine l_nil ?_
                                                                                                                  refine hK217 _ _ ?_
                                                                                                                  refine fg4 2 3 4 5 (gS rfl (gS rfl (gS rfl g0))) (gS rfl (gS rfl g0)) (gS rfl g0) g0 (fun g => ?_)
                                                                                                                  refine c_ret ?_
                                                                                                                  refine hQ18 _ _ _ (in_ret ?_)
                                                                                                                  refine ret4 rfl (res_tmp (et (gS rfl (gS rfl (gS rfl g0))) rfl)) (res_tmp (et (gS rfl (gS rfl g0)) rfl)) (res_tmp (et (gS rfl g0) rfl)) (res_tmp (et g0 rfl)) ?_
                                                                                                                  refine ⟨info_ret (a := 1) (b := 1) (c := 0) (by unfold KN; omega) ?_ ?_, U⟩
                                                                                                                  · rw [arN, if_neg (by omega), if_neg (by omega), if_neg (by omega), if_neg (by omega), if_neg (by omega), if_neg (by omega), if_pos (by omega)]
                                                                                                                  · rw [sgN, if_neg (by omega), if_neg (by omega), if_neg (by omega), if_neg (by omega), if_neg (by omega), if_neg (by omega), if_neg (by omega), if_neg (by omega), if_neg (by omega), if_neg (by omega), if_neg (by omega), if_neg (by omega), if_neg (by omega), if_neg (by omega), if_pos (by omega)]
                                                                                                                · skip
                                                                                                                  simp only [Bool.and_eq_true, Bool.or_eq_true, Bool.and_eq_false_imp, Bool.or_eq_false_iff, decide_eq_true_eq, decide_eq_false_iff_not] at cB56
                                                                                                                  refine c_seq (fun K218 hK218 => ?_)
                                                                                                                  refine c_region ?_
                                                                                                                  refine l_step (y_eql (et (gS rfl (gS rfl g0)) rfl) rfl) ?_
                                                                                                                  refine l_step (y_assignV (et g0 rfl)) ?_
                                                                                                                  refine l_nil ?_
                                                                                                                  refine hK218 _ _ ?_
                                                                                                                  refine fg2 54 115 (gS rfl (gS rfl (gS rfl (gS rfl g0)))) g0 (fun g => ?_)
                                                                                                                  refine c_condV (i := 115) g0 rfl (fun cB57 => ?_) (fun cB57 => ?_)
                                                                                                                  · skip
                                                                                                                    simp only [Bool.and_eq_true, Bool.or_eq_true, Bool.and_eq_false_imp, Bool.or_eq_false_iff, decide_eq_true_eq, decide_eq_false_iff_not] at cB57
                                                                                                                    refine c_skip ?_
                                                                                                                    refine hK209 _ _ ?_
                                                                                                                    refine fg2 54 115 (gS rfl (gS rfl g0)) g0 (fun g => ?_)
                                                                                                                    refine c_true (et g0 rfl) rfl ?_
                                                                                                                    refine c_seq (fun K221 hK221 => ?_)
                                                                                                                    refine c_region ?_
                                                                                                                    refine l_step y_assignC ?_
                                                                                                                    refine l_step y_assignC ?_
                                                                                                                    refine l_step y_assignC ?_
                                                                                                                    refine l_step y_assignC ?_
                                                                                                                    refine l_nil ?_
                                                                                                                    refine hK221 _ _ ?_
                                                                                                                    refine fg4 2 3 4 5 (gS rfl (gS rfl (gS rfl g0))) (gS rfl (gS rfl g0)) (gS rfl g0) g0 (fun g => ?_)
                                                                                                                    refine c_ret ?_
                                                                                                                    refine hQ18 _ _ _ (in_ret ?_)
                                                                                                                    refine ret4 rfl (res_tmp (et (gS rfl (gS rfl (gS rfl g0))) rfl)) (res_tmp (et (gS rfl (gS rfl g0)) rfl)) (res_tmp (et (gS rfl g0) rfl)) (res_tmp (et g0 rfl)) ?_
                                                                                                                    refine ⟨info_ret (a := 1) (b := 1) (c := 0) (by unfold KN; omega) ?_ ?_, U⟩
                                                                                                                    · rw [arN, if_neg (by omega), if_neg (by omega), if_neg (by omega), if_neg (by omega), if_neg (by omega), if_neg (by omega), if_pos (by omega)]
                                                                                                                    · rw [sgN, if_neg (by omega), if_neg (by omega), if_neg (by omega), if_neg (by omega), if_neg (by omega), if_neg (by omega), if_neg (by omega), if_neg (by omega), if_neg (by omega), if_neg (by omega), if_neg (by omega), if_neg (by omega), if_neg (by omega), if_neg (by omega), if_pos (by omega)]
                                                                                                                  · skip
                                                                                                                    simp only [Bool.and_eq_true, Bool.or_eq_true, Bool.and_eq_false_imp, Bool.or_eq_false_iff, decide_eq_true_eq, decide_eq_false_iff_not] at cB57
                                                                                                                    refine c_region ?_
                                                                                                                    refine l_step (y_eql (et (gS rfl (gS rfl g0)) rfl) rfl) ?_
                                                                                                                    refine l_step (y_assignV (et g0 rfl)) ?_
                                                                                                                    refine l_nil ?_
                                                                                                                    refine hK209 _ _ ?_
                                                                                                                    refine fg2 54 115 (gS rfl (gS rfl (gS rfl (gS rfl g0)))) g0 (fun g => ?_)
                                                                                                                    refine c_condV (i := 115) g0 rfl (fun cB58 => ?_) (fun cB58 => ?_)
                                                                                                                    · skip
                                                                                                                      simp only [Bool.and_eq_true, Bool.or_eq_true, Bool.and_eq_false_imp, Bool.or_eq_false_iff, decide_eq_true_eq, decide_eq_false_iff_not] at cB58
                                                                                                                      refine c_seq (fun K223 hK223 => ?_)
                                                                                                                      refine c_region ?_
                                                                                                                      refine l_step y_assignC ?_
                                                                                                                      refine l_step y_assignC ?_
                                                                                                                      refine l_step y_assignC ?_
                                                                                                                      refine l_step y_assignC ?_
                                                                                                                      refine l_nil ?_
                                                                                                                      refine hK223 _ _ ?_
                                                                                                                      refine fg4 2 3 4 5 (gS rfl (gS rfl (gS rfl g0))) (gS rfl (gS rfl g0)) (gS rfl g0) g0 (fun g => ?_)
                                                                                                                      refine c_ret ?_
                                                                                                                      refine hQ18 _ _ _ (in_ret ?_)
                                                                                                                      refine ret4 rfl (res_tmp (et (gS rfl (gS rfl (gS rfl g0))) rfl)) (res_tmp (et (gS rfl (gS rfl g0)) rfl)) (res_tmp (et (gS rfl g0) rfl)) (res_tmp (et g0 rfl)) ?_
                                                                                                                      refine ⟨info_ret (a := 1) (b := 1) (c := 0) (by unfold KN; omega) ?_ ?_, U⟩
                                                                                                                      · rw [arN, if_neg (by omega), if_neg (by omega), if_neg (by omega), if_neg (by omega), if_neg (by omega), if_neg (by omega), if_pos (by omega)]
                                                                                                                      · rw [sgN, if_neg (by omega), if_neg (by omega), if_neg (by omega), if_neg (by omega), if_neg (by omega), if_neg (by omega), if_neg (by omega), if_neg (by omega), if_neg (by omega), if_neg (by omega), if_neg (by omega), if_neg (by omega), if_neg (by omega), if_neg (by omega), if_pos (by omega)]
                                                                                                                    · skip
                                                                                                                      simp only [Bool.and_eq_true, Bool.or_eq_true, Bool.and_eq_false_imp, Bool.or_eq_false_iff, decide_eq_true_eq, decide_eq_false_iff_not] at cB58
                                                                                                                      refine c_seq (fun K224 hK224 => ?_)
                                                                                                                      refine c_region ?_
                                                                                                                      refine l_step (y_eql (et (gS rfl (gS rfl g0)) rfl) rfl) ?_
                                                                                                                      refine l_step (y_assignV (et g0 rfl)) ?_
                                                                                                                      refine l_nil ?_
                                                                                                                      refine hK224 _ _ ?_
                                                                                                                      refine fg2 54 120 (gS rfl (gS rfl (gS rfl (gS rfl g0)))) g0 (fun g => ?_)
                                                                                                                      refine c_condV (i := 120) g0 rfl (fun cB59 => ?_) (fun cB59 => ?_)
                                                                                                                      · skip
                                                                                                                        simp only [Bool.and_eq_true, Bool.or_eq_true, Bool.and_eq_false_imp, Bool.or_eq_false_iff, decide_eq_true_eq, decide_eq_false_iff_not] at cB59
                                                                                                                        refine c_seq (fun K226 hK226 => ?_)
                                                                                                                        refine c_region ?_
                                                                                                                        refine l_step y_assignC ?_
                                                                                                                        refine l_step y_assignC ?_
                                                                                                                        refine l_step y_assignC ?_
                                                                                                                        refine l_step y_assignC ?_
                                                                                                                        refine l_nil ?_
                                                                                                                        refine hK226 _ _ ?_
                                                                                                                        refine fg4 2 3 4 5 (gS rfl (gS rfl (gS rfl g0))) (gS rfl (gS rfl g0)) (gS rfl g0) g0 (fun g => ?_)
                                                                                                                        refine c_ret ?_
                                                                                                                        refine hQ18 _ _ _ (in_ret ?_)
                                                                                                                        refine ret4 rfl (res_tmp (et (gS rfl (gS rfl (gS rfl g0))) rfl)) (res_tmp (et (gS rfl (gS rfl g0)) rfl)) (res_tmp (et (gS rfl g0) rfl)) (res_tmp (et g0 rfl)) ?_
                                                                                                                        refine ⟨info_ret (a := 1) (b := 1) (c := 100) (by unfold KN; omega) ?_ ?_, U⟩
                                                                                                                        · rw [arN, if_neg (by omega), if_neg (by omega), if_neg (by omega), if_neg (by omega), if_neg (by omega), if_neg (by omega), if_pos (by omega)]
                                                                                                                        · rw [sgN, if_neg (by omega), if_neg (by omega), if_neg (by omega), if_neg (by omega), if_neg (by omega), if_neg (by omega), if_neg (by omega), if_neg (by omega), if_neg (by omega), if_neg (by omega), if_neg (by omega), if_neg (by omega), if_neg (by omega), if_neg (by omega), if_neg (by omega), if_pos (by omega)]
                                                                                                                      · skip
                                                                                                                        simp only [Bool.and_eq_true, Bool.or_eq_true, Bool.and_eq_false_imp, Bool.or_eq_false_iff, decide_eq_true_eq, decide_eq_false_iff_not] at cB59
                                                                                                                        refine c_seq (fun K227 hK227 => ?_)
                                                                                                                        refine c_region ?_
                                                                                                                        refine l_step (y_eql (et (gS rfl (gS rfl g0)) rfl) rfl) ?_
                                                                                                                        refine l_step (y_assignV (et g0 rfl)) ?_
                                                                                                                        refine l_nil ?_
                                                                                                                        refine hK227 _ _ ?_
                                                                                                                        refine fg2 54 122 (gS rfl (gS rfl (gS rfl (gS rfl g0)))) g0 (fun g => ?_)
                                                                                                                        refine c_condV (i := 122) g0 rfl (fun cB60 => ?_) (fun cB60 => ?_)
                                                                                                                        · skip
                                                                                                                          simp only [Bool.and_eq_true, Bool.or_eq_true, Bool.and_eq_false_imp, Bool.or_eq_false_iff, decide_eq_true_eq, decide_eq_false_iff_not] at cB60
                                                                                                                          refine c_seq (fun K229 hK229 => ?_)
                                                                                                                          refine c_region ?_
                                                                                                                          refine l_step y_assignC ?_
                                                                                                                          refine l_step y_assignC ?_
                                                                                                                          refine l_step y_assignC ?_
                                                                                                                          refine l_step y_assignC ?_
                                                                                                                          refine l_nil ?_
                                                                                                                          refine hK229 _ _ ?_
                                                                                                                          refine fg4 2 3 4 5 (gS rfl (gS rfl (gS rfl g0))) (gS rfl (gS rfl g0)) (gS rfl g0) g0 (fun g => ?_)
                                                                                                                          refine c_ret ?_
                                                                                                                          refine hQ18 _ _ _ (in_ret ?_)
                                                                                                                          refine ret4 rfl (res_tmp (et (gS rfl (gS rfl (gS rfl g0))) rfl)) (res_tmp (et (gS rfl (gS rfl g0)) rfl)) (res_tmp (et (gS rfl g0) rfl)) (res_tmp (et g0 rfl)) ?_
                                                                                                                          refine ⟨info_ret (a := 2) (b := 0) (c := 100) (by unfold KN; omega) ?_ ?_, U⟩
                                                                                                                          · rw [arN, if_neg (by omega), if_neg (by omega), if_neg (by omega), if_neg (by omega), if_neg (by omega), if_neg (by omega), if_neg (by omega), if_pos (by omega)]
                                                                                                                          · rw [sgN, if_neg (by omega), if_neg (by omega), if_neg (by omega), if_neg (by omega), if_neg (by omega), if_neg (by omega), if_neg (by omega), if_neg (by omega), if_neg (by omega), if_neg (by omega), if_neg (by omega), if_neg (by omega), if_neg (by omega), if_neg (by omega), if_neg (by omega), if_neg (by omega), if_pos (by omega)]
                                                                                                                        · skip
                                                                                                                          simp only [Bool.and_eq_true, Bool.or_eq_true, Bool.and_eq_false_imp, Bool.or_eq_false_iff, decide_eq_true_eq, decide_eq_false_iff_not] at cB60
                                                                                                                          refine c_seq (fun K230 hK230 => ?_)
                                                                                                                          refine c_region ?_
                                                                                                                          refine l_step (y_eql (et (gS rfl (gS rfl g0)) rfl) rfl) ?_
                                                                                                                          refine l_step (y_assignV (et g0 rfl)) ?_
                                                                                                                          refine l_nil ?_
                                                                                                                          refine hK230 _ _ ?_
                                                                                                                          refine fg2 54 124 (gS rfl (gS rfl (gS rfl (gS rfl g0)))) g0 (fun g => ?_)
                                                                                                                          refine c_condV (i := 124) g0 rfl (fun cB61 => ?_) (fun cB61 => ?_)
                                                                                                                          · skip
                                                                                                                            simp only [Bool.and_eq_true, Bool.or_eq_true, Bool.and_eq_false_imp, Bool.or_eq_false_iff, decide_eq_true_eq, decide_eq_false_iff_not] at cB61
                                                                                                                            refine c_seq (fun K232 hK232 => ?_)
                                                                                                                            refine c_region ?_
                                                                                                                            refine l_step y_assignC ?_
                                                                                                                            refine l_step y_assignC ?_
                                                                                                                            refine l_step y_assignC ?_
                                                                                                                            refine l_step y_assignC ?_
                                                                                                                            refine l_nil ?_
                                                                                                                            refine hK232 _ _ ?_
                                                                                                                            refine fg4 2 3 4 5 (gS rfl (gS rfl (gS rfl g0))) (gS rfl (gS rfl g0)) (gS rfl g0) g0 (fun g => ?_)
                                                                                                                            refine c_ret ?_
                                                                                                                            refine hQ18 _ _ _ (in_ret ?_)
                                                                                                                            refine ret4 rfl (res_tmp (et (gS rfl (gS rfl (gS rfl g0))) rfl)) (res_tmp (et (gS rfl (gS rfl g0)) rfl)) (res_tmp (et (gS rfl g0) rfl)) (res_tmp (et g0 rfl)) ?_
                                                                                                                            refine ⟨info_ret (a := 1) (b := 0) (c := 5000) (by unfold KN; omega) ?_ ?_, U⟩
                                                                                                                            · rw [arN, if_neg (by omega), if_neg (by omega), if_neg (by omega), if_neg (by omega), if_pos (by omega)]
                                                                                                                            · rw [sgN, if_neg (by omega), if_neg (by omega), if_neg (by omega), if_neg (by omega), if_neg (by omega), if_neg (by omega), if_neg (by omega), if_neg (by omega), if_neg (by omega), if_neg (by omega), if_neg (by omega), if_neg (by omega), if_neg (by omega), if_neg (by omega), if_neg (by omega), if_neg (by omega), if_neg (by omega), if_pos (by omega)]
                                                                                                                          · skip
                                                                                                                            simp only [Bool.and_eq_true, Bool.or_eq_true, Bool.and_eq_false_imp, Bool.or_eq_false_iff, decide_eq_true_eq, decide_eq_false_iff_not] at cB61
                                                                                                                            refine c_seq (fun K233 hK233 => ?_)
                                                                                                                            refine c_region ?_
                                                                                                                            refine l_step (y_eql (et (gS rfl (gS rfl g0)) rfl) rfl) ?_
                                                                                                                            refine l_step (y_assignV (et g0 rfl)) ?_
                                                                                                                            refine l_nil ?_
                                                                                                                            refine hK233 _ _ ?_
                                                                                                                            refine fg2 54 126 (gS rfl (gS rfl (gS rfl (gS rfl g0)))) g0 (fun g => ?_)
                                                                                                                            refine c_condV (i := 126) g0 rfl (fun cB62 => ?_) (fun cB62 => ?_)
                                                                                                                            · skip
                                                                                                                              simp only [Bool.and_eq_true, Bool.or_eq_true, Bool.and_eq_false_imp, Bool.or_eq_false_iff, decide_eq_true_eq, decide_eq_false_iff_not] at cB62
                                                                                                                              refine c_seq (fun K235 hK235 => ?_)
                                                                                                                              refine c_region ?_
                                                                                                                              refine l_step y_assignC ?_
                                                                                                                              refine l_step y_assignC ?_
                                                                                                                              refine l_step y_assignC ?_
                                                                                                                              refine l_step y_assignC ?_
                                                                                                                              refine l_nil ?_
                                                                                                                              refine hK235 _ _ ?_
                                                                                                                              refine fg4 2 3 4 5 (gS rfl (gS rfl (gS rfl g0))) (gS rfl (gS rfl g0)) (gS rfl g0) g0 (fun g => ?_)
                                                                                                                              refine c_ret ?_
                                                                                                                              refine hQ18 _ _ _ (in_ret ?_)
                                                                                                                              refine ret4 rfl (res_tmp (et (gS rfl (gS rfl (gS rfl g0))) rfl)) (res_tmp (et (gS rfl (gS rfl g0)) rfl)) (res_tmp (et (gS rfl g0) rfl)) (res_tmp (et g0 rfl)) ?_
                                                                                                                              refine ⟨info_ret (a := 1) (b := 1) (c := 20) (by unfold KN; omega) ?_ ?_, U⟩
                                                                                                                              · rw [arN, if_neg (by omega), if_neg (by omega), if_neg (by omega), if_neg (by omega), if_neg (by omega), if_neg (by omega), if_pos (by omega)]
                                                                                                                              · rw [sgN, if_neg (by omega), if_neg (by omega), if_neg (by omega), if_neg (by omega), if_neg (by omega), if_neg (by omega), if_neg (by omega), if_neg (by omega), if_neg (by omega), if_neg (by omega), if_neg (by omega), if_neg (by omega), if_neg (by omega), if_neg (by omega), if_neg (by omega), if_neg (by omega), if_neg (by omega), if_neg (by omega), if_pos (by omega)]
                                                                                                                            · skip
                                                                                                                              simp only [Bool.and_eq_true, Bool.or_eq_true, Bool.and_eq_false_imp, Bool.or_eq_false_iff, decide_eq_true_eq, decide_eq_false_iff_not] at cB62
                                                                                                                              refine c_seq (fun K236 hK236 => ?_)
                                                                                                                              refine c_region ?_
                                                                                                                              refine l_step (y_eql (et (gS rfl (gS rfl g0)) rfl) rfl) ?_
                                                                                                                              refine l_step (y_assignV (et g0 rfl)) ?_
                                                                                                                              refine l_nil ?_
                                                                                                                              refine hK236 _ _ ?_
                                                                                                                              refine fg2 54 128 (gS rfl (gS rfl (gS rfl (gS rfl g0)))) g0 (fun g => ?_)
                                                                                                                              refine c_condV (i := 128) g0 rfl (fun cB63 => ?_) (fun cB63 => ?_)
                                                                                                                              · skip
                                                                                                                                simp only [Bool.and_eq_true, Bool.or_eq_true, Bool.and_eq_false_imp, Bool.or_eq_false_iff, decide_eq_true_eq, decide_eq_false_iff_not] at cB63
                                                                                                                                refine c_seq (fun K238 hK238 => ?_)
                                                                                                                                refine c_region ?_
                                                                                                                                refine l_step y_assignC ?_
                                                                                                                                refine l_step y_assignC ?_
                                                                                                                                refine l_step y_assignC ?_
                                                                                                                                refine l_step y_assignC ?_
                                                                                                                                refine l_nil ?_
                                                                                                                                refine hK238 _ _ ?_
                                                                                                                                refine fg4 2 3 4 5 (gS rfl (gS rfl (gS rfl g0))) (gS rfl (gS rfl g0)) (gS rfl g0) g0 (fun g => ?_)
                                                                                                                                refine c_ret ?_
                                                                                                                                refine hQ18 _ _ _ (in_ret ?_)
                                                                                                                                refine ret4 rfl (res_tmp (et (gS rfl (gS rfl (gS rfl g0))) rfl)) (res_tmp (et (gS rfl (gS rfl g0)) rfl)) (res_tmp (et (gS rfl g0) rfl)) (res_tmp (et g0 rfl)) ?_
                                                                                                                                refine ⟨info_ret (a := 1) (b := 0) (c := 2) (by unfold KN; omega) ?_ ?_, U⟩
                                                                                                                                · rw [arN, if_neg (by omega), if_neg (by omega), if_neg (by omega), if_neg (by omega), if_pos (by omega)]
                                                                                                                                · rw [sgN, if_neg (by omega), if_neg (by omega), if_neg (by omega), if_neg (by omega), if_neg (by omega), if_neg (by omega), if_neg (by omega), if_neg (by omega), if_neg (by omega), if_neg (by omega), if_neg (by omega), if_neg (by omega), if_neg (by omega), if_neg (by omega), if_neg (by omega), if_neg (by omega), if_neg (by omega), if_neg (by omega), if_neg (by omega), if_pos (by omega)]
                                                                                                                              · skip
                                                                                                                                simp only [Bool.and_eq_true, Bool.or_eq_true, Bool.and_eq_false_imp, Bool.or_eq_false_iff, decide_eq_true_eq, decide_eq_false_iff_not] at cB63
                                                                                                                                refine c_seq (fun K239 hK239 => ?_)
                                                                                                                                refine c_region ?_
                                                                                                                                refine l_step (y_eql (et (gS rfl (gS rfl g0)) rfl) rfl) ?_
                                                                                                                                refine l_step (y_assignV (et g0 rfl)) ?_
                                                                                                                                refine l_nil ?_
                                                                                                                                refine hK239 _ _ ?_
                                                                                                                                refine fg2 54 130 (gS rfl (gS rfl (gS rfl (gS rfl g0)))) g0 (fun g => ?_)
                                                                                                                                refine c_condV (i := 130) g0 rfl (fun cB64 => ?_) (fun cB64 => ?_)
                                                                                                                                · skip
                                                                                                                                  simp only [Bool.and_eq_true, Bool.or_eq_true, Bool.and_eq_false_imp, Bool.or_eq_false_iff, decide_eq_true_eq, decide_eq_false_iff_not] at cB64
                                                                                                                                  refine c_seq (fun K241 hK241 => ?_)
                                                                                                                                  refine c_region ?_
                                                                                                                                  refine l_step y_assignC ?_
                                                                                                                                  refine l_step y_assignC ?_
                                                                                                                                  refine l_step y_assignC ?_
                                                                                                                                  refine l_step y_assignC ?_
                                                                                                                                  refine l_nil ?_
                                                                                                                                  refine hK241 _ _ ?_
                                                                                                                                  refine fg4 2 3 4 5 (gS rfl (gS rfl (gS rfl g0))) (gS rfl (gS rfl g0)) (gS rfl g0) g0 (fun g => ?_)
                                                                                                                                  refine c_ret ?_
                                                                                                                                  refine hQ18 _ _ _ (in_ret ?_)
                                                                                                                                  refine ret4 rfl (res_tmp (et (gS rfl (gS rfl (gS rfl g0))) rfl)) (res_tmp (et (gS rfl (gS rfl g0)) rfl)) (res_tmp (et (gS rfl g0) rfl)) (res_tmp (et g0 rfl)) ?_
                                                                                                                                  refine ⟨info_ret (a := 1) (b := 0) (c := 8) (by unfold KN; omega) ?_ ?_, U⟩
                                                                                                                                  · rw [arN, if_neg (by omega), if_neg (by omega), if_neg (by omega), if_neg (by omega), if_pos (by omega)]
                                                                                                                                  · rw [sgN, if_neg (by omega), if_neg (by omega), if_neg (by omega), if_neg (by omega), if_neg (by omega), if_neg (by omega), if_neg (by omega), if_neg (by omega), if_neg (by omega), if_neg (by omega), if_neg (by omega), if_neg (by omega), if_neg (by omega), if_neg (by omega), if_neg (by omega), if_neg (by omega), if_neg (by omega), if_neg (by omega), if_neg (by omega), if_neg (by omega), if_pos (by omega)]
                                                                                                                                · skip
                                                                                                                                  simp only [Bool.and_eq_true, Bool.or_eq_true, Bool.and_eq_false_imp, Bool.or_eq_false_iff, decide_eq_true_eq, decide_eq_false_iff_not] at cB64
                                                                                                                                  refine c_seq (fun K242 hK242 => ?_)
                                                                                                                                  refine c_region ?_
                                                                                                                                  refine l_step (y_eql (et (gS rfl (gS rfl g0)) rfl) rfl) ?_
                                                                                                                                  refine l_step (y_assignV (et g0 rfl)) ?_
                                                                                                                                  refine l_nil ?_
                                                                                                                                  refine hK242 _ _ ?_
                                                                                                                                  refine fg2 54 132 (gS rfl (gS rfl (gS rfl (gS rfl g0)))) g0 (fun g => ?_)
                                                                                                                                  refine c_condV (i := 132) g0 rfl (fun cB65 => ?_) (fun cB65 => ?_)
                                                                                                                                  · skip
                                                                                                                                    simp only [Bool.and_eq_true, Bool.or_eq_true, Bool.and_eq_false_imp, Bool.or_eq_false_iff, decide_eq_true_eq, decide_eq_false_iff_not] at cB65
                                                                                                                                    refine c_seq (fun K244 hK244 => ?_)
                                                                                                                                    refine c_region ?_
                                                                                                                                    refine l_step y_assignC ?_
                                                                                                                                    refine l_step y_assignC ?_
                                                                                                                                    refine l_step y_assignC ?_
                                                                                                                                    refine l_step y_assignC ?_
                                                                                                                                    refine l_nil ?_
                                                                                                                                    refine hK244 _ _ ?_
                                                                                                                                    refine fg4 2 3 4 5 (gS rfl (gS rfl (gS rfl g0))) (gS rfl (gS rfl g0)) (gS rfl g0) g0 (fun g => ?_)
                                                                                                                                    refine c_ret ?_
                                                                                                                                    refine hQ18 _ _ _ (in_ret ?_)
                                                                                                                                    refine ret4 rfl (res_tmp (et (gS rfl (gS rfl (gS rfl g0))) rfl)) (res_tmp (et (gS rfl (gS rfl g0)) rfl)) (res_tmp (et (gS rfl g0) rfl)) (res_tmp (et g0 rfl)) ?_
                                                                                                                                    refine ⟨info_ret (a := 2) (b := 0) (c := 10) (by unfold KN; omega) ?_ ?_, U⟩
                                                                                                                                    · rw [arN, if_neg (by omega), if_neg (by omega), if_neg (by omega), if_neg (by omega), if_neg (by omega), if_neg (by omega), if_neg (by omega), if_pos (by omega)]
                                                                                                                                    · rw [sgN, if_neg (by omega), if_neg (by omega), if_neg (by omega), if_neg (by omega), if_neg (by omega), if_neg (by omega), if_neg (by omega), if_neg (by omega), if_neg (by omega), if_neg (by omega), if_neg (by omega), if_neg (by omega), if_neg (by omega), if_neg (by omega), if_neg (by omega), if_neg (by omega), if_neg (by omega), if_neg (by omega), if_neg (by omega), if_neg (by omega), if_neg (by omega), if_pos (by omega)]
                                                                                                                                  · skip
                                                                                                                                    simp only [Bool.and_eq_true, Bool.or_eq_true, Bool.and_eq_false_imp, Bool.or_eq_false_iff, decide_eq_true_eq, decide_eq_false_iff_not] at cB65
                                                                                                                                    refine c_seq (fun K245 hK245 => ?_)
                                                                                                                                    refine c_seq (fun K246 hK246 => ?_)
                                                                                                                                    refine c_region ?_
                                                                                                                                    refine l_step (y_eql (et (gS rfl (gS rfl g0)) rfl) rfl) ?_
                                                                                                                                    refine l_step (y_assignV (et g0 rfl)) ?_
                                                                                                                                    refine l_nil ?_
                                                                                                                                    refine hK246 _ _ ?_
                                                                                                                                    refine fg2 54 134 (gS rfl (gS rfl (gS rfl (gS rfl g0)))) g0 (fun g => ?_)
                                                                                                                                    refine c_condV (i := 134) g0 rfl (fun cB66 => ?_) (fun cB66 => ?_)
                                                                                                                                    · skip
                                                                                                                                      simp only [Bool.and_eq_true, Bool.or_eq_true, Bool.and_eq_false_imp, Bool.or_eq_false_iff, decide_eq_true_eq, decide_eq_false_iff_not] at cB66
                                                                                                                                      refine c_skip ?_
                                                                                                                                      refine hK245 _ _ ?_
                                                                                                                                      refine fg2 54 134 (gS rfl (gS rfl g0)) g0 (fun g => ?_)
                                                                                                                                      refine c_true (et g0 rfl) rfl ?_
                                                                                                                                      refine c_seq (fun K249 hK249 => ?_)
                                                                                                                                      refine c_region ?_
                                                                                                                                      refine l_step y_assignC ?_
                                                                                                                                      refine l_step y_assignC ?_
                                                                                                                                      refine l_step y_assignC ?_
                                                                                                                                      refine l_step y_assignC ?_
                                                                                                                                      refine l_nil ?_
                                                                                                                                      refine hK249 _ _ ?_
                                                                                                                                      refine fg4 2 3 4 5 (gS rfl (gS rfl (gS rfl g0))) (gS rfl (gS rfl g0)) (gS rfl g0) g0 (fun g => ?_)
                                                                                                                                      refine c_ret ?_
                                                                                                                                      refine hQ18 _ _ _ (in_ret ?_)
                                                                                                                                      refine ret4 rfl (res_tmp (et (gS rfl (gS rfl (gS rfl g0))) rfl)) (res_tmp (et (gS rfl (gS rfl g0)) rfl)) (res_tmp (et (gS rfl g0) rfl)) (res_tmp (et g0 rfl)) ?_
                                                                                                                                      refine ⟨info_ret (a := 2) (b := 0) (c := 3) (by unfold KN; omega) ?_ ?_, U⟩
                                                                                                                                      · rw [arN, if_neg (by omega), if_neg (by omega), if_neg (by omega), if_neg (by omega), if_neg (by omega), if_neg (by omega), if_neg (by omega), if_pos (by omega)]
                                                                                                                                      · rw [sgN, if_neg (by omega), if_neg (by omega), if_neg (by omega), if_neg (by omega), if_neg (by omega), if_neg (by omega), if_neg (by omega), if_neg (by omega), if_neg (by omega), if_neg (by omega), if_neg (by omega), if_neg (by omega), if_neg (by omega), if_neg (by omega), if_neg (by omega), if_neg (by omega), if_neg (by omega), if_neg (by omega), if_neg (by omega), if_neg (by omega), if_neg (by omega), if_neg (by omega), if_pos (by omega)]
                                                                                                                                    · skip
                                                                                                                                      simp only [Bool.and_eq_true, Bool.or_eq_true, Bool.and_eq_false_imp, Bool.or_eq_false_iff, decide_eq_true_eq, decide_eq_false_iff_not] at cB66
                                                                                                                                      refine c_region ?_
                                                                                                                                      refine l_step (y_eql (et (gS rfl (gS rfl g0)) rfl) rfl) ?_
                                                                                                                                      refine l_step (y_assignV (et g0 rfl)) ?_
                                                                                                                                      refine l_nil ?_
                                                                                                                                      refine hK245 _ _ ?_
                                                                                                                                      refine fg2 54 134 (gS rfl (gS rfl (gS rfl (gS rfl g0)))) g0 (fun g => ?_)
                                                                                                                                      refine c_condV (i := 134) g0 rfl (fun cB67 => ?_) (fun cB67 => ?_)
                                                                                                                                      · skip
                                                                                                                                        simp only [Bool.and_eq_true, Bool.or_eq_true, Bool.and_eq_false_imp, Bool.or_eq_false_iff, decide_eq_true_eq, decide_eq_false_iff_not] at cB67
                                                                                                                                        refine c_seq (fun K251 hK251 => ?_)
                                                                                                                                        refine c_region ?_
                                                                                                                                        refine l_step y_assignC ?_
                                                                                                                                        refine l_step y_assignC ?_
                                                                                                                                        refine l_step y_assignC ?_
                                                                                                                                        refine l_step y_assignC ?_
                                                                                                                                        refine l_nil ?_
                                                                                                                                        refine hK251 _ _ ?_
                                                                                                                                        refine fg4 2 3 4 5 (gS rfl (gS rfl (gS rfl g0))) (gS rfl (gS rfl g0)) (gS rfl g0) g0 (fun g => ?_)
                                                                                                                                        refine c_ret ?_
                                                                                                                                        refine hQ18 _ _ _ (in_ret ?_)
                                                                                                                                        refine ret4 rfl (res_tmp (et (gS rfl (gS rfl (gS rfl g0))) rfl)) (res_tmp (et (gS rfl (gS rfl g0)) rfl)) (res_tmp (et (gS rfl g0) rfl)) (res_tmp (et g0 rfl)) ?_
                                                                                                                                        refine ⟨info_ret (a := 2) (b := 0) (c := 3) (by unfold KN; omega) ?_ ?_, U⟩
                                                                                                                                        · rw [arN, if_neg (by omega), if_neg (by omega), if_neg (by omega), if_neg (by omega), if_neg (by omega), if_neg (by omega), if_neg (by omega), if_pos (by omega)]
                                                                                                                                        · rw [sgN, if_neg (by omega), if_neg (by omega), if_neg (by omega), if_neg (by omega), if_neg (by omega), if_neg (by omega), if_neg (by omega), if_neg (by omega), if_neg (by omega), if_neg (by omega), if_neg (by omega), if_neg (by omega), if_neg (by omega), if_neg (by omega), if_neg (by omega), if_neg (by omega), if_neg (by omega), if_neg (by omega), if_neg (by omega), if_neg (by omega), if_neg (by omega), if_neg (by omega), if_pos (by omega)]
                                                                                                                                      · skip
                                                                                                                                        simp only [Bool.and_eq_true, Bool.or_eq_true, Bool.and_eq_false_imp, Bool.or_eq_false_iff, decide_eq_true_eq, decide_eq_false_iff_not] at cB67
                                                                                                                                        refine c_seq (fun K252 hK252 => ?_)
                                                                                                                                        refine c_seq (fun K253 hK253 => ?_)
                                                                                                                                        refine c_region ?_
                                                                                                                                        refine l_step (y_eql (et (gS rfl (gS rfl g0)) rfl) rfl) ?_
                                                                                                                                        refine l_step (y_assignV (et g0 rfl)) ?_
                                                                                                                                        refine l_nil ?_
                                                                                                                                        refine hK253 _ _ ?_
                                                                                                                                        refine fg2 54 137 (gS rfl (gS rfl (gS rfl (gS rfl g0)))) g0 (fun g => ?_)
                                                                                                                                        refine c_condV (i := 137) g0 rfl (fun cB68 => ?_) (fun cB68 => ?_)
                                                                                                                                        · skip
                                                                                                                                          simp only [Bool.and_eq_true, Bool.or_eq_true, Bool.and_eq_false_imp, Bool.or_eq_false_iff, decide_eq_true_eq, decide_eq_false_iff_not] at cB68
                                                                                                                                          refine c_skip ?_
                                                                                                                                          refine hK252 _ _ ?_
                                                                                                                                          refine fg2 54 137 (gS rfl (gS rfl g0)) g0 (fun g => ?_)
                                                                                                                                          refine c_true (et g0 rfl) rfl ?_
                                                                                                                                          refine c_seq (fun K256 hK256 => ?_)
                                                                                                                                          refine c_region ?_
                                                                                                                                          refine l_step y_assignC ?_
                                                                                                                                          refine l_step y_assignC ?_
                                                                                                                                          refine l_step y_assignC ?_
                                                                                                                                          refine l_step y_assignC ?_
                                                                                                                                          refine l_nil ?_
                                                                                                                                          refine hK256 _ _ ?_
                                                                                                                                          refine fg4 2 3 4 5 (gS rfl (gS rfl (gS rfl g0))) (gS rfl (gS rfl g0)) (gS rfl g0) g0 (fun g => ?_)
                                                                                                                                          refine c_ret ?_
                                                                                                                                          refine hQ18 _ _ _ (in_ret ?_)
                                                                                                                                          refine ret4 rfl (res_tmp (et (gS rfl (gS rfl (gS rfl g0))) rfl)) (res_tmp (et (gS rfl (gS rfl g0)) rfl)) (res_tmp (et (gS rfl g0) rfl)) (res_tmp (et g0 rfl)) ?_
                                                                                                                                          refine ⟨info_ret (a := 2) (b := 0) (c := 0) (by unfold KN; omega) ?_ ?_, U⟩
                                                                                                                                          · rw [arN, if_neg (by omega), if_neg (by omega), if_neg (by omega), if_neg (by omega), if_neg (by omega), if_neg (by omega), if_neg (by omega), if_pos (by omega)]
                                                                                                                                          · rw [sgN, if_neg (by omega), if_neg (by omega), if_neg (by omega), if_neg (by omega), if_neg (by omega), if_neg (by omega), if_neg (by omega), if_neg (by omega), if_neg (by omega), if_neg (by omega), if_neg (by omega), if_neg (by omega), if_neg (by omega), if_neg (by omega), if_neg (by omega), if_neg (by omega), if_neg (by omega), if_neg (by omega), if_neg (by omega), if_neg (by omega), if_neg (by omega), if_neg (by omega), if_neg (by omega), if_pos (by omega)]
                                                                                                                                        · skip
                                                                                                                                          simp only [Bool.and_eq_true, Bool.or_eq_true, Bool.and_eq_false_imp, Bool.or_eq_false_iff, decide_eq_true_eq, decide_eq_false_iff_not] at cB68
                                                                                                                                          refine c_seq (fun K257 hK257 => ?_)
                                                                                                                                          refine c_region ?_
                                                                                                                                          refine l_step (y_eql (et (gS rfl (gS rfl g0)) rfl) rfl) ?_
                                                                                                                                          refine l_step (y_assignV (et g0 rfl)) ?_
                                                                                                                                          refine l_nil ?_
                                                                                                                                          refine hK257 _ _ ?_
                                                                                                                                          refine fg2 54 137 (gS rfl (gS rfl (gS rfl (gS rfl g0)))) g0 (fun g => ?_)
                                                                                                                                          refine c_condV (i := 137) g0 rfl (fun cB69 => ?_) (fun cB69 => ?_)
                                                                                                                                          · skip
                                                                                                                                            simp only [Bool.and_eq_true, Bool.or_eq_true, Bool.and_eq_false_imp, Bool.or_eq_false_iff, decide_eq_true_eq, decide_eq_false_iff_not] at cB69
                                                                                                                                            refine c_skip ?_
                                                                                                                                            refine hK252 _ _ ?_
                                                                                                                                            refine fg2 54 137 (gS rfl (gS rfl g0)) g0 (fun g => ?_)
                                                                                                                                            refine c_true (et g0 rfl) rfl ?_
                                                                                                                                            refine c_seq (fun K260 hK260 => ?_)
                                                                                                                                            refine c_region ?_
                                                                                                                                            refine l_step y_assignC ?_
                                                                                                                                            refine l_step y_assignC ?_
                                                                                                                                            refine l_step y_assignC ?_
                                                                                                                                            refine l_step y_assignC ?_
                                                                                                                                            refine l_nil ?_
                                                                                                                                            refine hK260 _ _ ?_
                                                                                                                                            refine fg4 2 3 4 5 (gS rfl (gS rfl (gS rfl g0))) (gS rfl (gS rfl g0)) (gS rfl g0) g0 (fun g => ?_)
                                                                                                                                            refine c_ret ?_
                                                                                                                                            refine hQ18 _ _ _ (in_ret ?_)
                                                                                                                                            refine ret4 rfl (res_tmp (et (gS rfl (gS rfl (gS rfl g0))) rfl)) (res_tmp (et (gS rfl (gS rfl g0)) rfl)) (res_tmp (et (gS rfl g0) rfl)) (res_tmp (et g0 rfl)) ?_
                                                                                                                                            refine ⟨info_ret (a := 2) (b := 0) (c := 0) (by unfold KN; omega) ?_ ?_, U⟩
                                                                                                                                            · rw [arN, if_neg (by omega), if_neg (by omega), if_neg (by omega), if_neg (by omega), if_neg (by omega), if_neg (by omega), if_neg (by omega), if_pos (by omega)]
                                                                                                                                            · rw [sgN, if_neg (by omega), if_neg (by omega), if_neg (by omega), if_neg (by omega), if_neg (by omega), if_neg (by omega), if_neg (by omega), if_neg (by omega), if_neg (by omega), if_neg (by omega), if_neg (by omega), if_neg (by omega), if_neg (by omega), if_neg (by omega), if_neg (by omega), if_neg (by omega), if_neg (by omega), if_neg (by omega), if_neg (by omega), if_neg (by omega), if_neg (by omega), if_neg (by omega), if_neg (by omega), if_pos (by omega)]
                                                                                                                                          · skip
                                                                                                                                            simp only [Bool.and_eq_true, Bool.or_eq_true, Bool.and_eq_false_imp, Bool.or_eq_false_iff, decide_eq_true_eq, decide_eq_false_iff_not] at cB69
                                                                                                                                            refine c_region ?_
                                                                                                                                            refine l_step (y_eql (et (gS rfl (gS rfl g0)) rfl) rfl) ?_
                                                                                                                                            refine l_step (y_assignV (et g0 rfl)) ?_
                                                                                                                                            refine l_nil ?_
                                                                                                                                            refine hK252 _ _ ?_
                                                                                                                                            refine fg2 54 137 (gS rfl (gS rfl (gS rfl (gS rfl g0)))) g0 (fun g => ?_)
                                                                                                                                            refine c_condV (i := 137) g0 rfl (fun cB70 => ?_) (fun cB70 => ?_)
                                                                                                                                            · skip
                                                                                                                                              simp only [Bool.and_eq_true, Bool.or_eq_true, Bool.and_eq_false_imp, Bool.or_eq_false_iff, decide_eq_true_eq, decide_eq_false_iff_not] at cB70
                                                                                                                                              refine c_seq (fun K262 hK262 => ?_)
                                                                                                                                              refine c_region ?_
                                                                                                                                              refine l_step y_assignC ?_
                                                                                                                                              refine l_step y_assignC ?_
                                                                                                                                              refine l_step y_assignC ?_
                                                                                                                                              refine l_step y_assignC ?_
                                                                                                                                              refine l_nil ?_
                                                                                                                                              refine hK262 _ _ ?_
                                                                                                                                              refine fg4 2 3 4 5 (gS rfl (gS rfl (gS rfl g0))) (gS rfl (gS rfl g0)) (gS rfl g0) g0 (fun g => ?_)
                                                                                                                                              refine c_ret ?_
                                                                                                                                              refine hQ18 _ _ _ (in_ret ?_)
                                                                                                                                              refine ret4 rfl (res_tmp (et (gS rfl (gS rfl (gS rfl g0))) rfl)) (res_tmp (et (gS rfl (gS rfl g0)) rfl)) (res_tmp (et (gS rfl g0) rfl)) (res_tmp (et g0 rfl)) ?_
                                                                                                                                              refine ⟨info_ret (a := 2) (b := 0) (c := 0) (by unfold KN; omega) ?_ ?_, U⟩
                                                                                                                                              · rw [arN, if_neg (by omega), if_neg (by omega), if_neg (by omega), if_neg (by omega), if_neg (by omega), if_neg (by omega), if_neg (by omega), if_pos (by omega)]
                                                                                                                                              · rw [sgN, if_neg (by omega), if_neg (by omega), if_neg (by omega), if_neg (by omega), if_neg (by omega), if_neg (by omega), if_neg (by omega), if_neg (by omega), if_neg (by omega), if_neg (by omega), if_neg (by omega), if_neg (by omega), if_neg (by omega), if_neg (by omega), if_neg (by omega), if_neg (by omega), if_neg (by omega), if_neg (by omega), if_neg (by omega), if_neg (by omega), if_neg (by omega), if_neg (by omega), if_neg (by omega), if_pos (by omega)]
                                                                                                                                            · skip
                                                                                                                                              simp only [Bool.and_eq_true, Bool.or_eq_true, Bool.and_eq_false_imp, Bool.or_eq_false_iff, decide_eq_true_eq, decide_eq_false_iff_not] at cB70
                                                                                                                                              refine c_seq (fun K263 hK263 => ?_)
                                                                                                                                              refine c_seq (fun K264 hK264 => ?_)
                                                                                                                                              refine c_region ?_
                                                                                                                                              refine l_step (y_eql (et (gS rfl (gS rfl g0)) rfl) rfl) ?_
                                                                                                                                              refine l_step (y_assignV (et g0 rfl)) ?_
                                                                                                                                              refine l_nil ?_
                                                                                                                                              refine hK264 _ _ ?_
                                                                                                                                              refine fg2 54 141 (gS rfl (gS rfl (gS rfl (gS rfl g0)))) g0 (fun g => ?_)
                                                                                                                                              refine c_condV (i := 141) g0 rfl (fun cB71 => ?_) (fun cB71 => ?_)
                                                                                                                                              · skip
                                                                                                                                                simp only [Bool.and_eq_true, Bool.or_eq_true, Bool.and_eq_false_imp, Bool.or_eq_false_iff, decide_eq_true_eq, decide_eq_false_iff_not] at cB71
                                                                                                                                                refine c_skip ?_
                                                                                                                                                refine hK263 _ _ ?_
                                                                                                                                                refine fg2 54 141 (gS rfl (gS rfl g0)) g0 (fun g => ?_)
                                                                                                                                                refine c_true (et g0 rfl) rfl ?_
                                                                                                                                                refine c_seq (fun K267 hK267 => ?_)
                                                                                                                                                refine c_region ?_
                                                                                                                                                refine l_step y_assignC ?_
                                                                                                                                                refine l_step y_assignC ?_
                                                                                                                                                refine l_step y_assignC ?_
                                                                                                                                                refine l_step y_assignC ?_
                                                                                                                                                refine l_nil ?_
                                                                                                                                                refine hK267 _ _ ?_
                                                                                                                                                refine fg4 2 3 4 5 (gS rfl (gS rfl (gS rfl g0))) (gS rfl (gS rfl g0)) (gS rfl g0) g0 (fun g => ?_)
                                                                                                                                                refine c_ret ?_
                                                                                                                                                refine hQ18 _ _ _ (in_ret ?_)
                                                                                                                                                refine ret4 rfl (res_tmp (et (gS rfl (gS rfl (gS rfl g0))) rfl)) (res_tmp (et (gS rfl (gS rfl g0)) rfl)) (res_tmp (et (gS rfl g0) rfl)) (res_tmp (et g0 rfl)) ?_
                                                                                                                                                refine ⟨info_ret (a := 3) (b := 0) (c := 3) (by unfold KN; omega) ?_ ?_, U⟩
                                                                                                                                                · rw [arN, if_neg (by omega), if_neg (by omega), if_neg (by omega), if_neg (by omega), if_neg (by omega), if_neg (by omega), if_neg (by omega), if_neg (by omega), if_pos (by omega)]
                                                                                                                                                · rw [sgN, if_neg (by omega), if_neg (by omega), if_neg (by omega), if_neg (by omega), if_neg (by omega), if_neg (by omega), if_neg (by omega), if_neg (by omega), if_neg (by omega), if_neg (by omega), if_neg (by omega), if_neg (by omega), if_neg (by omega), if_neg (by omega), if_neg (by omega), if_neg (by omega), if_neg (by omega), if_neg (by omega), if_neg (by omega), if_neg (by omega), if_neg (by omega), if_neg (by omega), if_neg (by omega), if_neg (by omega), if_pos (by omega)]
                                                                                                                                              · skip
                                                                                                                                                simp only [Bool.and_eq_true, Bool.or_eq_true, Bool.and_eq_false_imp, Bool.or_eq_false_iff, decide_eq_true_eq, decide_eq_false_iff_not] at cB71
                                                                                                                                                refine c_seq (fun K268 hK268 => ?_)
                                                                                                                                                refine c_region ?_
                                                                                                                                                refine l_step (y_eql (et (gS rfl (gS rfl g0)) rfl) rfl) ?_
                                                                                                                                                refine l_step (y_assignV (et g0 rfl)) ?_
                                                                                                                                                refine l_nil ?_
                                                                                                                                                refine hK268 _ _ ?_
                                                                                                                                                refine fg2 54 141 (gS rfl (gS rfl (gS rfl (gS rfl g0)))) g0 (fun g => ?_)
                                                                                                                                                refine c_condV (i := 141) g0 rfl (fun cB72 => ?_) (fun cB72 => ?_)
                                                                                                                                                · skip
                                                                                                                                                  simp only [Bool.and_eq_true, Bool.or_eq_true, Bool.and_eq_false_imp, Bool.or_eq_false_iff, decide_eq_true_eq, decide_eq_false_iff_not] at cB72
                                                                                                                                                  refine c_skip ?_
                                                                                                                                                  refine hK263 _ _ ?_
                                                                                                                                                  refine fg2 54 141 (gS rfl (gS rfl g0)) g0 (fun g => ?_)
                                                                                                                                                  refine c_true (et g0 rfl) rfl ?_
                                                                                                                                                  refine c_seq (fun K271 hK271 => ?_)
                                                                                                                                                  refine c_region ?_
                                                                                                                                                  refine l_step y_assignC ?_
                                                                                                                                                  refine l_step y_assignC ?_
                                                                                                                                                  refine l_step y_assignC ?_
                                                                                                                                                  refine l_step y_assignC ?_
                                                                                                                                                  refine l_nil ?_
                                                                                                                                                  refine hK271 _ _ ?_
                                                                                                                                                  refine fg4 2 3 4 5 (gS rfl (gS rfl (gS rfl g0))) (gS rfl (gS rfl g0)) (gS rfl g0) g0 (fun g => ?_)
                                                                                                                                                  refine c_ret ?_
                                                                                                                                                  refine hQ18 _ _ _ (in_ret ?_)
                                                                                                                                                  refine ret4 rfl (res_tmp (et (gS rfl (gS rfl (gS rfl g0))) rfl)) (res_tmp (et (gS rfl (gS rfl g0)) rfl)) (res_tmp (et (gS rfl g0) rfl)) (res_tmp (et g0 rfl)) ?_
                                                                                                                                                  refine ⟨info_ret (a := 3) (b := 0) (c := 3) (by unfold KN; omega) ?_ ?_, U⟩
                                                                                                                                                  · rw [arN, if_neg (by omega), if_neg (by omega), if_neg (by omega), if_neg (by omega), if_neg (by omega), if_neg (by omega), if_neg (by omega), if_neg (by omega), if_pos (by omega)]
                                                                                                                                                  · rw [sgN, if_neg (by omega), if_neg (by omega), if_neg (by omega), if_neg (by omega), if_neg (by omega), if_neg (by omega), if_neg (by omega), if_neg (by omega), if_neg (by omega), if_neg (by omega), if_neg (by omega), if_neg (by omega), if_neg (by omega), if_neg (by omega), if_neg (by omega), if_neg (by omega), if_neg (by omega), if_neg (by omega), if_neg (by omega), if_neg (by omega), if_neg (by omega), if_neg (by omega), if_neg (by omega), if_neg (by omega), if_pos (by omega)]
                                                                                                                                                · skip
                                                                                                                                                  simp only [Bool.and_eq_true, Bool.or_eq_true, Bool.and_eq_false_imp, Bool.or_eq_false_iff, decide_eq_true_eq, decide_eq_false_iff_not] at cB72
                                                                                                                                                  refine c_seq (fun K272 hK272 => ?_)
                                                                                                                                                  refine c_region ?_
                                                                                                                                                  refine l_step (y_eql (et (gS rfl (gS rfl g0)) rfl) rfl) ?_
                                                                                                                                                  refine l_step (y_assignV (et g0 rfl)) ?_
                                                                                                                                                  refine l_nil ?_
                                                                                                                                                  refine hK272 _ _ ?_
                                                                                                                                                  refine fg2 54 141 (gS rfl (gS rfl (gS rfl (gS rfl g0)))) g0 (fun g => ?_)
                                                                                                                                                  refine c_condV (i := 141) g0 rfl (fun cB73 => ?_) (fun cB73 => ?_)
                                                                                                                                                  · skip
                                                                                                                                                    simp only [Bool.and_eq_true, Bool.or_eq_true, Bool.and_eq_false_imp, Bool.or_eq_false_iff, decide_eq_true_eq, decide_eq_false_iff_not] at cB73
                                                                                                                                                    refine c_skip ?_
                                                                                                                                                    refine hK263 _ _ ?_
                                                                                                                                                    refine fg2 54 141 (gS rfl (gS rfl g0)) g0 (fun g => ?_)
                                                                                                                                                    refine c_true (et g0 rfl) rfl ?_
                                                                                                                                                    refine c_seq (fun K275 hK275 => ?_)
                                                                                                                                                    refine c_region ?_
                                                                                                                                                    refine l_step y_assignC ?_
                                                                                                                                                    refine l_step y_assignC ?_
                                                                                                                                                    refine l_step y_assignC ?_
                                                                                                                                                    refine l_step y_assignC ?_
                                                                                                                                                    refine l_nil ?_
                                                                                                                                                    refine hK275 _ _ ?_
                                                                                                                                                    refine fg4 2 3 4 5 (gS rfl (gS rfl (gS rfl g0))) (gS rfl (gS rfl g0)) (gS rfl g0) g0 (fun g => ?_)
                                                                                                                                                    refine c_ret ?_
                                                                                                                                                    refine hQ18 _ _ _ (in_ret ?_)
                                                                                                                                                    refine ret4 rfl (res_tmp (et (gS rfl (gS rfl (gS rfl g0))) rfl)) (res_tmp (et (gS rfl (gS rfl g0)) rfl)) (res_tmp (et (gS rfl g0) rfl)) (res_tmp (et g0 rfl)) ?_
                                                                                                                                                    refine ⟨info_ret (a := 3) (b := 0) (c := 3) (by unfold KN; omega) ?_ ?_, U⟩
                                                                                                                                                    · rw [arN, if_neg (by omega), if_neg (by omega), if_neg (by omega), if_neg (by omega), if_neg (by omega), if_neg (by omega), if_neg (by omega), if_neg (by omega), if_pos (by omega)]
                                                                                                                                                    · rw [sgN, if_neg (by omega), if_neg (by omega), if_neg (by omega), if_neg (by omega), if_neg (by omega), if_neg (by omega), if_neg (by omega), if_neg (by omega), if_neg (by omega), if_neg (by omega), if_neg (by omega), if_neg (by omega), if_neg (by omega), if_neg (by omega), if_neg (by omega), if_neg (by omega), if_neg (by omega), if_neg (by omega), if_neg (by omega), if_neg (by omega), if_neg (by omega), if_neg (by omega), if_neg (by omega), if_neg (by omega), if_pos (by omega)]
                                                                                                                                                  · skip
                                                                                                                                                    simp only [Bool.and_eq_true, Bool.or_eq_true, Bool.and_eq_false_imp, Bool.or_eq_false_iff, decide_eq_true_eq, decide_eq_false_iff_not] at cB73
                                                                                                                                                    refine c_region ?_
                                                                                                                                                    refine l_step (y_eql (et (gS rfl (gS rfl g0)) rfl) rfl) ?_
                                                                                                                                                    refine l_step (y_assignV (et g0 rfl)) ?_
                                                                                                                                                    refine l_nil ?_
                                                                                                                                                    refine hK263 _ _ ?_
                                                                                                                                                    refine fg2 54 141 (gS rfl (gS rfl (gS rfl (gS rfl g0)))) g0 (fun g => ?_)
                                                                                                                                                    refine c_condV (i := 141) g0 rfl (fun cB74 => ?_) (fun cB74 => ?_)
                                                                                                                                                    · skip
                                                                                                                                                      simp only [Bool.and_eq_true, Bool.or_eq_true, Bool.and_eq_false_imp, Bool.or_eq_false_iff, decide_eq_true_eq, decide_eq_false_iff_not] at cB74
                                                                                                                                                      refine c_seq (fun K277 hK277 => ?_)
                                                                                                                                                      refine c_region ?_
                                                                                                                                                      refine l_step y_assignC ?_
                                                                                                                                                      refine l_step y_assignC ?_
                                                                                                                                                      refine l_step y_assignC ?_
                                                                                                                                                      refine l_step y_assignC ?_
                                                                                                                                                      refine l_nil ?_
                                                                                                                                                      refine hK277 _ _ ?_
                                                                                                                                                      refine fg4 2 3 4 5 (gS rfl (gS rfl (gS rfl g0))) (gS rfl (gS rfl g0)) (gS rfl g0) g0 (fun g => ?_)
                                                                                                                                                      refine c_ret ?_
                                                                                                                                                      refine hQ18 _ _ _ (in_ret ?_)
                                                                                                                                                      refine ret4 rfl (res_tmp (et (gS rfl (gS rfl (gS rfl g0))) rfl)) (res_tmp (et (gS rfl (gS rfl g0)) rfl)) (res_tmp (et (gS rfl g0) rfl)) (res_tmp (et g0 rfl)) ?_
                                                                                                                                                      refine ⟨info_ret (a := 3) (b := 0) (c := 3) (by unfold KN; omega) ?_ ?_, U⟩
                                                                                                                                                      · rw [arN, if_neg (by omega), if_neg (by omega), if_neg (by omega), if_neg (by omega), if_neg (by omega), if_neg (by omega), if_neg (by omega), if_neg (by omega), if_pos (by omega)]
                                                                                                                                                      · rw [sgN, if_neg (by omega), if_neg (by omega), if_neg (by omega), if_neg (by omega), if_neg (by omega), if_neg (by omega), if_neg (by omega), if_neg (by omega), if_neg (by omega), if_neg (by omega), if_neg (by omega), if_neg (by omega), if_neg (by omega), if_neg (by omega), if_neg (by omega), if_neg (by omega), if_neg (by omega), if_neg (by omega), if_neg (by omega), if_neg (by omega), if_neg (by omega), if_neg (by omega), if_neg (by omega), if_neg (by omega), if_pos (by omega)]
                                                                                                                                                    · skip
                                                                                                                                                      simp only [Bool.and_eq_true, Bool.or_eq_true, Bool.and_eq_false_imp, Bool.or_eq_false_iff, decide_eq_true_eq, decide_eq_false_iff_not] at cB74
                                                                                                                                                      refine c_seq (fun K278 hK278 => ?_)
                                                                                                                                                      refine c_region ?_
                                                                                                                                                      refine l_step (y_eql (et (gS rfl (gS rfl g0)) rfl) rfl) ?_
                                                                                                                                                      refine l_step (y_assignV (et g0 rfl)) ?_
                                                                                                                                                      refine l_nil ?_
                                                                                                                                                      refine hK278 _ _ ?_
                                                                                                                                                      refine fg2 54 146 (gS rfl (gS rfl (gS rfl (gS rfl g0)))) g0 (fun g => ?_)
                                                                                                                                                      refine c_condV (i := 146) g0 rfl (fun cB75 => ?_) (fun cB75 => ?_)
                                                                                                                                                      · skip
                                                                                                                                                        simp only [Bool.and_eq_true, Bool.or_eq_true, Bool.and_eq_false_imp, Bool.or_eq_false_iff, decide_eq_true_eq, decide_eq_false_iff_not] at cB75
                                                                                                                                                        refine c_seq (fun K280 hK280 => ?_)
                                                                                                                                                        refine c_region ?_
                                                                                                                                                        refine l_step y_assignC ?_
                                                                                                                                                        refine l_step y_assignC ?_
                                                                                                                                                        refine l_step y_assignC ?_
                                                                                                                                                        refine l_step y_assignC ?_
                                                                                                                                                        refine l_nil ?_
                                                                                                                                                        refine hK280 _ _ ?_
                                                                                                                                                        refine fg4 2 3 4 5 (gS rfl (gS rfl (gS rfl g0))) (gS rfl (gS rfl g0)) (gS rfl g0) g0 (fun g => ?_)
                                                                                                                                                        refine c_ret ?_
                                                                                                                                                        refine hQ18 _ _ _ (in_ret ?_)
                                                                                                                                                        refine ret4 rfl (res_tmp (et (gS rfl (gS rfl (gS rfl g0))) rfl)) (res_tmp (et (gS rfl (gS rfl g0)) rfl)) (res_tmp (et (gS rfl g0) rfl)) (res_tmp (et g0 rfl)) ?_
                                                                                                                                                        refine ⟨info_ret (a := 4) (b := 0) (c := 0) (by unfold KN; omega) ?_ ?_, U⟩
                                                                                                                                                        · rw [arN, if_neg (by omega), if_neg (by omega), if_neg (by omega), if_neg (by omega), if_neg (by omega), if_neg (by omega), if_neg (by omega), if_neg (by omega), if_neg (by omega), if_pos (by omega)]
                                                                                                                                                        · rw [sgN, if_neg (by omega), if_neg (by omega), if_neg (by omega), if_neg (by omega), if_neg (by omega), if_neg (by omega), if_neg (by omega), if_neg (by omega), if_neg (by omega), if_neg (by omega), if_neg (by omega), if_neg (by omega), if_neg (by omega), if_neg (by omega), if_neg (by omega), if_neg (by omega), if_neg (by omega), if_neg (by omega), if_neg (by omega), if_neg (by omega), if_neg (by omega), if_neg (by omega), if_neg (by omega), if_neg (by omega), if_neg (by omega), if_pos (by omega)]
                                                                                                                                                      · skip
                                                                                                                                                        simp only [Bool.and_eq_true, Bool.or_eq_true, Bool.and_eq_false_imp, Bool.or_eq_false_iff, decide_eq_true_eq, decide_eq_false_iff_not] at cB75
                                                                                                                                                        refine c_seq (fun K281 hK281 => ?_)
                                                                                                                                                        refine c_region ?_
                                                                                                                                                        refine l_step (y_eql (et (gS rfl (gS rfl g0)) rfl) rfl) ?_
                                                                                                                                                        refine l_step (y_assignV (et g0 rfl)) ?_
                                                                                                                                                        refine l_nil ?_
                                                                                                                                                        refine hK281 _ _ ?_
                                                                                                                                                        refine fg2 54 148 (gS rfl (gS rfl (gS rfl (gS rfl g0)))) g0 (fun g => ?_)
                                                                                                                                                        refine c_condV (i := 148) g0 rfl (fun cB76 => ?_) (fun cB76 => ?_)
                                                                                                                                                        · skip
                                                                                                                                                          simp only [Bool.and_eq_true, Bool.or_eq_true, Bool.and_eq_false_imp, Bool.or_eq_false_iff, decide_eq_true_eq, decide_eq_false_iff_not] at cB76
                                                                                                                                                          refine c_seq (fun K283 hK283 => ?_)
                                                                                                                                                          refine c_region ?_
                                                                                                                                                          refine l_step y_assignC ?_
                                                                                                                                                          refine l_step y_assignC ?_
                                                                                                                                                          refine l_step y_assignC ?_
                                                                                                                                                          refine l_step y_assignC ?_
                                                                                                                                                          refine l_nil ?_
                                                                                                                                                          refine hK283 _ _ ?_
                                                                                                                                                          refine fg4 2 3 4 5 (gS rfl (gS rfl (gS rfl g0))) (gS rfl (gS rfl g0)) (gS rfl g0) g0 (fun g => ?_)
                                                                                                                                                          refine c_ret ?_
                                                                                                                                                          refine hQ18 _ _ _ (in_ret ?_)
                                                                                                                                                          refine ret4 rfl (res_tmp (et (gS rfl (gS rfl (gS rfl g0))) rfl)) (res_tmp (et (gS rfl (gS rfl g0)) rfl)) (res_tmp (et (gS rfl g0) rfl)) (res_tmp (et g0 rfl)) ?_
                                                                                                                                                          refine ⟨info_ret (a := 3) (b := 1) (c := 32000) (by unfold KN; omega) ?_ ?_, U⟩
                                                                                                                                                          · rw [arN, if_neg (by omega), if_neg (by omega), if_neg (by omega), if_neg (by omega), if_neg (by omega), if_pos (by omega)]
                                                                                                                                                          · rw [sgN, if_neg (by omega), if_neg (by omega), if_neg (by omega), if_neg (by omega), if_neg (by omega), if_neg (by omega), if_neg (by omega), if_neg (by omega), if_neg (by omega), if_neg (by omega), if_neg (by omega), if_neg (by omega), if_neg (by omega), if_neg (by omega), if_neg (by omega), if_neg (by omega), if_neg (by omega), if_neg (by omega), if_neg (by omega), if_neg (by omega), if_neg (by omega), if_neg (by omega), if_neg (by omega), if_neg (by omega), if_neg (by omega), if_neg (by omega), if_pos (by omega)]
                                                                                                                                                        · skip
                                                                                                                                                          simp only [Bool.and_eq_true, Bool.or_eq_true, Bool.and_eq_false_imp, Bool.or_eq_false_iff, decide_eq_true_eq, decide_eq_false_iff_not] at cB76
                                                                                                                                                          refine c_seq (fun K284 hK284 => ?_)
                                                                                                                                                          refine c_region ?_
                                                                                                                                                          refine l_step (y_eql (et (gS rfl (gS rfl g0)) rfl) rfl) ?_
                                                                                                                                                          refine l_step (y_assignV (et g0 rfl)) ?_
                                                                                                                                                          refine l_nil ?_
                                                                                                                                                          refine hK284 _ _ ?_
                                                                                                                                                          refine fg2 54 150 (gS rfl (gS rfl (gS rfl (gS rfl g0)))) g0 (fun g => ?_)
                                                                                                                                                          refine c_condV (i := 150) g0 rfl (fun cB77 => ?_) (fun cB77 => ?_)
                                                                                                                                                          · skip
                                                                                                                                                            simp only [Bool.and_eq_true, Bool.or_eq_true, Bool.and_eq_false_imp, Bool.or_eq_false_iff, decide_eq_true_eq, decide_eq_false_iff_not] at cB77
                                                                                                                                                            refine c_seq (fun K286 hK286 => ?_)
                                                                                                                                                            refine c_region ?_
                                                                                                                                                            refine l_step y_assignC ?_
                                                                                                                                                            refine l_step y_assignC ?_
                                                                                                                                                            refine l_step y_assignC ?_
                                                                                                                                                            refine l_step y_assignC ?_
                                                                                                                                                            refine l_nil ?_
                                                                                                                                                            refine hK286 _ _ ?_
                                                                                                                                                            refine fg4 2 3 4 5 (gS rfl (gS rfl (gS rfl g0))) (gS rfl (gS rfl g0)) (gS rfl g0) g0 (fun g => ?_)
                                                                                                                                                            refine c_ret ?_
                                                                                                                                                            refine hQ18 _ _ _ (in_ret ?_)
                                                                                                                                                            refine ret4 rfl (res_tmp (et (gS rfl (gS rfl (gS rfl g0))) rfl)) (res_tmp (et (gS rfl (gS rfl g0)) rfl)) (res_tmp (et (gS rfl g0) rfl)) (res_tmp (et g0 rfl)) ?_
                                                                                                                                                            refine ⟨info_ret (a := 4) (b := 1) (c := 32000) (by unfold KN; omega) ?_ ?_, U⟩
                                                                                                                                                            · rw [arN, if_neg (by omega), if_neg (by omega), if_neg (by omega), if_neg (by omega), if_neg (by omega), if_neg (by omega), if_neg (by omega), if_neg (by omega), if_neg (by omega), if_neg (by omega), if_pos (by omega)]
                                                                                                                                                            · rw [sgN, if_neg (by omega), if_neg (by omega), if_neg (by omega), if_neg (by omega), if_neg (by omega), if_neg (by omega), if_neg (by omega), if_neg (by omega), if_neg (by omega), if_neg (by omega), if_neg (by omega), if_neg (by omega), if_neg (by omega), if_neg (by omega), if_neg (by omega), if_neg (by omega), if_neg (by omega), if_neg (by omega), if_neg (by omega), if_neg (by omega), if_neg (by omega), if_neg (by omega), if_neg (by omega), if_neg (by omega), if_neg (by omega), if_neg (by omega), if_neg (by omega), if_pos (by omega)]
                                                                                                                                                          · skip
                                                                                                                                                            simp only [Bool.and_eq_true, Bool.or_eq_true, Bool.and_eq_false_imp, Bool.or_eq_false_iff, decide_eq_true_eq, decide_eq_false_iff_not] at cB77
                                                                                                                                                            refine c_seq (fun K287 hK287 => ?_)
                                                                                                                                                            refine c_seq (fun K288 hK288 => ?_)
                                                                                                                                                            refine c_region ?_
                                                                                                                                                            refine l_step (y_eql (et (gS rfl (gS rfl g0)) rfl) rfl) ?_
                                                                                                                                                            refine l_step (y_assignV (et g0 rfl)) ?_
                                                                                                                                                            refine l_nil ?_
                                                                                                                                                            refine hK288 _ _ ?_
                                                                                                                                                            refine fg2 54 152 (gS rfl (gS rfl (gS rfl (gS rfl g0)))) g0 (fun g => ?_)
                                                                                                                                                            refine c_condV (i := 152) g0 rfl (fun cB78 => ?_) (fun cB78 => ?_)
                                                                                                                                                            · skip
                                                                                                                                                              simp only [Bool.and_eq_true, Bool.or_eq_true, Bool.and_eq_false_imp, Bool.or_eq_false_iff, decide_eq_true_eq, decide_eq_false_iff_not] at cB78
                                                                                                                                                              refine c_skip ?_
                                                                                                                                                              refine hK287 _ _ ?_
                                                                                                                                                              refine fg2 54 152 (gS rfl (gS rfl g0)) g0 (fun g => ?_)
                                                                                                                                                              refine c_true (et g0 rfl) rfl ?_
                                                                                                                                                              refine c_seq (fun K291 hK291 => ?_)
                                                                                                                                                              refine c_region ?_
                                                                                                                                                              refine l_step y_assignC ?_
                                                                                                                                                              refine l_step y_assignC ?_
                                                                                                                                                              refine l_step y_assignC ?_
                                                                                                                                                              refine l_step y_assignC ?_
                                                                                                                                                              refine l_nil ?_
                                                                                                                                                              refine hK291 _ _ ?_
                                                                                                                                                              refine fg4 2 3 4 5 (gS rfl (gS rfl (gS rfl g0))) (gS rfl (gS rfl g0)) (gS rfl g0) g0 (fun g => ?_)
                                                                                                                                                              refine c_ret ?_
                                                                                                                                                              refine hQ18 _ _ _ (in_ret ?_)
                                                                                                                                                              refine ret4 rfl (res_tmp (et (gS rfl (gS rfl (gS rfl g0))) rfl)) (res_tmp (et (gS rfl (gS rfl g0)) rfl)) (res_tmp (et (gS rfl g0) rfl)) (res_tmp (et g0 rfl)) ?_
                                                                                                                                                              refine ⟨info_ret (a := 7) (b := 1) (c := 0) (by unfold KN; omega) ?_ ?_, U⟩
                                                                                                                                                              · rw [arN, if_neg (by omega), if_neg (by omega), if_neg (by omega), if_neg (by omega), if_neg (by omega), if_neg (by omega), if_neg (by omega), if_neg (by omega), if_neg (by omega), if_neg (by omega), if_neg (by omega), if_pos (by omega)]
                                                                                                                                                              · rw [sgN, if_neg (by omega), if_neg (by omega), if_neg (by omega), if_neg (by omega), if_neg (by omega), if_neg (by omega), if_neg (by omega), if_neg (by omega), if_neg (by omega), if_neg (by omega), if_neg (by omega), if_neg (by omega), if_neg (by omega), if_neg (by omega), if_neg (by omega), if_neg (by omega), if_neg (by omega), if_neg (by omega), if_neg (by omega), if_neg (by omega), if_neg (by omega), if_neg (by omega), if_neg (by omega), if_neg (by omega), if_neg (by omega), if_neg (by omega), if_neg (by omega), if_neg (by omega), if_pos (by omega)]
                                                                                                                                                            · skip
                                                                                                                                                              simp only [Bool.and_eq_true, Bool.or_eq_true, Bool.and_eq_false_imp, Bool.or_eq_false_iff, decide_eq_true_eq, decide_eq_false_iff_not] at cB78
                                                                                                                                                              refine c_region ?_
                                                                                                                                                              refine l_step (y_eql (et (gS rfl (gS rfl g0)) rfl) rfl) ?_
                                                                                                                                                              refine l_step (y_assignV (et g0 rfl)) ?_
                                                                                                                                                              refine l_nil ?_
                                                                                                                                                              refine hK287 _ _ ?_
                                                                                                                                                              refine fg2 54 152 (gS rfl (gS rfl (gS rfl (gS rfl g0)))) g0 (fun g => ?_)
                                                                                                                                                              refine c_condV (i := 152) g0 rfl (fun cB79 => ?_) (fun cB79 => ?_)
                                                                                                                                                              · skip
                                                                                                                                                                simp only [Bool.and_eq_true, Bool.or_eq_true, Bool.and_eq_false_imp, Bool.or_eq_false_iff, decide_eq_true_eq, decide_eq_false_iff_not] at cB79
                                                                                                                                                                refine c_seq (fun K293 hK293 => ?_)
                                                                                                                                                                refine c_region ?_
                                                                                                                                                                refine l_step y_assignC ?_
                                                                                                                                                                refine l_step y_assignC ?_
                                                                                                                                                                refine l_step y_assignC ?_
                                                                                                                                                                refine l_step y_assignC ?_
                                                                                                                                                                refine l_nil ?_
                                                                                                                                                                refine hK293 _ _ ?_
                                                                                                                                                                refine fg4 2 3 4 5 (gS rfl (gS rfl (gS rfl g0))) (gS rfl (gS rfl g0)) (gS rfl g0) g0 (fun g => ?_)
                                                                                                                                                                refine c_ret ?_
                                                                                                                                                                refine hQ18 _ _ _ (in_ret ?_)
                                                                                                                                                                refine ret4 rfl (res_tmp (et (gS rfl (gS rfl (gS rfl g0))) rfl)) (res_tmp (et (gS rfl (gS rfl g0)) rfl)) (res_tmp (et (gS rfl g0) rfl)) (res_tmp (et g0 rfl)) ?_
                                                                                                                                                                refine ⟨info_ret (a := 7) (b := 1) (c := 0) (by unfold KN; omega) ?_ ?_, U⟩
                                                                                                                                                                · rw [arN, if_neg (by omega), if_neg (by omega), if_neg (by omega), if_neg (by omega), if_neg (by omega), if_neg (by omega), if_neg (by omega), if_neg (by omega), if_neg (by omega), if_neg (by omega), if_neg (by omega), if_pos (by omega)]
                                                                                                                                                                · rw [sgN, if_neg (by omega), if_neg (by omega), if_neg (by omega), if_neg (by omega), if_neg (by omega), if_neg (by omega), if_neg (by omega), if_neg (by omega), if_neg (by omega), if_neg (by omega), if_neg (by omega), if_neg (by omega), if_neg (by omega), if_neg (by omega), if_neg (by omega), if_neg (by omega), if_neg (by omega), if_neg (by omega), if_neg (by omega), if_neg (by omega), if_neg (by omega), if_neg (by omega), if_neg (by omega), if_neg (by omega), if_neg (by omega), if_neg (by omega), if_neg (by omega), if_neg (by omega), if_pos (by omega)]
                                                                                                                                                              · skip
                                                                                                                                                                simp only [Bool.and_eq_true, Bool.or_eq_true, Bool.and_eq_false_imp, Bool.or_eq_false_iff, decide_eq_true_eq, decide_eq_false_iff_not] at cB79
                                                                                                                                                                refine c_seq (fun K294 hK294 => ?_)
                                                                                                                                                                refine c_seq (fun K295 hK295 => ?_)
                                                                                                                                                                refine c_region ?_
                                                                                                                                                                refine l_step (y_eql (et (gS rfl (gS rfl g0)) rfl) rfl) ?_
                                                                                                                                                                refine l_step (y_assignV (et g0 rfl)) ?_
                                                                                                                                                                refine l_nil ?_
                                                                                                                                                                refine hK295 _ _ ?_
                                                                                                                                                                refine fg2 54 155 (gS rfl (gS rfl (gS rfl (gS rfl g0)))) g0 (fun g => ?_)
                                                                                                                                                                refine c_condV (i := 155) g0 rfl (fun cB80 => ?_) (fun cB80 => ?_)
                                                                                                                                                                · skip
                                                                                                                                                                  simp only [Bool.and_eq_true, Bool.or_eq_true, Bool.and_eq_false_imp, Bool.or_eq_false_iff, decide_eq_true_eq, decide_eq_false_iff_not] at cB80
                                                                                                                                                                  refine c_skip ?_
                                                                                                                                                                  refine hK294 _ _ ?_
                                                                                                                                                                  refine fg1 155 g0 (fun g => ?_)
                                                                                                                                                                  refine c_true (et g0 rfl) rfl ?_
                                                                                                                                                                  refine c_seq (fun K298 hK298 => ?_)
                                                                                                                                                                  refine c_region ?_
                                                                                                                                                                  refine l_step y_assignC ?_
                                                                                                                                                                  refine l_step y_assignC ?_
                                                                                                                                                                  refine l_step y_assignC ?_
                                                                                                                                                                  refine l_step y_assignC ?_
                                                                                                                                                                  refine l_nil ?_
                                                                                                                                                                  refine hK298 _ _ ?_
                                                                                                                                                                  refine fg4 2 3 4 5 (gS rfl (gS rfl (gS rfl g0))) (gS rfl (gS rfl g0)) (gS rfl g0) g0 (fun g => ?_)
                                                                                                                                                                  refine c_ret ?_
                                                                                                                                                                  refine hQ18 _ _ _ (in_ret ?_)
                                                                                                                                                                  refine ret4 rfl (res_tmp (et (gS rfl (gS rfl (gS rfl g0))) rfl)) (res_tmp (et (gS rfl (gS rfl g0)) rfl)) (res_tmp (et (gS rfl g0) rfl)) (res_tmp (et g0 rfl)) ?_
                                                                                                                                                                  refine ⟨info_ret (a := 6) (b := 1) (c := 0) (by unfold KN; omega) ?_ ?_, U⟩
                                                                                                                                                                  · rw [arN, if_neg (by omega), if_neg (by omega), if_neg (by omega), if_neg (by omega), if_neg (by omega), if_neg (by omega), if_neg (by omega), if_neg (by omega), if_neg (by omega), if_neg (by omega), if_neg (by omega), if_neg (by omega), if_pos (by omega)]
                                                                                                                                                                  · rw [sgN, if_neg (by omega), if_neg (by omega), if_neg (by omega), if_neg (by omega), if_neg (by omega), if_neg (by omega), if_neg (by omega), if_neg (by omega), if_neg (by omega), if_neg (by omega), if_neg (by omega), if_neg (by omega), if_neg (by omega), if_neg (by omega), if_neg (by omega), if_neg (by omega), if_neg (by omega), if_neg (by omega), if_neg (by omega), if_neg (by omega), if_neg (by omega), if_neg (by omega), if_neg (by omega), if_neg (by omega), if_neg (by omega), if_neg (by omega), if_neg (by omega), if_neg (by omega), if_neg (by omega), if_pos (by omega)]
                                                                                                                                                                · skip
                                                                                                                                                                  simp only [Bool.and_eq_true, Bool.or_eq_true, Bool.and_eq_false_imp, Bool.or_eq_false_iff, decide_eq_true_eq, decide_eq_false_iff_not] at cB80
                                                                                                                                                                  refine c_region ?_
                                                                                                                                                                  refine l_step (y_eql (et (gS rfl (gS rfl g0)) rfl) rfl) ?_
                                                                                                                                                                  refine l_step (y_assignV (et g0 rfl)) ?_
                                                                                                                                                                  refine l_nil ?_
                                                                                                                                                                  refine hK294 _ _ ?_
                                                                                                                                                                  refine fg1 155 g0 (fun g => ?_)
                                                                                                                                                                  refine c_condV (i := 155) g0 rfl (fun cB81 => ?_) (fun cB81 => ?_)
                                                                                                                                                                  · skip
                                                                                                                                                                    simp only [Bool.and_eq_true, Bool.or_eq_true, Bool.and_eq_false_imp, Bool.or_eq_false_iff, decide_eq_true_eq, decide_eq_false_iff_not] at cB81
                                                                                                                                                                    refine c_seq (fun K300 hK300 => ?_)
                                                                                                                                                                    refine c_region ?_
                                                                                                                                                                    refine l_step y_assignC ?_
                                                                                                                                                                    refine l_step y_assignC ?_
                                                                                                                                                                    refine l_step y_assignC ?_
                                                                                                                                                                    refine l_step y_assignC ?_
                                                                                                                                                                    refine l_nil ?_
                                                                                                                                                                    refine hK300 _ _ ?_
                                                                                                                                                                    refine fg4 2 3 4 5 (gS rfl (gS rfl (gS rfl g0))) (gS rfl (gS rfl g0)) (gS rfl g0) g0 (fun g => ?_)
                                                                                                                                                                    refine c_ret ?_
                                                                                                                                                                    refine hQ18 _ _ _ (in_ret ?_)
                                                                                                                                                                    refine ret4 rfl (res_tmp (et (gS rfl (gS rfl (gS rfl g0))) rfl)) (res_tmp (et (gS rfl (gS rfl g0)) rfl)) (res_tmp (et (gS rfl g0) rfl)) (res_tmp (et g0 rfl)) ?_
                                                                                                                                                                    refine ⟨info_ret (a := 6) (b := 1) (c := 0) (by unfold KN; omega) ?_ ?_, U⟩
                                                                                                                                                                    · rw [arN, if_neg (by omega), if_neg (by omega), if_neg (by omega), if_neg (by omega), if_neg (by omega), if_neg (by omega), if_neg (by omega), if_neg (by omega), if_neg (by omega), if_neg (by omega), if_neg (by omega), if_neg (by omega), if_pos (by omega)]
                                                                                                                                                                    · rw [sgN, if_neg (by omega), if_neg (by omega), if_neg (by omega), if_neg (by omega), if_neg (by omega), if_neg (by omega), if_neg (by omega), if_neg (by omega), if_neg (by omega), if_neg (by omega), if_neg (by omega), if_neg (by omega), if_neg (by omega), if_neg (by omega), if_neg (by omega), if_neg (by omega), if_neg (by omega), if_neg (by omega), if_neg (by omega), if_neg (by omega), if_neg (by omega), if_neg (by omega), if_neg (by omega), if_neg (by omega), if_neg (by omega), if_neg (by omega), if_neg (by omega), if_neg (by omega), if_neg (by omega), if_pos (by omega)]
                                                                                                                                                                  · skip
                                                                                                                                                                    simp only [Bool.and_eq_true, Bool.or_eq_true, Bool.and_eq_false_imp, Bool.or_eq_false_iff, decide_eq_true_eq, decide_eq_false_iff_not] at cB81
                                                                                                                                                                    refine c_skip ?_
                                                                                                                                                                    refine hQ18 _ _ _ (in_normal ?_)
                                                                                                                                                                    refine hK16 _ _ ?_
                                                                                                                                                                    refine fg0 (fun g => ?_)
                                                                                                                                                                    refine c_seq (fun K301 hK301 => ?_)
                                                                                                                                                                    refine c_region ?_
                                                                                                                                                                    refine l_step y_assignC ?_
                                                                                                                                                                    refine l_step y_assignC ?_
                                                                                                                                                                    refine l_step y_assignC ?_
                                                                                                                                                                    refine l_step y_assignC ?_
                                                                                                                                                                    refine l_nil ?_
                                                                                                                                                                    refine hK301 _ _ ?_
                                                                                                                                                                    refine c_ret ?_
                                                                                                                                                                    refine ret4 rfl (res_tmp (et (gS rfl (gS rfl (gS rfl g0))) rfl)) (res_tmp (et (gS rfl (gS rfl g0)) rfl)) (res_tmp (et (gS rfl g0) rfl)) (res_tmp (et g0 rfl)) ?_
                                                                                                                                                                    refine ⟨?_, U⟩
                                                                                                                                                                    have hf := fam_unknown (o := o) (by unfold KN; omega)
                                                                                                                                                                    unfold tkN gvN knN
                                                                                                                                                                    rw [if_pos hf, if_pos hf, hf, sgN, if_neg (by omega), if_neg (by omega), if_neg (by omega), if_neg (by omega), if_neg (by omega), if_neg (by omega), if_neg (by omega), if_neg (by omega), if_neg (by omega), if_neg (by omega), if_neg (by omega), if_neg (by omega), if_neg (by omega), if_neg (by omega), if_neg (by omega), if_neg (by omega), if_neg (by omega), if_neg (by omega), if_neg (by omega), if_neg (by omega), if_neg (by omega), if_neg (by omega), if_neg (by omega), if_neg (by omega), if_neg (by omega), if_neg (by omega), if_neg (by omega), if_neg (by omega), if_neg (by omega), if_neg (by omega)]; rfl
end Go.Proofs.YgvaawGreat
