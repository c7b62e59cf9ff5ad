import Derived.Test.YgvaawGreatO1
set_option maxRecDepth 100000
set_option maxHeartbeats 4000000
set_option linter.unusedSimpArgs false
set_option linter.unusedVariables false
namespace Go.Proofs.YgvaawGreat
open Go
/-- how many words an instruction takes and gives -/
def arN (o : Nat) : Nat × Nat :=
  if 128 ≤ o ∧ o ≤ 143 then (o - 127, o - 126) else if 144 ≤ o ∧ o ≤ 159 then (o - 142, o - 142) else if 160 ≤ o ∧ o ≤ 164 then (o - 158, 0)
  else if o = 0 ∨ o = 91 then (0, 0) else if o = 255 ∨ o = 80 ∨ o = 86 then (1, 0) else if o = 8 ∨ o = 9 ∨ o = 240 then (3, 1)
  else if o = 21 ∨ o = 25 ∨ o = 49 ∨ o = 53 ∨ o = 59 ∨ o = 63 ∨ o = 64 ∨ o = 81 ∨ o = 84 ∨ o = 92 then (1, 1)
  else if o = 82 ∨ o = 83 ∨ o = 85 ∨ o = 93 ∨ o = 87 ∨ o = 243 ∨ o = 253 then (2, 0)
  else if o = 55 ∨ o = 57 ∨ o = 62 ∨ o = 94 then (3, 0) else if o = 60 then (4, 0) else if o = 245 then (4, 1) else if o = 241 ∨ o = 242 then (7, 1)
  else if o = 244 ∨ o = 250 then (6, 1) else if (1 ≤ o ∧ o ≤ 11) ∨ (16 ≤ o ∧ o ≤ 29) ∨ o = 32 then (2, 1) else (0, 1)
def knN (o : Nat) : Bool := decide (famN o ≠ 0)
def tkN (o : Nat) : Nat := if famN o = 0 then 0 else (arN o).1
def gvN (o : Nat) : Nat := if famN o = 0 then 0 else (arN o).2
theorem fam_arith {o : Nat} : famN o = 1 ↔ (1 ≤ o ∧ o ≤ 11) ∨ (16 ≤ o ∧ o ≤ 29) ∨ o = 32 := by
  unfold famN
  constructor
  · intro h
    repeat' split at h
    all_goals first | omega | assumption
  · intro h
    rw [if_neg (by omega), if_pos h]
theorem tup3 {a b c d : Nat} {s t : Bool} {k : IntKind} (h1 : a = c) (h2 : b = d) (h3 : s = t) : Value.tuple #[.int k (a : Nat), .int k (b : Nat), .bool s] = Value.tuple #[.int k (c : Nat), .int k (d : Nat), .bool t] := by rw [h1, h2, h3]
theorem ar_ret {o a b : Nat} (hf : famN o ≠ 0) (h : arN o = (a, b)) : Value.tuple #[.int .i64 (a : Nat), .int .i64 (b : Nat), .bool true] = Value.tuple #[.int .i64 (tkN o : Nat), .int .i64 (gvN o : Nat), .bool (knN o)] := by
  unfold tkN gvN knN
  rw [if_neg hf, if_neg hf, h, decide_eq_true hf]
theorem arity_spec (o : Nat) (w : World) (ho : o < 256) :
    Ret 137 [.int .u8 o] w (fun v w' => v = .tuple #[.int .i64 (tkN o : Nat), .int .i64 (gvN o : Nat), .bool (knN o)] ∧ Up w w') := by
  refine enter (n := 99) Hvaa.func137 rfl rfl (Nat.le_of_ble_eq_true rfl) ?_
  have U := Up.refl w
  refine c_seq (fun K1 hK1 => ?_)
  refine c_region ?_
  refine l_step y_assignC ?_
  refine l_step y_assignC ?_
  refine l_step y_assignC ?_
  refine l_nil ?_
  refine hK1 _ _ ?_
  refine fg1 0 (gS rfl (gS rfl (gS rfl g0))) (fun g => ?_)
  refine c_seq (fun K2 hK2 => ?_)
  refine c_block (fun Q3 hQ3 => ?_)
  refine c_seq (fun K4 hK4 => ?_)
  refine c_region ?_
  refine l_step (y_moveV (et g0 rfl)) ?_
  refine l_eff (e_callV cal_65 (aC (et g0 rfl) aN) (fam_spec o _ ho)) (fun v5 w5 h5 => ?_)
  obtain ⟨rfl, u5⟩ := h5
  replace U := U.tr u5
  refine l_step (y_eql (et g0 rfl) rfl) ?_
  refine l_step (y_assignV (et g0 rfl)) ?_
  refine l_nil ?_
  refine hK4 _ _ ?_
  refine fg2 0 5 (gS rfl (gS rfl (gS rfl (gS rfl g0)))) g0 (fun g => ?_)
  refine c_condV (i := 5) g0 rfl (fun cB1 => ?_) (fun cB1 => ?_)
  · skip
    simp only [Bool.and_eq_true, Bool.or_eq_true, Bool.and_eq_false_imp, Bool.or_eq_false_iff, decide_eq_true_eq, decide_eq_false_iff_not] at cB1
    have hf : famN o = 0 := by omega
    refine c_seq (fun K7 hK7 => ?_)
    refine c_region ?_
    refine l_step y_assignC ?_
    refine l_step y_assignC ?_
    refine l_step y_assignC ?_
    refine l_nil ?_
    refine hK7 _ _ ?_
    refine fg3 2 3 4 (gS rfl (gS rfl g0)) (gS rfl g0) g0 (fun g => ?_)
    refine c_ret ?_
    refine hQ3 _ _ _ (in_ret ?_)
    refine ret3 rfl (res_tmp (et (gS rfl (gS rfl g0)) rfl)) (res_tmp (et (gS rfl g0) rfl)) (res_tmp (et g0 rfl)) ?_
    refine ⟨?_, U⟩
    unfold tkN gvN knN
    rw [if_pos hf, if_pos hf, decide_eq_false (by omega)]; rfl
  · skip
    simp only [Bool.and_eq_true, Bool.or_eq_true, Bool.and_eq_false_imp, Bool.or_eq_false_iff, decide_eq_true_eq, decide_eq_false_iff_not] at cB1
    have hf : famN o ≠ 0 := by omega
    refine c_seq (fun K8 hK8 => ?_)
    refine c_region ?_
    refine l_step (y_moveV (et (gS rfl (gS rfl g0)) rfl)) ?_
    refine l_step (y_geq (et g0 rfl) rfl) ?_
    refine l_step (y_moveV (et g0 rfl)) ?_
    refine l_gpure (j := 2) (t := 12) (by exact rfl) (by exact rfl) (et g0 rfl) rfl (fun hc => (y_moveV (et (gS rfl (gS rfl (gS rfl (gS rfl (gS rfl g0))))) rfl))) ?_
    refine l_gpure (j := 2) (t := 12) (by exact rfl) (by exact rfl) (et (gS rfl g0) rfl) rfl (fun hc => (y_leq (et (cT g0 hc) rfl) rfl)) ?_
    refine l_step (y_pickA (et (gS rfl (gS rfl g0)) rfl) (et g0 rfl) rfl) ?_
    refine l_step (y_assignV (et g0 rfl)) ?_
    refine l_nil ?_
    refine hK8 _ _ ?_
    refine fg2 0 9 (gS rfl (gS rfl (gS rfl (gS rfl (gS rfl (gS rfl (gS rfl (gS rfl (gS rfl g0))))))))) g0 (fun g => ?_)
    refine c_condV (i := 9) g0 rfl (fun cB2 => ?_) (fun cB2 => ?_)
    · skip
      simp only [Bool.and_eq_true, Bool.or_eq_true, Bool.and_eq_false_imp, Bool.or_eq_false_iff, decide_eq_true_eq, decide_eq_false_iff_not] at cB2
      refine c_seq (fun K10 hK10 => ?_)
      refine c_region ?_
      refine l_step (y_moveV (et (gS rfl (gS rfl g0)) rfl)) ?_
      refine l_step (y_sub (et g0 rfl) rfl (wrapU_subN (b := 128) uk8 ?_ ?_)) ?_
      omega
      omega
      refine l_step (y_conv Hvaa.underlying5 Hvaa.underlying3 (et g0 rfl) (wrapIN ?_)) ?_
      omega
      refine l_step (y_add (et g0 rfl) rfl (addIN (y := 1) ?_)) ?_
      omega
      refine l_step (y_moveV (et (gS rfl (gS rfl (gS rfl (gS rfl (gS rfl (gS rfl g0)))))) rfl)) ?_
      refine l_step (y_sub (et g0 rfl) rfl (wrapU_subN (b := 128) uk8 ?_ ?_)) ?_
      omega
      omega
      refine l_step (y_conv Hvaa.underlying5 Hvaa.underlying3 (et g0 rfl) (wrapIN ?_)) ?_
      omega
      refine l_step (y_add (et g0 rfl) rfl (addIN (y := 2) ?_)) ?_
      omega
      refine l_step (y_assignV (et (gS rfl (gS rfl (gS rfl (gS rfl g0)))) rfl)) ?_
      refine l_step (y_assignV (et (gS rfl g0) rfl)) ?_
      refine l_step y_assignC ?_
      refine l_nil ?_
      refine hK10 _ _ ?_
      refine fg3 2 3 4 (gS rfl (gS rfl g0)) (gS rfl g0) g0 (fun g => ?_)
      refine c_ret ?_
      refine hQ3 _ _ _ (in_ret ?_)
      refine ret3 rfl (res_tmp (et (gS rfl (gS rfl g0)) rfl)) (res_tmp (et (gS rfl g0) rfl)) (res_tmp (et g0 rfl)) ?_
      refine ⟨ar_ret (a := o - 128 + 1) (b := o - 128 + 2) hf ?_, U⟩
      rw [arN, if_pos (by omega)]
      exact Prod.ext (by show _ = _; omega) (by show _ = _; omega)
    · skip
      simp only [Bool.and_eq_true, Bool.or_eq_true, Bool.and_eq_false_imp, Bool.or_eq_false_iff, decide_eq_true_eq, decide_eq_false_iff_not] at cB2
      refine c_seq (fun K11 hK11 => ?_)
      refine c_region ?_
      refine l_step (y_moveV (et (gS rfl (gS rfl g0)) rfl)) ?_
      refine l_step (y_geq (et g0 rfl) rfl) ?_
      refine l_step (y_moveV (et g0 rfl)) ?_
      refine l_gpure (j := 2) (t := 27) (by exact rfl) (by exact rfl) (et g0 rfl) rfl (fun hc => (y_moveV (et (gS rfl (gS rfl (gS rfl (gS rfl (gS rfl g0))))) rfl))) ?_
      refine l_gpure (j := 2) (t := 27) (by exact rfl) (by exact rfl) (et (gS rfl g0) rfl) rfl (fun hc => (y_leq (et (cT g0 hc) rfl) rfl)) ?_
      refine l_step (y_pickA (et (gS rfl (gS rfl g0)) rfl) (et g0 rfl) rfl) ?_
      refine l_step (y_assignV (et g0 rfl)) ?_
      refine l_nil ?_
      refine hK11 _ _ ?_
      refine fg2 0 24 (gS rfl (gS rfl (gS rfl (gS rfl (gS rfl (gS rfl (gS rfl (gS rfl (gS rfl g0))))))))) g0 (fun g => ?_)
      refine c_condV (i := 24) g0 rfl (fun cB3 => ?_) (fun cB3 => ?_)
      · skip
        simp only [Bool.and_eq_true, Bool.or_eq_true, Bool.and_eq_false_imp, Bool.or_eq_false_iff, decide_eq_true_eq, decide_eq_false_iff_not] at cB3
        refine c_seq (fun K13 hK13 => ?_)
        refine c_region ?_
        refine l_step (y_moveV (et (gS rfl (gS rfl g0)) rfl)) ?_
        refine l_step (y_sub (et g0 rfl) rfl (wrapU_subN (b := 144) uk8 ?_ ?_)) ?_
        omega
        omega
        refine l_step (y_conv Hvaa.underlying5 Hvaa.underlying3 (et g0 rfl) (wrapIN ?_)) ?_
        omega
        refine l_step (y_add (et g0 rfl) rfl (addIN (y := 2) ?_)) ?_
        omega
        refine l_step (y_moveV (et (gS rfl (gS rfl (gS rfl (gS rfl (gS rfl (gS rfl g0)))))) rfl)) ?_
        refine l_step (y_sub (et g0 rfl) rfl (wrapU_subN (b := 144) uk8 ?_ ?_)) ?_
        omega
        omega
        refine l_step (y_conv Hvaa.underlying5 Hvaa.underlying3 (et g0 rfl) (wrapIN ?_)) ?_
        omega
        refine l_step (y_add (et g0 rfl) rfl (addIN (y := 2) ?_)) ?_
        omega
        refine l_step (y_assignV (et (gS rfl (gS rfl (gS rfl (gS rfl g0)))) rfl)) ?_
        refine l_step (y_assignV (et (gS rfl g0) rfl)) ?_
        refine l_step y_assignC ?_
        refine l_nil ?_
        refine hK13 _ _ ?_
        refine fg3 2 3 4 (gS rfl (gS rfl g0)) (gS rfl g0) g0 (fun g => ?_)
        refine c_ret ?_
        refine hQ3 _ _ _ (in_ret ?_)
        refine ret3 rfl (res_tmp (et (gS rfl (gS rfl g0)) rfl)) (res_tmp (et (gS rfl g0) rfl)) (res_tmp (et g0 rfl)) ?_
        refine ⟨ar_ret (a := o - 144 + 2) (b := o - 144 + 2) hf ?_, U⟩
        rw [arN, if_neg (by omega), if_pos (by omega)]
        exact Prod.ext (by show _ = _; omega) (by show _ = _; omega)
      · skip
        simp only [Bool.and_eq_true, Bool.or_eq_true, Bool.and_eq_false_imp, Bool.or_eq_false_iff, decide_eq_true_eq, decide_eq_false_iff_not] at cB3
        refine c_seq (fun K14 hK14 => ?_)
        refine c_region ?_
        refine l_step (y_moveV (et (gS rfl (gS rfl g0)) rfl)) ?_
        refine l_step (y_geq (et g0 rfl) rfl) ?_
        refine l_step (y_moveV (et g0 rfl)) ?_
        refine l_gpure (j := 2) (t := 42) (by exact rfl) (by exact rfl) (et g0 rfl) rfl (fun hc => (y_moveV (et (gS rfl (gS rfl (gS rfl (gS rfl (gS rfl g0))))) rfl))) ?_
        refine l_gpure (j := 2) (t := 42) (by exact rfl) (by exact rfl) (et (gS rfl g0) rfl) rfl (fun hc => (y_leq (et (cT g0 hc) rfl) rfl)) ?_
        refine l_step (y_pickA (et (gS rfl (gS rfl g0)) rfl) (et g0 rfl) rfl) ?_
        refine l_step (y_assignV (et g0 rfl)) ?_
        refine l_nil ?_
        refine hK14 _ _ ?_
        refine fg2 0 39 (gS rfl (gS rfl (gS rfl (gS rfl (gS rfl (gS rfl (gS rfl (gS rfl (gS rfl g0))))))))) g0 (fun g => ?_)
        refine c_condV (i := 39) g0 rfl (fun cB4 => ?_) (fun cB4 => ?_)
        · skip
          simp only [Bool.and_eq_true, Bool.or_eq_true, Bool.and_eq_false_imp, Bool.or_eq_false_iff, decide_eq_true_eq, decide_eq_false_iff_not] at cB4
          refine c_seq (fun K16 hK16 => ?_)
          refine c_region ?_
          refine l_step (y_moveV (et (gS rfl (gS rfl g0)) rfl)) ?_
          refine l_step (y_sub (et g0 rfl) rfl (wrapU_subN (b := 160) uk8 ?_ ?_)) ?_
          omega
          omega
          refine l_step (y_conv Hvaa.underlying5 Hvaa.underlying3 (et g0 rfl) (wrapIN ?_)) ?_
          omega
          refine l_step (y_add (et g0 rfl) rfl (addIN (y := 2) ?_)) ?_
          omega
          refine l_step (y_assignV (et g0 rfl)) ?_
          refine l_step y_assignC ?_
          refine l_step y_assignC ?_
          refine l_nil ?_
          refine hK16 _ _ ?_
          refine fg3 2 3 4 (gS rfl (gS rfl g0)) (gS rfl g0) g0 (fun g => ?_)
          refine c_ret ?_
          refine hQ3 _ _ _ (in_ret ?_)
          refine ret3 rfl (res_tmp (et (gS rfl (gS rfl g0)) rfl)) (res_tmp (et (gS rfl g0) rfl)) (res_tmp (et g0 rfl)) ?_
          refine ⟨ar_ret (a := o - 160 + 2) (b := 0) hf ?_, U⟩
          rw [arN, if_neg (by omega), if_neg (by omega), if_pos (by omega)]
          exact Prod.ext (by show _ = _; omega) (by show _ = _; omega)
        · skip
          simp only [Bool.and_eq_true, Bool.or_eq_true, Bool.and_eq_false_imp, Bool.or_eq_false_iff, decide_eq_true_eq, decide_eq_false_iff_not] at cB4
          refine c_skip ?_
          refine hQ3 _ _ _ (in_normal ?_)
          refine hK2 _ _ ?_
          refine fg1 0 (gS rfl (gS rfl g0)) (fun g => ?_)
          refine c_seq (fun K17 hK17 => ?_)
          refine c_seq (fun K18 hK18 => ?_)
          refine c_region ?_
          refine l_step (y_moveV (et g0 rfl)) ?_
          refine l_nil ?_
          refine hK18 _ _ ?_
          refine c_block (fun Q19 hQ19 => ?_)
          refine c_seq (fun K20 hK20 => ?_)
          refine c_seq (fun K21 hK21 => ?_)
          refine c_region ?_
          refine l_step (y_eql (et g0 rfl) rfl) ?_
          refine l_step (y_assignV (et g0 rfl)) ?_
          refine l_nil ?_
          refine hK21 _ _ ?_
          refine fg3 0 50 51 (gS rfl (gS rfl (gS rfl g0))) (gS rfl (gS rfl g0)) g0 (fun g => ?_)
          refine c_condV (i := 51) g0 rfl (fun cB5 => ?_) (fun cB5 => ?_)
          · skip
            simp only [Bool.and_eq_true, Bool.or_eq_true, Bool.and_eq_false_imp, Bool.or_eq_false_iff, decide_eq_true_eq, decide_eq_false_iff_not] at cB5
            refine c_skip ?_
            refine hK20 _ _ ?_
            refine fg3 0 50 51 (gS rfl (gS rfl (gS rfl g0))) (gS rfl (gS rfl g0)) g0 (fun g => ?_)
            refine c_true (et g0 rfl) rfl ?_
            refine c_seq (fun K24 hK24 => ?_)
            refine c_region ?_
            refine l_step y_assignC ?_
            refine l_step y_assignC ?_
            refine l_step y_assignC ?_
            refine l_nil ?_
            refine hK24 _ _ ?_
            refine fg3 2 3 4 (gS rfl (gS rfl g0)) (gS rfl g0) g0 (fun g => ?_)
            refine c_ret ?_
            refine hQ19 _ _ _ (in_ret ?_)
            refine ret3 rfl (res_tmp (et (gS rfl (gS rfl g0)) rfl)) (res_tmp (et (gS rfl g0) rfl)) (res_tmp (et g0 rfl)) ?_
            refine ⟨ar_ret (a := 0) (b := 0) hf ?_, U⟩
            rw [arN, if_neg (by omega), if_neg (by omega), if_neg (by omega), if_pos (by omega)]
          · skip
            simp only [Bool.and_eq_true, Bool.or_eq_true, Bool.and_eq_false_imp, Bool.or_eq_false_iff, decide_eq_true_eq, decide_eq_false_iff_not] at cB5
            refine c_region ?_
            refine l_step (y_eql (et (gS rfl (gS rfl g0)) rfl) rfl) ?_
            refine l_step (y_assignV (et g0 rfl)) ?_
            refine l_nil ?_
            refine hK20 _ _ ?_
            refine fg3 0 50 51 (gS rfl (gS rfl (gS rfl (gS rfl (gS rfl g0))))) (gS rfl (gS rfl (gS rfl (gS rfl g0)))) g0 (fun g => ?_)
            refine c_condV (i := 51) g0 rfl (fun cB6 => ?_) (fun cB6 => ?_)
            · skip
              simp only [Bool.and_eq_true, Bool.or_eq_true, Bool.and_eq_false_imp, Bool.or_eq_false_iff, decide_eq_true_eq, decide_eq_false_iff_not] at cB6
              refine c_seq (fun K26 hK26 => ?_)
              refine c_region ?_
              refine l_step y_assignC ?_
              refine l_step y_assignC ?_
              refine l_step y_assignC ?_
              refine l_nil ?_
              refine hK26 _ _ ?_
              refine fg3 2 3 4 (gS rfl (gS rfl g0)) (gS rfl g0) g0 (fun g => ?_)
              refine c_ret ?_
              refine hQ19 _ _ _ (in_ret ?_)
              refine ret3 rfl (res_tmp (et (gS rfl (gS rfl g0)) rfl)) (res_tmp (et (gS rfl g0) rfl)) (res_tmp (et g0 rfl)) ?_
              refine ⟨ar_ret (a := 0) (b := 0) hf ?_, U⟩
              rw [arN, if_neg (by omega), if_neg (by omega), if_neg (by omega), if_pos (by omega)]
            · skip
              simp only [Bool.and_eq_true, Bool.or_eq_true, Bool.and_eq_false_imp, Bool.or_eq_false_iff, decide_eq_true_eq, decide_eq_false_iff_not] at cB6
              refine c_seq (fun K27 hK27 => ?_)
              refine c_seq (fun K28 hK28 => ?_)
              refine c_region ?_
              refine l_step (y_eql (et (gS rfl (gS rfl g0)) rfl) rfl) ?_
              refine l_step (y_assignV (et g0 rfl)) ?_
              refine l_nil ?_
              refine hK28 _ _ ?_
              refine fg3 0 50 54 (gS rfl (gS rfl (gS rfl (gS rfl (gS rfl g0))))) (gS rfl (gS rfl (gS rfl (gS rfl g0)))) g0 (fun g => ?_)
              refine c_condV (i := 54) g0 rfl (fun cB7 => ?_) (fun cB7 => ?_)
              · skip
                simp only [Bool.and_eq_true, Bool.or_eq_true, Bool.and_eq_false_imp, Bool.or_eq_false_iff, decide_eq_true_eq, decide_eq_false_iff_not] at cB7
                refine c_skip ?_
                refine hK27 _ _ ?_
                refine fg3 0 50 54 (gS rfl (gS rfl (gS rfl g0))) (gS rfl (gS rfl g0)) g0 (fun g => ?_)
                refine c_true (et g0 rfl) rfl ?_
                refine c_seq (fun K31 hK31 => ?_)
                refine c_region ?_
                refine l_step y_assignC ?_
                refine l_step y_assignC ?_
                refine l_step y_assignC ?_
                refine l_nil ?_
                refine hK31 _ _ ?_
                refine fg3 2 3 4 (gS rfl (gS rfl g0)) (gS rfl g0) g0 (fun g => ?_)
                refine c_ret ?_
                refine hQ19 _ _ _ (in_ret ?_)
                refine ret3 rfl (res_tmp (et (gS rfl (gS rfl g0)) rfl)) (res_tmp (et (gS rfl g0) rfl)) (res_tmp (et g0 rfl)) ?_
                refine ⟨ar_ret (a := 1) (b := 0) hf ?_, U⟩
                rw [arN, if_neg (by omega), if_neg (by omega), if_neg (by omega), if_neg (by omega), if_pos (by omega)]
              · skip
                simp only [Bool.and_eq_true, Bool.or_eq_true, Bool.and_eq_false_imp, Bool.or_eq_false_iff, decide_eq_true_eq, decide_eq_false_iff_not] at cB7
                refine c_seq (fun K32 hK32 => ?_)
                refine c_region ?_
                refine l_step (y_eql (et (gS rfl (gS rfl g0)) rfl) rfl) ?_
                refine l_step (y_assignV (et g0 rfl)) ?_
                refine l_nil ?_
                refine hK32 _ _ ?_
                refine fg3 0 50 54 (gS rfl (gS rfl (gS rfl (gS rfl (gS rfl g0))))) (gS rfl (gS rfl (gS rfl (gS rfl g0)))) g0 (fun g => ?_)
                refine c_condV (i := 54) g0 rfl (fun cB8 => ?_) (fun cB8 => ?_)
                · skip
                  simp only [Bool.and_eq_true, Bool.or_eq_true, Bool.and_eq_false_imp, Bool.or_eq_false_iff, decide_eq_true_eq, decide_eq_false_iff_not] at cB8
                  refine c_skip ?_
                  refine hK27 _ _ ?_
                  refine fg3 0 50 54 (gS rfl (gS rfl (gS rfl g0))) (gS rfl (gS rfl g0)) g0 (fun g => ?_)
                  refine c_true (et g0 rfl) rfl ?_
                  refine c_seq (fun K35 hK35 => ?_)
                  refine c_region ?_
                  refine l_step y_assignC ?_
                  refine l_step y_assignC ?_
                  refine l_step y_assignC ?_
                  refine l_nil ?_
                  refine hK35 _ _ ?_
                  refine fg3 2 3 4 (gS rfl (gS rfl g0)) (gS rfl g0) g0 (fun g => ?_)
                  refine c_ret ?_
                  refine hQ19 _ _ _ (in_ret ?_)
                  refine ret3 rfl (res_tmp (et (gS rfl (gS rfl g0)) rfl)) (res_tmp (et (gS rfl g0) rfl)) (res_tmp (et g0 rfl)) ?_
                  refine ⟨ar_ret (a := 1) (b := 0) hf ?_, U⟩
                  rw [arN, if_neg (by omega), if_neg (by omega), if_neg (by omega), if_neg (by omega), if_pos (by omega)]
                · skip
                  simp only [Bool.and_eq_true, Bool.or_eq_true, Bool.and_eq_false_imp, Bool.or_eq_false_iff, decide_eq_true_eq, decide_eq_false_iff_not] at cB8
                  refine c_region ?_
                  refine l_step (y_eql (et (gS rfl (gS rfl g0)) rfl) rfl) ?_
                  refine l_step (y_assignV (et g0 rfl)) ?_
                  refine l_nil ?_
                  refine hK27 _ _ ?_
                  refine fg3 0 50 54 (gS rfl (gS rfl (gS rfl (gS rfl (gS rfl g0))))) (gS rfl (gS rfl (gS rfl (gS rfl g0)))) g0 (fun g => ?_)
                  refine c_condV (i := 54) g0 rfl (fun cB9 => ?_) (fun cB9 => ?_)
                  · skip
                    simp only [Bool.and_eq_true, Bool.or_eq_true, Bool.and_eq_false_imp, Bool.or_eq_false_iff, decide_eq_true_eq, decide_eq_false_iff_not] at cB9
                    refine c_seq (fun K37 hK37 => ?_)
                    refine c_region ?_
                    refine l_step y_assignC ?_
                    refine l_step y_assignC ?_
                    refine l_step y_assignC ?_
                    refine l_nil ?_
                    refine hK37 _ _ ?_
                    refine fg3 2 3 4 (gS rfl (gS rfl g0)) (gS rfl g0) g0 (fun g => ?_)
                    refine c_ret ?_
                    refine hQ19 _ _ _ (in_ret ?_)
                    refine ret3 rfl (res_tmp (et (gS rfl (gS rfl g0)) rfl)) (res_tmp (et (gS rfl g0) rfl)) (res_tmp (et g0 rfl)) ?_
                    refine ⟨ar_ret (a := 1) (b := 0) hf ?_, U⟩
                    rw [arN, if_neg (by omega), if_neg (by omega), if_neg (by omega), if_neg (by omega), if_pos (by omega)]
                  · skip
                    simp only [Bool.and_eq_true, Bool.or_eq_true, Bool.and_eq_false_imp, Bool.or_eq_false_iff, decide_eq_true_eq, decide_eq_false_iff_not] at cB9
                    refine c_seq (fun K38 hK38 => ?_)
                    refine c_seq (fun K39 hK39 => ?_)
                    refine c_region ?_
                    refine l_step (y_eql (et (gS rfl (gS rfl g0)) rfl) rfl) ?_
                    refine l_step (y_assignV (et g0 rfl)) ?_
                    refine l_nil ?_
                    refine hK39 _ _ ?_
                    refine fg3 0 50 58 (gS rfl (gS rfl (gS rfl (gS rfl (gS rfl g0))))) (gS rfl (gS rfl (gS rfl (gS rfl g0)))) g0 (fun g => ?_)
                    refine c_condV (i := 58) g0 rfl (fun cB10 => ?_) (fun cB10 => ?_)
                    · skip
                      simp only [Bool.and_eq_true, Bool.or_eq_true, Bool.and_eq_false_imp, Bool.or_eq_false_iff, decide_eq_true_eq, decide_eq_false_iff_not] at cB10
                      refine c_skip ?_
                      refine hK38 _ _ ?_
                      refine fg3 0 50 58 (gS rfl (gS rfl (gS rfl g0))) (gS rfl (gS rfl g0)) g0 (fun g => ?_)
                      refine c_true (et g0 rfl) rfl ?_
                      refine c_seq (fun K42 hK42 => ?_)
                      refine c_region ?_
                      refine l_step y_assignC ?_
                      refine l_step y_assignC ?_
                      refine l_step y_assignC ?_
                      refine l_nil ?_
                      refine hK42 _ _ ?_
                      refine fg3 2 3 4 (gS rfl (gS rfl g0)) (gS rfl g0) g0 (fun g => ?_)
                      refine c_ret ?_
                      refine hQ19 _ _ _ (in_ret ?_)
                      refine ret3 rfl (res_tmp (et (gS rfl (gS rfl g0)) rfl)) (res_tmp (et (gS rfl g0) rfl)) (res_tmp (et g0 rfl)) ?_
                      refine ⟨ar_ret (a := 3) (b := 1) hf ?_, U⟩
                      rw [arN, if_neg (by omega), if_neg (by omega), if_neg (by omega), if_neg (by omega), if_neg (by omega), if_pos (by omega)]
                    · skip
                      simp only [Bool.and_eq_true, Bool.or_eq_true, Bool.and_eq_false_imp, Bool.or_eq_false_iff, decide_eq_true_eq, decide_eq_false_iff_not] at cB10
                      refine c_seq (fun K43 hK43 => ?_)
                      refine c_region ?_
                      refine l_step (y_eql (et (gS rfl (gS rfl g0)) rfl) rfl) ?_
                      refine l_step (y_assignV (et g0 rfl)) ?_
                      refine l_nil ?_
                      refine hK43 _ _ ?_
                      refine fg3 0 50 58 (gS rfl (gS rfl (gS rfl (gS rfl (gS rfl g0))))) (gS rfl (gS rfl (gS rfl (gS rfl g0)))) g0 (fun g => ?_)
                      refine c_condV (i := 58) g0 rfl (fun cB11 => ?_) (fun cB11 => ?_)
                      · skip
                        simp only [Bool.and_eq_true, Bool.or_eq_true, Bool.and_eq_false_imp, Bool.or_eq_false_iff, decide_eq_true_eq, decide_eq_false_iff_not] at cB11
                        refine c_skip ?_
                        refine hK38 _ _ ?_
                        refine fg3 0 50 58 (gS rfl (gS rfl (gS rfl g0))) (gS rfl (gS rfl g0)) g0 (fun g => ?_)
                        refine c_true (et g0 rfl) rfl ?_
                        refine c_seq (fun K46 hK46 => ?_)
                        refine c_region ?_
                        refine l_step y_assignC ?_
                        refine l_step y_assignC ?_
                        refine l_step y_assignC ?_
                        refine l_nil ?_
                        refine hK46 _ _ ?_
                        refine fg3 2 3 4 (gS rfl (gS rfl g0)) (gS rfl g0) g0 (fun g => ?_)
                        refine c_ret ?_
                        refine hQ19 _ _ _ (in_ret ?_)
                        refine ret3 rfl (res_tmp (et (gS rfl (gS rfl g0)) rfl)) (res_tmp (et (gS rfl g0) rfl)) (res_tmp (et g0 rfl)) ?_
                        refine ⟨ar_ret (a := 3) (b := 1) hf ?_, U⟩
                        rw [arN, if_neg (by omega), if_neg (by omega), if_neg (by omega), if_neg (by omega), if_neg (by omega), if_pos (by omega)]
                      · skip
                        simp only [Bool.and_eq_true, Bool.or_eq_true, Bool.and_eq_false_imp, Bool.or_eq_false_iff, decide_eq_true_eq, decide_eq_false_iff_not] at cB11
                        refine c_region ?_
                        refine l_step (y_eql (et (gS rfl (gS rfl g0)) rfl) rfl) ?_
                        refine l_step (y_assignV (et g0 rfl)) ?_
                        refine l_nil ?_
                        refine hK38 _ _ ?_
                        refine fg3 0 50 58 (gS rfl (gS rfl (gS rfl (gS rfl (gS rfl g0))))) (gS rfl (gS rfl (gS rfl (gS rfl g0)))) g0 (fun g => ?_)
                        refine c_condV (i := 58) g0 rfl (fun cB12 => ?_) (fun cB12 => ?_)
                        · skip
                          simp only [Bool.and_eq_true, Bool.or_eq_true, Bool.and_eq_false_imp, Bool.or_eq_false_iff, decide_eq_true_eq, decide_eq_false_iff_not] at cB12
                          refine c_seq (fun K48 hK48 => ?_)
                          refine c_region ?_
                          refine l_step y_assignC ?_
                          refine l_step y_assignC ?_
                          refine l_step y_assignC ?_
                          refine l_nil ?_
                          refine hK48 _ _ ?_
                          refine fg3 2 3 4 (gS rfl (gS rfl g0)) (gS rfl g0) g0 (fun g => ?_)
                          refine c_ret ?_
                          refine hQ19 _ _ _ (in_ret ?_)
                          refine ret3 rfl (res_tmp (et (gS rfl (gS rfl g0)) rfl)) (res_tmp (et (gS rfl g0) rfl)) (res_tmp (et g0 rfl)) ?_
                          refine ⟨ar_ret (a := 3) (b := 1) hf ?_, U⟩
                          rw [arN, if_neg (by omega), if_neg (by omega), if_neg (by omega), if_neg (by omega), if_neg (by omega), if_pos (by omega)]
                        · skip
                          simp only [Bool.and_eq_true, Bool.or_eq_true, Bool.and_eq_false_imp, Bool.or_eq_false_iff, decide_eq_true_eq, decide_eq_false_iff_not] at cB12
                          refine c_seq (fun K49 hK49 => ?_)
                          refine c_seq (fun K50 hK50 => ?_)
                          refine c_region ?_
                          refine l_step (y_eql (et (gS rfl (gS rfl g0)) rfl) rfl) ?_
                          refine l_step (y_assignV (et g0 rfl)) ?_
                          refine l_nil ?_
                          refine hK50 _ _ ?_
                          refine fg3 0 50 62 (gS rfl (gS rfl (gS rfl (gS rfl (gS rfl g0))))) (gS rfl (gS rfl (gS rfl (gS rfl g0)))) g0 (fun g => ?_)
                          refine c_condV (i := 62) g0 rfl (fun cB13 => ?_) (fun cB13 => ?_)
                          · skip
                            simp only [Bool.and_eq_true, Bool.or_eq_true, Bool.and_eq_false_imp, Bool.or_eq_false_iff, decide_eq_true_eq, decide_eq_false_iff_not] at cB13
                            refine c_skip ?_
                            refine hK49 _ _ ?_
                            refine fg3 0 50 62 (gS rfl (gS rfl (gS rfl g0))) (gS rfl (gS rfl g0)) g0 (fun g => ?_)
                            refine c_true (et g0 rfl) rfl ?_
                            refine c_seq (fun K53 hK53 => ?_)
                            refine c_region ?_
                            refine l_step y_assignC ?_
                            refine l_step y_assignC ?_
                            refine l_step y_assignC ?_
                            refine l_nil ?_
                            refine hK53 _ _ ?_
                            refine fg3 2 3 4 (gS rfl (gS rfl g0)) (gS rfl g0) g0 (fun g => ?_)
                            refine c_ret ?_
                            refine hQ19 _ _ _ (in_ret ?_)
                            refine ret3 rfl (res_tmp (et (gS rfl (gS rfl g0)) rfl)) (res_tmp (et (gS rfl g0) rfl)) (res_tmp (et g0 rfl)) ?_
                            refine ⟨ar_ret (a := 1) (b := 1) hf ?_, U⟩
                            rw [arN, if_neg (by omega), if_neg (by omega), if_neg (by omega), if_neg (by omega), if_neg (by omega), if_neg (by omega), if_pos (by omega)]
                          · skip
                            simp only [Bool.and_eq_true, Bool.or_eq_true, Bool.and_eq_false_imp, Bool.or_eq_false_iff, decide_eq_true_eq, decide_eq_false_iff_not] at cB13
                            refine c_seq (fun K54 hK54 => ?_)
                            refine c_region ?_
                            refine l_step (y_eql (et (gS rfl (gS rfl g0)) rfl) rfl) ?_
                            refine l_step (y_assignV (et g0 rfl)) ?_
                            refine l_nil ?_
                            refine hK54 _ _ ?_
                            refine fg3 0 50 62 (gS rfl (gS rfl (gS rfl (gS rfl (gS rfl g0))))) (gS rfl (gS rfl (gS rfl (gS rfl g0)))) g0 (fun g => ?_)
                            refine c_condV (i := 62) g0 rfl (fun cB14 => ?_) (fun cB14 => ?_)
                            · skip
                              simp only [Bool.and_eq_true, Bool.or_eq_true, Bool.and_eq_false_imp, Bool.or_eq_false_iff, decide_eq_true_eq, decide_eq_false_iff_not] at cB14
                              refine c_skip ?_
                              refine hK49 _ _ ?_
                              refine fg3 0 50 62 (gS rfl (gS rfl (gS rfl g0))) (gS rfl (gS rfl g0)) g0 (fun g => ?_)
                              refine c_true (et g0 rfl) rfl ?_
                              refine c_seq (fun K57 hK57 => ?_)
                              refine c_region ?_
                              refine l_step y_assignC ?_
                              refine l_step y_assignC ?_
                              refine l_step y_assignC ?_
                              refine l_nil ?_
                              refine hK57 _ _ ?_
                              refine fg3 2 3 4 (gS rfl (gS rfl g0)) (gS rfl g0) g0 (fun g => ?_)
                              refine c_ret ?_
                              refine hQ19 _ _ _ (in_ret ?_)
                              refine ret3 rfl (res_tmp (et (gS rfl (gS rfl g0)) rfl)) (res_tmp (et (gS rfl g0) rfl)) (res_tmp (et g0 rfl)) ?_
                              refine ⟨ar_ret (a := 1) (b := 1) hf ?_, U⟩
                              rw [arN, if_neg (by omega), if_neg (by omega), if_neg (by omega), if_neg (by omega), if_neg (by omega), if_neg (by omega), if_pos (by omega)]
                            · skip
                              simp only [Bool.and_eq_true, Bool.or_eq_true, Bool.and_eq_false_imp, Bool.or_eq_false_iff, decide_eq_true_eq, decide_eq_false_iff_not] at cB14
                              refine c_seq (fun K58 hK58 => ?_)
                              refine c_region ?_
                              refine l_step (y_eql (et (gS rfl (gS rfl g0)) rfl) rfl) ?_
                              refine l_step (y_assignV (et g0 rfl)) ?_
                              refine l_nil ?_
                              refine hK58 _ _ ?_
                              refine fg3 0 50 62 (gS rfl (gS rfl (gS rfl (gS rfl (gS rfl g0))))) (gS rfl (gS rfl (gS rfl (gS rfl g0)))) g0 (fun g => ?_)
                              refine c_condV (i := 62) g0 rfl (fun cB15 => ?_) (fun cB15 => ?_)
                              · skip
                                simp only [Bool.and_eq_true, Bool.or_eq_true, Bool.and_eq_false_imp, Bool.or_eq_false_iff, decide_eq_true_eq, decide_eq_false_iff_not] at cB15
                                refine c_skip ?_
                                refine hK49 _ _ ?_
                                refine fg3 0 50 62 (gS rfl (gS rfl (gS rfl g0))) (gS rfl (gS rfl g0)) g0 (fun g => ?_)
                                refine c_true (et g0 rfl) rfl ?_
                                refine c_seq (fun K61 hK61 => ?_)
                                refine c_region ?_
                                refine l_step y_assignC ?_
                                refine l_step y_assignC ?_
                                refine l_step y_assignC ?_
                                refine l_nil ?_
                                refine hK61 _ _ ?_
                                refine fg3 2 3 4 (gS rfl (gS rfl g0)) (gS rfl g0) g0 (fun g => ?_)
                                refine c_ret ?_
                                refine hQ19 _ _ _ (in_ret ?_)
                                refine ret3 rfl (res_tmp (et (gS rfl (gS rfl g0)) rfl)) (res_tmp (et (gS rfl g0) rfl)) (res_tmp (et g0 rfl)) ?_
                                refine ⟨ar_ret (a := 1) (b := 1) hf ?_, U⟩
                                rw [arN, if_neg (by omega), if_neg (by omega), if_neg (by omega), if_neg (by omega), if_neg (by omega), if_neg (by omega), if_pos (by omega)]
                              · skip
                                simp only [Bool.and_eq_true, Bool.or_eq_true, Bool.and_eq_false_imp, Bool.or_eq_false_iff, decide_eq_true_eq, decide_eq_false_iff_not] at cB15
                                refine c_seq (fun K62 hK62 => ?_)
                                refine c_region ?_
                                refine l_step (y_eql (et (gS rfl (gS rfl g0)) rfl) rfl) ?_
                                refine l_step (y_assignV (et g0 rfl)) ?_
                                refine l_nil ?_
                                refine hK62 _ _ ?_
                                refine fg3 0 50 62 (gS rfl (gS rfl (gS rfl (gS rfl (gS rfl g0))))) (gS rfl (gS rfl (gS rfl (gS rfl g0)))) g0 (fun g => ?_)
                                refine c_condV (i := 62) g0 rfl (fun cB16 => ?_) (fun cB16 => ?_)
                                · skip
                                  simp only [Bool.and_eq_true, Bool.or_eq_true, Bool.and_eq_false_imp, Bool.or_eq_false_iff, decide_eq_true_eq, decide_eq_false_iff_not] at cB16
                                  refine c_skip ?_
                                  refine hK49 _ _ ?_
                                  refine fg3 0 50 62 (gS rfl (gS rfl (gS rfl g0))) (gS rfl (gS rfl g0)) g0 (fun g => ?_)
                                  refine c_true (et g0 rfl) rfl ?_
                                  refine c_seq (fun K65 hK65 => ?_)
                                  refine c_region ?_
                                  refine l_step y_assignC ?_
                                  refine l_step y_assignC ?_
                                  refine l_step y_assignC ?_
                                  refine l_nil ?_
                                  refine hK65 _ _ ?_
                                  refine fg3 2 3 4 (gS rfl (gS rfl g0)) (gS rfl g0) g0 (fun g => ?_)
                                  refine c_ret ?_
                                  refine hQ19 _ _ _ (in_ret ?_)
                                  refine ret3 rfl (res_tmp (et (gS rfl (gS rfl g0)) rfl)) (res_tmp (et (gS rfl g0) rfl)) (res_tmp (et g0 rfl)) ?_
                                  refine ⟨ar_ret (a := 1) (b := 1) hf ?_, U⟩
                                  rw [arN, if_neg (by omega), if_neg (by omega), if_neg (by omega), if_neg (by omega), if_neg (by omega), if_neg (by omega), if_pos (by omega)]
                                · skip
                                  simp only [Bool.and_eq_true, Bool.or_eq_true, Bool.and_eq_false_imp, Bool.or_eq_false_iff, decide_eq_true_eq, decide_eq_false_iff_not] at cB16
                                  refine c_seq (fun K66 hK66 => ?_)
                                  refine c_region ?_
                                  refine l_step (y_eql (et (gS rfl (gS rfl g0)) rfl) rfl) ?_
                                  refine l_step (y_assignV (et g0 rfl)) ?_
                                  refine l_nil ?_
                                  refine hK66 _ _ ?_
                                  refine fg3 0 50 62 (gS rfl (gS rfl (gS rfl (gS rfl (gS rfl g0))))) (gS rfl (gS rfl (gS rfl (gS rfl g0)))) g0 (fun g => ?_)
                                  refine c_condV (i := 62) g0 rfl (fun cB17 => ?_) (fun cB17 => ?_)
                                  · skip
                                    simp only [Bool.and_eq_true, Bool.or_eq_true, Bool.and_eq_false_imp, Bool.or_eq_false_iff, decide_eq_true_eq, decide_eq_false_iff_not] at cB17
                                    refine c_skip ?_
                                    refine hK49 _ _ ?_
                                    refine fg3 0 50 62 (gS rfl (gS rfl (gS rfl g0))) (gS rfl (gS rfl g0)) g0 (fun g => ?_)
                                    refine c_true (et g0 rfl) rfl ?_
                                    refine c_seq (fun K69 hK69 => ?_)
                                    refine c_region ?_
                                    refine l_step y_assignC ?_
                                    refine l_step y_assignC ?_
                                    refine l_step y_assignC ?_
                                    refine l_nil ?_
                                    refine hK69 _ _ ?_
                                    refine fg3 2 3 4 (gS rfl (gS rfl g0)) (gS rfl g0) g0 (fun g => ?_)
                                    refine c_ret ?_
                                    refine hQ19 _ _ _ (in_ret ?_)
                                    refine ret3 rfl (res_tmp (et (gS rfl (gS rfl g0)) rfl)) (res_tmp (et (gS rfl g0) rfl)) (res_tmp (et g0 rfl)) ?_
                                    refine ⟨ar_ret (a := 1) (b := 1) hf ?_, U⟩
                                    rw [arN, if_neg (by omega), if_neg (by omega), if_neg (by omega), if_neg (by omega), if_neg (by omega), if_neg (by omega), if_pos (by omega)]
                                  · skip
                                    simp only [Bool.and_eq_true, Bool.or_eq_true, Bool.and_eq_false_imp, Bool.or_eq_false_iff, decide_eq_true_eq, decide_eq_false_iff_not] at cB17
                                    refine c_seq (fun K70 hK70 => ?_)
                                    refine c_region ?_
                                    refine l_step (y_eql (et (gS rfl (gS rfl g0)) rfl) rfl) ?_
                                    refine l_step (y_assignV (et g0 rfl)) ?_
                                    refine l_nil ?_
                                    refine hK70 _ _ ?_
                                    refine fg3 0 50 62 (gS rfl (gS rfl (gS rfl (gS rfl (gS rfl g0))))) (gS rfl (gS rfl (gS rfl (gS rfl g0)))) g0 (fun g => ?_)
                                    refine c_condV (i := 62) g0 rfl (fun cB18 => ?_) (fun cB18 => ?_)
                                    · skip
                                      simp only [Bool.and_eq_true, Bool.or_eq_true, Bool.and_eq_false_imp, Bool.or_eq_false_iff, decide_eq_true_eq, decide_eq_false_iff_not] at cB18
                                      refine c_skip ?_
                                      refine hK49 _ _ ?_
                                      refine fg3 0 50 62 (gS rfl (gS rfl (gS rfl g0))) (gS rfl (gS rfl g0)) g0 (fun g => ?_)
                                      refine c_true (et g0 rfl) rfl ?_
                                      refine c_seq (fun K73 hK73 => ?_)
                                      refine c_region ?_
                                      refine l_step y_assignC ?_
                                      refine l_step y_assignC ?_
                                      refine l_step y_assignC ?_
                                      refine l_nil ?_
                                      refine hK73 _ _ ?_
                                      refine fg3 2 3 4 (gS rfl (gS rfl g0)) (gS rfl g0) g0 (fun g => ?_)
                                      refine c_ret ?_
                                      refine hQ19 _ _ _ (in_ret ?_)
                                      refine ret3 rfl (res_tmp (et (gS rfl (gS rfl g0)) rfl)) (res_tmp (et (gS rfl g0) rfl)) (res_tmp (et g0 rfl)) ?_
                                      refine ⟨ar_ret (a := 1) (b := 1) hf ?_, U⟩
                                      rw [arN, if_neg (by omega), if_neg (by omega), if_neg (by omega), if_neg (by omega), if_neg (by omega), if_neg (by omega), if_pos (by omega)]
                                    · skip
                                      simp only [Bool.and_eq_true, Bool.or_eq_true, Bool.and_eq_false_imp, Bool.or_eq_false_iff, decide_eq_true_eq, decide_eq_false_iff_not] at cB18
                                      refine c_seq (fun K74 hK74 => ?_)
                                      refine c_region ?_
                                      refine l_step (y_eql (et (gS rfl (gS rfl g0)) rfl) rfl) ?_
                                      refine l_step (y_assignV (et g0 rfl)) ?_
                                      refine l_nil ?_
                                      refine hK74 _ _ ?_
                                      refine fg3 0 50 62 (gS rfl (gS rfl (gS rfl (gS rfl (gS rfl g0))))) (gS rfl (gS rfl (gS rfl (gS rfl g0)))) g0 (fun g => ?_)
                                      refine c_condV (i := 62) g0 rfl (fun cB19 => ?_) (fun cB19 => ?_)
                                      · skip
                                        simp only [Bool.and_eq_true, Bool.or_eq_true, Bool.and_eq_false_imp, Bool.or_eq_false_iff, decide_eq_true_eq, decide_eq_false_iff_not] at cB19
                                        refine c_skip ?_
                                        refine hK49 _ _ ?_
                                        refine fg3 0 50 62 (gS rfl (gS rfl (gS rfl g0))) (gS rfl (gS rfl g0)) g0 (fun g => ?_)
                                        refine c_true (et g0 rfl) rfl ?_
                                        refine c_seq (fun K77 hK77 => ?_)
                                        refine c_region ?_
                                        refine l_step y_assignC ?_
                                        refine l_step y_assignC ?_
                                        refine l_step y_assignC ?_
                                        refine l_nil ?_
                                        refine hK77 _ _ ?_
                                        refine fg3 2 3 4 (gS rfl (gS rfl g0)) (gS rfl g0) g0 (fun g => ?_)
                                        refine c_ret ?_
                                        refine hQ19 _ _ _ (in_ret ?_)
                                        refine ret3 rfl (res_tmp (et (gS rfl (gS rfl g0)) rfl)) (res_tmp (et (gS rfl g0) rfl)) (res_tmp (et g0 rfl)) ?_
                                        refine ⟨ar_ret (a := 1) (b := 1) hf ?_, U⟩
                                        rw [arN, if_neg (by omega), if_neg (by omega), if_neg (by omega), if_neg (by omega), if_neg (by omega), if_neg (by omega), if_pos (by omega)]
                                      · skip
                                        simp only [Bool.and_eq_true, Bool.or_eq_true, Bool.and_eq_false_imp, Bool.or_eq_false_iff, decide_eq_true_eq, decide_eq_false_iff_not] at cB19
                                        refine c_seq (fun K78 hK78 => ?_)
                                        refine c_region ?_
                                        refine l_step (y_eql (et (gS rfl (gS rfl g0)) rfl) rfl) ?_
                                        refine l_step (y_assignV (et g0 rfl)) ?_
                                        refine l_nil ?_
                                        refine hK78 _ _ ?_
                                        refine fg3 0 50 62 (gS rfl (gS rfl (gS rfl (gS rfl (gS rfl g0))))) (gS rfl (gS rfl (gS rfl (gS rfl g0)))) g0 (fun g => ?_)
                                        refine c_condV (i := 62) g0 rfl (fun cB20 => ?_) (fun cB20 => ?_)
                                        · skip
                                          simp only [Bool.and_eq_true, Bool.or_eq_true, Bool.and_eq_false_imp, Bool.or_eq_false_iff, decide_eq_true_eq, decide_eq_false_iff_not] at cB20
                                          refine c_skip ?_
                                          refine hK49 _ _ ?_
                                          refine fg3 0 50 62 (gS rfl (gS rfl (gS rfl g0))) (gS rfl (gS rfl g0)) g0 (fun g => ?_)
                                          refine c_true (et g0 rfl) rfl ?_
                                          refine c_seq (fun K81 hK81 => ?_)
                                          refine c_region ?_
                                          refine l_step y_assignC ?_
                                          refine l_step y_assignC ?_
                                          refine l_step y_assignC ?_
                                          refine l_nil ?_
                                          refine hK81 _ _ ?_
                                          refine fg3 2 3 4 (gS rfl (gS rfl g0)) (gS rfl g0) g0 (fun g => ?_)
                                          refine c_ret ?_
                                          refine hQ19 _ _ _ (in_ret ?_)
                                          refine ret3 rfl (res_tmp (et (gS rfl (gS rfl g0)) rfl)) (res_tmp (et (gS rfl g0) rfl)) (res_tmp (et g0 rfl)) ?_
                                          refine ⟨ar_ret (a := 1) (b := 1) hf ?_, U⟩
                                          rw [arN, if_neg (by omega), if_neg (by omega), if_neg (by omega), if_neg (by omega), if_neg (by omega), if_neg (by omega), if_pos (by omega)]
                                        · skip
                                          simp only [Bool.and_eq_true, Bool.or_eq_true, Bool.and_eq_false_imp, Bool.or_eq_false_iff, decide_eq_true_eq, decide_eq_false_iff_not] at cB20
                                          refine c_seq (fun K82 hK82 => ?_)
                                          refine c_region ?_
                                          refine l_step (y_eql (et (gS rfl (gS rfl g0)) rfl) rfl) ?_
                                          refine l_step (y_assignV (et g0 rfl)) ?_
                                          refine l_nil ?_
                                          refine hK82 _ _ ?_
                                          refine fg3 0 50 62 (gS rfl (gS rfl (gS rfl (gS rfl (gS rfl g0))))) (gS rfl (gS rfl (gS rfl (gS rfl g0)))) g0 (fun g => ?_)
                                          refine c_condV (i := 62) g0 rfl (fun cB21 => ?_) (fun cB21 => ?_)
                                          · skip
                                            simp only [Bool.and_eq_true, Bool.or_eq_true, Bool.and_eq_false_imp, Bool.or_eq_false_iff, decide_eq_true_eq, decide_eq_false_iff_not] at cB21
                                            refine c_skip ?_
                                            refine hK49 _ _ ?_
                                            refine fg3 0 50 62 (gS rfl (gS rfl (gS rfl g0))) (gS rfl (gS rfl g0)) g0 (fun g => ?_)
                                            refine c_true (et g0 rfl) rfl ?_
                                            refine c_seq (fun K85 hK85 => ?_)
                                            refine c_region ?_
                                            refine l_step y_assignC ?_
                                            refine l_step y_assignC ?_
                                            refine l_step y_assignC ?_
                                            refine l_nil ?_
                                            refine hK85 _ _ ?_
                                            refine fg3 2 3 4 (gS rfl (gS rfl g0)) (gS rfl g0) g0 (fun g => ?_)
                                            refine c_ret ?_
                                            refine hQ19 _ _ _ (in_ret ?_)
                                            refine ret3 rfl (res_tmp (et (gS rfl (gS rfl g0)) rfl)) (res_tmp (et (gS rfl g0) rfl)) (res_tmp (et g0 rfl)) ?_
                                            refine ⟨ar_ret (a := 1) (b := 1) hf ?_, U⟩
                                            rw [arN, if_neg (by omega), if_neg (by omega), if_neg (by omega), if_neg (by omega), if_neg (by omega), if_neg (by omega), if_pos (by omega)]
                                          · skip
                                            simp only [Bool.and_eq_true, Bool.or_eq_true, Bool.and_eq_false_imp, Bool.or_eq_false_iff, decide_eq_true_eq, decide_eq_false_iff_not] at cB21
                                            refine c_region ?_
                                            refine l_step (y_eql (et (gS rfl (gS rfl g0)) rfl) rfl) ?_
                                            refine l_step (y_assignV (et g0 rfl)) ?_
                                            refine l_nil ?_
                                            refine hK49 _ _ ?_
                                            refine fg3 0 50 62 (gS rfl (gS rfl (gS rfl (gS rfl (gS rfl g0))))) (gS rfl (gS rfl (gS rfl (gS rfl g0)))) g0 (fun g => ?_)
                                            refine c_condV (i := 62) g0 rfl (fun cB22 => ?_) (fun cB22 => ?_)
                                            · skip
                                              simp only [Bool.and_eq_true, Bool.or_eq_true, Bool.and_eq_false_imp, Bool.or_eq_false_iff, decide_eq_true_eq, decide_eq_false_iff_not] at cB22
                                              refine c_seq (fun K87 hK87 => ?_)
                                              refine c_region ?_
                                              refine l_step y_assignC ?_
                                              refine l_step y_assignC ?_
                                              refine l_step y_assignC ?_
                                              refine l_nil ?_
                                              refine hK87 _ _ ?_
                                              refine fg3 2 3 4 (gS rfl (gS rfl g0)) (gS rfl g0) g0 (fun g => ?_)
                                              refine c_ret ?_
                                              refine hQ19 _ _ _ (in_ret ?_)
                                              refine ret3 rfl (res_tmp (et (gS rfl (gS rfl g0)) rfl)) (res_tmp (et (gS rfl g0) rfl)) (res_tmp (et g0 rfl)) ?_
                                              refine ⟨ar_ret (a := 1) (b := 1) hf ?_, U⟩
                                              rw [arN, if_neg (by omega), if_neg (by omega), if_neg (by omega), if_neg (by omega), if_neg (by omega), if_neg (by omega), if_pos (by omega)]
                                            · skip
                                              simp only [Bool.and_eq_true, Bool.or_eq_true, Bool.and_eq_false_imp, Bool.or_eq_false_iff, decide_eq_true_eq, decide_eq_false_iff_not] at cB22
                                              refine c_seq (fun K88 hK88 => ?_)
                                              refine c_seq (fun K89 hK89 => ?_)
                                              refine c_region ?_
                                              refine l_step (y_eql (et (gS rfl (gS rfl g0)) rfl) rfl) ?_
                                              refine l_step (y_assignV (et g0 rfl)) ?_
                                              refine l_nil ?_
                                              refine hK89 _ _ ?_
                                              refine fg3 0 50 73 (gS rfl (gS rfl (gS rfl (gS rfl (gS rfl g0))))) (gS rfl (gS rfl (gS rfl (gS rfl g0)))) g0 (fun g => ?_)
                                              refine c_condV (i := 73) g0 rfl (fun cB23 => ?_) (fun cB23 => ?_)
                                              · skip
                                                simp only [Bool.and_eq_true, Bool.or_eq_true, Bool.and_eq_false_imp, Bool.or_eq_false_iff, decide_eq_true_eq, decide_eq_false_iff_not] at cB23
                                                refine c_skip ?_
                                                refine hK88 _ _ ?_
                                                refine fg3 0 50 73 (gS rfl (gS rfl (gS rfl g0))) (gS rfl (gS rfl g0)) g0 (fun g => ?_)
                                                refine c_true (et g0 rfl) rfl ?_
                                                refine c_seq (fun K92 hK92 => ?_)
                                                refine c_region ?_
                                                refine l_step y_assignC ?_
                                                refine l_step y_assignC ?_
                                                refine l_step y_assignC ?_
                                                refine l_nil ?_
                                                refine hK92 _ _ ?_
                                                refine fg3 2 3 4 (gS rfl (gS rfl g0)) (gS rfl g0) g0 (fun g => ?_)
                                                refine c_ret ?_
                                                refine hQ19 _ _ _ (in_ret ?_)
                                                refine ret3 rfl (res_tmp (et (gS rfl (gS rfl g0)) rfl)) (res_tmp (et (gS rfl g0) rfl)) (res_tmp (et g0 rfl)) ?_
                                                refine ⟨ar_ret (a := 2) (b := 0) hf ?_, U⟩
                                                rw [arN, if_neg (by omega), if_neg (by omega), if_neg (by omega), if_neg (by omega), if_neg (by omega), if_neg (by omega), if_neg (by omega), if_pos (by omega)]
                                              · skip
                                                simp only [Bool.and_eq_true, Bool.or_eq_true, Bool.and_eq_false_imp, Bool.or_eq_false_iff, decide_eq_true_eq, decide_eq_false_iff_not] at cB23
                                                refine c_seq (fun K93 hK93 => ?_)
                                                refine c_region ?_
                                                refine l_step (y_eql (et (gS rfl (gS rfl g0)) rfl) rfl) ?_
                                                refine l_step (y_assignV (et g0 rfl)) ?_
                                                refine l_nil ?_
                                                refine hK93 _ _ ?_
                                                refine fg3 0 50 73 (gS rfl (gS rfl (gS rfl (gS rfl (gS rfl g0))))) (gS rfl (gS rfl (gS rfl (gS rfl g0)))) g0 (fun g => ?_)
                                                refine c_condV (i := 73) g0 rfl (fun cB24 => ?_) (fun cB24 => ?_)
                                                · skip
                                                  simp only [Bool.and_eq_true, Bool.or_eq_true, Bool.and_eq_false_imp, Bool.or_eq_false_iff, decide_eq_true_eq, decide_eq_false_iff_not] at cB24
                                                  refine c_skip ?_
                                                  refine hK88 _ _ ?_
                                                  refine fg3 0 50 73 (gS rfl (gS rfl (gS rfl g0))) (gS rfl (gS rfl g0)) g0 (fun g => ?_)
                                                  refine c_true (et g0 rfl) rfl ?_
                                                  refine c_seq (fun K96 hK96 => ?_)
                                                  refine c_region ?_
                                                  refine l_step y_assignC ?_
                                                  refine l_step y_assignC ?_
                                                  refine l_step y_assignC ?_
                                                  refine l_nil ?_
                                                  refine hK96 _ _ ?_
                                                  refine fg3 2 3 4 (gS rfl (gS rfl g0)) (gS rfl g0) g0 (fun g => ?_)
                                                  refine c_ret ?_
                                                  refine hQ19 _ _ _ (in_ret ?_)
                                                  refine ret3 rfl (res_tmp (et (gS rfl (gS rfl g0)) rfl)) (res_tmp (et (gS rfl g0) rfl)) (res_tmp (et g0 rfl)) ?_
                                                  refine ⟨ar_ret (a := 2) (b := 0) hf ?_, U⟩
                                                  rw [arN, if_neg (by omega), if_neg (by omega), if_neg (by omega), if_neg (by omega), if_neg (by omega), if_neg (by omega), if_neg (by omega), if_pos (by omega)]
                                                · skip
                                                  simp only [Bool.and_eq_true, Bool.or_eq_true, Bool.and_eq_false_imp, Bool.or_eq_false_iff, decide_eq_true_eq, decide_eq_false_iff_not] at cB24
                                                  refine c_seq (fun K97 hK97 => ?_)
                                                  refine c_region ?_
                                                  refine l_step (y_eql (et (gS rfl (gS rfl g0)) rfl) rfl) ?_
                                                  refine l_step (y_assignV (et g0 rfl)) ?_
                                                  refine l_nil ?_
                                                  refine hK97 _ _ ?_
                                                  refine fg3 0 50 73 (gS rfl (gS rfl (gS rfl (gS rfl (gS rfl g0))))) (gS rfl (gS rfl (gS rfl (gS rfl g0)))) g0 (fun g => ?_)
                                                  refine c_condV (i := 73) g0 rfl (fun cB25 => ?_) (fun cB25 => ?_)
                                                  · skip
                                                    simp only [Bool.and_eq_true, Bool.or_eq_true, Bool.and_eq_false_imp, Bool.or_eq_false_iff, decide_eq_true_eq, decide_eq_false_iff_not] at cB25
                                                    refine c_skip ?_
                                                    refine hK88 _ _ ?_
                                                    refine fg3 0 50 73 (gS rfl (gS rfl (gS rfl g0))) (gS rfl (gS rfl g0)) g0 (fun g => ?_)
                                                    refine c_true (et g0 rfl) rfl ?_
                                                    refine c_seq (fun K100 hK100 => ?_)
                                                    refine c_region ?_
                                                    refine l_step y_assignC ?_
                                                    refine l_step y_assignC ?_
                                                    refine l_step y_assignC ?_
                                                    refine l_nil ?_
                                                    refine hK100 _ _ ?_
                                                    refine fg3 2 3 4 (gS rfl (gS rfl g0)) (gS rfl g0) g0 (fun g => ?_)
                                                    refine c_ret ?_
                                                    refine hQ19 _ _ _ (in_ret ?_)
                                                    refine ret3 rfl (res_tmp (et (gS rfl (gS rfl g0)) rfl)) (res_tmp (et (gS rfl g0) rfl)) (res_tmp (et g0 rfl)) ?_
                                                    refine ⟨ar_ret (a := 2) (b := 0) hf ?_, U⟩
                                                    rw [arN, if_neg (by omega), if_neg (by omega), if_neg (by omega), if_neg (by omega), if_neg (by omega), if_neg (by omega), if_neg (by omega), if_pos (by omega)]
                                                  · skip
                                                    simp only [Bool.and_eq_true, Bool.or_eq_true, Bool.and_eq_false_imp, Bool.or_eq_false_iff, decide_eq_true_eq, decide_eq_false_iff_not] at cB25
                                                    refine c_seq (fun K101 hK101 => ?_)
                                                    refine c_region ?_
                                                    refine l_step (y_eql (et (gS rfl (gS rfl g0)) rfl) rfl) ?_
                                                    refine l_step (y_assignV (et g0 rfl)) ?_
                                                    refine l_nil ?_
                                                    refine hK101 _ _ ?_
                                                    refine fg3 0 50 73 (gS rfl (gS rfl (gS rfl (gS rfl (gS rfl g0))))) (gS rfl (gS rfl (gS rfl (gS rfl g0)))) g0 (fun g => ?_)
                                                    refine c_condV (i := 73) g0 rfl (fun cB26 => ?_) (fun cB26 => ?_)
                                                    · skip
                                                      simp only [Bool.and_eq_true, Bool.or_eq_true, Bool.and_eq_false_imp, Bool.or_eq_false_iff, decide_eq_true_eq, decide_eq_false_iff_not] at cB26
                                                      refine c_skip ?_
                                                      refine hK88 _ _ ?_
                                                      refine fg3 0 50 73 (gS rfl (gS rfl (gS rfl g0))) (gS rfl (gS rfl g0)) g0 (fun g => ?_)
                                                      refine c_true (et g0 rfl) rfl ?_
                                                      refine c_seq (fun K104 hK104 => ?_)
                                                      refine c_region ?_
                                                      refine l_step y_assignC ?_
                                                      refine l_step y_assignC ?_
                                                      refine l_step y_assignC ?_
                                                      refine l_nil ?_
                                                      refine hK104 _ _ ?_
                                                      refine fg3 2 3 4 (gS rfl (gS rfl g0)) (gS rfl g0) g0 (fun g => ?_)
                                                      refine c_ret ?_
                                                      refine hQ19 _ _ _ (in_ret ?_)
                                                      refine ret3 rfl (res_tmp (et (gS rfl (gS rfl g0)) rfl)) (res_tmp (et (gS rfl g0) rfl)) (res_tmp (et g0 rfl)) ?_
                                                      refine ⟨ar_ret (a := 2) (b := 0) hf ?_, U⟩
                                                      rw [arN, if_neg (by omega), if_neg (by omega), if_neg (by omega), if_neg (by omega), if_neg (by omega), if_neg (by omega), if_neg (by omega), if_pos (by omega)]
                                                    · skip
                                                      simp only [Bool.and_eq_true, Bool.or_eq_true, Bool.and_eq_false_imp, Bool.or_eq_false_iff, decide_eq_true_eq, decide_eq_false_iff_not] at cB26
                                                      refine c_seq (fun K105 hK105 => ?_)
                                                      refine c_region ?_
                                                      refine l_step (y_eql (et (gS rfl (gS rfl g0)) rfl) rfl) ?_
                                                      refine l_step (y_assignV (et g0 rfl)) ?_
                                                      refine l_nil ?_
                                                      refine hK105 _ _ ?_
                                                      refine fg3 0 50 73 (gS rfl (gS rfl (gS rfl (gS rfl (gS rfl g0))))) (gS rfl (gS rfl (gS rfl (gS rfl g0)))) g0 (fun g => ?_)
                                                      refine c_condV (i := 73) g0 rfl (fun cB27 => ?_) (fun cB27 => ?_)
                                                      · skip
                                                        simp only [Bool.and_eq_true, Bool.or_eq_true, Bool.and_eq_false_imp, Bool.or_eq_false_iff, decide_eq_true_eq, decide_eq_false_iff_not] at cB27
                                                        refine c_skip ?_
                                                        refine hK88 _ _ ?_
                                                        refine fg3 0 50 73 (gS rfl (gS rfl (gS rfl g0))) (gS rfl (gS rfl g0)) g0 (fun g => ?_)
                                                        refine c_true (et g0 rfl) rfl ?_
                                                        refine c_seq (fun K108 hK108 => ?_)
                                                        refine c_region ?_
                                                        refine l_step y_assignC ?_
                                                        refine l_step y_assignC ?_
                                                        refine l_step y_assignC ?_
                                                        refine l_nil ?_
                                                        refine hK108 _ _ ?_
                                                        refine fg3 2 3 4 (gS rfl (gS rfl g0)) (gS rfl g0) g0 (fun g => ?_)
                                                        refine c_ret ?_
                                                        refine hQ19 _ _ _ (in_ret ?_)
                                                        refine ret3 rfl (res_tmp (et (gS rfl (gS rfl g0)) rfl)) (res_tmp (et (gS rfl g0) rfl)) (res_tmp (et g0 rfl)) ?_
                                                        refine ⟨ar_ret (a := 2) (b := 0) hf ?_, U⟩
                                                        rw [arN, if_neg (by omega), if_neg (by omega), if_neg (by omega), if_neg (by omega), if_neg (by omega), if_neg (by omega), if_neg (by omega), if_pos (by omega)]
                                                      · skip
                                                        simp only [Bool.and_eq_true, Bool.or_eq_true, Bool.and_eq_false_imp, Bool.or_eq_false_iff, decide_eq_true_eq, decide_eq_false_iff_not] at cB27
                                                        refine c_seq (fun K109 hK109 => ?_)
                                                        refine c_region ?_
                                                        refine l_step (y_eql (et (gS rfl (gS rfl g0)) rfl) rfl) ?_
                                                        refine l_step (y_assignV (et g0 rfl)) ?_
                                                        refine l_nil ?_
                                                        refine hK109 _ _ ?_
                                                        refine fg3 0 50 73 (gS rfl (gS rfl (gS rfl (gS rfl (gS rfl g0))))) (gS rfl (gS rfl (gS rfl (gS rfl g0)))) g0 (fun g => ?_)
                                                        refine c_condV (i := 73) g0 rfl (fun cB28 => ?_) (fun cB28 => ?_)
                                                        · skip
                                                          simp only [Bool.and_eq_true, Bool.or_eq_true, Bool.and_eq_false_imp, Bool.or_eq_false_iff, decide_eq_true_eq, decide_eq_false_iff_not] at cB28
                                                          refine c_skip ?_
                                                          refine hK88 _ _ ?_
                                                          refine fg3 0 50 73 (gS rfl (gS rfl (gS rfl g0))) (gS rfl (gS rfl g0)) g0 (fun g => ?_)
                                                          refine c_true (et g0 rfl) rfl ?_
                                                          refine c_seq (fun K112 hK112 => ?_)
                                                          refine c_region ?_
                                                          refine l_step y_assignC ?_
                                                          refine l_step y_assignC ?_
                                                          refine l_step y_assignC ?_
                                                          refine l_nil ?_
                                                          refine hK112 _ _ ?_
                                                          refine fg3 2 3 4 (gS rfl (gS rfl g0)) (gS rfl g0) g0 (fun g => ?_)
                                                          refine c_ret ?_
                                                          refine hQ19 _ _ _ (in_ret ?_)
                                                          refine ret3 rfl (res_tmp (et (gS rfl (gS rfl g0)) rfl)) (res_tmp (et (gS rfl g0) rfl)) (res_tmp (et g0 rfl)) ?_
                                                          refine ⟨ar_ret (a := 2) (b := 0) hf ?_, U⟩
                                                          rw [arN, if_neg (by omega), if_neg (by omega), if_neg (by omega), if_neg (by omega), if_neg (by omega), if_neg (by omega), if_neg (by omega), if_pos (by omega)]
                                                        · skip
                                                          simp only [Bool.and_eq_true, Bool.or_eq_true, Bool.and_eq_false_imp, Bool.or_eq_false_iff, decide_eq_true_eq, decide_eq_false_iff_not] at cB28
                                                          refine c_region ?_
                                                          refine l_step (y_eql (et (gS rfl (gS rfl g0)) rfl) rfl) ?_
                                                          refine l_step (y_assignV (et g0 rfl)) ?_
                                                          refine l_nil ?_
                                                          refine hK88 _ _ ?_
                                                          refine fg3 0 50 73 (gS rfl (gS rfl (gS rfl (gS rfl (gS rfl g0))))) (gS rfl (gS rfl (gS rfl (gS rfl g0)))) g0 (fun g => ?_)
                                                          refine c_condV (i := 73) g0 rfl (fun cB29 => ?_) (fun cB29 => ?_)
                                                          · skip
                                                            simp only [Bool.and_eq_true, Bool.or_eq_true, Bool.and_eq_false_imp, Bool.or_eq_false_iff, decide_eq_true_eq, decide_eq_false_iff_not] at cB29
                                                            refine c_seq (fun K114 hK114 => ?_)
                                                            refine c_region ?_
                                                            refine l_step y_assignC ?_
                                                            refine l_step y_assignC ?_
                                                            refine l_step y_assignC ?_
                                                            refine l_nil ?_
                                                            refine hK114 _ _ ?_
                                                            refine fg3 2 3 4 (gS rfl (gS rfl g0)) (gS rfl g0) g0 (fun g => ?_)
                                                            refine c_ret ?_
                                                            refine hQ19 _ _ _ (in_ret ?_)
                                                            refine ret3 rfl (res_tmp (et (gS rfl (gS rfl g0)) rfl)) (res_tmp (et (gS rfl g0) rfl)) (res_tmp (et g0 rfl)) ?_
                                                            refine ⟨ar_ret (a := 2) (b := 0) hf ?_, U⟩
                                                            rw [arN, if_neg (by omega), if_neg (by omega), if_neg (by omega), if_neg (by omega), if_neg (by omega), if_neg (by omega), if_neg (by omega), if_pos (by omega)]
                                                          · skip
                                                            simp only [Bool.and_eq_true, Bool.or_eq_true, Bool.and_eq_false_imp, Bool.or_eq_false_iff, decide_eq_true_eq, decide_eq_false_iff_not] at cB29
                                                            refine c_seq (fun K115 hK115 => ?_)
                                                            refine c_seq (fun K116 hK116 => ?_)
                                                            refine c_region ?_
                                                            refine l_step (y_eql (et (gS rfl (gS rfl g0)) rfl) rfl) ?_
                                                            refine l_step (y_assignV (et g0 rfl)) ?_
                                                            refine l_nil ?_
                                                            refine hK116 _ _ ?_
                                                            refine fg3 0 50 81 (gS rfl (gS rfl (gS rfl (gS rfl (gS rfl g0))))) (gS rfl (gS rfl (gS rfl (gS rfl g0)))) g0 (fun g => ?_)
                                                            refine c_condV (i := 81) g0 rfl (fun cB30 => ?_) (fun cB30 => ?_)
                                                            · skip
                                                              simp only [Bool.and_eq_true, Bool.or_eq_true, Bool.and_eq_false_imp, Bool.or_eq_false_iff, decide_eq_true_eq, decide_eq_false_iff_not] at cB30
                                                              refine c_skip ?_
                                                              refine hK115 _ _ ?_
                                                              refine fg3 0 50 81 (gS rfl (gS rfl (gS rfl g0))) (gS rfl (gS rfl g0)) g0 (fun g => ?_)
                                                              refine c_true (et g0 rfl) rfl ?_
                                                              refine c_seq (fun K119 hK119 => ?_)
                                                              refine c_region ?_
                                                              refine l_step y_assignC ?_
                                                              refine l_step y_assignC ?_
                                                              refine l_step y_assignC ?_
                                                              refine l_nil ?_
                                                              refine hK119 _ _ ?_
                                                              refine fg3 2 3 4 (gS rfl (gS rfl g0)) (gS rfl g0) g0 (fun g => ?_)
                                                              refine c_ret ?_
                                                              refine hQ19 _ _ _ (in_ret ?_)
                                                              refine ret3 rfl (res_tmp (et (gS rfl (gS rfl g0)) rfl)) (res_tmp (et (gS rfl g0) rfl)) (res_tmp (et g0 rfl)) ?_
                                                              refine ⟨ar_ret (a := 3) (b := 0) hf ?_, U⟩
                                                              rw [arN, if_neg (by omega), if_neg (by omega), if_neg (by omega), if_neg (by omega), if_neg (by omega), if_neg (by omega), if_neg (by omega), if_neg (by omega), if_pos (by omega)]
                                                            · skip
                                                              simp only [Bool.and_eq_true, Bool.or_eq_true, Bool.and_eq_false_imp, Bool.or_eq_false_iff, decide_eq_true_eq, decide_eq_false_iff_not] at cB30
                                                              refine c_seq (fun K120 hK120 => ?_)
                                                              refine c_region ?_
                                                              refine l_step (y_eql (et (gS rfl (gS rfl g0)) rfl) rfl) ?_
                                                              refine l_step (y_assignV (et g0 rfl)) ?_
                                                              refine l_nil ?_
                                                              refine hK120 _ _ ?_
                                                              refine fg3 0 50 81 (gS rfl (gS rfl (gS rfl (gS rfl (gS rfl g0))))) (gS rfl (gS rfl (gS rfl (gS rfl g0)))) g0 (fun g => ?_)
                                                              refine c_condV (i := 81) g0 rfl (fun cB31 => ?_) (fun cB31 => ?_)
                                                              · skip
                                                                simp only [Bool.and_eq_true, Bool.or_eq_true, Bool.and_eq_false_imp, Bool.or_eq_false_iff, decide_eq_true_eq, decide_eq_false_iff_not] at cB31
                                                                refine c_skip ?_
                                                                refine hK115 _ _ ?_
                                                                refine fg3 0 50 81 (gS rfl (gS rfl (gS rfl g0))) (gS rfl (gS rfl g0)) g0 (fun g => ?_)
                                                                refine c_true (et g0 rfl) rfl ?_
                                                                refine c_seq (fun K123 hK123 => ?_)
                                                                refine c_region ?_
                                                                refine l_step y_assignC ?_
                                                                refine l_step y_assignC ?_
                                                                refine l_step y_assignC ?_
                                                                refine l_nil ?_
                                                                refine hK123 _ _ ?_
                                                                refine fg3 2 3 4 (gS rfl (gS rfl g0)) (gS rfl g0) g0 (fun g => ?_)
                                                                refine c_ret ?_
                                                                refine hQ19 _ _ _ (in_ret ?_)
                                                                refine ret3 rfl (res_tmp (et (gS rfl (gS rfl g0)) rfl)) (res_tmp (et (gS rfl g0) rfl)) (res_tmp (et g0 rfl)) ?_
                                                                refine ⟨ar_ret (a := 3) (b := 0) hf ?_, U⟩
                                                                rw [arN, if_neg (by omega), if_neg (by omega), if_neg (by omega), if_neg (by omega), if_neg (by omega), if_neg (by omega), if_neg (by omega), if_neg (by omega), if_pos (by omega)]
                                                              · skip
                                                                simp only [Bool.and_eq_true, Bool.or_eq_true, Bool.and_eq_false_imp, Bool.or_eq_false_iff, decide_eq_true_eq, decide_eq_false_iff_not] at cB31
                                                                refine c_seq (fun K124 hK124 => ?_)
                                                                refine c_region ?_
                                                                refine l_step (y_eql (et (gS rfl (gS rfl g0)) rfl) rfl) ?_
                                                                refine l_step (y_assignV (et g0 rfl)) ?_
                                                                refine l_nil ?_
                                                                refine hK124 _ _ ?_
                                                                refine fg3 0 50 81 (gS rfl (gS rfl (gS rfl (gS rfl (gS rfl g0))))) (gS rfl (gS rfl (gS rfl (gS rfl g0)))) g0 (fun g => ?_)
                                                                refine c_condV (i := 81) g0 rfl (fun cB32 => ?_) (fun cB32 => ?_)
                                                                · skip
                                                                  simp only [Bool.and_eq_true, Bool.or_eq_true, Bool.and_eq_false_imp, Bool.or_eq_false_iff, decide_eq_true_eq, decide_eq_false_iff_not] at cB32
                                                                  refine c_skip ?_
                                                                  refine hK115 _ _ ?_
                                                                  refine fg3 0 50 81 (gS rfl (gS rfl (gS rfl g0))) (gS rfl (gS rfl g0)) g0 (fun g => ?_)
                                                                  refine c_true (et g0 rfl) rfl ?_
                                                                  refine c_seq (fun K127 hK127 => ?_)
                                                                  refine c_region ?_
                                                                  refine l_step y_assignC ?_
                                                                  refine l_step y_assignC ?_
                                                                  refine l_step y_assignC ?_
                                                                  refine l_nil ?_
                                                                  refine hK127 _ _ ?_
                                                                  refine fg3 2 3 4 (gS rfl (gS rfl g0)) (gS rfl g0) g0 (fun g => ?_)
                                                                  refine c_ret ?_
                                                                  refine hQ19 _ _ _ (in_ret ?_)
                                                                  refine ret3 rfl (res_tmp (et (gS rfl (gS rfl g0)) rfl)) (res_tmp (et (gS rfl g0) rfl)) (res_tmp (et g0 rfl)) ?_
                                                                  refine ⟨ar_ret (a := 3) (b := 0) hf ?_, U⟩
                                                                  rw [arN, if_neg (by omega), if_neg (by omega), if_neg (by omega), if_neg (by omega), if_neg (by omega), if_neg (by omega), if_neg (by omega), if_neg (by omega), if_pos (by omega)]
                                                                · skip
                                                                  simp only [Bool.and_eq_true, Bool.or_eq_true, Bool.and_eq_false_imp, Bool.or_eq_false_iff, decide_eq_true_eq, decide_eq_false_iff_not] at cB32
                                                                  refine c_region ?_
                                                                  refine l_step (y_eql (et (gS rfl (gS rfl g0)) rfl) rfl) ?_
                                                                  refine l_step (y_assignV (et g0 rfl)) ?_
                                                                  refine l_nil ?_
                                                                  refine hK115 _ _ ?_
                                                                  refine fg3 0 50 81 (gS rfl (gS rfl (gS rfl (gS rfl (gS rfl g0))))) (gS rfl (gS rfl (gS rfl (gS rfl g0)))) g0 (fun g => ?_)
                                                                  refine c_condV (i := 81) g0 rfl (fun cB33 => ?_) (fun cB33 => ?_)
                                                                  · skip
                                                                    simp only [Bool.and_eq_true, Bool.or_eq_true, Bool.and_eq_false_imp, Bool.or_eq_false_iff, decide_eq_true_eq, decide_eq_false_iff_not] at cB33
                                                                    refine c_seq (fun K129 hK129 => ?_)
                                                                    refine c_region ?_
                                                                    refine l_step y_assignC ?_
                                                                    refine l_step y_assignC ?_
                                                                    refine l_step y_assignC ?_
                                                                    refine l_nil ?_
                                                                    refine hK129 _ _ ?_
                                                                    refine fg3 2 3 4 (gS rfl (gS rfl g0)) (gS rfl g0) g0 (fun g => ?_)
                                                                    refine c_ret ?_
                                                                    refine hQ19 _ _ _ (in_ret ?_)
                                                                    refine ret3 rfl (res_tmp (et (gS rfl (gS rfl g0)) rfl)) (res_tmp (et (gS rfl g0) rfl)) (res_tmp (et g0 rfl)) ?_
                                                                    refine ⟨ar_ret (a := 3) (b := 0) hf ?_, U⟩
                                                                    rw [arN, if_neg (by omega), if_neg (by omega), if_neg (by omega), if_neg (by omega), if_neg (by omega), if_neg (by omega), if_neg (by omega), if_neg (by omega), if_pos (by omega)]
                                                                  · skip
                                                                    simp only [Bool.and_eq_true, Bool.or_eq_true, Bool.and_eq_false_imp, Bool.or_eq_false_iff, decide_eq_true_eq, decide_eq_false_iff_not] at cB33
                                                                    refine c_seq (fun K130 hK130 => ?_)
                                                                    refine c_region ?_
                                                                    refine l_step (y_eql (et (gS rfl (gS rfl g0)) rfl) rfl) ?_
                                                                    refine l_step (y_assignV (et g0 rfl)) ?_
                                                                    refine l_nil ?_
                                                                    refine hK130 _ _ ?_
                                                                    refine fg3 0 50 86 (gS rfl (gS rfl (gS rfl (gS rfl (gS rfl g0))))) (gS rfl (gS rfl (gS rfl (gS rfl g0)))) g0 (fun g => ?_)
                                                                    refine c_condV (i := 86) g0 rfl (fun cB34 => ?_) (fun cB34 => ?_)
                                                                    · skip
                                                                      simp only [Bool.and_eq_true, Bool.or_eq_true, Bool.and_eq_false_imp, Bool.or_eq_false_iff, decide_eq_true_eq, decide_eq_false_iff_not] at cB34
                                                                      refine c_seq (fun K132 hK132 => ?_)
                                                                      refine c_region ?_
                                                                      refine l_step y_assignC ?_
                                                                      refine l_step y_assignC ?_
                                                                      refine l_step y_assignC ?_
                                                                      refine l_nil ?_
                                                                      refine hK132 _ _ ?_
                                                                      refine fg3 2 3 4 (gS rfl (gS rfl g0)) (gS rfl g0) g0 (fun g => ?_)
                                                                      refine c_ret ?_
                                                                      refine hQ19 _ _ _ (in_ret ?_)
                                                                      refine ret3 rfl (res_tmp (et (gS rfl (gS rfl g0)) rfl)) (res_tmp (et (gS rfl g0) rfl)) (res_tmp (et g0 rfl)) ?_
                                                                      refine ⟨ar_ret (a := 4) (b := 0) hf ?_, U⟩
                                                                      rw [arN, if_neg (by omega), if_neg (by omega), if_neg (by omega), if_neg (by omega), if_neg (by omega), if_neg (by omega), if_neg (by omega), if_neg (by omega), if_neg (by omega), if_pos (by omega)]
                                                                    · skip
                                                                      simp only [Bool.and_eq_true, Bool.or_eq_true, Bool.and_eq_false_imp, Bool.or_eq_false_iff, decide_eq_true_eq, decide_eq_false_iff_not] at cB34
                                                                      refine c_seq (fun K133 hK133 => ?_)
                                                                      refine c_region ?_
                                                                      refine l_step (y_eql (et (gS rfl (gS rfl g0)) rfl) rfl) ?_
                                                                      refine l_step (y_assignV (et g0 rfl)) ?_
                                                                      refine l_nil ?_
                                                                      refine hK133 _ _ ?_
                                                                      refine fg3 0 50 88 (gS rfl (gS rfl (gS rfl (gS rfl (gS rfl g0))))) (gS rfl (gS rfl (gS rfl (gS rfl g0)))) g0 (fun g => ?_)
                                                                      refine c_condV (i := 88) g0 rfl (fun cB35 => ?_) (fun cB35 => ?_)
                                                                      · skip
                                                                        simp only [Bool.and_eq_true, Bool.or_eq_true, Bool.and_eq_false_imp, Bool.or_eq_false_iff, decide_eq_true_eq, decide_eq_false_iff_not] at cB35
                                                                        refine c_seq (fun K135 hK135 => ?_)
                                                                        refine c_region ?_
                                                                        refine l_step y_assignC ?_
                                                                        refine l_step y_assignC ?_
                                                                        refine l_step y_assignC ?_
                                                                        refine l_nil ?_
                                                                        refine hK135 _ _ ?_
                                                                        refine fg3 2 3 4 (gS rfl (gS rfl g0)) (gS rfl g0) g0 (fun g => ?_)
                                                                        refine c_ret ?_
                                                                        refine hQ19 _ _ _ (in_ret ?_)
                                                                        refine ret3 rfl (res_tmp (et (gS rfl (gS rfl g0)) rfl)) (res_tmp (et (gS rfl g0) rfl)) (res_tmp (et g0 rfl)) ?_
                                                                        refine ⟨ar_ret (a := 4) (b := 1) hf ?_, U⟩
                                                                        rw [arN, if_neg (by omega), if_neg (by omega), if_neg (by omega), if_neg (by omega), if_neg (by omega), if_neg (by omega), if_neg (by omega), if_neg (by omega), if_neg (by omega), if_neg (by omega), if_pos (by omega)]
                                                                      · skip
                                                                        simp only [Bool.and_eq_true, Bool.or_eq_true, Bool.and_eq_false_imp, Bool.or_eq_false_iff, decide_eq_true_eq, decide_eq_false_iff_not] at cB35
                                                                        refine c_seq (fun K136 hK136 => ?_)
                                                                        refine c_seq (fun K137 hK137 => ?_)
                                                                        refine c_region ?_
                                                                        refine l_step (y_eql (et (gS rfl (gS rfl g0)) rfl) rfl) ?_
                                                                        refine l_step (y_assignV (et g0 rfl)) ?_
                                                                        refine l_nil ?_
                                                                        refine hK137 _ _ ?_
                                                                        refine fg3 0 50 90 (gS rfl (gS rfl (gS rfl (gS rfl (gS rfl g0))))) (gS rfl (gS rfl (gS rfl (gS rfl g0)))) g0 (fun g => ?_)
                                                                        refine c_condV (i := 90) g0 rfl (fun cB36 => ?_) (fun cB36 => ?_)
                                                                        · skip
                                                                          simp only [Bool.and_eq_true, Bool.or_eq_true, Bool.and_eq_false_imp, Bool.or_eq_false_iff, decide_eq_true_eq, decide_eq_false_iff_not] at cB36
                                                                          refine c_skip ?_
                                                                          refine hK136 _ _ ?_
                                                                          refine fg3 0 50 90 (gS rfl (gS rfl (gS rfl g0))) (gS rfl (gS rfl g0)) g0 (fun g => ?_)
                                                                          refine c_true (et g0 rfl) rfl ?_
                                                                          refine c_seq (fun K140 hK140 => ?_)
                                                                          refine c_region ?_
                                                                          refine l_step y_assignC ?_
                                                                          refine l_step y_assignC ?_
                                                                          refine l_step y_assignC ?_
                                                                          refine l_nil ?_
                                                                          refine hK140 _ _ ?_
                                                                          refine fg3 2 3 4 (gS rfl (gS rfl g0)) (gS rfl g0) g0 (fun g => ?_)
                                                                          refine c_ret ?_
                                                                          refine hQ19 _ _ _ (in_ret ?_)
                                                                          refine ret3 rfl (res_tmp (et (gS rfl (gS rfl g0)) rfl)) (res_tmp (et (gS rfl g0) rfl)) (res_tmp (et g0 rfl)) ?_
                                                                          refine ⟨ar_ret (a := 7) (b := 1) hf ?_, U⟩
                                                                          rw [arN, if_neg (by omega), if_neg (by omega), if_neg (by omega), if_neg (by omega), if_neg (by omega), if_neg (by omega), if_neg (by omega), if_neg (by omega), if_neg (by omega), if_neg (by omega), if_neg (by omega), if_pos (by omega)]
                                                                        · skip
                                                                          simp only [Bool.and_eq_true, Bool.or_eq_true, Bool.and_eq_false_imp, Bool.or_eq_false_iff, decide_eq_true_eq, decide_eq_false_iff_not] at cB36
                                                                          refine c_region ?_
                                                                          refine l_step (y_eql (et (gS rfl (gS rfl g0)) rfl) rfl) ?_
                                                                          refine l_step (y_assignV (et g0 rfl)) ?_
                                                                          refine l_nil ?_
                                                                          refine hK136 _ _ ?_
                                                                          refine fg3 0 50 90 (gS rfl (gS rfl (gS rfl (gS rfl (gS rfl g0))))) (gS rfl (gS rfl (gS rfl (gS rfl g0)))) g0 (fun g => ?_)
                                                                          refine c_condV (i := 90) g0 rfl (fun cB37 => ?_) (fun cB37 => ?_)
                                                                          · skip
                                                                            simp only [Bool.and_eq_true, Bool.or_eq_true, Bool.and_eq_false_imp, Bool.or_eq_false_iff, decide_eq_true_eq, decide_eq_false_iff_not] at cB37
                                                                            refine c_seq (fun K142 hK142 => ?_)
                                                                            refine c_region ?_
                                                                            refine l_step y_assignC ?_
                                                                            refine l_step y_assignC ?_
                                                                            refine l_step y_assignC ?_
                                                                            refine l_nil ?_
                                                                            refine hK142 _ _ ?_
                                                                            refine fg3 2 3 4 (gS rfl (gS rfl g0)) (gS rfl g0) g0 (fun g => ?_)
                                                                            refine c_ret ?_
                                                                            refine hQ19 _ _ _ (in_ret ?_)
                                                                            refine ret3 rfl (res_tmp (et (gS rfl (gS rfl g0)) rfl)) (res_tmp (et (gS rfl g0) rfl)) (res_tmp (et g0 rfl)) ?_
                                                                            refine ⟨ar_ret (a := 7) (b := 1) hf ?_, U⟩
                                                                            rw [arN, if_neg (by omega), if_neg (by omega), if_neg (by omega), if_neg (by omega), if_neg (by omega), if_neg (by omega), if_neg (by omega), if_neg (by omega), if_neg (by omega), if_neg (by omega), if_neg (by omega), if_pos (by omega)]
                                                                          · skip
                                                                            simp only [Bool.and_eq_true, Bool.or_eq_true, Bool.and_eq_false_imp, Bool.or_eq_false_iff, decide_eq_true_eq, decide_eq_false_iff_not] at cB37
                                                                            refine c_seq (fun K143 hK143 => ?_)
                                                                            refine c_seq (fun K144 hK144 => ?_)
                                                                            refine c_region ?_
                                                                            refine l_step (y_eql (et (gS rfl (gS rfl g0)) rfl) rfl) ?_
                                                                            refine l_step (y_assignV (et g0 rfl)) ?_
                                                                            refine l_nil ?_
                                                                            refine hK144 _ _ ?_
                                                                            refine fg3 0 50 93 (gS rfl (gS rfl (gS rfl (gS rfl (gS rfl g0))))) (gS rfl (gS rfl (gS rfl (gS rfl g0)))) g0 (fun g => ?_)
                                                                            refine c_condV (i := 93) g0 rfl (fun cB38 => ?_) (fun cB38 => ?_)
                                                                            · skip
                                                                              simp only [Bool.and_eq_true, Bool.or_eq_true, Bool.and_eq_false_imp, Bool.or_eq_false_iff, decide_eq_true_eq, decide_eq_false_iff_not] at cB38
                                                                              refine c_skip ?_
                                                                              refine hK143 _ _ ?_
                                                                              refine fg2 0 93 (gS rfl (gS rfl (gS rfl g0))) g0 (fun g => ?_)
                                                                              refine c_true (et g0 rfl) rfl ?_
                                                                              refine c_seq (fun K147 hK147 => ?_)
                                                                              refine c_region ?_
                                                                              refine l_step y_assignC ?_
                                                                              refine l_step y_assignC ?_
                                                                              refine l_step y_assignC ?_
                                                                              refine l_nil ?_
                                                                              refine hK147 _ _ ?_
                                                                              refine fg3 2 3 4 (gS rfl (gS rfl g0)) (gS rfl g0) g0 (fun g => ?_)
                                                                              refine c_ret ?_
                                                                              refine hQ19 _ _ _ (in_ret ?_)
                                                                              refine ret3 rfl (res_tmp (et (gS rfl (gS rfl g0)) rfl)) (res_tmp (et (gS rfl g0) rfl)) (res_tmp (et g0 rfl)) ?_
                                                                              refine ⟨ar_ret (a := 6) (b := 1) hf ?_, U⟩
                                                                              rw [arN, if_neg (by omega), if_neg (by omega), if_neg (by omega), if_neg (by omega), if_neg (by omega), if_neg (by omega), if_neg (by omega), if_neg (by omega), if_neg (by omega), if_neg (by omega), if_neg (by omega), if_neg (by omega), if_pos (by omega)]
                                                                            · skip
                                                                              simp only [Bool.and_eq_true, Bool.or_eq_true, Bool.and_eq_false_imp, Bool.or_eq_false_iff, decide_eq_true_eq, decide_eq_false_iff_not] at cB38
                                                                              refine c_region ?_
                                                                              refine l_step (y_eql (et (gS rfl (gS rfl g0)) rfl) rfl) ?_
                                                                              refine l_step (y_assignV (et g0 rfl)) ?_
                                                                              refine l_nil ?_
                                                                              refine hK143 _ _ ?_
                                                                              refine fg2 0 93 (gS rfl (gS rfl (gS rfl (gS rfl (gS rfl g0))))) g0 (fun g => ?_)
                                                                              refine c_condV (i := 93) g0 rfl (fun cB39 => ?_) (fun cB39 => ?_)
                                                                              · skip
                                                                                simp only [Bool.and_eq_true, Bool.or_eq_true, Bool.and_eq_false_imp, Bool.or_eq_false_iff, decide_eq_true_eq, decide_eq_false_iff_not] at cB39
                                                                                refine c_seq (fun K149 hK149 => ?_)
                                                                                refine c_region ?_
                                                                                refine l_step y_assignC ?_
                                                                                refine l_step y_assignC ?_
                                                                                refine l_step y_assignC ?_
                                                                                refine l_nil ?_
                                                                                refine hK149 _ _ ?_
                                                                                refine fg3 2 3 4 (gS rfl (gS rfl g0)) (gS rfl g0) g0 (fun g => ?_)
                                                                                refine c_ret ?_
                                                                                refine hQ19 _ _ _ (in_ret ?_)
                                                                                refine ret3 rfl (res_tmp (et (gS rfl (gS rfl g0)) rfl)) (res_tmp (et (gS rfl g0) rfl)) (res_tmp (et g0 rfl)) ?_
                                                                                refine ⟨ar_ret (a := 6) (b := 1) hf ?_, U⟩
                                                                                rw [arN, if_neg (by omega), if_neg (by omega), if_neg (by omega), if_neg (by omega), if_neg (by omega), if_neg (by omega), if_neg (by omega), if_neg (by omega), if_neg (by omega), if_neg (by omega), if_neg (by omega), if_neg (by omega), if_pos (by omega)]
                                                                              · skip
                                                                                simp only [Bool.and_eq_true, Bool.or_eq_true, Bool.and_eq_false_imp, Bool.or_eq_false_iff, decide_eq_true_eq, decide_eq_false_iff_not] at cB39
                                                                                refine c_skip ?_
                                                                                refine hQ19 _ _ _ (in_normal ?_)
                                                                                refine hK17 _ _ ?_
                                                                                refine fg1 0 (gS rfl (gS rfl g0)) (fun g => ?_)
                                                                                refine c_seq (fun K150 hK150 => ?_)
                                                                                refine c_seq (fun K151 hK151 => ?_)
                                                                                refine c_region ?_
                                                                                refine l_step (y_moveV (et g0 rfl)) ?_
                                                                                refine l_eff (e_callV cal_65 (aC (et g0 rfl) aN) (fam_spec o _ ho)) (fun v152 w152 h152 => ?_)
                                                                                obtain ⟨rfl, u152⟩ := h152
                                                                                replace U := U.tr u152
                                                                                refine l_step (y_eql (et g0 rfl) rfl) ?_
                                                                                refine l_nil ?_
                                                                                refine hK151 _ _ ?_
                                                                                refine fg1 98 g0 (fun g => ?_)
                                                                                refine c_condV (i := 98) g0 rfl (fun cB40 => ?_) (fun cB40 => ?_)
                                                                                · skip
                                                                                  simp only [Bool.and_eq_true, Bool.or_eq_true, Bool.and_eq_false_imp, Bool.or_eq_false_iff, decide_eq_true_eq, decide_eq_false_iff_not] at cB40
                                                                                  have hfa := fam_arith.1 (show famN o = 1 by omega)
                                                                                  refine c_seq (fun K154 hK154 => ?_)
                                                                                  refine c_region ?_
                                                                                  refine l_step y_assignC ?_
                                                                                  refine l_step y_assignC ?_
                                                                                  refine l_step y_assignC ?_
                                                                                  refine l_nil ?_
                                                                                  refine hK154 _ _ ?_
                                                                                  refine fg3 2 3 4 (gS rfl (gS rfl g0)) (gS rfl g0) g0 (fun g => ?_)
                                                                                  refine c_ret ?_
                                                                                  refine ret3 rfl (res_tmp (et (gS rfl (gS rfl g0)) rfl)) (res_tmp (et (gS rfl g0) rfl)) (res_tmp (et g0 rfl)) ?_
                                                                                  refine ⟨ar_ret (a := 2) (b := 1) hf ?_, U⟩
                                                                                  rw [arN, if_neg (by omega), if_neg (by omega), if_neg (by omega), if_neg (by omega), if_neg (by omega), if_neg (by omega), if_neg (by omega), if_neg (by omega), if_neg (by omega), if_neg (by omega), if_neg (by omega), if_neg (by omega), if_neg (by omega), if_pos (by omega)]
                                                                                · skip
                                                                                  simp only [Bool.and_eq_true, Bool.or_eq_true, Bool.and_eq_false_imp, Bool.or_eq_false_iff, decide_eq_true_eq, decide_eq_false_iff_not] at cB40
                                                                                  have hfa : ¬ ((1 ≤ o ∧ o ≤ 11) ∨ (16 ≤ o ∧ o ≤ 29) ∨ o = 32) := fun h => absurd (fam_arith.2 h) (by omega)
                                                                                  refine c_skip ?_
                                                                                  refine hK150 _ _ ?_
                                                                                  refine fg0 (fun g => ?_)
                                                                                  refine c_seq (fun K155 hK155 => ?_)
                                                                                  refine c_region ?_
                                                                                  refine l_step y_assignC ?_
                                                                                  refine l_step y_assignC ?_
                                                                                  refine l_step y_assignC ?_
                                                                                  refine l_nil ?_
                                                                                  refine hK155 _ _ ?_
                                                                                  refine c_ret ?_
                                                                                  refine ret3 rfl (res_tmp (et (gS rfl (gS rfl g0)) rfl)) (res_tmp (et (gS rfl g0) rfl)) (res_tmp (et g0 rfl)) ?_
                                                                                  refine ⟨ar_ret (a := 0) (b := 1) hf ?_, U⟩
                                                                                  rw [arN, if_neg (by omega), if_neg (by omega), if_neg (by omega), if_neg (by omega), if_neg (by omega), if_neg (by omega), if_neg (by omega), if_neg (by omega), if_neg (by omega), if_neg (by omega), if_neg (by omega), if_neg (by omega), if_neg (by omega), if_neg (by omega)]
end Go.Proofs.YgvaawGreat
