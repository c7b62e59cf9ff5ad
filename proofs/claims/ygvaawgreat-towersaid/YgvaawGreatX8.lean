import Derived.Test.YgvaawGreatEq2
set_option maxRecDepth 100000
set_option maxHeartbeats 4000000
set_option linter.unusedSimpArgs false
set_option linter.unusedVariables false
namespace Go.Proofs.YgvaawGreat
open Go
theorem law_equalBytes {s0 s1 : Nat} {va vb : Value} {l m : List Nat} (w : World) (hA : WV s0 w va l) (hB : WV s1 w vb m) :
    Ret 40 [va, vb] w (fun v w' => v = .bool (decide (l = m)) ∧ Up w w') := by
  refine enter (n := 10) Hvaa.func40 rfl rfl (Nat.le_of_ble_eq_true rfl) ?_
  have U := Up.refl w
  refine c_seq (fun K1 hK1 => ?_)
  exact (by
    refine c_region ?_
    refine l_step y_assignC ?_
    refine l_nil ?_
    refine hK1 _ _ ?_
    refine fg2 1 0 (gS rfl (gS rfl g0)) (gS rfl g0) (fun g => ?_)
    refine c_seq (fun K2 hK2 => ?_)
    exact (by
      refine c_region ?_
      refine l_step (y_moveV (et g0 rfl)) ?_
      refine l_step (y_str Hvaa.underlying38 Hvaa.underlying9 (et g0 rfl) (fun w9 h9 => by cases h9; exact hA)) ?_
      refine l_step (y_moveV (et (gS rfl (gS rfl (gS rfl g0))) rfl)) ?_
      refine l_step (y_str Hvaa.underlying38 Hvaa.underlying9 (et g0 rfl) (fun w9 h9 => by cases h9; exact hB)) ?_
      refine l_step (y_sEql Hvaa.underlying9 hA.dig hB.dig (et (gS rfl (gS rfl g0)) rfl) (et g0 rfl)) ?_
      refine l_step (y_assignV (et g0 rfl)) ?_
      refine l_nil ?_
      refine hK2 _ _ ?_
      refine fg1 4 g0 (fun g => ?_)
      refine c_ret ?_
      repeat with_reducible refine then_ret ?_
      refine ret1 rfl (res_tmp (et g0 rfl)) ?_
      exact ⟨rfl, U⟩))
end Go.Proofs.YgvaawGreat
