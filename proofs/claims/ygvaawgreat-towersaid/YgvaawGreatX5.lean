import Derived.Test.YgvaawGreatX2
set_option maxRecDepth 100000
set_option maxHeartbeats 4000000
set_option linter.unusedSimpArgs false
set_option linter.unusedVariables false
namespace Go.Proofs.YgvaawGreat
open Go
theorem obs_envOK (w : World) (ec : List Value) (ha : Option Addr) (n hc : Nat) (hr : ec.toArray[119]? = some (.slice ha n hc)) :
    Ret 27 [.agg ec.toArray] w (fun v w' => v = .bool (decide (n ≤ 4)) ∧ Up w w') := by
  refine enter (n := 7) Hvaa.func27 rfl rfl (Nat.le_of_ble_eq_true rfl) ?_
  have U := Up.refl w
  refine c_seq (fun K1 hK1 => ?_)
  exact (by
    refine c_region ?_
    refine l_eff (e_boxV (et g0 rfl)) (fun v2 w2 h2 => ?_)
    obtain ⟨b2, rfl, n2⟩ := h2
    have f2 : w.heap.size ≤ b2 := Nat.le_trans U.size n2.fresh
    replace U := U.tr n2.up
    have k2 := n2.blk
    replace k2 : Blk w2 b2 ec.toArray := k2
    refine l_step y_assignC ?_
    refine l_nil ?_
    refine hK1 _ _ ?_
    refine fg1 1 (gS rfl g0) (fun g => ?_)
    refine c_seq (fun K3 hK3 => ?_)
    exact (by
      refine c_region ?_
      refine l_step (y_fld fld_31_7 (et g0 rfl)) ?_
      refine l_step (y_load1 one_29 (et g0 rfl) (at1 (k2.cell hr))) ?_
      refine l_step (y_len Hvaa.underlying29 (et g0 rfl)) ?_
      refine l_step ((y_leq (et g0 rfl) rfl).to (dec_iff (show ((n : Nat) : Int) ≤ 4 ↔ n ≤ 4 by omega))) ?_
      refine l_step (y_assignV (et g0 rfl)) ?_
      refine l_nil ?_
      refine hK3 _ _ ?_
      refine fg1 2 g0 (fun g => ?_)
      refine c_ret ?_
      repeat with_reducible refine then_ret ?_
      refine ret1 rfl (res_tmp (et g0 rfl)) ?_
      exact ⟨rfl, U⟩))
theorem km_bit (b : Bool) (w : World) :
    Ret 414 [.bool b] w (fun v w' => v = .int .u8 (if b then 1 else 0) ∧ Up w w') := by
  refine enter (n := 6) Hvaa.func414 rfl rfl (Nat.le_of_ble_eq_true rfl) ?_
  have U := Up.refl w
  refine c_seq (fun K1 hK1 => ?_)
  exact (by
    refine c_region ?_
    refine l_step y_assignC ?_
    refine l_nil ?_
    refine hK1 _ _ ?_
    refine fg1 0 (gS rfl g0) (fun g => ?_)
    refine c_seq (fun K2 hK2 => ?_)
    exact (by
      refine c_region ?_
      refine l_step y_assignC ?_
      refine l_nil ?_
      refine hK2 _ _ ?_
      refine c_seq (fun K3 hK3 => ?_)
      refine c_seq (fun K4 hK4 => ?_)
      exact (by
        refine c_region ?_
        refine l_step (y_moveV (et (gS rfl g0) rfl)) ?_
        refine l_nil ?_
        refine hK4 _ _ ?_
        refine fg2 3 4 (gS rfl g0) g0 (fun g => ?_)
        refine c_cond (et g0 rfl) (fun cB1 => ?_) (fun cB1 => ?_)
        · skip
          
          exact (by
            refine c_region ?_
            refine l_step y_assignC ?_
            refine l_nil ?_
            refine hK3 _ _ ?_
            refine fg1 3 g0 (fun g => ?_)
            refine c_seq (fun K6 hK6 => ?_)
            exact (by
              refine c_region ?_
              refine l_step (y_moveV (et g0 rfl)) ?_
              refine l_step (y_assignV (et g0 rfl)) ?_
              refine l_nil ?_
              refine hK6 _ _ ?_
              refine fg1 2 g0 (fun g => ?_)
              refine c_ret ?_
              repeat with_reducible refine then_ret ?_
              refine ret1 rfl (res_tmp (et g0 rfl)) ?_
              subst cB1
              exact ⟨rfl, U⟩))
        · skip
          
          refine c_skip ?_
          refine hK3 _ _ ?_
          refine fg1 3 (gS rfl g0) (fun g => ?_)
          refine c_seq (fun K7 hK7 => ?_)
          exact (by
            refine c_region ?_
            refine l_step (y_moveV (et g0 rfl)) ?_
            refine l_step (y_assignV (et g0 rfl)) ?_
            refine l_nil ?_
            refine hK7 _ _ ?_
            refine fg1 2 g0 (fun g => ?_)
            refine c_ret ?_
            repeat with_reducible refine then_ret ?_
            refine ret1 rfl (res_tmp (et g0 rfl)) ?_
            subst cB1
            exact ⟨rfl, U⟩))))
end Go.Proofs.YgvaawGreat
