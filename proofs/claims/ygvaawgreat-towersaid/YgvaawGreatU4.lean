import Derived.Test.YgvaawGreatU3
set_option maxRecDepth 100000
set_option linter.unusedSimpArgs false
set_option linter.unusedVariables false
namespace Go.Proofs.YgvaawGreat
open Go
/-! bit by bit -/
theorem limb_shift (n i : Nat) : limb n i = (n >>> (64 * i)) % 2 ^ 64 := by
  unfold limb
  rw [Nat.shiftRight_eq_div_pow, Nat.pow_mul]
theorem limb_and (a b i : Nat) : limb (a &&& b) i = limb a i &&& limb b i := by
  simp only [limb_shift, Nat.shiftRight_and_distrib, Nat.and_mod_two_pow]
theorem limb_or (a b i : Nat) : limb (a ||| b) i = limb a i ||| limb b i := by
  simp only [limb_shift, Nat.shiftRight_or_distrib, Nat.or_mod_two_pow]
theorem limb_xor (a b i : Nat) : limb (a ^^^ b) i = limb a i ^^^ limb b i := by
  simp only [limb_shift, Nat.shiftRight_xor_distrib, Nat.xor_mod_two_pow]
theorem wand_spec (a b : Nat) (w : World) (ha : a < W256) (hb : b < W256) :
    Ret 284 [wV a, wV b] w (fun v w' => v = wV (a &&& b) ∧ Up w w') := by
  refine enter (n := 26) Hvaa.func284 rfl rfl (Nat.le_of_ble_eq_true rfl) ?_
  have U := Up.refl w
  refine c_seq (fun K1 hK1 => ?_)
  refine c_region ?_
  refine l_eff (e_boxV (et g0 rfl)) (fun v2 w2 h2 => ?_)
  obtain ⟨b2, rfl, n2⟩ := h2
  have f2 : w.heap.size ≤ b2 := Nat.le_trans U.size n2.fresh
  replace U := U.tr n2.up
  have k2 := n2.blk
  refine l_eff (e_boxV (et (gS rfl (gS rfl g0)) rfl)) (fun v3 w3 h3 => ?_)
  obtain ⟨b3, rfl, n3⟩ := h3
  have d2_3 : b2 < b3 := Nat.lt_of_lt_of_le k2.lt n3.fresh
  have f3 : w.heap.size ≤ b3 := Nat.le_trans U.size n3.fresh
  replace k2 := k2.up n3.up
  replace U := U.tr n3.up
  have k3 := n3.blk
  refine l_eff (e_alloc zr_65) (fun v4 w4 h4 => ?_)
  obtain ⟨b4, rfl, n4⟩ := h4
  have d2_4 : b2 < b4 := Nat.lt_of_lt_of_le k2.lt n4.fresh
  have d3_4 : b3 < b4 := Nat.lt_of_lt_of_le k3.lt n4.fresh
  have f4 : w.heap.size ≤ b4 := Nat.le_trans U.size n4.fresh
  replace k2 := k2.up n4.up
  replace k3 := k3.up n4.up
  replace U := U.tr n4.up
  have k4 := n4.blk
  refine l_nil ?_
  refine hK1 _ _ ?_
  refine fg3 2 3 4 (gS rfl (gS rfl g0)) (gS rfl g0) g0 (fun g => ?_)
  refine c_seq (fun K5 hK5 => ?_)
  refine c_region ?_
  refine l_step (y_idxAC 0 0 Hvaa.underlying65 sz_26 (et (gS rfl (gS rfl g0)) rfl) rfl rfl rfl) ?_
  refine l_step (y_load1 one_26 (et g0 rfl) (at1 (k2.cell (wL_get a 0 (by decide))))) ?_
  refine l_step (y_idxAC 0 0 Hvaa.underlying65 sz_26 (et (gS rfl (gS rfl (gS rfl g0))) rfl) rfl rfl rfl) ?_
  refine l_step (y_load1 one_26 (et g0 rfl) (at1 (k3.cell (wL_get b 0 (by decide))))) ?_
  refine l_step (y_and uk64 (et (gS rfl (gS rfl g0)) rfl) (et g0 rfl) ?_ ?_) ?_
  exact limb_lt _ _
  exact limb_lt _ _
  refine l_step (y_idxAC 1 1 Hvaa.underlying65 sz_26 (et (gS rfl (gS rfl (gS rfl (gS rfl (gS rfl (gS rfl (gS rfl g0))))))) rfl) rfl rfl rfl) ?_
  refine l_step (y_load1 one_26 (et g0 rfl) (at1 (k2.cell (wL_get a 1 (by decide))))) ?_
  refine l_step (y_idxAC 1 1 Hvaa.underlying65 sz_26 (et (gS rfl (gS rfl (gS rfl (gS rfl (gS rfl (gS rfl (gS rfl (gS rfl g0)))))))) rfl) rfl rfl rfl) ?_
  refine l_step (y_load1 one_26 (et g0 rfl) (at1 (k3.cell (wL_get b 1 (by decide))))) ?_
  refine l_step (y_and uk64 (et (gS rfl (gS rfl g0)) rfl) (et g0 rfl) ?_ ?_) ?_
  exact limb_lt _ _
  exact limb_lt _ _
  refine l_step (y_idxAC 2 2 Hvaa.underlying65 sz_26 (et (gS rfl (gS rfl (gS rfl (gS rfl (gS rfl (gS rfl (gS rfl (gS rfl (gS rfl (gS rfl (gS rfl (gS rfl g0)))))))))))) rfl) rfl rfl rfl) ?_
  refine l_step (y_load1 one_26 (et g0 rfl) (at1 (k2.cell (wL_get a 2 (by decide))))) ?_
  refine l_step (y_idxAC 2 2 Hvaa.underlying65 sz_26 (et (gS rfl (gS rfl (gS rfl (gS rfl (gS rfl (gS rfl (gS rfl (gS rfl (gS rfl (gS rfl (gS rfl (gS rfl (gS rfl g0))))))))))))) rfl) rfl rfl rfl) ?_
  refine l_step (y_load1 one_26 (et g0 rfl) (at1 (k3.cell (wL_get b 2 (by decide))))) ?_
  refine l_step (y_and uk64 (et (gS rfl (gS rfl g0)) rfl) (et g0 rfl) ?_ ?_) ?_
  exact limb_lt _ _
  exact limb_lt _ _
  refine l_step (y_idxAC 3 3 Hvaa.underlying65 sz_26 (et (gS rfl (gS rfl (gS rfl (gS rfl (gS rfl (gS rfl (gS rfl (gS rfl (gS rfl (gS rfl (gS rfl (gS rfl (gS rfl (gS rfl (gS rfl (gS rfl (gS rfl g0))))))))))))))))) rfl) rfl rfl rfl) ?_
  refine l_step (y_load1 one_26 (et g0 rfl) (at1 (k2.cell (wL_get a 3 (by decide))))) ?_
  refine l_step (y_idxAC 3 3 Hvaa.underlying65 sz_26 (et (gS rfl (gS rfl (gS rfl (gS rfl (gS rfl (gS rfl (gS rfl (gS rfl (gS rfl (gS rfl (gS rfl (gS rfl (gS rfl (gS rfl (gS rfl (gS rfl (gS rfl (gS rfl g0)))))))))))))))))) rfl) rfl rfl rfl) ?_
  refine l_step (y_load1 one_26 (et g0 rfl) (at1 (k3.cell (wL_get b 3 (by decide))))) ?_
  refine l_step (y_and uk64 (et (gS rfl (gS rfl g0)) rfl) (et g0 rfl) ?_ ?_) ?_
  exact limb_lt _ _
  exact limb_lt _ _
  refine l_step (y_bld (bC (et (gS rfl (gS rfl (gS rfl (gS rfl (gS rfl (gS rfl (gS rfl (gS rfl (gS rfl (gS rfl (gS rfl (gS rfl (gS rfl (gS rfl (gS rfl g0))))))))))))))) rfl) (bC (et (gS rfl (gS rfl (gS rfl (gS rfl (gS rfl (gS rfl (gS rfl (gS rfl (gS rfl (gS rfl g0)))))))))) rfl) (bC (et (gS rfl (gS rfl (gS rfl (gS rfl (gS rfl g0))))) rfl) (bC (et g0 rfl) bN)))) (bld65_4 _ _ _ _)) ?_
  refine l_effN (e_store sz_65 (et (gS rfl (gS rfl (gS rfl (gS rfl (gS rfl (gS rfl (gS rfl (gS rfl (gS rfl (gS rfl (gS rfl (gS rfl (gS rfl (gS rfl (gS rfl (gS rfl (gS rfl (gS rfl (gS rfl (gS rfl (gS rfl g0))))))))))))))))))))) rfl) (cellsV (et g0 rfl) rfl) rfl (by first | exact one_bL _ | exact one_uL _ | (intro v hv; simp at hv; subst hv; rfl)) k4 (by first | exact Nat.le_of_ble_eq_true rfl | simp | omega)) (fun v6 w6 h6 => ?_)
  obtain ⟨rfl, x6⟩ := h6
  replace k2 := k2.ch x6.ch (by omega)
  replace k3 := k3.ch x6.ch (by omega)
  replace k4 := x6.blk.full (by first | (simp [Value.cells, uL, bL, wL, wV]; done) | rfl)
  replace U := U.st x6 f4
  refine l_nil ?_
  refine hK5 _ _ ?_
  refine fg1 4 (gS rfl (gS rfl (gS rfl (gS rfl (gS rfl (gS rfl (gS rfl (gS rfl (gS rfl (gS rfl (gS rfl (gS rfl (gS rfl (gS rfl (gS rfl (gS rfl (gS rfl (gS rfl (gS rfl (gS rfl (gS rfl g0))))))))))))))))))))) (fun g => ?_)
  refine c_ret ?_
  refine ret1 rfl (res_blk agg_65 sz_65 (et g0 rfl) (by first | (simp [Value.cells, uL, bL, wL, wV]; done) | rfl) k4) ?_
  refine ⟨?_, U⟩
  unfold wV wL
  rw [limb_and, limb_and, limb_and, limb_and]
theorem wor_spec (a b : Nat) (w : World) (ha : a < W256) (hb : b < W256) :
    Ret 285 [wV a, wV b] w (fun v w' => v = wV (a ||| b) ∧ Up w w') := by
  refine enter (n := 26) Hvaa.func285 rfl rfl (Nat.le_of_ble_eq_true rfl) ?_
  have U := Up.refl w
  refine c_seq (fun K1 hK1 => ?_)
  refine c_region ?_
  refine l_eff (e_boxV (et g0 rfl)) (fun v2 w2 h2 => ?_)
  obtain ⟨b2, rfl, n2⟩ := h2
  have f2 : w.heap.size ≤ b2 := Nat.le_trans U.size n2.fresh
  replace U := U.tr n2.up
  have k2 := n2.blk
  refine l_eff (e_boxV (et (gS rfl (gS rfl g0)) rfl)) (fun v3 w3 h3 => ?_)
  obtain ⟨b3, rfl, n3⟩ := h3
  have d2_3 : b2 < b3 := Nat.lt_of_lt_of_le k2.lt n3.fresh
  have f3 : w.heap.size ≤ b3 := Nat.le_trans U.size n3.fresh
  replace k2 := k2.up n3.up
  replace U := U.tr n3.up
  have k3 := n3.blk
  refine l_eff (e_alloc zr_65) (fun v4 w4 h4 => ?_)
  obtain ⟨b4, rfl, n4⟩ := h4
  have d2_4 : b2 < b4 := Nat.lt_of_lt_of_le k2.lt n4.fresh
  have d3_4 : b3 < b4 := Nat.lt_of_lt_of_le k3.lt n4.fresh
  have f4 : w.heap.size ≤ b4 := Nat.le_trans U.size n4.fresh
  replace k2 := k2.up n4.up
  replace k3 := k3.up n4.up
  replace U := U.tr n4.up
  have k4 := n4.blk
  refine l_nil ?_
  refine hK1 _ _ ?_
  refine fg3 2 3 4 (gS rfl (gS rfl g0)) (gS rfl g0) g0 (fun g => ?_)
  refine c_seq (fun K5 hK5 => ?_)
  refine c_region ?_
  refine l_step (y_idxAC 0 0 Hvaa.underlying65 sz_26 (et (gS rfl (gS rfl g0)) rfl) rfl rfl rfl) ?_
  refine l_step (y_load1 one_26 (et g0 rfl) (at1 (k2.cell (wL_get a 0 (by decide))))) ?_
  refine l_step (y_idxAC 0 0 Hvaa.underlying65 sz_26 (et (gS rfl (gS rfl (gS rfl g0))) rfl) rfl rfl rfl) ?_
  refine l_step (y_load1 one_26 (et g0 rfl) (at1 (k3.cell (wL_get b 0 (by decide))))) ?_
  refine l_step (y_or uk64 (et (gS rfl (gS rfl g0)) rfl) (et g0 rfl) ?_ ?_) ?_
  exact limb_lt _ _
  exact limb_lt _ _
  refine l_step (y_idxAC 1 1 Hvaa.underlying65 sz_26 (et (gS rfl (gS rfl (gS rfl (gS rfl (gS rfl (gS rfl (gS rfl g0))))))) rfl) rfl rfl rfl) ?_
  refine l_step (y_load1 one_26 (et g0 rfl) (at1 (k2.cell (wL_get a 1 (by decide))))) ?_
  refine l_step (y_idxAC 1 1 Hvaa.underlying65 sz_26 (et (gS rfl (gS rfl (gS rfl (gS rfl (gS rfl (gS rfl (gS rfl (gS rfl g0)))))))) rfl) rfl rfl rfl) ?_
  refine l_step (y_load1 one_26 (et g0 rfl) (at1 (k3.cell (wL_get b 1 (by decide))))) ?_
  refine l_step (y_or uk64 (et (gS rfl (gS rfl g0)) rfl) (et g0 rfl) ?_ ?_) ?_
  exact limb_lt _ _
  exact limb_lt _ _
  refine l_step (y_idxAC 2 2 Hvaa.underlying65 sz_26 (et (gS rfl (gS rfl (gS rfl (gS rfl (gS rfl (gS rfl (gS rfl (gS rfl (gS rfl (gS rfl (gS rfl (gS rfl g0)))))))))))) rfl) rfl rfl rfl) ?_
  refine l_step (y_load1 one_26 (et g0 rfl) (at1 (k2.cell (wL_get a 2 (by decide))))) ?_
  refine l_step (y_idxAC 2 2 Hvaa.underlying65 sz_26 (et (gS rfl (gS rfl (gS rfl (gS rfl (gS rfl (gS rfl (gS rfl (gS rfl (gS rfl (gS rfl (gS rfl (gS rfl (gS rfl g0))))))))))))) rfl) rfl rfl rfl) ?_
  refine l_step (y_load1 one_26 (et g0 rfl) (at1 (k3.cell (wL_get b 2 (by decide))))) ?_
  refine l_step (y_or uk64 (et (gS rfl (gS rfl g0)) rfl) (et g0 rfl) ?_ ?_) ?_
  exact limb_lt _ _
  exact limb_lt _ _
  refine l_step (y_idxAC 3 3 Hvaa.underlying65 sz_26 (et (gS rfl (gS rfl (gS rfl (gS rfl (gS rfl (gS rfl (gS rfl (gS rfl (gS rfl (gS rfl (gS rfl (gS rfl (gS rfl (gS rfl (gS rfl (gS rfl (gS rfl g0))))))))))))))))) rfl) rfl rfl rfl) ?_
  refine l_step (y_load1 one_26 (et g0 rfl) (at1 (k2.cell (wL_get a 3 (by decide))))) ?_
  refine l_step (y_idxAC 3 3 Hvaa.underlying65 sz_26 (et (gS rfl (gS rfl (gS rfl (gS rfl (gS rfl (gS rfl (gS rfl (gS rfl (gS rfl (gS rfl (gS rfl (gS rfl (gS rfl (gS rfl (gS rfl (gS rfl (gS rfl (gS rfl g0)))))))))))))))))) rfl) rfl rfl rfl) ?_
  refine l_step (y_load1 one_26 (et g0 rfl) (at1 (k3.cell (wL_get b 3 (by decide))))) ?_
  refine l_step (y_or uk64 (et (gS rfl (gS rfl g0)) rfl) (et g0 rfl) ?_ ?_) ?_
  exact limb_lt _ _
  exact limb_lt _ _
  refine l_step (y_bld (bC (et (gS rfl (gS rfl (gS rfl (gS rfl (gS rfl (gS rfl (gS rfl (gS rfl (gS rfl (gS rfl (gS rfl (gS rfl (gS rfl (gS rfl (gS rfl g0))))))))))))))) rfl) (bC (et (gS rfl (gS rfl (gS rfl (gS rfl (gS rfl (gS rfl (gS rfl (gS rfl (gS rfl (gS rfl g0)))))))))) rfl) (bC (et (gS rfl (gS rfl (gS rfl (gS rfl (gS rfl g0))))) rfl) (bC (et g0 rfl) bN)))) (bld65_4 _ _ _ _)) ?_
  refine l_effN (e_store sz_65 (et (gS rfl (gS rfl (gS rfl (gS rfl (gS rfl (gS rfl (gS rfl (gS rfl (gS rfl (gS rfl (gS rfl (gS rfl (gS rfl (gS rfl (gS rfl (gS rfl (gS rfl (gS rfl (gS rfl (gS rfl (gS rfl g0))))))))))))))))))))) rfl) (cellsV (et g0 rfl) rfl) rfl (by first | exact one_bL _ | exact one_uL _ | (intro v hv; simp at hv; subst hv; rfl)) k4 (by first | exact Nat.le_of_ble_eq_true rfl | simp | omega)) (fun v6 w6 h6 => ?_)
  obtain ⟨rfl, x6⟩ := h6
  replace k2 := k2.ch x6.ch (by omega)
  replace k3 := k3.ch x6.ch (by omega)
  replace k4 := x6.blk.full (by first | (simp [Value.cells, uL, bL, wL, wV]; done) | rfl)
  replace U := U.st x6 f4
  refine l_nil ?_
  refine hK5 _ _ ?_
  refine fg1 4 (gS rfl (gS rfl (gS rfl (gS rfl (gS rfl (gS rfl (gS rfl (gS rfl (gS rfl (gS rfl (gS rfl (gS rfl (gS rfl (gS rfl (gS rfl (gS rfl (gS rfl (gS rfl (gS rfl (gS rfl (gS rfl g0))))))))))))))))))))) (fun g => ?_)
  refine c_ret ?_
  refine ret1 rfl (res_blk agg_65 sz_65 (et g0 rfl) (by first | (simp [Value.cells, uL, bL, wL, wV]; done) | rfl) k4) ?_
  refine ⟨?_, U⟩
  unfold wV wL
  rw [limb_or, limb_or, limb_or, limb_or]
theorem wxor_spec (a b : Nat) (w : World) (ha : a < W256) (hb : b < W256) :
    Ret 286 [wV a, wV b] w (fun v w' => v = wV (a ^^^ b) ∧ Up w w') := by
  refine enter (n := 26) Hvaa.func286 rfl rfl (Nat.le_of_ble_eq_true rfl) ?_
  have U := Up.refl w
  refine c_seq (fun K1 hK1 => ?_)
  refine c_region ?_
  refine l_eff (e_boxV (et g0 rfl)) (fun v2 w2 h2 => ?_)
  obtain ⟨b2, rfl, n2⟩ := h2
  have f2 : w.heap.size ≤ b2 := Nat.le_trans U.size n2.fresh
  replace U := U.tr n2.up
  have k2 := n2.blk
  refine l_eff (e_boxV (et (gS rfl (gS rfl g0)) rfl)) (fun v3 w3 h3 => ?_)
  obtain ⟨b3, rfl, n3⟩ := h3
  have d2_3 : b2 < b3 := Nat.lt_of_lt_of_le k2.lt n3.fresh
  have f3 : w.heap.size ≤ b3 := Nat.le_trans U.size n3.fresh
  replace k2 := k2.up n3.up
  replace U := U.tr n3.up
  have k3 := n3.blk
  refine l_eff (e_alloc zr_65) (fun v4 w4 h4 => ?_)
  obtain ⟨b4, rfl, n4⟩ := h4
  have d2_4 : b2 < b4 := Nat.lt_of_lt_of_le k2.lt n4.fresh
  have d3_4 : b3 < b4 := Nat.lt_of_lt_of_le k3.lt n4.fresh
  have f4 : w.heap.size ≤ b4 := Nat.le_trans U.size n4.fresh
  replace k2 := k2.up n4.up
  replace k3 := k3.up n4.up
  replace U := U.tr n4.up
  have k4 := n4.blk
  refine l_nil ?_
  refine hK1 _ _ ?_
  refine fg3 2 3 4 (gS rfl (gS rfl g0)) (gS rfl g0) g0 (fun g => ?_)
  refine c_seq (fun K5 hK5 => ?_)
  refine c_region ?_
  refine l_step (y_idxAC 0 0 Hvaa.underlying65 sz_26 (et (gS rfl (gS rfl g0)) rfl) rfl rfl rfl) ?_
  refine l_step (y_load1 one_26 (et g0 rfl) (at1 (k2.cell (wL_get a 0 (by decide))))) ?_
  refine l_step (y_idxAC 0 0 Hvaa.underlying65 sz_26 (et (gS rfl (gS rfl (gS rfl g0))) rfl) rfl rfl rfl) ?_
  refine l_step (y_load1 one_26 (et g0 rfl) (at1 (k3.cell (wL_get b 0 (by decide))))) ?_
  refine l_step (y_xor uk64 (et (gS rfl (gS rfl g0)) rfl) (et g0 rfl) ?_ ?_) ?_
  exact limb_lt _ _
  exact limb_lt _ _
  refine l_step (y_idxAC 1 1 Hvaa.underlying65 sz_26 (et (gS rfl (gS rfl (gS rfl (gS rfl (gS rfl (gS rfl (gS rfl g0))))))) rfl) rfl rfl rfl) ?_
  refine l_step (y_load1 one_26 (et g0 rfl) (at1 (k2.cell (wL_get a 1 (by decide))))) ?_
  refine l_step (y_idxAC 1 1 Hvaa.underlying65 sz_26 (et (gS rfl (gS rfl (gS rfl (gS rfl (gS rfl (gS rfl (gS rfl (gS rfl g0)))))))) rfl) rfl rfl rfl) ?_
  refine l_step (y_load1 one_26 (et g0 rfl) (at1 (k3.cell (wL_get b 1 (by decide))))) ?_
  refine l_step (y_xor uk64 (et (gS rfl (gS rfl g0)) rfl) (et g0 rfl) ?_ ?_) ?_
  exact limb_lt _ _
  exact limb_lt _ _
  refine l_step (y_idxAC 2 2 Hvaa.underlying65 sz_26 (et (gS rfl (gS rfl (gS rfl (gS rfl (gS rfl (gS rfl (gS rfl (gS rfl (gS rfl (gS rfl (gS rfl (gS rfl g0)))))))))))) rfl) rfl rfl rfl) ?_
  refine l_step (y_load1 one_26 (et g0 rfl) (at1 (k2.cell (wL_get a 2 (by decide))))) ?_
  refine l_step (y_idxAC 2 2 Hvaa.underlying65 sz_26 (et (gS rfl (gS rfl (gS rfl (gS rfl (gS rfl (gS rfl (gS rfl (gS rfl (gS rfl (gS rfl (gS rfl (gS rfl (gS rfl g0))))))))))))) rfl) rfl rfl rfl) ?_
  refine l_step (y_load1 one_26 (et g0 rfl) (at1 (k3.cell (wL_get b 2 (by decide))))) ?_
  refine l_step (y_xor uk64 (et (gS rfl (gS rfl g0)) rfl) (et g0 rfl) ?_ ?_) ?_
  exact limb_lt _ _
  exact limb_lt _ _
  refine l_step (y_idxAC 3 3 Hvaa.underlying65 sz_26 (et (gS rfl (gS rfl (gS rfl (gS rfl (gS rfl (gS rfl (gS rfl (gS rfl (gS rfl (gS rfl (gS rfl (gS rfl (gS rfl (gS rfl (gS rfl (gS rfl (gS rfl g0))))))))))))))))) rfl) rfl rfl rfl) ?_
  refine l_step (y_load1 one_26 (et g0 rfl) (at1 (k2.cell (wL_get a 3 (by decide))))) ?_
  refine l_step (y_idxAC 3 3 Hvaa.underlying65 sz_26 (et (gS rfl (gS rfl (gS rfl (gS rfl (gS rfl (gS rfl (gS rfl (gS rfl (gS rfl (gS rfl (gS rfl (gS rfl (gS rfl (gS rfl (gS rfl (gS rfl (gS rfl (gS rfl g0)))))))))))))))))) rfl) rfl rfl rfl) ?_
  refine l_step (y_load1 one_26 (et g0 rfl) (at1 (k3.cell (wL_get b 3 (by decide))))) ?_
  refine l_step (y_xor uk64 (et (gS rfl (gS rfl g0)) rfl) (et g0 rfl) ?_ ?_) ?_
  exact limb_lt _ _
  exact limb_lt _ _
  refine l_step (y_bld (bC (et (gS rfl (gS rfl (gS rfl (gS rfl (gS rfl (gS rfl (gS rfl (gS rfl (gS rfl (gS rfl (gS rfl (gS rfl (gS rfl (gS rfl (gS rfl g0))))))))))))))) rfl) (bC (et (gS rfl (gS rfl (gS rfl (gS rfl (gS rfl (gS rfl (gS rfl (gS rfl (gS rfl (gS rfl g0)))))))))) rfl) (bC (et (gS rfl (gS rfl (gS rfl (gS rfl (gS rfl g0))))) rfl) (bC (et g0 rfl) bN)))) (bld65_4 _ _ _ _)) ?_
  refine l_effN (e_store sz_65 (et (gS rfl (gS rfl (gS rfl (gS rfl (gS rfl (gS rfl (gS rfl (gS rfl (gS rfl (gS rfl (gS rfl (gS rfl (gS rfl (gS rfl (gS rfl (gS rfl (gS rfl (gS rfl (gS rfl (gS rfl (gS rfl g0))))))))))))))))))))) rfl) (cellsV (et g0 rfl) rfl) rfl (by first | exact one_bL _ | exact one_uL _ | (intro v hv; simp at hv; subst hv; rfl)) k4 (by first | exact Nat.le_of_ble_eq_true rfl | simp | omega)) (fun v6 w6 h6 => ?_)
  obtain ⟨rfl, x6⟩ := h6
  replace k2 := k2.ch x6.ch (by omega)
  replace k3 := k3.ch x6.ch (by omega)
  replace k4 := x6.blk.full (by first | (simp [Value.cells, uL, bL, wL, wV]; done) | rfl)
  replace U := U.st x6 f4
  refine l_nil ?_
  refine hK5 _ _ ?_
  refine fg1 4 (gS rfl (gS rfl (gS rfl (gS rfl (gS rfl (gS rfl (gS rfl (gS rfl (gS rfl (gS rfl (gS rfl (gS rfl (gS rfl (gS rfl (gS rfl (gS rfl (gS rfl (gS rfl (gS rfl (gS rfl (gS rfl g0))))))))))))))))))))) (fun g => ?_)
  refine c_ret ?_
  refine ret1 rfl (res_blk agg_65 sz_65 (et g0 rfl) (by first | (simp [Value.cells, uL, bL, wL, wV]; done) | rfl) k4) ?_
  refine ⟨?_, U⟩
  unfold wV wL
  rw [limb_xor, limb_xor, limb_xor, limb_xor]
section
variable {S : World → Prop} {n : Nat} {s : Nat → Value} {d : Option Nat} {ty : TypeId} {pos : String} {af : Array Edge} {g : Option (Nat × Bool)}
theorem xor_mask (m : Nat) (hm : m < 2 ^ 64) : (2 ^ 64 - 1) ^^^ m = 2 ^ 64 - 1 - m := by
  apply Nat.eq_of_testBit_eq
  intro i
  have h0 : 2 ^ 64 - 1 - m = 2 ^ 64 - (m + 1) := by omega
  rw [h0, Nat.testBit_xor, Nat.testBit_two_pow_sub_one, Nat.testBit_two_pow_sub_succ hm]
  by_cases hi : i < 64
  · simp [hi]
  · have h1 : 2 ^ 64 ≤ 2 ^ i := Nat.pow_le_pow_right (n := 2) (by decide) (by omega)
    have : m.testBit i = false := Nat.testBit_lt_two_pow (Nat.lt_of_lt_of_le hm h1)
    simp [hi, this]
theorem y_not64 {x : Operand} {T m : Nat} (hx : ev n s x = .int .u64 m) (hm : m < 18446744073709551616) : Yv S n s ⟨d, .unOp .xor T x, ty, pos, af, g⟩ (.int .u64 ((18446744073709551615 - m : Nat) : Int)) := fun w _ => by
  have h5 : (18446744073709551615 - m : Nat) < 18446744073709551616 := by omega
  have h4 := wrapU_id uk64 h5
  have hbv : (18446744073709551615#64 ^^^ BitVec.ofNat 64 m).toNat = 18446744073709551615 - m := by
    rw [BitVec.toNat_xor, BitVec.toNat_ofNat, BitVec.toNat_ofNat, Nat.mod_eq_of_lt hm]
    exact xor_mask m hm
  have h6 : (Op.unary .xor (.int .u64 (m : Int))).run Hvaa.prog w = .ok (.int .u64 ((18446744073709551615 - m : Nat) : Int)) w := by
    show Result.ok (Value.int .u64 (IntKind.u64.wrap ((BitVec.ofInt 64 18446744073709551615 ^^^ BitVec.ofInt 64 (m : Int)).toNat))) w = _
    have e1 : BitVec.ofInt 64 18446744073709551615 = 18446744073709551615#64 := rfl
    rw [e1, BitVec.ofInt_natCast, hbv, h4]
  simp [execOp, hx, h6]
end
theorem wnot_spec (a : Nat) (w : World) (ha : a < W256) :
    Ret 287 [wV a] w (fun v w' => v = wV (W256 - 1 - a) ∧ Up w w') := by
  refine enter (n := 16) Hvaa.func287 rfl rfl (Nat.le_of_ble_eq_true rfl) ?_
  have U := Up.refl w
  refine c_seq (fun K1 hK1 => ?_)
  refine c_region ?_
  refine l_eff (e_boxV (et g0 rfl)) (fun v2 w2 h2 => ?_)
  obtain ⟨b2, rfl, n2⟩ := h2
  have f2 : w.heap.size ≤ b2 := Nat.le_trans U.size n2.fresh
  replace U := U.tr n2.up
  have k2 := n2.blk
  refine l_eff (e_alloc zr_65) (fun v3 w3 h3 => ?_)
  obtain ⟨b3, rfl, n3⟩ := h3
  have d2_3 : b2 < b3 := Nat.lt_of_lt_of_le k2.lt n3.fresh
  have f3 : w.heap.size ≤ b3 := Nat.le_trans U.size n3.fresh
  replace k2 := k2.up n3.up
  replace U := U.tr n3.up
  have k3 := n3.blk
  refine l_nil ?_
  refine hK1 _ _ ?_
  refine fg2 1 2 (gS rfl g0) g0 (fun g => ?_)
  refine c_seq (fun K4 hK4 => ?_)
  refine c_region ?_
  refine l_step (y_idxAC 0 0 Hvaa.underlying65 sz_26 (et (gS rfl g0) rfl) rfl rfl rfl) ?_
  refine l_step (y_load1 one_26 (et g0 rfl) (at1 (k2.cell (wL_get a 0 (by decide))))) ?_
  refine l_step (y_not64 (et g0 rfl) ?_) ?_
  first | exact limb_lt _ _ | omega
  refine l_step (y_idxAC 1 1 Hvaa.underlying65 sz_26 (et (gS rfl (gS rfl (gS rfl (gS rfl g0)))) rfl) rfl rfl rfl) ?_
  refine l_step (y_load1 one_26 (et g0 rfl) (at1 (k2.cell (wL_get a 1 (by decide))))) ?_
  refine l_step (y_not64 (et g0 rfl) ?_) ?_
  first | exact limb_lt _ _ | omega
  refine l_step (y_idxAC 2 2 Hvaa.underlying65 sz_26 (et (gS rfl (gS rfl (gS rfl (gS rfl (gS rfl (gS rfl (gS rfl g0))))))) rfl) rfl rfl rfl) ?_
  refine l_step (y_load1 one_26 (et g0 rfl) (at1 (k2.cell (wL_get a 2 (by decide))))) ?_
  refine l_step (y_not64 (et g0 rfl) ?_) ?_
  first | exact limb_lt _ _ | omega
  refine l_step (y_idxAC 3 3 Hvaa.underlying65 sz_26 (et (gS rfl (gS rfl (gS rfl (gS rfl (gS rfl (gS rfl (gS rfl (gS rfl (gS rfl (gS rfl g0)))))))))) rfl) rfl rfl rfl) ?_
  refine l_step (y_load1 one_26 (et g0 rfl) (at1 (k2.cell (wL_get a 3 (by decide))))) ?_
  refine l_step (y_not64 (et g0 rfl) ?_) ?_
  first | exact limb_lt _ _ | omega
  refine l_step (y_bld (bC (et (gS rfl (gS rfl (gS rfl (gS rfl (gS rfl (gS rfl (gS rfl (gS rfl (gS rfl g0))))))))) rfl) (bC (et (gS rfl (gS rfl (gS rfl (gS rfl (gS rfl (gS rfl g0)))))) rfl) (bC (et (gS rfl (gS rfl (gS rfl g0))) rfl) (bC (et g0 rfl) bN)))) (bld65_4 _ _ _ _)) ?_
  refine l_effN (e_store sz_65 (et (gS rfl (gS rfl (gS rfl (gS rfl (gS rfl (gS rfl (gS rfl (gS rfl (gS rfl (gS rfl (gS rfl (gS rfl (gS rfl g0))))))))))))) rfl) (cellsV (et g0 rfl) rfl) rfl (by first | exact one_bL _ | exact one_uL _ | (intro v hv; simp at hv; subst hv; rfl)) k3 (by first | exact Nat.le_of_ble_eq_true rfl | simp | omega)) (fun v5 w5 h5 => ?_)
  obtain ⟨rfl, x5⟩ := h5
  replace k2 := k2.ch x5.ch (by omega)
  replace k3 := x5.blk.full (by first | (simp [Value.cells, uL, bL, wL, wV]; done) | rfl)
  replace U := U.st x5 f3
  refine l_nil ?_
  refine hK4 _ _ ?_
  refine fg1 2 (gS rfl (gS rfl (gS rfl (gS rfl (gS rfl (gS rfl (gS rfl (gS rfl (gS rfl (gS rfl (gS rfl (gS rfl (gS rfl g0))))))))))))) (fun g => ?_)
  refine c_ret ?_
  refine ret1 rfl (res_blk agg_65 sz_65 (et g0 rfl) (by first | (simp [Value.cells, uL, bL, wL, wV]; done) | rfl) k3) ?_
  refine ⟨wV_of _ _ _ _ _ (by omega) (by omega) (by omega) (by omega) ?_, U⟩
  have h1 := ofL_limb a ha
  have h2 := limb_lt a 0
  have h3 := limb_lt a 1
  have h4 := limb_lt a 2
  have h5 := limb_lt a 3
  unfold ofL at *
  unfold W256 at *
  omega
theorem neg_spec (a : Nat) (w : World) (ha : a < W256) :
    Ret 376 [wV a] w (fun v w' => v = .bool (decide (57896044618658097711785492504343953926634992332820282019728792003956564819968 ≤ a)) ∧ Up w w') := by
  refine enter (n := 7) Hvaa.func376 rfl rfl (Nat.le_of_ble_eq_true rfl) ?_
  have U := Up.refl w
  refine c_seq (fun K1 hK1 => ?_)
  refine c_region ?_
  refine l_eff (e_boxV (et g0 rfl)) (fun v2 w2 h2 => ?_)
  obtain ⟨b2, rfl, n2⟩ := h2
  have f2 : w.heap.size ≤ b2 := Nat.le_trans U.size n2.fresh
  replace U := U.tr n2.up
  have k2 := n2.blk
  refine l_step y_assignC ?_
  refine l_nil ?_
  refine hK1 _ _ ?_
  refine fg1 1 (gS rfl g0) (fun g => ?_)
  refine c_seq (fun K3 hK3 => ?_)
  refine c_region ?_
  refine l_step (y_idxAC 3 3 Hvaa.underlying65 sz_26 (et g0 rfl) rfl rfl rfl) ?_
  refine l_step (y_load1 one_26 (et g0 rfl) (at1 (k2.cell (wL_get a 3 (by decide))))) ?_
  refine l_step (y_shr (et g0 rfl) rfl (by decide) (shr64C 63 9223372036854775808 (by decide) rfl)) ?_
  refine l_step (y_neq (et g0 rfl) rfl) ?_
  refine l_step (y_assignV (et g0 rfl)) ?_
  refine l_nil ?_
  refine hK3 _ _ ?_
  refine fg1 2 g0 (fun g => ?_)
  refine c_ret ?_
  refine ret1 rfl (res_tmp (et g0 rfl)) ?_
  refine ⟨boolD ?_, U⟩
  rw [limb3]
  unfold W256 at ha
  omega
/-- the two's complement where the flag says so -/
def sgn (a : Nat) (t : Bool) : Nat := if t then (W256 - a) % W256 else a
theorem sgn_lt (a : Nat) (t : Bool) (h : a < W256) : sgn a t < W256 := by
  unfold sgn; split
  · exact Nat.mod_lt _ (by decide)
  · exact h
theorem bld65_z (w : World) : (Instr.build 65 [].toArray).run Hvaa.prog w = .ok (wV 0) w := by kernel_rfl
theorem signed_spec (a : Nat) (t : Bool) (w : World) (ha : a < W256) :
    Ret 375 [wV a, .bool t] w (fun v w' => v = wV (sgn a t) ∧ Up w w') := by
  refine enter (n := 10) Hvaa.func375 rfl rfl (Nat.le_of_ble_eq_true rfl) ?_
  have U := Up.refl w
  refine c_seq (fun K1 hK1 => ?_)
  refine c_region ?_
  refine l_eff (e_boxV (et g0 rfl)) (fun v2 w2 h2 => ?_)
  obtain ⟨b2, rfl, n2⟩ := h2
  have f2 : w.heap.size ≤ b2 := Nat.le_trans U.size n2.fresh
  replace U := U.tr n2.up
  have k2 := n2.blk
  refine l_eff (e_alloc zr_65) (fun v3 w3 h3 => ?_)
  obtain ⟨b3, rfl, n3⟩ := h3
  have d2_3 : b2 < b3 := Nat.lt_of_lt_of_le k2.lt n3.fresh
  have f3 : w.heap.size ≤ b3 := Nat.le_trans U.size n3.fresh
  replace k2 := k2.up n3.up
  replace U := U.tr n3.up
  have k3 := n3.blk
  refine l_nil ?_
  refine hK1 _ _ ?_
  refine fg3 1 2 4 (gS rfl (gS rfl (gS rfl g0))) (gS rfl g0) g0 (fun g => ?_)
  refine c_seq (fun K4 hK4 => ?_)
  refine c_seq (fun K5 hK5 => ?_)
  refine c_region ?_
  refine l_step (y_moveV (et (gS rfl (gS rfl g0)) rfl)) ?_
  refine l_nil ?_
  refine hK5 _ _ ?_
  refine fg3 2 4 5 (gS rfl (gS rfl g0)) (gS rfl g0) g0 (fun g => ?_)
  refine c_cond (et g0 rfl) (fun cB1 => ?_) (fun cB1 => ?_)
  · skip
    
    refine c_seq (fun K7 hK7 => ?_)
    refine c_region ?_
    refine l_step (y_bld bN bld65_z) ?_
    refine l_step (y_loadB agg_65 sz_65 (et (gS rfl (gS rfl (gS rfl g0))) rfl) (by first | (simp [Value.cells, uL, bL, wL, wV]; done) | rfl) (at1B k2)) ?_
    refine l_eff (e_callV cal_98 (aC (et (gS rfl g0) rfl) (aC (et g0 rfl) aN)) (sub_spec _ _ _ (by decide) (by assumption))) (fun v8 w8 h8 => ?_)
    obtain ⟨rfl, u8⟩ := h8
    replace k2 := k2.up u8
    replace k3 := k3.up u8
    replace U := U.tr u8
    refine l_effN (e_store sz_65 (et (gS rfl (gS rfl (gS rfl (gS rfl g0)))) rfl) (cellsV (et g0 rfl) rfl) rfl (by first | exact one_bL _ | exact one_uL _ | (intro v hv; simp at hv; subst hv; rfl)) k3 (by first | exact Nat.le_of_ble_eq_true rfl | simp | omega)) (fun v9 w9 h9 => ?_)
    obtain ⟨rfl, x9⟩ := h9
    replace k2 := k2.ch x9.ch (by omega)
    replace k3 := x9.blk.full (by first | (simp [Value.cells, uL, bL, wL, wV]; done) | rfl)
    replace U := U.st x9 f3
    refine l_nil ?_
    refine hK7 _ _ ?_
    refine fg1 4 (gS rfl (gS rfl (gS rfl (gS rfl g0)))) (fun g => ?_)
    refine c_ret ?_
    refine ret1 rfl (res_blk agg_65 sz_65 (et g0 rfl) (by first | (simp [Value.cells, uL, bL, wL, wV]; done) | rfl) k3) ?_
    refine ⟨?_, U⟩
    subst cB1
    show wV _ = wV _
    unfold sgn
    rw [if_pos rfl, Nat.zero_add]
  · skip
    
    refine c_skip ?_
    refine hK4 _ _ ?_
    refine fg2 2 4 (gS rfl (gS rfl g0)) (gS rfl g0) (fun g => ?_)
    refine c_seq (fun K10 hK10 => ?_)
    refine c_region ?_
    refine l_step (y_loadB agg_65 sz_65 (et (gS rfl g0) rfl) (by first | (simp [Value.cells, uL, bL, wL, wV]; done) | rfl) (at1B k2)) ?_
    refine l_effN (e_store sz_65 (et (gS rfl g0) rfl) (cellsV (et g0 rfl) rfl) rfl (by first | exact one_bL _ | exact one_uL _ | (intro v hv; simp at hv; subst hv; rfl)) k3 (by first | exact Nat.le_of_ble_eq_true rfl | simp | omega)) (fun v11 w11 h11 => ?_)
    obtain ⟨rfl, x11⟩ := h11
    replace k2 := k2.ch x11.ch (by omega)
    replace k3 := x11.blk.full (by first | (simp [Value.cells, uL, bL, wL, wV]; done) | rfl)
    replace U := U.st x11 f3
    refine l_nil ?_
    refine hK10 _ _ ?_
    refine fg1 4 (gS rfl g0) (fun g => ?_)
    refine c_ret ?_
    refine ret1 rfl (res_blk agg_65 sz_65 (et g0 rfl) (by first | (simp [Value.cells, uL, bL, wL, wV]; done) | rfl) k3) ?_
    refine ⟨?_, U⟩
    subst cB1
    rfl
def slt (a b : Nat) : Bool := if (decide (57896044618658097711785492504343953926634992332820282019728792003956564819968 ≤ a)) != (decide (57896044618658097711785492504343953926634992332820282019728792003956564819968 ≤ b)) then decide (57896044618658097711785492504343953926634992332820282019728792003956564819968 ≤ a) else decide (a < b)
theorem slt_spec (a b : Nat) (w : World) (ha : a < W256) (hb : b < W256) :
    Ret 281 [wV a, wV b] w (fun v w' => v = .bool (slt a b) ∧ Up w w') := by
  refine enter (n := 15) Hvaa.func281 rfl rfl (Nat.le_of_ble_eq_true rfl) ?_
  have U := Up.refl w
  refine c_seq (fun K1 hK1 => ?_)
  refine c_region ?_
  refine l_eff (e_boxV (et g0 rfl)) (fun v2 w2 h2 => ?_)
  obtain ⟨b2, rfl, n2⟩ := h2
  have f2 : w.heap.size ≤ b2 := Nat.le_trans U.size n2.fresh
  replace U := U.tr n2.up
  have k2 := n2.blk
  refine l_eff (e_boxV (et (gS rfl (gS rfl g0)) rfl)) (fun v3 w3 h3 => ?_)
  obtain ⟨b3, rfl, n3⟩ := h3
  have d2_3 : b2 < b3 := Nat.lt_of_lt_of_le k2.lt n3.fresh
  have f3 : w.heap.size ≤ b3 := Nat.le_trans U.size n3.fresh
  replace k2 := k2.up n3.up
  replace U := U.tr n3.up
  have k3 := n3.blk
  refine l_step y_assignC ?_
  refine l_nil ?_
  refine hK1 _ _ ?_
  refine fg2 2 3 (gS rfl (gS rfl g0)) (gS rfl g0) (fun g => ?_)
  refine c_seq (fun K4 hK4 => ?_)
  refine c_seq (fun K5 hK5 => ?_)
  refine c_draw Up 5 [(0, true), (2, true), (1, false), (3, false), (4, true)] (by kernel_rfl) (fun w6 hu => ⟨Up.refl _, ?_⟩)
  replace k2 := k2.up hu
  replace k3 := k3.up hu
  replace U := U.tr hu
  have SU := Up.refl w6
  refine p_step (by exact rfl) (y_loadB agg_65 sz_65 (et (gS rfl g0) rfl) (by first | (simp [Value.cells, uL, bL, wL, wV]; done) | rfl) (atSB k2)) ?_
  refine p_step (by exact rfl) (y_loadB agg_65 sz_65 (et (gS rfl g0) rfl) (by first | (simp [Value.cells, uL, bL, wL, wV]; done) | rfl) (atSB k3)) ?_
  refine p_eff (by exact rfl) (e_callV cal_376 (aC (et (gS rfl g0) rfl) aN) (neg_spec _ _ (by assumption))) (fun v7 w7 h7 => ?_)
  obtain ⟨rfl, u7⟩ := h7
  replace k2 := k2.up u7
  replace k3 := k3.up u7
  replace U := U.tr u7
  refine ⟨.inr (SU.trans u7), ?_⟩
  replace SU := SU.trans u7
  refine p_eff (by exact rfl) (e_callV cal_376 (aC (et (gS rfl g0) rfl) aN) (neg_spec _ _ (by assumption))) (fun v8 w8 h8 => ?_)
  obtain ⟨rfl, u8⟩ := h8
  replace k2 := k2.up u8
  replace k3 := k3.up u8
  replace U := U.tr u8
  refine ⟨.inr (SU.trans u8), ?_⟩
  replace SU := SU.trans u8
  refine p_step (by exact rfl) (y_neqB Hvaa.underlying4 (et (gS rfl g0) rfl) (et g0 rfl)) ?_
  refine p_nil ?_
  refine hK5 _ _ ?_
  refine fg3 2 3 9 (gS rfl (gS rfl (gS rfl (gS rfl (gS rfl (gS rfl g0)))))) (gS rfl (gS rfl (gS rfl (gS rfl (gS rfl g0))))) g0 (fun g => ?_)
  refine c_cond (et g0 rfl) (fun cB1 => ?_) (fun cB1 => ?_)
  · skip
    
    refine c_seq (fun K10 hK10 => ?_)
    refine c_region ?_
    refine l_step (y_loadB agg_65 sz_65 (et (gS rfl (gS rfl g0)) rfl) (by first | (simp [Value.cells, uL, bL, wL, wV]; done) | rfl) (at1B k2)) ?_
    refine l_eff (e_callV cal_376 (aC (et g0 rfl) aN) (neg_spec _ _ (by assumption))) (fun v11 w11 h11 => ?_)
    obtain ⟨rfl, u11⟩ := h11
    replace k2 := k2.up u11
    replace k3 := k3.up u11
    replace U := U.tr u11
    refine l_step (y_assignV (et g0 rfl)) ?_
    refine l_nil ?_
    refine hK10 _ _ ?_
    refine fg1 4 g0 (fun g => ?_)
    refine c_ret ?_
    refine ret1 rfl (res_tmp (et g0 rfl)) ?_
    refine ⟨?_, U⟩
    unfold slt
    rw [if_pos (by simpa [bne] using cB1)]
  · skip
    
    refine c_skip ?_
    refine hK4 _ _ ?_
    refine fg2 2 3 (gS rfl (gS rfl g0)) (gS rfl g0) (fun g => ?_)
    refine c_seq (fun K12 hK12 => ?_)
    refine c_region ?_
    refine l_step (y_loadB agg_65 sz_65 (et (gS rfl g0) rfl) (by first | (simp [Value.cells, uL, bL, wL, wV]; done) | rfl) (at1B k2)) ?_
    refine l_step (y_loadB agg_65 sz_65 (et (gS rfl g0) rfl) (by first | (simp [Value.cells, uL, bL, wL, wV]; done) | rfl) (at1B k3)) ?_
    refine l_eff (e_callV cal_112 (aC (et (gS rfl g0) rfl) (aC (et g0 rfl) aN)) (lt_spec _ _ _ (by assumption) (by assumption))) (fun v13 w13 h13 => ?_)
    obtain ⟨rfl, u13⟩ := h13
    replace k2 := k2.up u13
    replace k3 := k3.up u13
    replace U := U.tr u13
    refine l_step (y_assignV (et g0 rfl)) ?_
    refine l_nil ?_
    refine hK12 _ _ ?_
    refine fg1 4 g0 (fun g => ?_)
    refine c_ret ?_
    refine ret1 rfl (res_tmp (et g0 rfl)) ?_
    refine ⟨?_, U⟩
    unfold slt
    rw [if_neg (by simpa [bne] using cB1)]
theorem sgt_spec (a b : Nat) (w : World) (ha : a < W256) (hb : b < W256) :
    Ret 282 [wV a, wV b] w (fun v w' => v = .bool (slt b a) ∧ Up w w') := by
  refine enter (n := 8) Hvaa.func282 rfl rfl (Nat.le_of_ble_eq_true rfl) ?_
  have U := Up.refl w
  refine c_seq (fun K1 hK1 => ?_)
  refine c_region ?_
  refine l_eff (e_boxV (et g0 rfl)) (fun v2 w2 h2 => ?_)
  obtain ⟨b2, rfl, n2⟩ := h2
  have f2 : w.heap.size ≤ b2 := Nat.le_trans U.size n2.fresh
  replace U := U.tr n2.up
  have k2 := n2.blk
  refine l_eff (e_boxV (et (gS rfl (gS rfl g0)) rfl)) (fun v3 w3 h3 => ?_)
  obtain ⟨b3, rfl, n3⟩ := h3
  have d2_3 : b2 < b3 := Nat.lt_of_lt_of_le k2.lt n3.fresh
  have f3 : w.heap.size ≤ b3 := Nat.le_trans U.size n3.fresh
  replace k2 := k2.up n3.up
  replace U := U.tr n3.up
  have k3 := n3.blk
  refine l_step y_assignC ?_
  refine l_nil ?_
  refine hK1 _ _ ?_
  refine fg2 2 3 (gS rfl (gS rfl g0)) (gS rfl g0) (fun g => ?_)
  refine c_seq (fun K4 hK4 => ?_)
  refine c_region ?_
  refine l_step (y_loadB agg_65 sz_65 (et g0 rfl) (by first | (simp [Value.cells, uL, bL, wL, wV]; done) | rfl) (at1B k3)) ?_
  refine l_step (y_loadB agg_65 sz_65 (et (gS rfl (gS rfl g0)) rfl) (by first | (simp [Value.cells, uL, bL, wL, wV]; done) | rfl) (at1B k2)) ?_
  refine l_eff (e_callV cal_281 (aC (et (gS rfl g0) rfl) (aC (et g0 rfl) aN)) (slt_spec _ _ _ (by assumption) (by assumption))) (fun v5 w5 h5 => ?_)
  obtain ⟨rfl, u5⟩ := h5
  replace k2 := k2.up u5
  replace k3 := k3.up u5
  replace U := U.tr u5
  refine l_step (y_assignV (et g0 rfl)) ?_
  refine l_nil ?_
  refine hK4 _ _ ?_
  refine fg1 4 g0 (fun g => ?_)
  refine c_ret ?_
  refine ret1 rfl (res_tmp (et g0 rfl)) ?_
  exact ⟨rfl, U⟩
end Go.Proofs.YgvaawGreat
