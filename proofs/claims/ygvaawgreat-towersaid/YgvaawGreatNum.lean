import Derived.Test.YgvaawGreatData
set_option linter.unusedSimpArgs false
set_option linter.unusedVariables false
namespace Go.Proofs.YgvaawGreat
open Go
theorem inside_spec (n off : Int) (w : World) (h1 : 0 ≤ n) (h2 : n ≤ 1000000000) (h3 : 0 ≤ off) (h4 : off + 8 ≤ n) :
    Ret 237 [.int .i64 n, .int .i64 off] w (fun v w' => v = .bool true ∧ Up w w') := by
  refine enter (n := 17) Hvaa.func237 rfl rfl (Nat.le_of_ble_eq_true rfl) ?_
  have U := Up.refl w
  refine c_seq (fun K1 hK1 => ?_)
  refine c_region ?_
  refine l_step y_assignC ?_
  refine l_nil ?_
  refine hK1 _ _ ?_
  refine fg2 1 0 (gS rfl (gS rfl g0)) (gS rfl g0) (fun g => ?_)
  refine c_seq (fun K2 hK2 => ?_)
  refine c_region ?_
  refine l_step (y_moveV (et (gS rfl g0) rfl)) ?_
  refine l_step (y_geq (et g0 rfl) rfl) ?_
  refine l_step (y_moveV (et g0 rfl)) ?_
  refine gsplitL (i := 7) g0 (fun q3 => ?_) (fun q3 => ?_)
  · skip
    refine l_gstep (j := 2) (t := 7) (by exact rfl) (by exact rfl) (et g0 rfl) (by decide) (y_moveV (et (gS rfl (gS rfl (gS rfl (gS rfl g0)))) rfl)) ?_
    refine l_gstep (j := 2) (t := 7) (by exact rfl) (by exact rfl) (et (gS rfl g0) rfl) (by decide) (y_geq (et g0 rfl) rfl) ?_
    refine l_step (y_pickT (et (gS rfl (gS rfl g0)) rfl) (et g0 rfl)) ?_
    refine l_step (y_moveV (et g0 rfl)) ?_
    refine gsplitL (i := 11) g0 (fun q4 => ?_) (fun q4 => ?_)
    · skip
      refine l_gstep (j := 6) (t := 11) (by exact rfl) (by exact rfl) (et g0 rfl) (by decide) (y_moveV (et (gS rfl (gS rfl (gS rfl (gS rfl (gS rfl (gS rfl (gS rfl (gS rfl (gS rfl (gS rfl g0)))))))))) rfl)) ?_
      refine l_gstep (j := 6) (t := 11) (by exact rfl) (by exact rfl) (et (gS rfl g0) rfl) (by decide) (y_moveV (et (gS rfl (gS rfl (gS rfl (gS rfl (gS rfl (gS rfl (gS rfl (gS rfl (gS rfl (gS rfl g0)))))))))) rfl)) ?_
      refine l_gstep (j := 6) (t := 11) (by exact rfl) (by exact rfl) (et (gS rfl (gS rfl g0)) rfl) (by decide) (y_sub (et g0 rfl) rfl (wrap_i64 ?_ ?_)) ?_
      omega
      omega
      refine l_gstep (j := 6) (t := 11) (by exact rfl) (by exact rfl) (et (gS rfl (gS rfl (gS rfl g0))) rfl) (by decide) (y_leq (et (gS rfl (gS rfl g0)) rfl) (et g0 rfl)) ?_
      refine l_step (y_pickT (et (gS rfl (gS rfl (gS rfl (gS rfl g0)))) rfl) (et g0 rfl)) ?_
      refine l_step (y_assignV (et g0 rfl)) ?_
      refine l_nil ?_
      refine hK2 _ _ ?_
      refine fg1 4 g0 (fun g => ?_)
      refine c_ret ?_
      refine ret1 rfl (res_tmp (et g0 rfl)) ?_
      exact ⟨by simp; omega, U⟩
    · skip
      exfalso; simp only [decide_eq_false_iff_not] at q4; omega
  · skip
    exfalso; simp only [decide_eq_false_iff_not] at q3; omega
theorem be64_spec (b o len cap off a0 a1 a2 a3 a4 a5 a6 a7 : Nat) (w : World) (h1 : off + 8 ≤ len) (h2 : len ≤ cap) (h3 : len ≤ 1000000000) (q0 : a0 < 256) (q1 : a1 < 256) (q2 : a2 < 256) (q3 : a3 < 256) (q4 : a4 < 256) (q5 : a5 < 256) (q6 : a6 < 256) (q7 : a7 < 256) (hr : Row w b (o + off) [bval a0, bval a1, bval a2, bval a3, bval a4, bval a5, bval a6, bval a7]) :
    Ret 156 [.slice (some ⟨b, o, none⟩) len cap, .int .i64 off] w (fun v w' => v = .tuple #[.int .u64 ((ofBE [a0, a1, a2, a3, a4, a5, a6, a7] : Nat) : Int), .bool true] ∧ Up w w') := by
  have hr2 : Row w b (o + ((off : Nat) : Int).toNat * 1) [bval a0, bval a1, bval a2, bval a3, bval a4, bval a5, bval a6, bval a7] := by simpa using hr
  refine enter (n := 57) Hvaa.func156 rfl rfl (Nat.le_of_ble_eq_true rfl) ?_
  have U := Up.refl w
  refine c_seq (fun K1 hK1 => ?_)
  refine c_region ?_
  refine l_step y_assignC ?_
  refine l_step y_assignC ?_
  refine l_nil ?_
  refine hK1 _ _ ?_
  refine fg2 1 0 (gS rfl (gS rfl (gS rfl g0))) (gS rfl (gS rfl g0)) (fun g => ?_)
  refine c_seq (fun K2 hK2 => ?_)
  refine c_seq (fun K3 hK3 => ?_)
  refine c_region ?_
  refine l_step (y_moveV (et g0 rfl)) ?_
  refine l_step (y_len Hvaa.underlying38 (et g0 rfl)) ?_
  refine l_step (y_moveV (et (gS rfl (gS rfl (gS rfl g0))) rfl)) ?_
  refine l_eff (e_callV cal_237 (aC (et (gS rfl g0) rfl) (aC (et g0 rfl) aN)) (inside_spec _ _ _ (by omega) (by omega) (by omega) (by omega))) (fun v4 w4 h4 => ?_)
  obtain ⟨rfl, u4⟩ := h4
  replace U := U.tr u4
  refine l_step (y_not (et g0 rfl)) ?_
  refine l_nil ?_
  refine hK3 _ _ ?_
  refine fg3 1 0 11 (gS rfl (gS rfl (gS rfl (gS rfl (gS rfl (gS rfl g0)))))) (gS rfl (gS rfl (gS rfl (gS rfl (gS rfl g0))))) g0 (fun g => ?_)
  refine c_false (et g0 rfl) (by rfl) ?_
  refine c_skip ?_
  refine hK2 _ _ ?_
  refine fg2 1 0 (gS rfl (gS rfl g0)) (gS rfl g0) (fun g => ?_)
  refine c_seq (fun K6 hK6 => ?_)
  refine c_region ?_
  refine l_step (y_moveV (et g0 rfl)) ?_
  refine l_step (y_moveV (et (gS rfl (gS rfl g0)) rfl)) ?_
  refine l_step (y_moveV (et (gS rfl (gS rfl (gS rfl g0))) rfl)) ?_
  refine l_step (y_add (et g0 rfl) rfl (wrap_i64 ?_ ?_)) ?_
  omega
  omega
  refine l_step (y_slS110 Hvaa.underlying38 sz_5 (et (gS rfl (gS rfl (gS rfl g0))) rfl) (et (gS rfl (gS rfl g0)) rfl) (et g0 rfl) ?_ ?_ ?_ ?_ ?_) ?_
  omega
  omega
  omega
  omega
  omega
  refine l_step (y_s2a Hvaa.underlying262 (et g0 rfl) ?_) ?_
  omega
  refine l_step (y_loadR agg_262 sz_262 (et g0 rfl) rfl (at1R (hr2.up U))) ?_
  refine l_eff (e_alloc zr_262) (fun v7 w7 h7 => ?_)
  obtain ⟨b7, rfl, n7⟩ := h7
  have f7 : w.heap.size ≤ b7 := Nat.le_trans U.size n7.fresh
  replace U := U.tr n7.up
  have k7 := n7.blk
  refine l_effN (e_store sz_262 (et g0 rfl) (cellsV (et (gS rfl g0) rfl) rfl) rfl (by intro v hv; simp [bval] at hv; rcases hv with rfl | rfl | rfl | rfl | rfl | rfl | rfl | rfl <;> rfl) k7 (by first | exact Nat.le_of_ble_eq_true rfl | simp | omega)) (fun v8 w8 h8 => ?_)
  obtain ⟨rfl, x8⟩ := h8
  replace k7 := x8.blk.full (by first | (simp [Value.cells, uL, bL]; done) | rfl)
  replace U := U.st x8 f7
  refine l_nil ?_
  refine hK6 _ _ ?_
  refine fg1 6 g0 (fun g => ?_)
  refine c_seq (fun K9 hK9 => ?_)
  refine c_region ?_
  refine l_step (y_idxAC 7 7 Hvaa.underlying262 sz_5 (et g0 rfl) rfl rfl rfl) ?_
  refine l_step (y_load1 one_5 (et g0 rfl) (at1 (k7.cell rfl))) ?_
  refine l_step (y_conv Hvaa.underlying5 Hvaa.underlying26 (et g0 rfl) (wrapU_id uk64 ?_)) ?_
  omega
  refine l_step (y_idxAC 6 6 Hvaa.underlying262 sz_5 (et (gS rfl (gS rfl (gS rfl g0))) rfl) rfl rfl rfl) ?_
  refine l_step (y_load1 one_5 (et g0 rfl) (at1 (k7.cell rfl))) ?_
  refine l_step (y_conv Hvaa.underlying5 Hvaa.underlying26 (et g0 rfl) (wrapU_id uk64 ?_)) ?_
  omega
  refine l_step (y_shl (et g0 rfl) rfl (by decide) (shl64C 8 256 (by decide) rfl)) ?_
  refine l_step (y_orS 8 uk64 (et (gS rfl (gS rfl (gS rfl (gS rfl g0)))) rfl) (et g0 rfl) ?_ ?_ ?_ ?_) ?_
  omega
  omega
  omega
  omega
  refine l_step (y_idxAC 5 5 Hvaa.underlying262 sz_5 (et (gS rfl (gS rfl (gS rfl (gS rfl (gS rfl (gS rfl (gS rfl (gS rfl g0)))))))) rfl) rfl rfl rfl) ?_
  refine l_step (y_load1 one_5 (et g0 rfl) (at1 (k7.cell rfl))) ?_
  refine l_step (y_conv Hvaa.underlying5 Hvaa.underlying26 (et g0 rfl) (wrapU_id uk64 ?_)) ?_
  omega
  refine l_step (y_shl (et g0 rfl) rfl (by decide) (shl64C 16 65536 (by decide) rfl)) ?_
  refine l_step (y_orS 16 uk64 (et (gS rfl (gS rfl (gS rfl (gS rfl g0)))) rfl) (et g0 rfl) ?_ ?_ ?_ ?_) ?_
  omega
  omega
  omega
  omega
  refine l_step (y_idxAC 4 4 Hvaa.underlying262 sz_5 (et (gS rfl (gS rfl (gS rfl (gS rfl (gS rfl (gS rfl (gS rfl (gS rfl (gS rfl (gS rfl (gS rfl (gS rfl (gS rfl g0))))))))))))) rfl) rfl rfl rfl) ?_
  refine l_step (y_load1 one_5 (et g0 rfl) (at1 (k7.cell rfl))) ?_
  refine l_step (y_conv Hvaa.underlying5 Hvaa.underlying26 (et g0 rfl) (wrapU_id uk64 ?_)) ?_
  omega
  refine l_step (y_shl (et g0 rfl) rfl (by decide) (shl64C 24 16777216 (by decide) rfl)) ?_
  refine l_step (y_orS 24 uk64 (et (gS rfl (gS rfl (gS rfl (gS rfl g0)))) rfl) (et g0 rfl) ?_ ?_ ?_ ?_) ?_
  omega
  omega
  omega
  omega
  refine l_step (y_idxAC 3 3 Hvaa.underlying262 sz_5 (et (gS rfl (gS rfl (gS rfl (gS rfl (gS rfl (gS rfl (gS rfl (gS rfl (gS rfl (gS rfl (gS rfl (gS rfl (gS rfl (gS rfl (gS rfl (gS rfl (gS rfl (gS rfl g0)))))))))))))))))) rfl) rfl rfl rfl) ?_
  refine l_step (y_load1 one_5 (et g0 rfl) (at1 (k7.cell rfl))) ?_
  refine l_step (y_conv Hvaa.underlying5 Hvaa.underlying26 (et g0 rfl) (wrapU_id uk64 ?_)) ?_
  omega
  refine l_step (y_shl (et g0 rfl) rfl (by decide) (shl64C 32 4294967296 (by decide) rfl)) ?_
  refine l_step (y_orS 32 uk64 (et (gS rfl (gS rfl (gS rfl (gS rfl g0)))) rfl) (et g0 rfl) ?_ ?_ ?_ ?_) ?_
  omega
  omega
  omega
  omega
  refine l_step (y_idxAC 2 2 Hvaa.underlying262 sz_5 (et (gS rfl (gS rfl (gS rfl (gS rfl (gS rfl (gS rfl (gS rfl (gS rfl (gS rfl (gS rfl (gS rfl (gS rfl (gS rfl (gS rfl (gS rfl (gS rfl (gS rfl (gS rfl (gS rfl (gS rfl (gS rfl (gS rfl (gS rfl g0))))))))))))))))))))))) rfl) rfl rfl rfl) ?_
  refine l_step (y_load1 one_5 (et g0 rfl) (at1 (k7.cell rfl))) ?_
  refine l_step (y_conv Hvaa.underlying5 Hvaa.underlying26 (et g0 rfl) (wrapU_id uk64 ?_)) ?_
  omega
  refine l_step (y_shl (et g0 rfl) rfl (by decide) (shl64C 40 1099511627776 (by decide) rfl)) ?_
  refine l_step (y_orS 40 uk64 (et (gS rfl (gS rfl (gS rfl (gS rfl g0)))) rfl) (et g0 rfl) ?_ ?_ ?_ ?_) ?_
  omega
  omega
  omega
  omega
  refine l_step (y_idxAC 1 1 Hvaa.underlying262 sz_5 (et (gS rfl (gS rfl (gS rfl (gS rfl (gS rfl (gS rfl (gS rfl (gS rfl (gS rfl (gS rfl (gS rfl (gS rfl (gS rfl (gS rfl (gS rfl (gS rfl (gS rfl (gS rfl (gS rfl (gS rfl (gS rfl (gS rfl (gS rfl (gS rfl (gS rfl (gS rfl (gS rfl (gS rfl g0)))))))))))))))))))))))))))) rfl) rfl rfl rfl) ?_
  refine l_step (y_load1 one_5 (et g0 rfl) (at1 (k7.cell rfl))) ?_
  refine l_step (y_conv Hvaa.underlying5 Hvaa.underlying26 (et g0 rfl) (wrapU_id uk64 ?_)) ?_
  omega
  refine l_step (y_shl (et g0 rfl) rfl (by decide) (shl64C 48 281474976710656 (by decide) rfl)) ?_
  refine l_step (y_orS 48 uk64 (et (gS rfl (gS rfl (gS rfl (gS rfl g0)))) rfl) (et g0 rfl) ?_ ?_ ?_ ?_) ?_
  omega
  omega
  omega
  omega
  refine l_step (y_idxAC 0 0 Hvaa.underlying262 sz_5 (et (gS rfl (gS rfl (gS rfl (gS rfl (gS rfl (gS rfl (gS rfl (gS rfl (gS rfl (gS rfl (gS rfl (gS rfl (gS rfl (gS rfl (gS rfl (gS rfl (gS rfl (gS rfl (gS rfl (gS rfl (gS rfl (gS rfl (gS rfl (gS rfl (gS rfl (gS rfl (gS rfl (gS rfl (gS rfl (gS rfl (gS rfl (gS rfl (gS rfl g0))))))))))))))))))))))))))))))))) rfl) rfl rfl rfl) ?_
  refine l_step (y_load1 one_5 (et g0 rfl) (at1 (k7.cell rfl))) ?_
  refine l_step (y_conv Hvaa.underlying5 Hvaa.underlying26 (et g0 rfl) (wrapU_id uk64 ?_)) ?_
  omega
  refine l_step (y_shl (et g0 rfl) rfl (by decide) (shl64C 56 72057594037927936 (by decide) rfl)) ?_
  refine l_step (y_orS 56 uk64 (et (gS rfl (gS rfl (gS rfl (gS rfl g0)))) rfl) (et g0 rfl) ?_ ?_ ?_ ?_) ?_
  omega
  omega
  omega
  omega
  refine l_step (y_assignV (et g0 rfl)) ?_
  refine l_step y_assignC ?_
  refine l_nil ?_
  refine hK9 _ _ ?_
  refine fg2 4 5 (gS rfl g0) g0 (fun g => ?_)
  refine c_ret ?_
  refine ret2 rfl (res_tmp (et (gS rfl g0) rfl)) (res_tmp (et g0 rfl)) ?_
  refine ⟨?_, U⟩
  simp only [ofBE, List.foldl_cons, List.foldl_nil]
  congr 4
  omega
end Go.Proofs.YgvaawGreat
