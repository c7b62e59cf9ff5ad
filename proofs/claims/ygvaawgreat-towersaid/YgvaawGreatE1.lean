import Derived.Test.YgvaawGreatK5
import Derived.Test.YgvaawGreatY45
set_option maxRecDepth 100000
set_option maxHeartbeats 4000000
set_option linter.unusedSimpArgs false
set_option linter.unusedVariables false
namespace Go.Proofs.YgvaawGreat
open Go
/-! The engine's hashing of keys. -/
def fldN (h x : Nat) : Nat := ((h ^^^ x) * 11400714819323198485 / 18446744073709551616) ^^^ ((h ^^^ x) * 11400714819323198485 % 18446744073709551616)
theorem fldN_lt {h x : Nat} (hh : h < 18446744073709551616) (hx : x < 18446744073709551616) : fldN h x < 18446744073709551616 := by
  unfold fldN
  refine x64 ?_ (Nat.mod_lt _ (by decide))
  have := x64 hh hx
  rw [Nat.div_lt_iff_lt_mul (by decide)]
  omega
def w20 (a o : Nat) : Nat := ofBE (((be 20 a).drop o).take 8)
theorem w20_lt (a o : Nat) : w20 a o < 18446744073709551616 := by
  unfold w20
  have h := ofBE_lt (((be 20 a).drop o).take 8) (fun d h => be_lt 20 a d (List.mem_of_mem_drop (List.mem_of_mem_take h)))
  refine Nat.lt_of_lt_of_le h ?_
  rw [show (18446744073709551616 : Nat) = 256 ^ 8 by decide]
  exact Nat.pow_le_pow_right (by decide) (by rw [List.length_take]; omega)
def aHomeR (a : Nat) : Nat := fldN (fldN (fldN (fldN 2611923443488327891 (w20 a 0)) (w20 a 8)) (w20 a 12)) 1376283091369227076 % 4096
def mixN (i k : Nat) : Nat := fldN (fldN (fldN (fldN (fldN (fldN 2611923443488327891 i) (limb k 0)) (limb k 1)) (limb k 2)) (limb k 3)) 1376283091369227076
def sHomeR (i k : Nat) : Nat := mixN i k % 4096
def tHomeR (i k : Nat) : Nat := mixN i k % 16384
def mixP (i k : Nat) : Nat → Nat
  | 0 => fldN 2611923443488327891 i
  | n + 1 => fldN (mixP i k n) (limb k n)
theorem mixP_lt {i k : Nat} (hi : i < 18446744073709551616) : ∀ n, mixP i k n < 18446744073709551616
  | 0 => fldN_lt (by decide) hi
  | n + 1 => fldN_lt (mixP_lt hi n) (limb_lt k n)
theorem mixN_lt {i k : Nat} (hi : i < 18446744073709551616) : mixN i k < 18446744073709551616 := fldN_lt (mixP_lt hi 4) (by decide)
theorem row20 {w : World} {b : Nat} {a o : Nat} (ho : o + 8 ≤ 20) (h : Blk w b (bL (be 20 a)).toArray) : Row w b (0 + o) (bL (((be 20 a).drop o).take 8)) := by
  intro j v hv
  have hj : j < 8 := by
    have := (List.getElem?_eq_some_iff.1 hv).1
    rw [length_bL, List.length_take] at this
    omega
  refine h.cell ?_
  rw [List.getElem?_toArray, ← hv]
  simp only [bL, List.getElem?_map, List.getElem?_take, List.getElem?_drop, if_pos hj, Nat.zero_add]
theorem idx65 (w : World) (k : Nat) : ∀ i : Nat, i < 4 → (Instr.index 65 (.agg (wL k).toArray) (.int .i64 (i : Nat))).run Hvaa.prog w = .ok (.int .u64 (limb k i : Nat)) w
  | 0, _ => by kernel_rfl
  | 1, _ => by kernel_rfl
  | 2, _ => by kernel_rfl
  | 3, _ => by kernel_rfl
  | _ + 4, h => absurd h (by omega)
theorem v_fold (h x : Nat) (w : World) (hh : h < 18446744073709551616) (hx : x < 18446744073709551616) :
    Ret 350 [.int .u64 h, .int .u64 x] w (fun v w' => v = .int .u64 (fldN h x : Nat) ∧ Up w w') := by
  refine enter (n := 17) Hvaa.func350 rfl rfl (Nat.le_of_ble_eq_true rfl) ?_
  have U := Up.refl w
  refine c_seq (fun K1 hK1 => ?_)
  refine c_region ?_
  refine l_step y_assignC ?_
  refine l_nil ?_
  refine hK1 _ _ ?_
  refine fg2 1 0 (gS rfl (gS rfl g0)) (gS rfl g0) (fun g => ?_)
  refine c_seq (fun K2 hK2 => ?_)
  refine c_region ?_
  refine l_step (y_moveV (et g0 rfl)) ?_
  refine l_step (y_moveV (et (gS rfl (gS rfl g0)) rfl)) ?_
  refine l_step (y_xor uk64 (et (gS rfl g0) rfl) (et g0 rfl) ?_ ?_) ?_
  exact hh
  exact hx
  refine l_eff (e_callV cal_168 (aC (et g0 rfl) (aC (v := .int .u64 ((11400714819323198485 : Nat) : Int)) rfl aN)) (mul64_spec _ _ _ (x64 hh hx) (by decide))) (fun v3 w3 h3 => ?_)
  obtain ⟨rfl, u3⟩ := h3
  replace U := U.tr u3
  refine l_step (y_moveV (et g0 rfl)) ?_
  refine l_step (y_ext (et g0 rfl) rfl) ?_
  refine l_step (y_ext (et (gS rfl g0) rfl) rfl) ?_
  refine l_step (y_assignV (et (gS rfl g0) rfl)) ?_
  refine l_step (y_assignV (et (gS rfl g0) rfl)) ?_
  refine l_nil ?_
  refine hK2 _ _ ?_
  refine fg2 5 6 (gS rfl g0) g0 (fun g => ?_)
  refine c_seq (fun K4 hK4 => ?_)
  refine c_region ?_
  refine l_step (y_moveV (et (gS rfl g0) rfl)) ?_
  refine l_step (y_moveV (et (gS rfl g0) rfl)) ?_
  refine l_step (y_xor uk64 (et (gS rfl g0) rfl) (et g0 rfl) ?_ ?_) ?_
  (have := x64 hh hx; rw [Nat.div_lt_iff_lt_mul (by decide)]; omega)
  exact Nat.mod_lt _ (by decide)
  refine l_step (y_assignV (et g0 rfl)) ?_
  refine l_nil ?_
  refine hK4 _ _ ?_
  refine fg1 4 g0 (fun g => ?_)
  refine c_ret ?_
  refine ret1 rfl (res_tmp (et g0 rfl)) ?_
  exact ⟨rfl, U⟩
theorem v_acctHome (a : Nat) (w : World) (ha : a < A160) :
    Ret 239 [aV a] w (fun v w' => v = .int .u32 (aHomeR a : Nat) ∧ Up w w') := by
  refine enter (n := 35) Hvaa.func239 rfl rfl (Nat.le_of_ble_eq_true rfl) ?_
  have U := Up.refl w
  refine c_seq (fun K1 hK1 => ?_)
  refine c_region ?_
  refine l_eff (e_boxV (et g0 rfl)) (fun v2 w2 h2 => ?_)
  obtain ⟨b2, rfl, n2⟩ := h2
  have f2 : w.heap.size ≤ b2 := Nat.le_trans U.size n2.fresh
  replace U := U.tr n2.up
  have k2 := n2.blk
  replace k2 : Blk w2 b2 (bL (be 20 a)).toArray := k2
  refine l_step y_assignC ?_
  refine l_nil ?_
  refine hK1 _ _ ?_
  refine fg1 1 (gS rfl g0) (fun g => ?_)
  refine c_seq (fun K3 hK3 => ?_)
  refine c_region ?_
  refine l_step (y_slA000 Hvaa.underlying25 sz_5 (et g0 rfl) ) ?_
  refine l_eff (e_callV cal_156 (aC (et g0 rfl) (aC (v := .int .i64 ((0 : Nat) : Int)) rfl aN)) (be64_l _ _ _ _ 0 (((be 20 a).drop 0).take 8) _ (by decide) (Nat.le_refl _) (by decide) (by rw [List.length_take, List.length_drop, length_be]; decide) (fun d h => be_lt 20 a d (List.mem_of_mem_drop (List.mem_of_mem_take h))) (row20 (by decide) k2))) (fun v4 w4 h4 => ?_)
  obtain ⟨rfl, u4⟩ := h4
  replace k2 := k2.up u4
  replace U := U.tr u4
  refine l_step (y_moveV (et g0 rfl)) ?_
  refine l_step (y_ext (et g0 rfl) rfl) ?_
  refine l_step (y_ext (et (gS rfl g0) rfl) rfl) ?_
  refine l_step (y_assignV (et (gS rfl g0) rfl)) ?_
  refine l_step (y_assignV (et (gS rfl g0) rfl)) ?_
  refine l_nil ?_
  refine hK3 _ _ ?_
  refine fg2 1 3 (gS rfl (gS rfl (gS rfl (gS rfl (gS rfl (gS rfl (gS rfl g0))))))) (gS rfl g0) (fun g => ?_)
  refine c_seq (fun K5 hK5 => ?_)
  refine c_region ?_
  refine l_step (y_slA000 Hvaa.underlying25 sz_5 (et (gS rfl g0) rfl) ) ?_
  refine l_eff (e_callV cal_156 (aC (et g0 rfl) (aC (v := .int .i64 ((8 : Nat) : Int)) rfl aN)) (be64_l _ _ _ _ 8 (((be 20 a).drop 8).take 8) _ (by decide) (Nat.le_refl _) (by decide) (by rw [List.length_take, List.length_drop, length_be]; decide) (fun d h => be_lt 20 a d (List.mem_of_mem_drop (List.mem_of_mem_take h))) (row20 (by decide) k2))) (fun v6 w6 h6 => ?_)
  obtain ⟨rfl, u6⟩ := h6
  replace k2 := k2.up u6
  replace U := U.tr u6
  refine l_step (y_moveV (et g0 rfl)) ?_
  refine l_step (y_ext (et g0 rfl) rfl) ?_
  refine l_step (y_ext (et (gS rfl g0) rfl) rfl) ?_
  refine l_step (y_assignV (et (gS rfl g0) rfl)) ?_
  refine l_step (y_assignV (et (gS rfl g0) rfl)) ?_
  refine l_nil ?_
  refine hK5 _ _ ?_
  refine fg3 1 3 5 (gS rfl (gS rfl (gS rfl (gS rfl (gS rfl (gS rfl (gS rfl (gS rfl g0)))))))) (gS rfl (gS rfl (gS rfl (gS rfl (gS rfl (gS rfl (gS rfl g0))))))) (gS rfl g0) (fun g => ?_)
  refine c_seq (fun K7 hK7 => ?_)
  refine c_region ?_
  refine l_step (y_slA000 Hvaa.underlying25 sz_5 (et (gS rfl (gS rfl g0)) rfl) ) ?_
  refine l_eff (e_callV cal_156 (aC (et g0 rfl) (aC (v := .int .i64 ((12 : Nat) : Int)) rfl aN)) (be64_l _ _ _ _ 12 (((be 20 a).drop 12).take 8) _ (by decide) (Nat.le_refl _) (by decide) (by rw [List.length_take, List.length_drop, length_be]; decide) (fun d h => be_lt 20 a d (List.mem_of_mem_drop (List.mem_of_mem_take h))) (row20 (by decide) k2))) (fun v8 w8 h8 => ?_)
  obtain ⟨rfl, u8⟩ := h8
  replace k2 := k2.up u8
  replace U := U.tr u8
  refine l_step (y_moveV (et g0 rfl)) ?_
  refine l_step (y_ext (et g0 rfl) rfl) ?_
  refine l_step (y_ext (et (gS rfl g0) rfl) rfl) ?_
  refine l_step (y_assignV (et (gS rfl g0) rfl)) ?_
  refine l_step (y_assignV (et (gS rfl g0) rfl)) ?_
  refine l_nil ?_
  refine hK7 _ _ ?_
  refine fg3 3 5 7 (gS rfl (gS rfl (gS rfl (gS rfl (gS rfl (gS rfl (gS rfl (gS rfl g0)))))))) (gS rfl (gS rfl (gS rfl (gS rfl (gS rfl (gS rfl (gS rfl g0))))))) (gS rfl g0) (fun g => ?_)
  refine c_seq (fun K9 hK9 => ?_)
  refine c_region ?_
  refine l_step (y_moveV (et (gS rfl (gS rfl g0)) rfl)) ?_
  refine l_eff (e_callV cal_350 (aC (v := .int .u64 ((2611923443488327891 : Nat) : Int)) rfl (aC (et g0 rfl) aN)) (v_fold _ _ _ (by decide) (w20_lt a 0))) (fun v10 w10 h10 => ?_)
  obtain ⟨rfl, u10⟩ := h10
  replace k2 := k2.up u10
  replace U := U.tr u10
  refine l_step (y_moveV (et (gS rfl (gS rfl (gS rfl g0))) rfl)) ?_
  refine l_eff (e_callV cal_350 (aC (et (gS rfl g0) rfl) (aC (et g0 rfl) aN)) (v_fold _ _ _ (fldN_lt (by decide) (w20_lt a 0)) (w20_lt a 8))) (fun v11 w11 h11 => ?_)
  obtain ⟨rfl, u11⟩ := h11
  replace k2 := k2.up u11
  replace U := U.tr u11
  refine l_step (y_moveV (et (gS rfl (gS rfl (gS rfl (gS rfl g0)))) rfl)) ?_
  refine l_eff (e_callV cal_350 (aC (et (gS rfl g0) rfl) (aC (et g0 rfl) aN)) (v_fold _ _ _ (fldN_lt (fldN_lt (by decide) (w20_lt a 0)) (w20_lt a 8)) (w20_lt a 12))) (fun v12 w12 h12 => ?_)
  obtain ⟨rfl, u12⟩ := h12
  replace k2 := k2.up u12
  replace U := U.tr u12
  refine l_step (y_assignV (et g0 rfl)) ?_
  refine l_nil ?_
  refine hK9 _ _ ?_
  refine fg1 9 g0 (fun g => ?_)
  refine c_seq (fun K13 hK13 => ?_)
  refine c_region ?_
  refine l_step (y_moveV (et g0 rfl)) ?_
  refine l_eff (e_callV cal_350 (aC (et g0 rfl) (aC (v := .int .u64 ((1376283091369227076 : Nat) : Int)) rfl aN)) (v_fold _ _ _ (fldN_lt (fldN_lt (fldN_lt (by decide) (w20_lt a 0)) (w20_lt a 8)) (w20_lt a 12)) (by decide))) (fun v14 w14 h14 => ?_)
  obtain ⟨rfl, u14⟩ := h14
  replace k2 := k2.up u14
  replace U := U.tr u14
  refine l_step (y_rem (et g0 rfl) rfl (by decide) (remN (b := 4096))) ?_
  refine l_step (y_conv Hvaa.underlying26 Hvaa.underlying60 (et g0 rfl) (wrapU_id uk32 ?_)) ?_
  omega
  refine l_step (y_assignV (et g0 rfl)) ?_
  refine l_nil ?_
  refine hK13 _ _ ?_
  refine fg1 2 g0 (fun g => ?_)
  refine c_ret ?_
  refine ret1 rfl (res_tmp (et g0 rfl)) ?_
  exact ⟨rfl, U⟩
theorem v_mixSlot (i k : Nat) (w : World) (hi : i < 2147483648) :
    Ret 351 [.int .i32 i, wV k] w (fun v w' => v = .int .u64 (mixN i k : Nat) ∧ Up w w') := by
  have hi64 : i < 18446744073709551616 := by omega
  refine enter (n := 22) Hvaa.func351 rfl rfl (Nat.le_of_ble_eq_true rfl) ?_
  have U := Up.refl w
  refine c_seq (fun K1 hK1 => ?_)
  refine c_region ?_
  refine l_eff (e_boxV (et (gS rfl g0) rfl)) (fun v2 w2 h2 => ?_)
  obtain ⟨b2, rfl, n2⟩ := h2
  have f2 : w.heap.size ≤ b2 := Nat.le_trans U.size n2.fresh
  replace U := U.tr n2.up
  have k2 := n2.blk
  refine l_step y_assignC ?_
  refine l_nil ?_
  refine hK1 _ _ ?_
  refine fg2 0 3 (gS rfl (gS rfl g0)) (gS rfl g0) (fun g => ?_)
  refine c_seq (fun K3 hK3 => ?_)
  refine c_region ?_
  refine l_step (y_moveV (et (gS rfl g0) rfl)) ?_
  refine l_step (y_conv Hvaa.underlying21 Hvaa.underlying60 (et g0 rfl) (wrapU_id uk32 ?_)) ?_
  omega
  refine l_step (y_conv Hvaa.underlying60 Hvaa.underlying26 (et g0 rfl) (wrapU_id uk64 ?_)) ?_
  omega
  refine l_eff (e_callV cal_350 (aC (v := .int .u64 ((2611923443488327891 : Nat) : Int)) rfl (aC (et g0 rfl) aN)) (v_fold _ _ _ (by decide) hi64)) (fun v4 w4 h4 => ?_)
  obtain ⟨rfl, u4⟩ := h4
  replace k2 := k2.up u4
  replace U := U.tr u4
  refine l_step (y_assignV (et g0 rfl)) ?_
  refine l_nil ?_
  refine hK3 _ _ ?_
  refine fg2 3 5 (gS rfl (gS rfl (gS rfl (gS rfl (gS rfl g0))))) g0 (fun g => ?_)
  refine c_seq (fun K5 hK5 => ?_)
  refine c_seq (fun K6 hK6 => ?_)
  refine c_region ?_
  refine l_step (y_loadB agg_65 sz_65 (et (gS rfl g0) rfl) (by first | (simp only [Value.cells, hV, aV, bV, wV, wL, List.size_toArray, length_bL, length_uL, length_be, size_spl, List.length_cons, List.length_nil, List.length_replicate, Nat.zero_add, Nat.reduceAdd, Nat.reduceLeDiff, Nat.le_refl]; done) | rfl) (at1B k2)) ?_
  refine l_step y_moveC ?_
  refine l_nil ?_
  refine hK6 _ _ ?_
  refine fg3 5 12 13 (gS rfl (gS rfl g0)) (gS rfl g0) g0 (fun g => ?_)
  refine c_block (fun Q7 hQ7 => ?_)
  refine fg3 5 12 13 (gS rfl (gS rfl g0)) (gS rfl g0) g0 (fun g => ?_)
  refine c_loop (fun k_ s_ W8 => ∃ (g : Nat → Value) (n : Nat), s_ = (upd (upd (upd g 5 (.int .u64 (mixP i k n : Nat))) 12 (wV k)) 13 (.int .i64 (n : Nat))) ∧ 4 - n = k_ ∧ (n ≤ 4) ∧ Ch (fun k => False) w4 W8) (4 - (0)) ?_ ?_
  · exact ⟨g, 0, rfl, rfl, Nat.zero_le _, Ch.refl _ _⟩
  · skip
    intro k_ s_ W8 hI K8 hK8
    obtain ⟨g, n, rfl, rfl, hn, V8⟩ := hI
    replace k2 := k2.ch V8 (by exact fun h => h)
    replace U := U.cc V8 (by intro b hb; first | exact hb.elim | omega | (simp at hb ⊢; omega))
    refine c_seq (fun K9 hK9 => ?_)
    refine c_region ?_
    refine l_step (y_lss (et g0 rfl) rfl) ?_
    refine l_nil ?_
    refine hK9 _ _ ?_
    refine c_seq (fun K10 hK10 => ?_)
    refine c_cond (et g0 rfl) (fun cB1 => ?_) (fun cB1 => ?_)
    · skip
      
      have hnl : n < 4 := by have := of_decide_eq_true cB1; omega
      refine c_skip ?_
      refine hK10 _ _ ?_
      refine fg3 5 12 13 (gS rfl (gS rfl (gS rfl g0))) (gS rfl (gS rfl g0)) (gS rfl g0) (fun g => ?_)
      refine c_seq (fun K12 hK12 => ?_)
      refine c_block (fun Q13 hQ13 => ?_)
      refine c_seq (fun K14 hK14 => ?_)
      refine c_region ?_
      refine l_step (y_idxV (et (gS rfl g0) rfl) (et g0 rfl) (fun w => idx65 w k n hnl)) ?_
      refine l_step (y_assignV (et g0 rfl)) ?_
      refine l_nil ?_
      refine hK14 _ _ ?_
      refine fg4 5 12 13 7 (gS rfl (gS rfl (gS rfl (gS rfl g0)))) (gS rfl (gS rfl (gS rfl g0))) (gS rfl (gS rfl g0)) g0 (fun g => ?_)
      refine c_region ?_
      refine l_step (y_moveV (et (gS rfl (gS rfl (gS rfl g0))) rfl)) ?_
      refine l_step (y_moveV (et (gS rfl g0) rfl)) ?_
      refine l_eff (e_callV cal_350 (aC (et (gS rfl g0) rfl) (aC (et g0 rfl) aN)) (v_fold _ _ _ (mixP_lt hi64 n) (limb_lt k n))) (fun v15 w15 h15 => ?_)
      obtain ⟨rfl, u15⟩ := h15
      replace k2 := k2.up u15
      replace U := U.tr u15
      replace V8 := V8.tr u15
      refine l_step (y_assignV (et g0 rfl)) ?_
      refine l_nil ?_
      refine hQ13 _ _ _ (in_normal ?_)
      refine hK12 _ _ ?_
      refine fg3 5 12 13 g0 (gS rfl (gS rfl (gS rfl (gS rfl (gS rfl (gS rfl g0)))))) (gS rfl (gS rfl (gS rfl (gS rfl (gS rfl g0))))) (fun g => ?_)
      refine c_region ?_
      refine l_step (y_add (et g0 rfl) rfl (addIN (y := 1) ?_)) ?_
      omega
      refine l_step (y_moveV (et g0 rfl)) ?_
      refine l_nil ?_
      refine fK3 5 12 13 (gS rfl (gS rfl (gS rfl (gS rfl g0)))) (gS rfl (gS rfl (gS rfl g0))) g0 (fun g => ?_)
      exact hK8 (4 - ((n + 1))) _ _ (by omega) ⟨g, (n + 1), rfl, rfl, by omega, V8⟩
    · skip
      
      have hnl : n = 4 := by have := of_decide_eq_false cB1; omega
      subst hnl
      refine c_exit ?_
      refine hQ7 _ _ _ (in_exit ?_)
      refine hK5 _ _ ?_
      refine fg1 5 (gS rfl (gS rfl (gS rfl g0))) (fun g => ?_)
      refine c_seq (fun K16 hK16 => ?_)
      refine c_region ?_
      refine l_step (y_moveV (et g0 rfl)) ?_
      refine l_eff (e_callV cal_350 (aC (et g0 rfl) (aC (v := .int .u64 ((1376283091369227076 : Nat) : Int)) rfl aN)) (v_fold _ _ _ (mixP_lt hi64 4) (by decide))) (fun v17 w17 h17 => ?_)
      obtain ⟨rfl, u17⟩ := h17
      replace k2 := k2.up u17
      replace U := U.tr u17
      refine l_step (y_assignV (et g0 rfl)) ?_
      refine l_nil ?_
      refine hK16 _ _ ?_
      refine fg1 4 g0 (fun g => ?_)
      refine c_ret ?_
      refine ret1 rfl (res_tmp (et g0 rfl)) ?_
      exact ⟨rfl, U⟩
theorem v_slotHome (i k : Nat) (w : World) (hi : i < 2147483648) :
    Ret 240 [.int .i32 i, wV k] w (fun v w' => v = .int .u32 (sHomeR i k : Nat) ∧ Up w w') := by
  refine enter (n := 10) Hvaa.func240 rfl rfl (Nat.le_of_ble_eq_true rfl) ?_
  have U := Up.refl w
  refine c_seq (fun K1 hK1 => ?_)
  refine c_region ?_
  refine l_eff (e_boxV (et (gS rfl g0) rfl)) (fun v2 w2 h2 => ?_)
  obtain ⟨b2, rfl, n2⟩ := h2
  have f2 : w.heap.size ≤ b2 := Nat.le_trans U.size n2.fresh
  replace U := U.tr n2.up
  have k2 := n2.blk
  refine l_step y_assignC ?_
  refine l_nil ?_
  refine hK1 _ _ ?_
  refine fg2 0 3 (gS rfl (gS rfl g0)) (gS rfl g0) (fun g => ?_)
  refine c_seq (fun K3 hK3 => ?_)
  refine c_region ?_
  refine l_step (y_moveV (et (gS rfl g0) rfl)) ?_
  refine l_step (y_loadB agg_65 sz_65 (et (gS rfl g0) rfl) (by first | (simp only [Value.cells, hV, aV, bV, wV, wL, List.size_toArray, length_bL, length_uL, length_be, size_spl, List.length_cons, List.length_nil, List.length_replicate, Nat.zero_add, Nat.reduceAdd, Nat.reduceLeDiff, Nat.le_refl]; done) | rfl) (at1B k2)) ?_
  refine l_eff (e_callV cal_351 (aC (et (gS rfl g0) rfl) (aC (et g0 rfl) aN)) (v_mixSlot _ _ _ hi)) (fun v4 w4 h4 => ?_)
  obtain ⟨rfl, u4⟩ := h4
  replace k2 := k2.up u4
  replace U := U.tr u4
  refine l_step (y_rem (et g0 rfl) rfl (by decide) (remN (b := 4096))) ?_
  refine l_step (y_conv Hvaa.underlying26 Hvaa.underlying60 (et g0 rfl) (wrapU_id uk32 ?_)) ?_
  omega
  refine l_step (y_assignV (et g0 rfl)) ?_
  refine l_nil ?_
  refine hK3 _ _ ?_
  refine fg1 4 g0 (fun g => ?_)
  refine c_ret ?_
  refine ret1 rfl (res_tmp (et g0 rfl)) ?_
  exact ⟨rfl, U⟩
/-- the home of a key, shut: a turn along an equation of types that no unfolding takes away -/
def PA1 (f : Nat → Nat) : Prop := f = aHomeR
def PA2 (f : Nat → Nat) : Prop := ∀ a, f a = aHomeR a
def PS1 (f : Nat → Nat → Nat) : Prop := f = sHomeR
def PS2 (f : Nat → Nat → Nat) : Prop := ∀ i k, f i k = sHomeR i k
def PT1 (f : Nat → Nat → Nat) : Prop := f = tHomeR
def PT2 (f : Nat → Nat → Nat) : Prop := ∀ i k, f i k = tHomeR i k
theorem pa_eq : PA1 = PA2 := funext fun f => propext ⟨fun h a => by rw [show f = aHomeR from h], fun h => funext h⟩
theorem ps_eq : PS1 = PS2 := funext fun f => propext ⟨fun h a b => by rw [show f = sHomeR from h], fun h => funext fun a => funext (h a)⟩
theorem pt_eq : PT1 = PT2 := funext fun f => propext ⟨fun h a b => by rw [show f = tHomeR from h], fun h => funext fun a => funext (h a)⟩
def aHomeS : Subtype PA2 := pa_eq ▸ (⟨aHomeR, rfl⟩ : Subtype PA1)
def sHomeS : Subtype PS2 := ps_eq ▸ (⟨sHomeR, rfl⟩ : Subtype PS1)
def tHomeS : Subtype PT2 := pt_eq ▸ (⟨tHomeR, rfl⟩ : Subtype PT1)
def aHome (a : Nat) : Nat := aHomeS.1 a
def sHome (i k : Nat) : Nat := sHomeS.1 i k
def tHome (i k : Nat) : Nat := tHomeS.1 i k
theorem aHome_eq (a : Nat) : aHome a = aHomeR a := aHomeS.2 a
theorem sHome_eq (i k : Nat) : sHome i k = sHomeR i k := sHomeS.2 i k
theorem tHome_eq (i k : Nat) : tHome i k = tHomeR i k := tHomeS.2 i k
theorem aHome_lt (a : Nat) : aHome a < 4096 := by rw [aHome_eq]; exact Nat.mod_lt _ (by decide)
theorem sHome_lt (i k : Nat) : sHome i k < 4096 := by rw [sHome_eq]; exact Nat.mod_lt _ (by decide)
theorem tHome_lt (i k : Nat) : tHome i k < 16384 := by rw [tHome_eq]; exact Nat.mod_lt _ (by decide)
theorem v_acctHome' (a : Nat) (w : World) (ha : a < A160) : Ret 239 [aV a] w (fun v w' => ∃ h : Nat, v = .int .u32 (h : Nat) ∧ h = aHome a ∧ h < 4096 ∧ Up w w') := (v_acctHome a w ha).mono fun v w' ⟨h1, h2⟩ => ⟨_, h1, (aHome_eq a).symm, by rw [← aHome_eq]; exact aHome_lt a, h2⟩
theorem v_slotHome' (i k : Nat) (w : World) (hi : i < 2147483648) : Ret 240 [.int .i32 i, wV k] w (fun v w' => ∃ h : Nat, v = .int .u32 (h : Nat) ∧ h = sHome i k ∧ h < 4096 ∧ Up w w') := (v_slotHome i k w hi).mono fun v w' ⟨h1, h2⟩ => ⟨_, h1, (sHome_eq i k).symm, by rw [← sHome_eq]; exact sHome_lt i k, h2⟩
theorem v_mixSlot' (i k : Nat) (w : World) (hi : i < 2147483648) : Ret 351 [.int .i32 i, wV k] w (fun v w' => ∃ h : Nat, v = .int .u64 (h : Nat) ∧ h % 16384 = tHome i k ∧ h < 18446744073709551616 ∧ Up w w') := (v_mixSlot i k w hi).mono fun v w' ⟨h1, h2⟩ => ⟨_, h1, (tHome_eq i k).symm, mixN_lt (by omega), h2⟩
end Go.Proofs.YgvaawGreat
