import Derived.Test.YgvaawGreatG1
set_option maxRecDepth 100000
set_option maxHeartbeats 4000000
set_option linter.unusedSimpArgs false
set_option linter.unusedVariables false
namespace Go.Proofs.YgvaawGreat
open Go
theorem g_top1 {w : World} {col : Nat → Nat} {bc : Nat} {cs : Array Value} {low : List (List Nat)} {m : List Nat} {bm : Nat} {cm : Array Value} {n : Nat} (kC : Blk w bc cs) (hM : MA w col cs (low ++ [m]) bm cm n) (hcC : col bc = 1) {cap : Nat} (hbf : cs[1]? = some (.slice (some ⟨bm, 0, none⟩) n cap)) (hcap : n ≤ cap) :
    Ret 363 [.pointer (some ⟨bc, 1, none⟩)] w (fun v w' => ∃ a, v = .tuple #[.slice a m.length m.length, .bool true] ∧ (0 < m.length → a = some ⟨bm, low.flatten.length, none⟩) ∧ Up w w') := by
  have htp : cs[10]? = some (.int .u8 (low.length + 1 : Nat)) := by have h9 := hM.tp; rw [List.length_append, List.length_singleton] at h9; exact h9
  have hlo : cs[2 + low.length]? = some (.int .u32 (low.flatten.length : Nat)) := by have h9 := hM.bs low.length (by simp); rw [bsN_low] at h9; exact h9
  have hhi : cs[2 + (low.length + 1)]? = some (.int .u32 (low.flatten.length + m.length : Nat)) := by have h9 := hM.bs (low.length + 1) (by simp); rw [bsN_top] at h9; exact h9
  have hln : low.length + 1 ≤ 7 := by have h9 := hM.ln; rw [List.length_append, List.length_singleton] at h9; exact h9
  have hfl : low.flatten.length + m.length ≤ n := by have h9 := hM.le; rw [flat_snoc, List.length_append] at h9; exact h9
  have hnb := hM.nb
  have hmx : m.length ≤ 717280 := hM.mx m (by simp)
  refine enter (n := 59) Hvaa.func363 rfl rfl (Nat.le_of_ble_eq_true rfl) ?_
  have U := Up.refl w
  refine c_seq (fun K1 hK1 => ?_)
  exact (by
    refine c_region ?_
    refine l_step y_assignC ?_
    refine l_step y_assignC ?_
    refine l_nil ?_
    refine hK1 _ _ ?_
    refine fg1 0 (gS rfl (gS rfl g0)) (fun g => ?_)
    refine c_seq (fun K2 hK2 => ?_)
    refine c_seq (fun K3 hK3 => ?_)
    exact (by
      refine c_region ?_
      refine l_step (y_moveV (et g0 rfl)) ?_
      refine l_step (y_nil (et g0 rfl)) ?_
      refine l_step (y_fld fld_63_2 (et g0 rfl)) ?_
      refine l_step (y_load1 one_5 (et g0 rfl) (at1 (kC.c1 htp rfl))) ?_
      refine l_step (y_eql (et g0 rfl) rfl) ?_
      refine l_step (y_moveV (et g0 rfl)) ?_
      refine gsplitL (i := 11) g0 (fun q4 => ?_) (fun q4 => ?_)
      · skip
        exact absurd (of_decide_eq_true q4) (by omega)
      · skip
        refine l_gstep (j := 5) (t := 11) (by exact rfl) (by exact rfl) (et g0 rfl) (by decide) (y_moveV (et (gS rfl (gS rfl (gS rfl (gS rfl (gS rfl (gS rfl (gS rfl g0))))))) rfl)) ?_
        refine l_gstep (j := 5) (t := 11) (by exact rfl) (by exact rfl) (et (gS rfl g0) rfl) (by decide) (y_nil (et g0 rfl)) ?_
        refine l_gstep (j := 5) (t := 11) (by exact rfl) (by exact rfl) (et (gS rfl (gS rfl g0)) rfl) (by decide) (y_fld fld_63_2 (et g0 rfl)) ?_
        refine l_gstep (j := 5) (t := 11) (by exact rfl) (by exact rfl) (et (gS rfl (gS rfl (gS rfl g0))) rfl) (by decide) (y_load1 one_5 (et g0 rfl) (at1 (kC.c1 htp rfl))) ?_
        refine l_gstep (j := 5) (t := 11) (by exact rfl) (by exact rfl) (et (gS rfl (gS rfl (gS rfl (gS rfl g0)))) rfl) (by decide) (y_gtr (et g0 rfl) rfl) ?_
        refine l_step (y_pickF (et (gS rfl (gS rfl (gS rfl (gS rfl (gS rfl g0))))) rfl) (et g0 rfl)) ?_
        refine l_nil ?_
        refine hK3 _ _ ?_
        refine fg2 0 17 (gS rfl (gS rfl (gS rfl (gS rfl (gS rfl (gS rfl (gS rfl (gS rfl (gS rfl (gS rfl (gS rfl (gS rfl (gS rfl g0))))))))))))) g0 (fun g => ?_)
        refine c_false (et g0 rfl) (by (exact decide_eq_false (by omega))) ?_
        refine c_skip ?_
        refine hK2 _ _ ?_
        refine fg1 0 (gS rfl g0) (fun g => ?_)
        refine c_seq (fun K6 hK6 => ?_)
        exact (by
          refine c_draw Up 11 [(0, true), (1, true), (2, true), (3, true), (4, true), (5, true), (6, true), (7, true), (8, true), (9, true), (10, true)] (by kernel_rfl) (fun w7 hu => ⟨Up.refl _, ?_⟩)
          replace kC := kC.up hu
          replace hM := hM.up hu
          replace U := U.tr hu
          have SU := Up.refl w7
          refine p_step (by exact rfl) (y_moveV (et g0 rfl)) ?_
          refine p_step (by exact rfl) (y_moveV (et (gS rfl g0) rfl)) ?_
          refine p_step (by exact rfl) (y_nil (et g0 rfl)) ?_
          refine p_step (by exact rfl) (y_fld fld_63_2 (et g0 rfl)) ?_
          refine p_step (by exact rfl) (y_load1 one_5 (et g0 rfl) (atS (kC.c1 htp rfl))) ?_
          refine p_step (by exact rfl) (y_sub (et g0 rfl) rfl (wrapU_subN (b := 1) uk8 ?_ ?_)) ?_
          omega
          omega
          refine p_step (by exact rfl) (y_nil (et (gS rfl (gS rfl (gS rfl (gS rfl (gS rfl g0))))) rfl)) ?_
          refine p_step (by exact rfl) (y_fld fld_63_1 (et g0 rfl)) ?_
          refine p_step (by exact rfl) (y_idxA Hvaa.underlying61 sz_60 (et g0 rfl) (et (gS rfl (gS rfl g0)) rfl) ?_ ?_) ?_
          omega
          omega
          refine p_step (by exact rfl) (y_load1 one_60 (et g0 rfl) (atS (kC.c1 hlo (by omega)))) ?_
          refine p_step (by exact rfl) (y_assignV (et g0 rfl)) ?_
          refine p_nil ?_
          refine hK6 _ _ ?_
          refine fg2 0 4 (gS rfl (gS rfl (gS rfl (gS rfl (gS rfl (gS rfl (gS rfl (gS rfl (gS rfl (gS rfl (gS rfl g0))))))))))) g0 (fun g => ?_)
          refine c_seq (fun K8 hK8 => ?_)
          exact (by
            refine c_draw Up 10 [(0, true), (1, true), (2, true), (3, true), (4, true), (5, true), (6, true), (7, true), (8, true), (9, true)] (by kernel_rfl) (fun w9 hu => ⟨Up.refl _, ?_⟩)
            replace kC := kC.up hu
            replace hM := hM.up hu
            replace U := U.tr hu
            have SU := Up.refl w9
            refine p_step (by exact rfl) (y_moveV (et (gS rfl g0) rfl)) ?_
            refine p_step (by exact rfl) (y_moveV (et (gS rfl (gS rfl g0)) rfl)) ?_
            refine p_step (by exact rfl) (y_nil (et g0 rfl)) ?_
            refine p_step (by exact rfl) (y_fld fld_63_2 (et g0 rfl)) ?_
            refine p_step (by exact rfl) (y_load1 one_5 (et g0 rfl) (atS (kC.c1 htp rfl))) ?_
            refine p_step (by exact rfl) (y_nil (et (gS rfl (gS rfl (gS rfl (gS rfl g0)))) rfl)) ?_
            refine p_step (by exact rfl) (y_fld fld_63_1 (et g0 rfl)) ?_
            refine p_step (by exact rfl) (y_idxA Hvaa.underlying61 sz_60 (et g0 rfl) (et (gS rfl (gS rfl g0)) rfl) ?_ ?_) ?_
            omega
            omega
            refine p_step (by exact rfl) (y_load1 one_60 (et g0 rfl) (atS (kC.c1 hhi (by omega)))) ?_
            refine p_step (by exact rfl) (y_assignV (et g0 rfl)) ?_
            refine p_nil ?_
            refine hK8 _ _ ?_
            refine fg3 0 4 5 (gS rfl (gS rfl (gS rfl (gS rfl (gS rfl (gS rfl (gS rfl (gS rfl (gS rfl (gS rfl (gS rfl g0))))))))))) (gS rfl (gS rfl (gS rfl (gS rfl (gS rfl (gS rfl (gS rfl (gS rfl (gS rfl (gS rfl g0)))))))))) g0 (fun g => ?_)
            refine c_seq (fun K10 hK10 => ?_)
            refine c_seq (fun K11 hK11 => ?_)
            exact (by
              refine c_region ?_
              refine l_step (y_moveV (et (gS rfl g0) rfl)) ?_
              refine l_step (y_moveV (et (gS rfl g0) rfl)) ?_
              refine l_step (y_gtr (et (gS rfl g0) rfl) (et g0 rfl)) ?_
              refine l_step (y_moveV (et g0 rfl)) ?_
              refine gsplitL (i := 40) g0 (fun q12 => ?_) (fun q12 => ?_)
              · skip
                exact absurd (of_decide_eq_true q12) (by omega)
              · skip
                refine l_gstep (j := 3) (t := 40) (by exact rfl) (by exact rfl) (et g0 rfl) (by decide) (y_moveV (et (gS rfl (gS rfl (gS rfl (gS rfl (gS rfl g0))))) rfl)) ?_
                refine l_gstep (j := 3) (t := 40) (by exact rfl) (by exact rfl) (et (gS rfl g0) rfl) (by decide) (y_conv Hvaa.underlying60 Hvaa.underlying26 (et g0 rfl) (wrapU_id uk64 ?_)) ?_
                omega
                refine l_gstep (j := 3) (t := 40) (by exact rfl) (by exact rfl) (et (gS rfl (gS rfl g0)) rfl) (by decide) (y_moveV (et (gS rfl (gS rfl (gS rfl (gS rfl (gS rfl (gS rfl (gS rfl (gS rfl (gS rfl g0))))))))) rfl)) ?_
                refine l_gstep (j := 3) (t := 40) (by exact rfl) (by exact rfl) (et (gS rfl (gS rfl (gS rfl g0))) rfl) (by decide) (y_nil (et g0 rfl)) ?_
                refine l_gstep (j := 3) (t := 40) (by exact rfl) (by exact rfl) (et (gS rfl (gS rfl (gS rfl (gS rfl g0)))) rfl) (by decide) (y_fld fld_63_0 (et g0 rfl)) ?_
                refine l_gstep (j := 3) (t := 40) (by exact rfl) (by exact rfl) (et (gS rfl (gS rfl (gS rfl (gS rfl (gS rfl g0))))) rfl) (by decide) (y_load1 one_38 (et g0 rfl) (at1 (kC.c1 hbf rfl))) ?_
                refine l_gstep (j := 3) (t := 40) (by exact rfl) (by exact rfl) (et (gS rfl (gS rfl (gS rfl (gS rfl (gS rfl (gS rfl g0)))))) rfl) (by decide) (y_len Hvaa.underlying38 (et g0 rfl)) ?_
                refine l_gstep (j := 3) (t := 40) (by exact rfl) (by exact rfl) (et (gS rfl (gS rfl (gS rfl (gS rfl (gS rfl (gS rfl (gS rfl g0))))))) rfl) (by decide) (y_conv Hvaa.underlying3 Hvaa.underlying26 (et g0 rfl) (wrapU_id uk64 ?_)) ?_
                omega
                refine l_gstep (j := 3) (t := 40) (by exact rfl) (by exact rfl) (et (gS rfl (gS rfl (gS rfl (gS rfl (gS rfl (gS rfl (gS rfl (gS rfl g0)))))))) rfl) (by decide) (y_gtr (et (gS rfl (gS rfl (gS rfl (gS rfl (gS rfl (gS rfl g0)))))) rfl) (et g0 rfl)) ?_
                refine l_step (y_pickF (et (gS rfl (gS rfl (gS rfl (gS rfl (gS rfl (gS rfl (gS rfl (gS rfl (gS rfl g0))))))))) rfl) (et g0 rfl)) ?_
                refine l_nil ?_
                refine hK11 _ _ ?_
                refine fg4 0 4 5 50 (gS rfl (gS rfl (gS rfl (gS rfl (gS rfl (gS rfl (gS rfl (gS rfl (gS rfl (gS rfl (gS rfl (gS rfl (gS rfl (gS rfl (gS rfl (gS rfl (gS rfl g0))))))))))))))))) (gS rfl (gS rfl (gS rfl (gS rfl (gS rfl (gS rfl (gS rfl (gS rfl (gS rfl (gS rfl (gS rfl (gS rfl (gS rfl (gS rfl (gS rfl (gS rfl g0)))))))))))))))) (gS rfl (gS rfl (gS rfl (gS rfl (gS rfl (gS rfl (gS rfl (gS rfl (gS rfl (gS rfl (gS rfl (gS rfl (gS rfl (gS rfl (gS rfl g0))))))))))))))) g0 (fun g => ?_)
                refine c_false (et g0 rfl) (by (exact decide_eq_false (by omega))) ?_
                refine c_skip ?_
                refine hK10 _ _ ?_
                refine fg3 0 4 5 (gS rfl (gS rfl (gS rfl g0))) (gS rfl (gS rfl g0)) (gS rfl g0) (fun g => ?_)
                refine c_seq (fun K14 hK14 => ?_)
                exact (by
                  refine c_region ?_
                  refine l_step (y_moveV (et (gS rfl (gS rfl g0)) rfl)) ?_
                  refine l_step (y_nil (et g0 rfl)) ?_
                  refine l_step (y_fld fld_63_0 (et g0 rfl)) ?_
                  refine l_step (y_load1 one_38 (et g0 rfl) (at1 (kC.c1 hbf rfl))) ?_
                  refine l_step (y_moveV (et (gS rfl (gS rfl (gS rfl (gS rfl (gS rfl g0))))) rfl)) ?_
                  refine l_step (y_moveV (et (gS rfl (gS rfl (gS rfl (gS rfl (gS rfl g0))))) rfl)) ?_
                  refine l_step (y_moveV (et (gS rfl (gS rfl (gS rfl (gS rfl (gS rfl (gS rfl g0)))))) rfl)) ?_
                  refine l_step (y_slS111g Hvaa.underlying38 sz_5 (et (gS rfl (gS rfl (gS rfl g0))) rfl) (et (gS rfl (gS rfl g0)) rfl) (et (gS rfl g0) rfl) (et g0 rfl) ?_ ?_ ?_ ?_ ?_ ?_) ?_
                  omega
                  omega
                  omega
                  omega
                  omega
                  omega
                  refine l_step (y_assignV (et g0 rfl)) ?_
                  refine l_step y_assignC ?_
                  refine l_nil ?_
                  refine hK14 _ _ ?_
                  refine fg2 2 3 (gS rfl g0) g0 (fun g => ?_)
                  refine c_ret ?_
                  repeat with_reducible refine then_ret ?_
                  refine ret2 rfl (res_tmp (et (gS rfl g0) rfl)) (res_tmp (et g0 rfl)) ?_
                  have e1 : (((low.flatten.length + m.length : Nat) : Int)).toNat - (((low.flatten.length : Nat) : Int)).toNat = m.length := by omega
                  refine ⟨_, congrArg (fun q : Nat => Value.tuple #[Value.slice _ q q, Value.bool true]) e1, fun h9 => ?_, U⟩
                  rw [if_neg (by omega)]
                  simp only [Int.toNat_natCast, Nat.mul_one, Nat.zero_add]))))))
theorem g_top0 {w : World} {col : Nat → Nat} {bc : Nat} {cs : Array Value} {low : List (List Nat)} {m : List Nat} {bm : Nat} {cm : Array Value} {n : Nat} (kC : Blk w bc cs) (hM : MA w col cs (low ++ [m]) bm cm n) (hcC : col bc = 1) (hbf : cs[1]? = some (.slice none 0 0)) (hn0 : n = 0) :
    Ret 363 [.pointer (some ⟨bc, 1, none⟩)] w (fun v w' => ∃ a, v = .tuple #[.slice a m.length m.length, .bool true] ∧ (0 < m.length → a = some ⟨bm, low.flatten.length, none⟩) ∧ Up w w') := by
  have htp : cs[10]? = some (.int .u8 (low.length + 1 : Nat)) := by have h9 := hM.tp; rw [List.length_append, List.length_singleton] at h9; exact h9
  have hlo : cs[2 + low.length]? = some (.int .u32 (low.flatten.length : Nat)) := by have h9 := hM.bs low.length (by simp); rw [bsN_low] at h9; exact h9
  have hhi : cs[2 + (low.length + 1)]? = some (.int .u32 (low.flatten.length + m.length : Nat)) := by have h9 := hM.bs (low.length + 1) (by simp); rw [bsN_top] at h9; exact h9
  have hln : low.length + 1 ≤ 7 := by have h9 := hM.ln; rw [List.length_append, List.length_singleton] at h9; exact h9
  have hfl : low.flatten.length + m.length ≤ n := by have h9 := hM.le; rw [flat_snoc, List.length_append] at h9; exact h9
  have hnb := hM.nb
  have hmx : m.length ≤ 717280 := hM.mx m (by simp)
  refine enter (n := 59) Hvaa.func363 rfl rfl (Nat.le_of_ble_eq_true rfl) ?_
  have U := Up.refl w
  refine c_seq (fun K1 hK1 => ?_)
  exact (by
    refine c_region ?_
    refine l_step y_assignC ?_
    refine l_step y_assignC ?_
    refine l_nil ?_
    refine hK1 _ _ ?_
    refine fg1 0 (gS rfl (gS rfl g0)) (fun g => ?_)
    refine c_seq (fun K2 hK2 => ?_)
    refine c_seq (fun K3 hK3 => ?_)
    exact (by
      refine c_region ?_
      refine l_step (y_moveV (et g0 rfl)) ?_
      refine l_step (y_nil (et g0 rfl)) ?_
      refine l_step (y_fld fld_63_2 (et g0 rfl)) ?_
      refine l_step (y_load1 one_5 (et g0 rfl) (at1 (kC.c1 htp rfl))) ?_
      refine l_step (y_eql (et g0 rfl) rfl) ?_
      refine l_step (y_moveV (et g0 rfl)) ?_
      refine gsplitL (i := 11) g0 (fun q4 => ?_) (fun q4 => ?_)
      · skip
        exact absurd (of_decide_eq_true q4) (by omega)
      · skip
        refine l_gstep (j := 5) (t := 11) (by exact rfl) (by exact rfl) (et g0 rfl) (by decide) (y_moveV (et (gS rfl (gS rfl (gS rfl (gS rfl (gS rfl (gS rfl (gS rfl g0))))))) rfl)) ?_
        refine l_gstep (j := 5) (t := 11) (by exact rfl) (by exact rfl) (et (gS rfl g0) rfl) (by decide) (y_nil (et g0 rfl)) ?_
        refine l_gstep (j := 5) (t := 11) (by exact rfl) (by exact rfl) (et (gS rfl (gS rfl g0)) rfl) (by decide) (y_fld fld_63_2 (et g0 rfl)) ?_
        refine l_gstep (j := 5) (t := 11) (by exact rfl) (by exact rfl) (et (gS rfl (gS rfl (gS rfl g0))) rfl) (by decide) (y_load1 one_5 (et g0 rfl) (at1 (kC.c1 htp rfl))) ?_
        refine l_gstep (j := 5) (t := 11) (by exact rfl) (by exact rfl) (et (gS rfl (gS rfl (gS rfl (gS rfl g0)))) rfl) (by decide) (y_gtr (et g0 rfl) rfl) ?_
        refine l_step (y_pickF (et (gS rfl (gS rfl (gS rfl (gS rfl (gS rfl g0))))) rfl) (et g0 rfl)) ?_
        refine l_nil ?_
        refine hK3 _ _ ?_
        refine fg2 0 17 (gS rfl (gS rfl (gS rfl (gS rfl (gS rfl (gS rfl (gS rfl (gS rfl (gS rfl (gS rfl (gS rfl (gS rfl (gS rfl g0))))))))))))) g0 (fun g => ?_)
        refine c_false (et g0 rfl) (by (exact decide_eq_false (by omega))) ?_
        refine c_skip ?_
        refine hK2 _ _ ?_
        refine fg1 0 (gS rfl g0) (fun g => ?_)
        refine c_seq (fun K6 hK6 => ?_)
        exact (by
          refine c_draw Up 11 [(0, true), (1, true), (2, true), (3, true), (4, true), (5, true), (6, true), (7, true), (8, true), (9, true), (10, true)] (by kernel_rfl) (fun w7 hu => ⟨Up.refl _, ?_⟩)
          replace kC := kC.up hu
          replace hM := hM.up hu
          replace U := U.tr hu
          have SU := Up.refl w7
          refine p_step (by exact rfl) (y_moveV (et g0 rfl)) ?_
          refine p_step (by exact rfl) (y_moveV (et (gS rfl g0) rfl)) ?_
          refine p_step (by exact rfl) (y_nil (et g0 rfl)) ?_
          refine p_step (by exact rfl) (y_fld fld_63_2 (et g0 rfl)) ?_
          refine p_step (by exact rfl) (y_load1 one_5 (et g0 rfl) (atS (kC.c1 htp rfl))) ?_
          refine p_step (by exact rfl) (y_sub (et g0 rfl) rfl (wrapU_subN (b := 1) uk8 ?_ ?_)) ?_
          omega
          omega
          refine p_step (by exact rfl) (y_nil (et (gS rfl (gS rfl (gS rfl (gS rfl (gS rfl g0))))) rfl)) ?_
          refine p_step (by exact rfl) (y_fld fld_63_1 (et g0 rfl)) ?_
          refine p_step (by exact rfl) (y_idxA Hvaa.underlying61 sz_60 (et g0 rfl) (et (gS rfl (gS rfl g0)) rfl) ?_ ?_) ?_
          omega
          omega
          refine p_step (by exact rfl) (y_load1 one_60 (et g0 rfl) (atS (kC.c1 hlo (by omega)))) ?_
          refine p_step (by exact rfl) (y_assignV (et g0 rfl)) ?_
          refine p_nil ?_
          refine hK6 _ _ ?_
          refine fg2 0 4 (gS rfl (gS rfl (gS rfl (gS rfl (gS rfl (gS rfl (gS rfl (gS rfl (gS rfl (gS rfl (gS rfl g0))))))))))) g0 (fun g => ?_)
          refine c_seq (fun K8 hK8 => ?_)
          exact (by
            refine c_draw Up 10 [(0, true), (1, true), (2, true), (3, true), (4, true), (5, true), (6, true), (7, true), (8, true), (9, true)] (by kernel_rfl) (fun w9 hu => ⟨Up.refl _, ?_⟩)
            replace kC := kC.up hu
            replace hM := hM.up hu
            replace U := U.tr hu
            have SU := Up.refl w9
            refine p_step (by exact rfl) (y_moveV (et (gS rfl g0) rfl)) ?_
            refine p_step (by exact rfl) (y_moveV (et (gS rfl (gS rfl g0)) rfl)) ?_
            refine p_step (by exact rfl) (y_nil (et g0 rfl)) ?_
            refine p_step (by exact rfl) (y_fld fld_63_2 (et g0 rfl)) ?_
            refine p_step (by exact rfl) (y_load1 one_5 (et g0 rfl) (atS (kC.c1 htp rfl))) ?_
            refine p_step (by exact rfl) (y_nil (et (gS rfl (gS rfl (gS rfl (gS rfl g0)))) rfl)) ?_
            refine p_step (by exact rfl) (y_fld fld_63_1 (et g0 rfl)) ?_
            refine p_step (by exact rfl) (y_idxA Hvaa.underlying61 sz_60 (et g0 rfl) (et (gS rfl (gS rfl g0)) rfl) ?_ ?_) ?_
            omega
            omega
            refine p_step (by exact rfl) (y_load1 one_60 (et g0 rfl) (atS (kC.c1 hhi (by omega)))) ?_
            refine p_step (by exact rfl) (y_assignV (et g0 rfl)) ?_
            refine p_nil ?_
            refine hK8 _ _ ?_
            refine fg3 0 4 5 (gS rfl (gS rfl (gS rfl (gS rfl (gS rfl (gS rfl (gS rfl (gS rfl (gS rfl (gS rfl (gS rfl g0))))))))))) (gS rfl (gS rfl (gS rfl (gS rfl (gS rfl (gS rfl (gS rfl (gS rfl (gS rfl (gS rfl g0)))))))))) g0 (fun g => ?_)
            refine c_seq (fun K10 hK10 => ?_)
            refine c_seq (fun K11 hK11 => ?_)
            exact (by
              refine c_region ?_
              refine l_step (y_moveV (et (gS rfl g0) rfl)) ?_
              refine l_step (y_moveV (et (gS rfl g0) rfl)) ?_
              refine l_step (y_gtr (et (gS rfl g0) rfl) (et g0 rfl)) ?_
              refine l_step (y_moveV (et g0 rfl)) ?_
              refine gsplitL (i := 40) g0 (fun q12 => ?_) (fun q12 => ?_)
              · skip
                exact absurd (of_decide_eq_true q12) (by omega)
              · skip
                refine l_gstep (j := 3) (t := 40) (by exact rfl) (by exact rfl) (et g0 rfl) (by decide) (y_moveV (et (gS rfl (gS rfl (gS rfl (gS rfl (gS rfl g0))))) rfl)) ?_
                refine l_gstep (j := 3) (t := 40) (by exact rfl) (by exact rfl) (et (gS rfl g0) rfl) (by decide) (y_conv Hvaa.underlying60 Hvaa.underlying26 (et g0 rfl) (wrapU_id uk64 ?_)) ?_
                omega
                refine l_gstep (j := 3) (t := 40) (by exact rfl) (by exact rfl) (et (gS rfl (gS rfl g0)) rfl) (by decide) (y_moveV (et (gS rfl (gS rfl (gS rfl (gS rfl (gS rfl (gS rfl (gS rfl (gS rfl (gS rfl g0))))))))) rfl)) ?_
                refine l_gstep (j := 3) (t := 40) (by exact rfl) (by exact rfl) (et (gS rfl (gS rfl (gS rfl g0))) rfl) (by decide) (y_nil (et g0 rfl)) ?_
                refine l_gstep (j := 3) (t := 40) (by exact rfl) (by exact rfl) (et (gS rfl (gS rfl (gS rfl (gS rfl g0)))) rfl) (by decide) (y_fld fld_63_0 (et g0 rfl)) ?_
                refine l_gstep (j := 3) (t := 40) (by exact rfl) (by exact rfl) (et (gS rfl (gS rfl (gS rfl (gS rfl (gS rfl g0))))) rfl) (by decide) (y_load1 one_38 (et g0 rfl) (at1 (kC.c1 hbf rfl))) ?_
                refine l_gstep (j := 3) (t := 40) (by exact rfl) (by exact rfl) (et (gS rfl (gS rfl (gS rfl (gS rfl (gS rfl (gS rfl g0)))))) rfl) (by decide) (y_len Hvaa.underlying38 (et g0 rfl)) ?_
                refine l_gstep (j := 3) (t := 40) (by exact rfl) (by exact rfl) (et (gS rfl (gS rfl (gS rfl (gS rfl (gS rfl (gS rfl (gS rfl g0))))))) rfl) (by decide) (y_conv Hvaa.underlying3 Hvaa.underlying26 (et g0 rfl) (wrapU_id uk64 ?_)) ?_
                omega
                refine l_gstep (j := 3) (t := 40) (by exact rfl) (by exact rfl) (et (gS rfl (gS rfl (gS rfl (gS rfl (gS rfl (gS rfl (gS rfl (gS rfl g0)))))))) rfl) (by decide) (y_gtr (et (gS rfl (gS rfl (gS rfl (gS rfl (gS rfl (gS rfl g0)))))) rfl) (et g0 rfl)) ?_
                refine l_step (y_pickF (et (gS rfl (gS rfl (gS rfl (gS rfl (gS rfl (gS rfl (gS rfl (gS rfl (gS rfl g0))))))))) rfl) (et g0 rfl)) ?_
                refine l_nil ?_
                refine hK11 _ _ ?_
                refine fg4 0 4 5 50 (gS rfl (gS rfl (gS rfl (gS rfl (gS rfl (gS rfl (gS rfl (gS rfl (gS rfl (gS rfl (gS rfl (gS rfl (gS rfl (gS rfl (gS rfl (gS rfl (gS rfl g0))))))))))))))))) (gS rfl (gS rfl (gS rfl (gS rfl (gS rfl (gS rfl (gS rfl (gS rfl (gS rfl (gS rfl (gS rfl (gS rfl (gS rfl (gS rfl (gS rfl (gS rfl g0)))))))))))))))) (gS rfl (gS rfl (gS rfl (gS rfl (gS rfl (gS rfl (gS rfl (gS rfl (gS rfl (gS rfl (gS rfl (gS rfl (gS rfl (gS rfl (gS rfl g0))))))))))))))) g0 (fun g => ?_)
                refine c_false (et g0 rfl) (by (exact decide_eq_false (by omega))) ?_
                refine c_skip ?_
                refine hK10 _ _ ?_
                refine fg3 0 4 5 (gS rfl (gS rfl (gS rfl g0))) (gS rfl (gS rfl g0)) (gS rfl g0) (fun g => ?_)
                refine c_seq (fun K14 hK14 => ?_)
                exact (by
                  refine c_region ?_
                  refine l_step (y_moveV (et (gS rfl (gS rfl g0)) rfl)) ?_
                  refine l_step (y_nil (et g0 rfl)) ?_
                  refine l_step (y_fld fld_63_0 (et g0 rfl)) ?_
                  refine l_step (y_load1 one_38 (et g0 rfl) (at1 (kC.c1 hbf rfl))) ?_
                  refine l_step (y_moveV (et (gS rfl (gS rfl (gS rfl (gS rfl (gS rfl g0))))) rfl)) ?_
                  refine l_step (y_moveV (et (gS rfl (gS rfl (gS rfl (gS rfl (gS rfl g0))))) rfl)) ?_
                  refine l_step (y_moveV (et (gS rfl (gS rfl (gS rfl (gS rfl (gS rfl (gS rfl g0)))))) rfl)) ?_
                  refine l_step (y_slS111z Hvaa.underlying38 sz_5 (et (gS rfl (gS rfl (gS rfl g0))) rfl) (et (gS rfl (gS rfl g0)) rfl) (et (gS rfl g0) rfl) (et g0 rfl) ?_ ?_ ?_) ?_
                  omega
                  omega
                  omega
                  refine l_step (y_assignV (et g0 rfl)) ?_
                  refine l_step y_assignC ?_
                  refine l_nil ?_
                  refine hK14 _ _ ?_
                  refine fg2 2 3 (gS rfl g0) g0 (fun g => ?_)
                  refine c_ret ?_
                  repeat with_reducible refine then_ret ?_
                  refine ret2 rfl (res_tmp (et (gS rfl g0) rfl)) (res_tmp (et g0 rfl)) ?_
                  have hm0 : m.length = 0 := by omega
                  exact ⟨none, by first | (rw [hm0]; done) | (rw [hm0]; rfl), fun h9 => by omega, U⟩))))))
theorem g_top {w : World} {col : Nat → Nat} {bc : Nat} {cs : Array Value} {low : List (List Nat)} {m : List Nat} {bm : Nat} {cm : Array Value} {n : Nat} (kC : Blk w bc cs) (hM : MA w col cs (low ++ [m]) bm cm n) (hcC : col bc = 1) : Ret 363 [.pointer (some ⟨bc, 1, none⟩)] w (fun v w' => ∃ a, v = .tuple #[.slice a m.length m.length, .bool true] ∧ (0 < m.length → a = some ⟨bm, low.flatten.length, none⟩) ∧ Up w w') := by
  obtain ⟨v, h1, h2, h3⟩ := hM.bf
  rcases h2.at' with ⟨rfl, h4⟩ | ⟨cap, rfl, h4, h5, h6, h7⟩
  · exact g_top0 kC hM hcC h1 h4
  · exact g_top1 kC hM hcC h1 h4
theorem g_len {w : World} {col : Nat → Nat} {bc : Nat} {cs : Array Value} {low : List (List Nat)} {m : List Nat} {bm : Nat} {cm : Array Value} {n : Nat} (kC : Blk w bc cs) (hM : MA w col cs (low ++ [m]) bm cm n) (hcC : col bc = 1) :
    Ret 268 [.pointer (some ⟨bc, 1, none⟩)] w (fun v w' => v = .int .u32 (m.length : Nat) ∧ Up w w') := by
  have htp : cs[10]? = some (.int .u8 (low.length + 1 : Nat)) := by have h9 := hM.tp; rw [List.length_append, List.length_singleton] at h9; exact h9
  have hlo : cs[2 + low.length]? = some (.int .u32 (low.flatten.length : Nat)) := by have h9 := hM.bs low.length (by simp); rw [bsN_low] at h9; exact h9
  have hhi : cs[2 + (low.length + 1)]? = some (.int .u32 (low.flatten.length + m.length : Nat)) := by have h9 := hM.bs (low.length + 1) (by simp); rw [bsN_top] at h9; exact h9
  have hln : low.length + 1 ≤ 7 := by have h9 := hM.ln; rw [List.length_append, List.length_singleton] at h9; exact h9
  have hfl : low.flatten.length + m.length ≤ n := by have h9 := hM.le; rw [flat_snoc, List.length_append] at h9; exact h9
  have hnb := hM.nb
  have hmx : m.length ≤ 717280 := hM.mx m (by simp)
  refine enter (n := 13) Hvaa.func268 rfl rfl (Nat.le_of_ble_eq_true rfl) ?_
  have U := Up.refl w
  refine c_seq (fun K1 hK1 => ?_)
  exact (by
    refine c_region ?_
    refine l_step y_assignC ?_
    refine l_nil ?_
    refine hK1 _ _ ?_
    refine fg1 0 (gS rfl g0) (fun g => ?_)
    refine c_seq (fun K2 hK2 => ?_)
    exact (by
      refine c_region ?_
      refine l_step (y_moveV (et g0 rfl)) ?_
      refine l_eff (e_callV cal_363 (aC (et g0 rfl) aN) (g_top kC hM hcC)) (fun v3 w3 h3 => ?_)
      obtain ⟨a9, rfl, ha9, u3⟩ := h3
      replace kC := kC.up u3
      replace hM := hM.up u3
      replace U := U.tr u3
      refine l_step (y_moveV (et g0 rfl)) ?_
      refine l_step (y_ext (et g0 rfl) rfl) ?_
      refine l_step (y_ext (et (gS rfl g0) rfl) rfl) ?_
      refine l_step (y_assignV (et (gS rfl g0) rfl)) ?_
      refine l_step (y_assignV (et (gS rfl g0) rfl)) ?_
      refine l_nil ?_
      refine hK2 _ _ ?_
      refine fg1 3 (gS rfl g0) (fun g => ?_)
      refine c_seq (fun K4 hK4 => ?_)
      exact (by
        refine c_region ?_
        refine l_step (y_moveV (et g0 rfl)) ?_
        refine l_step (y_len Hvaa.underlying38 (et g0 rfl)) ?_
        refine l_step (y_conv Hvaa.underlying3 Hvaa.underlying60 (et g0 rfl) (wrapU_id uk32 ?_)) ?_
        omega
        refine l_step (y_assignV (et g0 rfl)) ?_
        refine l_nil ?_
        refine hK4 _ _ ?_
        refine fg1 2 g0 (fun g => ?_)
        refine c_ret ?_
        repeat with_reducible refine then_ret ?_
        refine ret1 rfl (res_tmp (et g0 rfl)) ?_
        exact ⟨rfl, U⟩)))
theorem g_part {w : World} {col : Nat → Nat} {bc : Nat} {cs : Array Value} {low : List (List Nat)} {m : List Nat} {bm : Nat} {cm : Array Value} {n : Nat} (kC : Blk w bc cs) (hM : MA w col cs (low ++ [m]) bm cm n) (hcC : col bc = 1) (off k : Nat) (hk : 0 < k) (hok : off + k ≤ m.length) :
    Ret 358 [.pointer (some ⟨bc, 1, none⟩), .int .u32 (off : Nat), .int .u32 (k : Nat)] w (fun v w' => v = .tuple #[.slice (some ⟨bm, low.flatten.length + off, none⟩) k k, .bool true] ∧ Up w w') := by
  have htp : cs[10]? = some (.int .u8 (low.length + 1 : Nat)) := by have h9 := hM.tp; rw [List.length_append, List.length_singleton] at h9; exact h9
  have hlo : cs[2 + low.length]? = some (.int .u32 (low.flatten.length : Nat)) := by have h9 := hM.bs low.length (by simp); rw [bsN_low] at h9; exact h9
  have hhi : cs[2 + (low.length + 1)]? = some (.int .u32 (low.flatten.length + m.length : Nat)) := by have h9 := hM.bs (low.length + 1) (by simp); rw [bsN_top] at h9; exact h9
  have hln : low.length + 1 ≤ 7 := by have h9 := hM.ln; rw [List.length_append, List.length_singleton] at h9; exact h9
  have hfl : low.flatten.length + m.length ≤ n := by have h9 := hM.le; rw [flat_snoc, List.length_append] at h9; exact h9
  have hnb := hM.nb
  have hmx : m.length ≤ 717280 := hM.mx m (by simp)
  refine enter (n := 42) Hvaa.func358 rfl rfl (Nat.le_of_ble_eq_true rfl) ?_
  have U := Up.refl w
  refine c_seq (fun K1 hK1 => ?_)
  exact (by
    refine c_region ?_
    refine l_step y_assignC ?_
    refine l_step y_assignC ?_
    refine l_nil ?_
    refine hK1 _ _ ?_
    refine fg3 2 1 0 (gS rfl (gS rfl (gS rfl (gS rfl g0)))) (gS rfl (gS rfl (gS rfl g0))) (gS rfl (gS rfl g0)) (fun g => ?_)
    refine c_seq (fun K2 hK2 => ?_)
    exact (by
      refine c_region ?_
      refine l_step (y_moveV (et g0 rfl)) ?_
      refine l_eff (e_callV cal_363 (aC (et g0 rfl) aN) (g_top kC hM hcC)) (fun v3 w3 h3 => ?_)
      obtain ⟨a9, rfl, ha9, u3⟩ := h3
      replace kC := kC.up u3
      replace hM := hM.up u3
      replace U := U.tr u3
      obtain rfl := ha9 (by omega)
      refine l_step (y_moveV (et g0 rfl)) ?_
      refine l_step (y_ext (et g0 rfl) rfl) ?_
      refine l_step (y_ext (et (gS rfl g0) rfl) rfl) ?_
      refine l_step (y_assignV (et (gS rfl g0) rfl)) ?_
      refine l_step (y_assignV (et (gS rfl g0) rfl)) ?_
      refine l_nil ?_
      refine hK2 _ _ ?_
      refine fg4 2 1 8 9 (gS rfl (gS rfl (gS rfl (gS rfl (gS rfl (gS rfl (gS rfl (gS rfl (gS rfl g0))))))))) (gS rfl (gS rfl (gS rfl (gS rfl (gS rfl (gS rfl (gS rfl (gS rfl g0)))))))) (gS rfl g0) g0 (fun g => ?_)
      refine c_seq (fun K4 hK4 => ?_)
      exact (by
        refine c_region ?_
        refine l_step (y_moveV (et (gS rfl g0) rfl)) ?_
        refine l_step (y_len Hvaa.underlying38 (et g0 rfl)) ?_
        refine l_step (y_conv Hvaa.underlying3 Hvaa.underlying60 (et g0 rfl) (wrapU_id uk32 ?_)) ?_
        omega
        refine l_step (y_assignV (et g0 rfl)) ?_
        refine l_nil ?_
        refine hK4 _ _ ?_
        refine fg5 2 1 8 9 10 (gS rfl (gS rfl (gS rfl (gS rfl (gS rfl (gS rfl (gS rfl g0))))))) (gS rfl (gS rfl (gS rfl (gS rfl (gS rfl (gS rfl g0)))))) (gS rfl (gS rfl (gS rfl (gS rfl (gS rfl g0))))) (gS rfl (gS rfl (gS rfl (gS rfl g0)))) g0 (fun g => ?_)
        refine c_seq (fun K5 hK5 => ?_)
        refine c_seq (fun K6 hK6 => ?_)
        exact (by
          refine c_region ?_
          refine l_step (y_moveV (et (gS rfl g0) rfl)) ?_
          refine l_step (y_not (et g0 rfl)) ?_
          refine l_step (y_moveV (et g0 rfl)) ?_
          refine gsplitL (i := 21) g0 (fun q7 => ?_) (fun q7 => ?_)
          · skip
            cases q7
          · skip
            refine l_gstep (j := 2) (t := 21) (by exact rfl) (by exact rfl) (et g0 rfl) (by decide) (y_moveV (et (gS rfl (gS rfl (gS rfl (gS rfl (gS rfl (gS rfl (gS rfl (gS rfl g0)))))))) rfl)) ?_
            refine l_gstep (j := 2) (t := 21) (by exact rfl) (by exact rfl) (et (gS rfl g0) rfl) (by decide) (y_moveV (et (gS rfl (gS rfl (gS rfl (gS rfl (gS rfl g0))))) rfl)) ?_
            refine l_gstep (j := 2) (t := 21) (by exact rfl) (by exact rfl) (et (gS rfl (gS rfl g0)) rfl) (by decide) (y_gtr (et (gS rfl g0) rfl) (et g0 rfl)) ?_
            refine l_step (y_pickF (et (gS rfl (gS rfl (gS rfl g0))) rfl) (et g0 rfl)) ?_
            refine l_step (y_moveV (et g0 rfl)) ?_
            refine gsplitL (i := 26) g0 (fun q8 => ?_) (fun q8 => ?_)
            · skip
              exact absurd (of_decide_eq_true q8) (by omega)
            · skip
              refine l_gstep (j := 7) (t := 26) (by exact rfl) (by exact rfl) (et g0 rfl) (by decide) (y_moveV (et (gS rfl (gS rfl (gS rfl (gS rfl (gS rfl (gS rfl (gS rfl (gS rfl (gS rfl (gS rfl (gS rfl (gS rfl (gS rfl g0))))))))))))) rfl)) ?_
              refine l_gstep (j := 7) (t := 26) (by exact rfl) (by exact rfl) (et (gS rfl g0) rfl) (by decide) (y_moveV (et (gS rfl (gS rfl (gS rfl (gS rfl (gS rfl (gS rfl (gS rfl (gS rfl (gS rfl (gS rfl (gS rfl g0))))))))))) rfl)) ?_
              refine l_gstep (j := 7) (t := 26) (by exact rfl) (by exact rfl) (et (gS rfl (gS rfl g0)) rfl) (by decide) (y_moveV (et (gS rfl (gS rfl (gS rfl (gS rfl (gS rfl (gS rfl (gS rfl (gS rfl (gS rfl (gS rfl (gS rfl (gS rfl (gS rfl (gS rfl (gS rfl (gS rfl g0)))))))))))))))) rfl)) ?_
              refine l_gstep (j := 7) (t := 26) (by exact rfl) (by exact rfl) (et (gS rfl (gS rfl (gS rfl g0))) rfl) (by decide) (y_sub (et (gS rfl g0) rfl) (et g0 rfl) (wrapU_subN uk32 ?_ ?_)) ?_
              omega
              omega
              refine l_gstep (j := 7) (t := 26) (by exact rfl) (by exact rfl) (et (gS rfl (gS rfl (gS rfl (gS rfl g0)))) rfl) (by decide) (y_gtr (et (gS rfl (gS rfl (gS rfl g0))) rfl) (et g0 rfl)) ?_
              refine l_step (y_pickF (et (gS rfl (gS rfl (gS rfl (gS rfl (gS rfl g0))))) rfl) (et g0 rfl)) ?_
              refine l_nil ?_
              refine hK6 _ _ ?_
              refine fg4 2 1 8 32 (gS rfl (gS rfl (gS rfl (gS rfl (gS rfl (gS rfl (gS rfl (gS rfl (gS rfl (gS rfl (gS rfl (gS rfl (gS rfl (gS rfl (gS rfl (gS rfl (gS rfl (gS rfl (gS rfl (gS rfl g0)))))))))))))))))))) (gS rfl (gS rfl (gS rfl (gS rfl (gS rfl (gS rfl (gS rfl (gS rfl (gS rfl (gS rfl (gS rfl (gS rfl (gS rfl (gS rfl (gS rfl (gS rfl (gS rfl (gS rfl (gS rfl g0))))))))))))))))))) (gS rfl (gS rfl (gS rfl (gS rfl (gS rfl (gS rfl (gS rfl (gS rfl (gS rfl (gS rfl (gS rfl (gS rfl (gS rfl (gS rfl (gS rfl (gS rfl (gS rfl (gS rfl g0)))))))))))))))))) g0 (fun g => ?_)
              refine c_false (et g0 rfl) (by (exact decide_eq_false (by omega))) ?_
              refine c_skip ?_
              refine hK5 _ _ ?_
              refine fg3 2 1 8 (gS rfl (gS rfl (gS rfl g0))) (gS rfl (gS rfl g0)) (gS rfl g0) (fun g => ?_)
              refine c_seq (fun K10 hK10 => ?_)
              exact (by
                refine c_region ?_
                refine l_step (y_moveV (et g0 rfl)) ?_
                refine l_step (y_moveV (et (gS rfl (gS rfl g0)) rfl)) ?_
                refine l_step (y_moveV (et (gS rfl (gS rfl (gS rfl g0))) rfl)) ?_
                refine l_step (y_moveV (et (gS rfl (gS rfl (gS rfl (gS rfl (gS rfl g0))))) rfl)) ?_
                refine l_step (y_add (et (gS rfl g0) rfl) (et g0 rfl) (wrapU_addN uk32 ?_)) ?_
                omega
                refine l_step (y_moveV (et (gS rfl (gS rfl (gS rfl (gS rfl (gS rfl (gS rfl g0)))))) rfl)) ?_
                refine l_step (y_moveV (et (gS rfl (gS rfl (gS rfl (gS rfl (gS rfl (gS rfl (gS rfl (gS rfl g0)))))))) rfl)) ?_
                refine l_step (y_add (et (gS rfl g0) rfl) (et g0 rfl) (wrapU_addN uk32 ?_)) ?_
                omega
                refine l_step (y_slS111 Hvaa.underlying38 sz_5 (et (gS rfl (gS rfl (gS rfl (gS rfl (gS rfl (gS rfl (gS rfl g0))))))) rfl) (et (gS rfl (gS rfl (gS rfl (gS rfl (gS rfl (gS rfl g0)))))) rfl) (et (gS rfl (gS rfl (gS rfl g0))) rfl) (et g0 rfl) ?_ ?_ ?_ ?_ ?_ ?_ ?_) ?_
                omega
                omega
                omega
                omega
                omega
                omega
                omega
                refine l_step (y_assignV (et g0 rfl)) ?_
                refine l_step y_assignC ?_
                refine l_nil ?_
                refine hK10 _ _ ?_
                refine fg2 6 7 (gS rfl g0) g0 (fun g => ?_)
                refine c_ret ?_
                repeat with_reducible refine then_ret ?_
                refine ret2 rfl (res_tmp (et (gS rfl g0) rfl)) (res_tmp (et g0 rfl)) ?_
                have e1 : (((off + k : Nat) : Int)).toNat - (((off : Nat) : Int)).toNat = k := by omega
                have e2 : low.flatten.length + (((off : Nat) : Int)).toNat * 1 = low.flatten.length + off := by omega
                exact ⟨by rw [e1, e2], U⟩)))))
end Go.Proofs.YgvaawGreat
