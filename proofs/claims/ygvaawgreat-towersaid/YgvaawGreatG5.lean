import Derived.Test.YgvaawGreatG4
set_option maxRecDepth 100000
set_option maxHeartbeats 4000000
set_option linter.unusedSimpArgs false
set_option linter.unusedVariables false
namespace Go.Proofs.YgvaawGreat
open Go
theorem row_join {c : Array Value} {e a b : Nat} (h1 : RowIn c e (bL (List.replicate a 0))) (h2 : RowIn c (e + a) (bL (List.replicate b 0))) : RowIn c e (bL (List.replicate (a + b) 0)) := by
  rw [← List.replicate_append_replicate, bL_app]
  intro j v hj
  by_cases hlt : j < (bL (List.replicate a 0)).length
  · rw [List.getElem?_append_left hlt] at hj
    exact h1 j v hj
  · rw [List.getElem?_append_right (by omega)] at hj
    have := h2 _ v hj
    rw [length_bL, List.length_replicate] at this hlt
    rw [show e + j = e + a + (j - a) by omega]
    exact this
theorem bz (k : Nat) : bL (List.replicate k 0) = List.replicate k (Value.int .u8 0) := by simp [bL, bval]
theorem row_nil (c : Array Value) (e : Nat) : RowIn c e (bL (List.replicate 0 0)) := fun j v hj => by simp [bL] at hj
theorem g_growa {w : World} {col : Nat → Nat} {bc : Nat} {cs : Array Value} {low : List (List Nat)} {m : List Nat} {bm : Nat} {cm : Array Value} {n : Nat} (kC : Blk w bc cs) (hM : MA w col cs (low ++ [m]) bm cm n) (hcC : col bc = 1) (W : Nat) (hW : W ≤ 22415) (hWm : m.length < 32 * W) (hfr : low.flatten.length ≤ 6 * 717280) (hz : cs.size = 27024) {cap : Nat} (hbf : cs[1]? = some (.slice (some ⟨bm, 0, none⟩) n cap)) (hcap : n ≤ cap) (hcmx : cap ≤ maxLen) (hcsz : cap ≤ cm.size) (kM : Blk w bm cm) (hc8 : col bm = 8) (hst : (32 * W - m.length) ≤ n - (low.flatten.length + m.length)) :
    Ret 272 [.pointer (some ⟨bc, 1, none⟩), .int .u32 (W : Nat)] w (fun v w' => v = .bool true ∧ ∃ (col' : Nat → Nat) (cs' : Array Value) (bm' : Nat) (cm' : Array Value) (n' : Nat), Blk w' bc cs' ∧ MA w' col' cs' (low ++ [m ++ List.replicate (32 * W - m.length) 0]) bm' cm' n' ∧ Out cs cs' 1 10 ∧ Ch (fun b => b = bc ∨ (b = bm ∧ col bm = 8)) w w' ∧ (∀ q, col' q = col q ∨ (w.heap.size ≤ q ∧ q < w'.heap.size ∧ q = bm' ∧ col' q = 8))) := by
  have htp : cs[10]? = some (.int .u8 (low.length + 1 : Nat)) := by have h9 := hM.tp; rw [List.length_append, List.length_singleton] at h9; exact h9
  have hlo : cs[2 + low.length]? = some (.int .u32 (low.flatten.length : Nat)) := by have h9 := hM.bs low.length (by simp); rw [bsN_low] at h9; exact h9
  have hhi : cs[2 + (low.length + 1)]? = some (.int .u32 (low.flatten.length + m.length : Nat)) := by have h9 := hM.bs (low.length + 1) (by simp); rw [bsN_top] at h9; exact h9
  have hln : low.length + 1 ≤ 7 := by have h9 := hM.ln; rw [List.length_append, List.length_singleton] at h9; exact h9
  have hfl : low.flatten.length + m.length ≤ n := by have h9 := hM.le; rw [flat_snoc, List.length_append] at h9; exact h9
  have hnb := hM.nb
  have hmx : m.length ≤ 717280 := hM.mx m (by simp)
  have hbc0 := kC.lt
  refine enter (n := 80) Hvaa.func272 rfl rfl (Nat.le_of_ble_eq_true rfl) ?_
  have U : Ch (fun b => b = bc ∨ (b = bm ∧ col bm = 8)) w w := Ch.refl _ w
  refine c_seq (fun K1 hK1 => ?_)
  exact (by
    refine c_region ?_
    refine l_step y_assignC ?_
    refine l_nil ?_
    refine hK1 _ _ ?_
    refine fg2 1 0 (gS rfl (gS rfl g0)) (gS rfl g0) (fun g => ?_)
    refine c_seq (fun K2 hK2 => ?_)
    exact (by
      refine c_region ?_
      refine l_step (y_moveV (et g0 rfl)) ?_
      refine l_eff (e_callV cal_363 (aC (et g0 rfl) aN) (g_top kC hM hcC)) (fun v3 w3 h3 => ?_)
      obtain ⟨a9, rfl, ha9, u3⟩ := h3
      replace kC := kC.up u3
      replace kM := kM.up u3
      replace U := U.tr u3
      refine l_step (y_moveV (et g0 rfl)) ?_
      refine l_step (y_ext (et g0 rfl) rfl) ?_
      refine l_step (y_ext (et (gS rfl g0) rfl) rfl) ?_
      refine l_step (y_assignV (et (gS rfl g0) rfl)) ?_
      refine l_step (y_assignV (et (gS rfl g0) rfl)) ?_
      refine l_nil ?_
      refine hK2 _ _ ?_
      refine fg4 1 0 5 6 (gS rfl (gS rfl (gS rfl (gS rfl (gS rfl (gS rfl (gS rfl (gS rfl g0)))))))) (gS rfl (gS rfl (gS rfl (gS rfl (gS rfl (gS rfl (gS rfl g0))))))) (gS rfl g0) g0 (fun g => ?_)
      refine c_seq (fun K4 hK4 => ?_)
      refine c_seq (fun K5 hK5 => ?_)
      exact (by
        refine c_region ?_
        refine l_step (y_moveV (et g0 rfl)) ?_
        refine l_step (y_not (et g0 rfl)) ?_
        refine l_step (y_moveV (et g0 rfl)) ?_
        refine gsplitL (i := 17) g0 (fun q6 => ?_) (fun q6 => ?_)
        · skip
          cases q6
        · skip
          refine l_gstep (j := 2) (t := 17) (by exact rfl) (by exact rfl) (et g0 rfl) (by decide) (y_moveV (et (gS rfl (gS rfl (gS rfl (gS rfl (gS rfl (gS rfl (gS rfl g0))))))) rfl)) ?_
          refine l_gstep (j := 2) (t := 17) (by exact rfl) (by exact rfl) (et (gS rfl g0) rfl) (by decide) (y_gtr (et g0 rfl) rfl) ?_
          refine l_step (y_pickF (et (gS rfl (gS rfl g0)) rfl) (et g0 rfl)) ?_
          refine l_nil ?_
          refine hK5 _ _ ?_
          refine fg4 1 0 5 20 (gS rfl (gS rfl (gS rfl (gS rfl (gS rfl (gS rfl (gS rfl (gS rfl (gS rfl (gS rfl g0)))))))))) (gS rfl (gS rfl (gS rfl (gS rfl (gS rfl (gS rfl (gS rfl (gS rfl (gS rfl g0))))))))) (gS rfl (gS rfl (gS rfl (gS rfl (gS rfl (gS rfl (gS rfl (gS rfl g0)))))))) g0 (fun g => ?_)
          refine c_false (et g0 rfl) (by (first | rfl | exact decide_eq_false (by omega))) ?_
          refine c_skip ?_
          refine hK4 _ _ ?_
          refine fg3 1 0 5 (gS rfl (gS rfl (gS rfl g0))) (gS rfl (gS rfl g0)) (gS rfl g0) (fun g => ?_)
          refine c_seq (fun K8 hK8 => ?_)
          refine c_seq (fun K9 hK9 => ?_)
          exact (by
            refine c_region ?_
            refine l_step (y_moveV (et (gS rfl (gS rfl g0)) rfl)) ?_
            refine l_step (y_mul rfl (et g0 rfl) (wrapU_mulN (a := 32) uk32 ?_)) ?_
            omega
            refine l_step (y_moveV (et (gS rfl (gS rfl g0)) rfl)) ?_
            refine l_step (y_len Hvaa.underlying38 (et g0 rfl)) ?_
            refine l_step (y_conv Hvaa.underlying3 Hvaa.underlying60 (et g0 rfl) (wrapU_id uk32 ?_)) ?_
            omega
            refine l_step (y_leq (et (gS rfl (gS rfl (gS rfl g0))) rfl) (et g0 rfl)) ?_
            refine l_nil ?_
            refine hK9 _ _ ?_
            refine fg4 1 0 5 26 (gS rfl (gS rfl (gS rfl (gS rfl (gS rfl (gS rfl (gS rfl (gS rfl g0)))))))) (gS rfl (gS rfl (gS rfl (gS rfl (gS rfl (gS rfl (gS rfl g0))))))) (gS rfl (gS rfl (gS rfl (gS rfl (gS rfl (gS rfl g0)))))) g0 (fun g => ?_)
            refine c_false (et g0 rfl) (by (exact decide_eq_false (by omega))) ?_
            refine c_skip ?_
            refine hK8 _ _ ?_
            refine fg3 1 0 5 (gS rfl (gS rfl (gS rfl g0))) (gS rfl (gS rfl g0)) (gS rfl g0) (fun g => ?_)
            refine c_seq (fun K11 hK11 => ?_)
            exact (by
              refine c_region ?_
              refine l_step (y_moveV (et (gS rfl (gS rfl g0)) rfl)) ?_
              refine l_step (y_mul rfl (et g0 rfl) (wrapU_mulN (a := 32) uk32 ?_)) ?_
              omega
              refine l_step (y_conv Hvaa.underlying60 Hvaa.underlying3 (et g0 rfl) (wrapIN ?_)) ?_
              omega
              refine l_step (y_moveV (et (gS rfl (gS rfl (gS rfl g0))) rfl)) ?_
              refine l_step (y_len Hvaa.underlying38 (et g0 rfl)) ?_
              refine l_step (y_sub (et (gS rfl (gS rfl g0)) rfl) (et g0 rfl) (subIN ?_ ?_)) ?_
              omega
              omega
              refine l_step (y_assignV (et g0 rfl)) ?_
              refine l_nil ?_
              refine hK11 _ _ ?_
              refine fg2 0 7 (gS rfl (gS rfl (gS rfl (gS rfl (gS rfl (gS rfl (gS rfl (gS rfl g0)))))))) g0 (fun g => ?_)
              refine c_seq (fun K12 hK12 => ?_)
              exact (by
                refine c_draw Up 10 [(0, true), (1, true), (2, true), (3, true), (4, true), (5, true), (6, true), (7, true), (8, true), (9, true)] (by kernel_rfl) (fun w13 hu => ⟨Up.refl _, ?_⟩)
                replace kC := kC.up hu
                replace kM := kM.up hu
                replace U := U.tr hu
                have SU := Up.refl w13
                refine p_step (by exact rfl) (y_moveV (et (gS rfl g0) rfl)) ?_
                refine p_step (by exact rfl) (y_moveV (et (gS rfl (gS rfl g0)) rfl)) ?_
                refine p_step (by exact rfl) (y_nil (et g0 rfl)) ?_
                refine p_step (by exact rfl) (y_fld fld_63_2 (et g0 rfl)) ?_
                refine p_step (by exact rfl) (y_load1 one_5 (et g0 rfl) (atS (kC.c1 htp rfl))) ?_
                refine p_step (by exact rfl) (y_nil (et (gS rfl (gS rfl (gS rfl (gS rfl g0)))) rfl)) ?_
                refine p_step (by exact rfl) (y_fld fld_63_1 (et g0 rfl)) ?_
                refine p_step (by exact rfl) (y_idxA Hvaa.underlying61 sz_60 (et g0 rfl) (et (gS rfl (gS rfl g0)) rfl) ?_ ?_) ?_
                omega
                omega
                refine p_step (by exact rfl) (y_load1 one_60 (et g0 rfl) (atS (kC.c1 hhi (by omega)))) ?_
                refine p_step (by exact rfl) (y_assignV (et g0 rfl)) ?_
                refine p_nil ?_
                refine hK12 _ _ ?_
                refine fg3 0 7 8 (gS rfl (gS rfl (gS rfl (gS rfl (gS rfl (gS rfl (gS rfl (gS rfl (gS rfl (gS rfl (gS rfl g0))))))))))) (gS rfl (gS rfl (gS rfl (gS rfl (gS rfl (gS rfl (gS rfl (gS rfl (gS rfl (gS rfl g0)))))))))) g0 (fun g => ?_)
                refine c_seq (fun K14 hK14 => ?_)
                exact (by
                  refine c_region ?_
                  refine l_step (y_moveV (et (gS rfl (gS rfl g0)) rfl)) ?_
                  refine l_step (y_nil (et g0 rfl)) ?_
                  refine l_step (y_fld fld_63_0 (et g0 rfl)) ?_
                  refine l_step (y_load1 one_38 (et g0 rfl) (at1 (kC.c1 hbf rfl))) ?_
                  refine l_step (y_moveV (et (gS rfl (gS rfl (gS rfl (gS rfl g0)))) rfl)) ?_
                  refine l_step (y_slS100n Hvaa.underlying38 sz_5 (et (gS rfl g0) rfl) (et g0 rfl) ?_ ?_) ?_
                  omega
                  omega
                  refine l_step (y_assignV (et g0 rfl)) ?_
                  refine l_nil ?_
                  refine hK14 _ _ ?_
                  refine fg4 0 7 8 9 (gS rfl (gS rfl (gS rfl (gS rfl (gS rfl (gS rfl (gS rfl (gS rfl (gS rfl g0))))))))) (gS rfl (gS rfl (gS rfl (gS rfl (gS rfl (gS rfl (gS rfl (gS rfl g0)))))))) (gS rfl (gS rfl (gS rfl (gS rfl (gS rfl (gS rfl (gS rfl g0))))))) g0 (fun g => ?_)
                  refine c_seq (fun K15 hK15 => ?_)
                  refine c_seq (fun K16 hK16 => ?_)
                  exact (by
                    refine c_region ?_
                    refine l_step (y_moveV (et g0 rfl)) ?_
                    refine l_step (y_len Hvaa.underlying38 (et g0 rfl)) ?_
                    refine l_step (y_moveV (et (gS rfl (gS rfl (gS rfl (gS rfl g0)))) rfl)) ?_
                    refine l_step (y_geq (et (gS rfl g0) rfl) (et g0 rfl)) ?_
                    refine l_nil ?_
                    refine hK16 _ _ ?_
                    refine fg5 0 7 8 9 51 (gS rfl (gS rfl (gS rfl (gS rfl (gS rfl (gS rfl (gS rfl g0))))))) (gS rfl (gS rfl (gS rfl (gS rfl (gS rfl (gS rfl g0)))))) (gS rfl (gS rfl (gS rfl (gS rfl (gS rfl g0))))) (gS rfl (gS rfl (gS rfl (gS rfl g0)))) g0 (fun g => ?_)
                    refine c_true (et g0 rfl) (by (exact decide_eq_true (by omega))) ?_
                    exact (by
                      refine c_region ?_
                      refine l_step (y_moveV (et (gS rfl g0) rfl)) ?_
                      refine l_step (y_moveV (et (gS rfl (gS rfl (gS rfl (gS rfl g0)))) rfl)) ?_
                      refine l_step (y_slS010n Hvaa.underlying38 sz_5 (et (gS rfl g0) rfl) (et g0 rfl) ?_) ?_
                      omega
                      refine l_effN (e_clearB (o := (low.flatten.length + m.length)) (k := (32 * W - m.length)) (Eq.trans (et g0 rfl) (congrArg (fun q => Value.slice (some ⟨bm, q, none⟩) (32 * W - m.length) (cap - (low.flatten.length + m.length))) (by omega))) (by omega) kM (by omega)) (fun v18 w18 h18 => ?_)
                      obtain ⟨rfl, x18⟩ := h18
                      replace kC := kC.ch x18.ch (by intro hm; first | omega | (subst hm; omega))
                      replace kM := x18.blk
                      replace U := U.cc x18.ch (by intro b hb; first | exact .inl (.inl hb) | exact .inl (.inr ⟨hb, hc8⟩) | (have h9 := hown b hb; exact .inl (.inr h9)))
                      refine l_nil ?_
                      refine hK15 _ _ ?_
                      refine fg3 0 7 8 (gS rfl (gS rfl (gS rfl (gS rfl (gS rfl (gS rfl (gS rfl g0))))))) (gS rfl (gS rfl (gS rfl (gS rfl (gS rfl (gS rfl g0)))))) (gS rfl (gS rfl (gS rfl (gS rfl (gS rfl g0))))) (fun g => ?_)
                      refine c_seq (fun K19 hK19 => ?_)
                      exact (by
                        refine c_draw Up 12 [(0, true), (1, true), (2, true), (3, true), (4, true), (5, true), (6, true), (7, true), (8, true), (9, true), (10, true), (11, true), (12, false)] (by kernel_rfl) (fun w20 hu => ⟨Up.refl _, ?_⟩)
                        replace kC := kC.up hu
                        replace kM := kM.up hu
                        replace U := U.tr hu
                        have SU := Up.refl w20
                        refine p_step (by exact rfl) (y_moveV (et (gS rfl (gS rfl g0)) rfl)) ?_
                        refine p_step (by exact rfl) (y_moveV (et (gS rfl (gS rfl (gS rfl g0))) rfl)) ?_
                        refine p_step (by exact rfl) (y_nil (et g0 rfl)) ?_
                        refine p_step (by exact rfl) (y_fld fld_63_2 (et g0 rfl)) ?_
                        refine p_step (by exact rfl) (y_load1 one_5 (et g0 rfl) (atS (kC.c1 htp rfl))) ?_
                        refine p_step (by exact rfl) (y_moveV (et (gS rfl (gS rfl (gS rfl (gS rfl (gS rfl g0))))) rfl)) ?_
                        refine p_step (by exact rfl) (y_moveV (et (gS rfl (gS rfl (gS rfl (gS rfl (gS rfl (gS rfl (gS rfl g0))))))) rfl)) ?_
                        refine p_step (by exact rfl) (y_conv Hvaa.underlying3 Hvaa.underlying60 (et g0 rfl) (wrapU_id uk32 ?_)) ?_
                        omega
                        refine p_step (by exact rfl) (y_add (et (gS rfl (gS rfl g0)) rfl) (et g0 rfl) (wrapU_addN uk32 ?_)) ?_
                        omega
                        refine p_step (by exact rfl) (y_nil (et (gS rfl (gS rfl (gS rfl (gS rfl (gS rfl (gS rfl (gS rfl (gS rfl g0)))))))) rfl)) ?_
                        refine p_step (by exact rfl) (y_fld fld_63_1 (et g0 rfl)) ?_
                        refine p_step (by exact rfl) (y_idxA Hvaa.underlying61 sz_60 (et g0 rfl) (et (gS rfl (gS rfl (gS rfl (gS rfl (gS rfl (gS rfl g0)))))) rfl) ?_ ?_) ?_
                        omega
                        omega
                        refine p_effN (by exact rfl) (e_store sz_60 (et g0 rfl) (cellsV (et (gS rfl (gS rfl (gS rfl g0))) rfl) rfl) rfl (by intro v hv; simp at hv; subst hv; rfl) kC (by (first | omega | (rw [size_spl]; omega)))) (fun v21 w21 h21 => ?_)
                        obtain ⟨rfl, x21⟩ := h21
                        replace kM := kM.ch x21.ch (by intro hm; first | omega | (subst hm; omega))
                        replace kC := x21.blk
                        replace U := U.st x21 (.inl (by exact .inl rfl))
                        refine ⟨.inl rfl, ?_⟩
                        refine p_nil ?_
                        refine hK19 _ _ ?_
                        refine fg0 (fun g => ?_)
                        refine c_seq (fun K22 hK22 => ?_)
                        exact (by
                          refine c_region ?_
                          refine l_step y_assignC ?_
                          refine l_nil ?_
                          refine hK22 _ _ ?_
                          refine c_ret ?_
                          repeat with_reducible refine then_ret ?_
                          refine ret1 rfl (res_tmp (et g0 rfl)) ?_
                          have hzl : (low.flatten.length + m.length) + (bL (List.replicate ((32 * W - m.length)) 0)).length ≤ cm.size := by rw [length_bL, List.length_replicate]; omega
                          have hGB : GB _ 1 (.slice (some ⟨bm, 0, none⟩) n cap) bm (spl cm (low.flatten.length + m.length) (bL (List.replicate ((32 * W - m.length)) 0))) n := ⟨.inr ⟨cap, rfl, hcap, hcmx, by rw [size_spl]; omega, kM⟩⟩
                          refine ⟨rfl, col, _, bm, _, n, kC, hM.grown hGB (fun _ => hc8) (by rw [sp1 (by omega)]; exact hbf) (sp1 (by omega)) (fun i hi => sp1 (by omega)) ?_ ?_ ?_ (by omega) hnb (by omega), (Out.refl _ _ _).put (by omega) (by omega), U, fun _ => .inl rfl⟩
                          · rw [show 2 + (low.length + 1) = 1 + 1 + (((low.length + 1 : Nat) : Int)).toNat * 1 by omega]
                            exact sp0 (by omega)
                          · exact RowIn.offs (by have h9 := hM.by'; rw [flat_snoc] at h9; exact h9) hzl (.inr (by rw [length_bL, List.length_append]; omega))
                          · exact RowIn.puts hzl)))))))))))
theorem g_growb2 {w : World} {col : Nat → Nat} {bc : Nat} {cs : Array Value} {low : List (List Nat)} {m : List Nat} {bm : Nat} {cm : Array Value} {n : Nat} (kC : Blk w bc cs) (hM : MA w col cs (low ++ [m]) bm cm n) (hcC : col bc = 1) (W : Nat) (hW : W ≤ 22415) (hWm : m.length < 32 * W) (hfr : low.flatten.length ≤ 6 * 717280) (hz : cs.size = 27024) {cap : Nat} (hbf : cs[1]? = some (.slice (some ⟨bm, 0, none⟩) n cap)) (hcap : n ≤ cap) (hcmx : cap ≤ maxLen) (hcsz : cap ≤ cm.size) (kM : Blk w bm cm) (hc8 : col bm = 8) (hst : n - (low.flatten.length + m.length) < (32 * W - m.length)) (hst0 : 0 < n - (low.flatten.length + m.length)) :
    Ret 272 [.pointer (some ⟨bc, 1, none⟩), .int .u32 (W : Nat)] w (fun v w' => v = .bool true ∧ ∃ (col' : Nat → Nat) (cs' : Array Value) (bm' : Nat) (cm' : Array Value) (n' : Nat), Blk w' bc cs' ∧ MA w' col' cs' (low ++ [m ++ List.replicate (32 * W - m.length) 0]) bm' cm' n' ∧ Out cs cs' 1 10 ∧ Ch (fun b => b = bc ∨ (b = bm ∧ col bm = 8)) w w' ∧ (∀ q, col' q = col q ∨ (w.heap.size ≤ q ∧ q < w'.heap.size ∧ q = bm' ∧ col' q = 8))) := by
  have htp : cs[10]? = some (.int .u8 (low.length + 1 : Nat)) := by have h9 := hM.tp; rw [List.length_append, List.length_singleton] at h9; exact h9
  have hlo : cs[2 + low.length]? = some (.int .u32 (low.flatten.length : Nat)) := by have h9 := hM.bs low.length (by simp); rw [bsN_low] at h9; exact h9
  have hhi : cs[2 + (low.length + 1)]? = some (.int .u32 (low.flatten.length + m.length : Nat)) := by have h9 := hM.bs (low.length + 1) (by simp); rw [bsN_top] at h9; exact h9
  have hln : low.length + 1 ≤ 7 := by have h9 := hM.ln; rw [List.length_append, List.length_singleton] at h9; exact h9
  have hfl : low.flatten.length + m.length ≤ n := by have h9 := hM.le; rw [flat_snoc, List.length_append] at h9; exact h9
  have hnb := hM.nb
  have hmx : m.length ≤ 717280 := hM.mx m (by simp)
  have hbc0 := kC.lt
  refine enter (n := 80) Hvaa.func272 rfl rfl (Nat.le_of_ble_eq_true rfl) ?_
  have U : Ch (fun b => b = bc ∨ (b = bm ∧ col bm = 8)) w w := Ch.refl _ w
  refine c_seq (fun K1 hK1 => ?_)
  exact (by
    refine c_region ?_
    refine l_step y_assignC ?_
    refine l_nil ?_
    refine hK1 _ _ ?_
    refine fg2 1 0 (gS rfl (gS rfl g0)) (gS rfl g0) (fun g => ?_)
    refine c_seq (fun K2 hK2 => ?_)
    exact (by
      refine c_region ?_
      refine l_step (y_moveV (et g0 rfl)) ?_
      refine l_eff (e_callV cal_363 (aC (et g0 rfl) aN) (g_top kC hM hcC)) (fun v3 w3 h3 => ?_)
      obtain ⟨a9, rfl, ha9, u3⟩ := h3
      replace kC := kC.up u3
      replace kM := kM.up u3
      replace U := U.tr u3
      refine l_step (y_moveV (et g0 rfl)) ?_
      refine l_step (y_ext (et g0 rfl) rfl) ?_
      refine l_step (y_ext (et (gS rfl g0) rfl) rfl) ?_
      refine l_step (y_assignV (et (gS rfl g0) rfl)) ?_
      refine l_step (y_assignV (et (gS rfl g0) rfl)) ?_
      refine l_nil ?_
      refine hK2 _ _ ?_
      refine fg4 1 0 5 6 (gS rfl (gS rfl (gS rfl (gS rfl (gS rfl (gS rfl (gS rfl (gS rfl g0)))))))) (gS rfl (gS rfl (gS rfl (gS rfl (gS rfl (gS rfl (gS rfl g0))))))) (gS rfl g0) g0 (fun g => ?_)
      refine c_seq (fun K4 hK4 => ?_)
      refine c_seq (fun K5 hK5 => ?_)
      exact (by
        refine c_region ?_
        refine l_step (y_moveV (et g0 rfl)) ?_
        refine l_step (y_not (et g0 rfl)) ?_
        refine l_step (y_moveV (et g0 rfl)) ?_
        refine gsplitL (i := 17) g0 (fun q6 => ?_) (fun q6 => ?_)
        · skip
          cases q6
        · skip
          refine l_gstep (j := 2) (t := 17) (by exact rfl) (by exact rfl) (et g0 rfl) (by decide) (y_moveV (et (gS rfl (gS rfl (gS rfl (gS rfl (gS rfl (gS rfl (gS rfl g0))))))) rfl)) ?_
          refine l_gstep (j := 2) (t := 17) (by exact rfl) (by exact rfl) (et (gS rfl g0) rfl) (by decide) (y_gtr (et g0 rfl) rfl) ?_
          refine l_step (y_pickF (et (gS rfl (gS rfl g0)) rfl) (et g0 rfl)) ?_
          refine l_nil ?_
          refine hK5 _ _ ?_
          refine fg4 1 0 5 20 (gS rfl (gS rfl (gS rfl (gS rfl (gS rfl (gS rfl (gS rfl (gS rfl (gS rfl (gS rfl g0)))))))))) (gS rfl (gS rfl (gS rfl (gS rfl (gS rfl (gS rfl (gS rfl (gS rfl (gS rfl g0))))))))) (gS rfl (gS rfl (gS rfl (gS rfl (gS rfl (gS rfl (gS rfl (gS rfl g0)))))))) g0 (fun g => ?_)
          refine c_false (et g0 rfl) (by (first | rfl | exact decide_eq_false (by omega))) ?_
          refine c_skip ?_
          refine hK4 _ _ ?_
          refine fg3 1 0 5 (gS rfl (gS rfl (gS rfl g0))) (gS rfl (gS rfl g0)) (gS rfl g0) (fun g => ?_)
          refine c_seq (fun K8 hK8 => ?_)
          refine c_seq (fun K9 hK9 => ?_)
          exact (by
            refine c_region ?_
            refine l_step (y_moveV (et (gS rfl (gS rfl g0)) rfl)) ?_
            refine l_step (y_mul rfl (et g0 rfl) (wrapU_mulN (a := 32) uk32 ?_)) ?_
            omega
            refine l_step (y_moveV (et (gS rfl (gS rfl g0)) rfl)) ?_
            refine l_step (y_len Hvaa.underlying38 (et g0 rfl)) ?_
            refine l_step (y_conv Hvaa.underlying3 Hvaa.underlying60 (et g0 rfl) (wrapU_id uk32 ?_)) ?_
            omega
            refine l_step (y_leq (et (gS rfl (gS rfl (gS rfl g0))) rfl) (et g0 rfl)) ?_
            refine l_nil ?_
            refine hK9 _ _ ?_
            refine fg4 1 0 5 26 (gS rfl (gS rfl (gS rfl (gS rfl (gS rfl (gS rfl (gS rfl (gS rfl g0)))))))) (gS rfl (gS rfl (gS rfl (gS rfl (gS rfl (gS rfl (gS rfl g0))))))) (gS rfl (gS rfl (gS rfl (gS rfl (gS rfl (gS rfl g0)))))) g0 (fun g => ?_)
            refine c_false (et g0 rfl) (by (exact decide_eq_false (by omega))) ?_
            refine c_skip ?_
            refine hK8 _ _ ?_
            refine fg3 1 0 5 (gS rfl (gS rfl (gS rfl g0))) (gS rfl (gS rfl g0)) (gS rfl g0) (fun g => ?_)
            refine c_seq (fun K11 hK11 => ?_)
            exact (by
              refine c_region ?_
              refine l_step (y_moveV (et (gS rfl (gS rfl g0)) rfl)) ?_
              refine l_step (y_mul rfl (et g0 rfl) (wrapU_mulN (a := 32) uk32 ?_)) ?_
              omega
              refine l_step (y_conv Hvaa.underlying60 Hvaa.underlying3 (et g0 rfl) (wrapIN ?_)) ?_
              omega
              refine l_step (y_moveV (et (gS rfl (gS rfl (gS rfl g0))) rfl)) ?_
              refine l_step (y_len Hvaa.underlying38 (et g0 rfl)) ?_
              refine l_step (y_sub (et (gS rfl (gS rfl g0)) rfl) (et g0 rfl) (subIN ?_ ?_)) ?_
              omega
              omega
              refine l_step (y_assignV (et g0 rfl)) ?_
              refine l_nil ?_
              refine hK11 _ _ ?_
              refine fg2 0 7 (gS rfl (gS rfl (gS rfl (gS rfl (gS rfl (gS rfl (gS rfl (gS rfl g0)))))))) g0 (fun g => ?_)
              refine c_seq (fun K12 hK12 => ?_)
              exact (by
                refine c_draw Up 10 [(0, true), (1, true), (2, true), (3, true), (4, true), (5, true), (6, true), (7, true), (8, true), (9, true)] (by kernel_rfl) (fun w13 hu => ⟨Up.refl _, ?_⟩)
                replace kC := kC.up hu
                replace kM := kM.up hu
                replace U := U.tr hu
                have SU := Up.refl w13
                refine p_step (by exact rfl) (y_moveV (et (gS rfl g0) rfl)) ?_
                refine p_step (by exact rfl) (y_moveV (et (gS rfl (gS rfl g0)) rfl)) ?_
                refine p_step (by exact rfl) (y_nil (et g0 rfl)) ?_
                refine p_step (by exact rfl) (y_fld fld_63_2 (et g0 rfl)) ?_
                refine p_step (by exact rfl) (y_load1 one_5 (et g0 rfl) (atS (kC.c1 htp rfl))) ?_
                refine p_step (by exact rfl) (y_nil (et (gS rfl (gS rfl (gS rfl (gS rfl g0)))) rfl)) ?_
                refine p_step (by exact rfl) (y_fld fld_63_1 (et g0 rfl)) ?_
                refine p_step (by exact rfl) (y_idxA Hvaa.underlying61 sz_60 (et g0 rfl) (et (gS rfl (gS rfl g0)) rfl) ?_ ?_) ?_
                omega
                omega
                refine p_step (by exact rfl) (y_load1 one_60 (et g0 rfl) (atS (kC.c1 hhi (by omega)))) ?_
                refine p_step (by exact rfl) (y_assignV (et g0 rfl)) ?_
                refine p_nil ?_
                refine hK12 _ _ ?_
                refine fg3 0 7 8 (gS rfl (gS rfl (gS rfl (gS rfl (gS rfl (gS rfl (gS rfl (gS rfl (gS rfl (gS rfl (gS rfl g0))))))))))) (gS rfl (gS rfl (gS rfl (gS rfl (gS rfl (gS rfl (gS rfl (gS rfl (gS rfl (gS rfl g0)))))))))) g0 (fun g => ?_)
                refine c_seq (fun K14 hK14 => ?_)
                exact (by
                  refine c_region ?_
                  refine l_step (y_moveV (et (gS rfl (gS rfl g0)) rfl)) ?_
                  refine l_step (y_nil (et g0 rfl)) ?_
                  refine l_step (y_fld fld_63_0 (et g0 rfl)) ?_
                  refine l_step (y_load1 one_38 (et g0 rfl) (at1 (kC.c1 hbf rfl))) ?_
                  refine l_step (y_moveV (et (gS rfl (gS rfl (gS rfl (gS rfl g0)))) rfl)) ?_
                  refine l_step (y_slS100n Hvaa.underlying38 sz_5 (et (gS rfl g0) rfl) (et g0 rfl) ?_ ?_) ?_
                  omega
                  omega
                  refine l_step (y_assignV (et g0 rfl)) ?_
                  refine l_nil ?_
                  refine hK14 _ _ ?_
                  refine fg4 0 7 8 9 (gS rfl (gS rfl (gS rfl (gS rfl (gS rfl (gS rfl (gS rfl (gS rfl (gS rfl g0))))))))) (gS rfl (gS rfl (gS rfl (gS rfl (gS rfl (gS rfl (gS rfl (gS rfl g0)))))))) (gS rfl (gS rfl (gS rfl (gS rfl (gS rfl (gS rfl (gS rfl g0))))))) g0 (fun g => ?_)
                  refine c_seq (fun K15 hK15 => ?_)
                  refine c_seq (fun K16 hK16 => ?_)
                  exact (by
                    refine c_region ?_
                    refine l_step (y_moveV (et g0 rfl)) ?_
                    refine l_step (y_len Hvaa.underlying38 (et g0 rfl)) ?_
                    refine l_step (y_moveV (et (gS rfl (gS rfl (gS rfl (gS rfl g0)))) rfl)) ?_
                    refine l_step (y_geq (et (gS rfl g0) rfl) (et g0 rfl)) ?_
                    refine l_nil ?_
                    refine hK16 _ _ ?_
                    refine fg5 0 7 8 9 51 (gS rfl (gS rfl (gS rfl (gS rfl (gS rfl (gS rfl (gS rfl g0))))))) (gS rfl (gS rfl (gS rfl (gS rfl (gS rfl (gS rfl g0)))))) (gS rfl (gS rfl (gS rfl (gS rfl (gS rfl g0))))) (gS rfl (gS rfl (gS rfl (gS rfl g0)))) g0 (fun g => ?_)
                    refine c_false (et g0 rfl) (by (exact decide_eq_false (by omega))) ?_
                    refine c_seq (fun K18 hK18 => ?_)
                    exact (by
                      refine c_region ?_
                      refine l_step (y_moveV (et (gS rfl g0) rfl)) ?_
                      refine l_effN (e_clearB (o := (low.flatten.length + m.length)) (k := n - (low.flatten.length + m.length)) (Eq.trans (et g0 rfl) (congrArg (fun q => Value.slice (some ⟨bm, q, none⟩) (n - (low.flatten.length + m.length)) (cap - (low.flatten.length + m.length))) (by omega))) (by omega) kM (by omega)) (fun v19 w19 h19 => ?_)
                      obtain ⟨rfl, x19⟩ := h19
                      replace kC := kC.ch x19.ch (by intro hm; first | omega | (subst hm; omega))
                      replace kM := x19.blk
                      replace U := U.cc x19.ch (by intro b hb; first | exact .inl (.inl hb) | exact .inl (.inr ⟨hb, hc8⟩) | (have h9 := hown b hb; exact .inl (.inr h9)))
                      refine l_nil ?_
                      refine hK18 _ _ ?_
                      refine fg4 0 7 8 9 (gS rfl (gS rfl (gS rfl (gS rfl (gS rfl g0))))) (gS rfl (gS rfl (gS rfl (gS rfl g0)))) (gS rfl (gS rfl (gS rfl g0))) (gS rfl (gS rfl g0)) (fun g => ?_)
                      refine c_region ?_
                      refine l_step (y_moveV (et (gS rfl (gS rfl (gS rfl g0))) rfl)) ?_
                      refine l_step (y_moveV (et (gS rfl (gS rfl (gS rfl (gS rfl g0)))) rfl)) ?_
                      refine l_step (y_nil (et g0 rfl)) ?_
                      refine l_step (y_fld fld_63_0 (et g0 rfl)) ?_
                      refine l_step (y_load1 one_38 (et g0 rfl) (at1 (kC.c1 hbf rfl))) ?_
                      refine l_step (y_moveV (et (gS rfl (gS rfl (gS rfl (gS rfl (gS rfl (gS rfl (gS rfl g0))))))) rfl)) ?_
                      refine l_step (y_moveV (et (gS rfl (gS rfl (gS rfl (gS rfl (gS rfl (gS rfl g0)))))) rfl)) ?_
                      refine l_step (y_len Hvaa.underlying38 (et g0 rfl)) ?_
                      refine l_step (y_sub (et (gS rfl (gS rfl g0)) rfl) (et g0 rfl) ((subIN ?_ ?_).trans (castE (show _ = ((32 * W - m.length) - (n - (low.flatten.length + m.length))) by omega)))) ?_
                      omega
                      omega
                      have hbc1 := kC.lt
                      have hU1 := U.size
                      have hown : ∀ b, (Value.slice (some ⟨bm, 0, none⟩) n cap).ownBlock = some b → b = bm ∧ col bm = 8 := fun b hb => by cases hb; exact ⟨rfl, hc8⟩
                      refine l_eff (e_appZ (k := ((32 * W - m.length) - (n - (low.flatten.length + m.length)))) (et (gS rfl (gS rfl (gS rfl (gS rfl g0)))) rfl) (show GB _ 1 (.slice (some ⟨bm, 0, none⟩) n cap) bm (spl cm (low.flatten.length + m.length) (bL (List.replicate (n - (low.flatten.length + m.length)) 0))) n from ⟨.inr ⟨cap, rfl, hcap, hcmx, by rw [size_spl]; omega, kM⟩⟩) (et g0 rfl) (by omega) (by omega)) (fun v20 w20 h20 => ?_)
                      obtain ⟨bg9, cur9, hG9, hP9, hR9, ch20, hd9⟩ := h20
                      obtain ⟨cap8, rfl, hc81, hc82, hc83, kG⟩ := hG9.pos (by omega)
                      replace kC := kC.ch ch20 (by intro hm; have h8 := hown _ hm; rw [h8.1] at hcC; omega)
                      replace U := U.cc ch20 (by intro b hb; first | exact .inl (.inl hb) | exact .inl (.inr ⟨hb, hc8⟩) | (have h9 := hown b hb; exact .inl (.inr h9)))
                      have hG0 := kG.lt
                      have hgc : bg9 ≠ bc := by
                        rcases hd9 with h9 | ⟨h9, _⟩
                        · intro e
                          have h8 := hown _ h9; rw [h8.1] at e; subst e; omega
                        · intro e; have := hbc1; omega
                      exact (by
                        refine l_step (y_nil (et (gS rfl (gS rfl (gS rfl (gS rfl (gS rfl (gS rfl (gS rfl (gS rfl (gS rfl g0))))))))) rfl)) ?_
                        refine l_step (y_fld fld_63_0 (et g0 rfl)) ?_
                        refine l_effN (e_store sz_38 (et g0 rfl) (cellsV (et (gS rfl (gS rfl g0)) rfl) rfl) rfl (by intro v hv; simp at hv; subst hv; rfl) kC (by omega)) (fun v21 w21 h21 => ?_)
                        obtain ⟨rfl, x21⟩ := h21
                        replace kG := kG.ch x21.ch (by intro hm; omega)
                        replace kC := x21.blk
                        replace U := U.st x21 (.inl (by exact .inl rfl))
                        refine l_nil ?_
                        refine hK15 _ _ ?_
                        refine fg3 0 7 8 (gS rfl (gS rfl (gS rfl (gS rfl (gS rfl (gS rfl (gS rfl (gS rfl (gS rfl (gS rfl (gS rfl (gS rfl (gS rfl (gS rfl (gS rfl g0))))))))))))))) (gS rfl (gS rfl (gS rfl (gS rfl (gS rfl (gS rfl (gS rfl (gS rfl (gS rfl (gS rfl (gS rfl (gS rfl (gS rfl (gS rfl g0)))))))))))))) (gS rfl (gS rfl (gS rfl (gS rfl (gS rfl (gS rfl (gS rfl (gS rfl (gS rfl (gS rfl (gS rfl (gS rfl (gS rfl g0))))))))))))) (fun g => ?_)
                        refine c_seq (fun K22 hK22 => ?_)
                        exact (by
                          refine c_draw Up 12 [(0, true), (1, true), (2, true), (3, true), (4, true), (5, true), (6, true), (7, true), (8, true), (9, true), (10, true), (11, true), (12, false)] (by kernel_rfl) (fun w23 hu => ⟨Up.refl _, ?_⟩)
                          replace kC := kC.up hu
                          replace kG := kG.up hu
                          replace U := U.tr hu
                          have SU := Up.refl w23
                          refine p_step (by exact rfl) (y_moveV (et (gS rfl (gS rfl g0)) rfl)) ?_
                          refine p_step (by exact rfl) (y_moveV (et (gS rfl (gS rfl (gS rfl g0))) rfl)) ?_
                          refine p_step (by exact rfl) (y_nil (et g0 rfl)) ?_
                          refine p_step (by exact rfl) (y_fld fld_63_2 (et g0 rfl)) ?_
                          refine p_step (by exact rfl) (y_load1 one_5 (et g0 rfl) (atS (kC.c1 (show (spl cs _ _)[10]? = some (Value.int .u8 (low.length + 1 : Nat)) by rw [sp1 (by decide)]; exact htp) rfl))) ?_
                          refine p_step (by exact rfl) (y_moveV (et (gS rfl (gS rfl (gS rfl (gS rfl (gS rfl g0))))) rfl)) ?_
                          refine p_step (by exact rfl) (y_moveV (et (gS rfl (gS rfl (gS rfl (gS rfl (gS rfl (gS rfl (gS rfl g0))))))) rfl)) ?_
                          refine p_step (by exact rfl) (y_conv Hvaa.underlying3 Hvaa.underlying60 (et g0 rfl) (wrapU_id uk32 ?_)) ?_
                          omega
                          refine p_step (by exact rfl) (y_add (et (gS rfl (gS rfl g0)) rfl) (et g0 rfl) (wrapU_addN uk32 ?_)) ?_
                          omega
                          refine p_step (by exact rfl) (y_nil (et (gS rfl (gS rfl (gS rfl (gS rfl (gS rfl (gS rfl (gS rfl (gS rfl g0)))))))) rfl)) ?_
                          refine p_step (by exact rfl) (y_fld fld_63_1 (et g0 rfl)) ?_
                          refine p_step (by exact rfl) (y_idxA Hvaa.underlying61 sz_60 (et g0 rfl) (et (gS rfl (gS rfl (gS rfl (gS rfl (gS rfl (gS rfl g0)))))) rfl) ?_ ?_) ?_
                          omega
                          omega
                          refine p_effN (by exact rfl) (e_store sz_60 (et g0 rfl) (cellsV (et (gS rfl (gS rfl (gS rfl g0))) rfl) rfl) rfl (by intro v hv; simp at hv; subst hv; rfl) kC (by (first | omega | (rw [size_spl]; omega)))) (fun v24 w24 h24 => ?_)
                          obtain ⟨rfl, x24⟩ := h24
                          replace kG := kG.ch x24.ch (by intro hm; omega)
                          replace kC := x24.blk
                          replace U := U.st x24 (.inl (by exact .inl rfl))
                          refine ⟨.inl rfl, ?_⟩
                          refine p_nil ?_
                          refine hK22 _ _ ?_
                          refine fg0 (fun g => ?_)
                          refine c_seq (fun K25 hK25 => ?_)
                          exact (by
                            refine c_region ?_
                            refine l_step y_assignC ?_
                            refine l_nil ?_
                            refine hK25 _ _ ?_
                            refine c_ret ?_
                            repeat with_reducible refine then_ret ?_
                            refine ret1 rfl (res_tmp (et g0 rfl)) ?_
                            have e1 : n + ((32 * W - m.length) - (n - (low.flatten.length + m.length))) = low.flatten.length + m.length + (32 * W - m.length) := by omega
                            have hrw0 : RowIn cur9 0 (bL (low.flatten ++ m)) := hP9.row (RowIn.offs (by have h9 := hM.by'; rw [flat_snoc] at h9; exact h9) (by rw [length_bL, List.length_replicate]; omega) (.inr (by rw [length_bL, List.length_append]; omega))) (by rw [length_bL, List.length_append]; omega)
                            have hrw1 : RowIn cur9 (low.flatten.length + m.length) (bL (List.replicate ((32 * W - m.length)) 0)) := by
                              rw [show (32 * W - m.length) = (n - (low.flatten.length + m.length)) + ((32 * W - m.length) - (n - (low.flatten.length + m.length))) by omega]
                              refine row_join ?_ ?_
                              · exact hP9.row (RowIn.puts (by rw [length_bL, List.length_replicate]; omega)) (by rw [length_bL, List.length_replicate]; omega)
                              · rw [show (low.flatten.length + m.length) + (n - (low.flatten.length + m.length)) = n by omega, bz]
                                exact hR9
                            have hcell : ∀ (c9 : Array Value) (v9 : Value), c9.size = 27024 → (spl c9 (1 + 1 + (((low.length + 1 : Nat) : Int)).toNat * 1) [v9])[2 + (low.length + 1)]? = some v9 := fun c9 v9 hs9 => by
                              rw [show 2 + (low.length + 1) = 1 + 1 + (((low.length + 1 : Nat) : Int)).toNat * 1 by omega]
                              exact sp0 (by omega)
                            have hG8 : ∀ (u : World), Blk u bg9 cur9 → GB u 1 (.slice (some ⟨bg9, 0, none⟩) (n + ((32 * W - m.length) - (n - (low.flatten.length + m.length)))) cap8) bg9 cur9 (n + ((32 * W - m.length) - (n - (low.flatten.length + m.length)))) := fun u hu => ⟨.inr ⟨cap8, rfl, hc81, hc82, hc83, hu⟩⟩
                            have hOut : Out cs _ 1 10 := ((Out.refl cs 1 10).put (j := 1) (v := .slice (some ⟨bg9, 0, none⟩) (n + ((32 * W - m.length) - (n - (low.flatten.length + m.length)))) cap8) (by decide) (by decide)).put (j := 1 + 1 + (((low.length + 1 : Nat) : Int)).toNat * 1) (v := .int .u32 (low.flatten.length + m.length + (32 * W - m.length) : Nat)) (by omega) (by omega)
                            rcases hd9 with hd9 | ⟨hd9, _⟩
                            · cases hd9
                              refine ⟨rfl, col, _, bm, cur9, _, kC, hM.grown (hG8 _ kG) (fun _ => hc8) (by rw [sp1 (by omega)]; exact sp0 (by omega)) (by rw [sp1 (by omega), sp1 (by omega)]) (fun i hi => by rw [sp1 (by omega), sp1 (by omega)]) (hcell _ _ (by rw [size_spl]; exact hz)) hrw0 hrw1 (by omega) (by omega) (by omega), hOut, U, fun _ => .inl rfl⟩
                            · refine ⟨rfl, fun q => if q = bg9 then 8 else col q, _, bg9, cur9, _, kC, hM.grown (hG8 _ kG) (fun _ => if_pos rfl) (by rw [sp1 (by omega)]; exact sp0 (by omega)) (by rw [sp1 (by omega), sp1 (by omega)]) (fun i hi => by rw [sp1 (by omega), sp1 (by omega)]) (hcell _ _ (by rw [size_spl]; exact hz)) hrw0 hrw1 (by omega) (by omega) (by omega), hOut, U, fun q => ?_⟩
                              by_cases hq : q = bg9
                              · right
                                subst hq
                                exact ⟨by omega, kG.lt, rfl, if_pos rfl⟩
                              · left
                                exact if_neg hq))))))))))))
theorem g_growb1 {w : World} {col : Nat → Nat} {bc : Nat} {cs : Array Value} {low : List (List Nat)} {m : List Nat} {bm : Nat} {cm : Array Value} {n : Nat} (kC : Blk w bc cs) (hM : MA w col cs (low ++ [m]) bm cm n) (hcC : col bc = 1) (W : Nat) (hW : W ≤ 22415) (hWm : m.length < 32 * W) (hfr : low.flatten.length ≤ 6 * 717280) (hz : cs.size = 27024) {cap : Nat} (hbf : cs[1]? = some (.slice (some ⟨bm, 0, none⟩) n cap)) (hcap : n ≤ cap) (hcmx : cap ≤ maxLen) (hcsz : cap ≤ cm.size) (kM : Blk w bm cm) (hc8 : col bm = 8) (hst0 : n = (low.flatten.length + m.length)) :
    Ret 272 [.pointer (some ⟨bc, 1, none⟩), .int .u32 (W : Nat)] w (fun v w' => v = .bool true ∧ ∃ (col' : Nat → Nat) (cs' : Array Value) (bm' : Nat) (cm' : Array Value) (n' : Nat), Blk w' bc cs' ∧ MA w' col' cs' (low ++ [m ++ List.replicate (32 * W - m.length) 0]) bm' cm' n' ∧ Out cs cs' 1 10 ∧ Ch (fun b => b = bc ∨ (b = bm ∧ col bm = 8)) w w' ∧ (∀ q, col' q = col q ∨ (w.heap.size ≤ q ∧ q < w'.heap.size ∧ q = bm' ∧ col' q = 8))) := by
  have htp : cs[10]? = some (.int .u8 (low.length + 1 : Nat)) := by have h9 := hM.tp; rw [List.length_append, List.length_singleton] at h9; exact h9
  have hlo : cs[2 + low.length]? = some (.int .u32 (low.flatten.length : Nat)) := by have h9 := hM.bs low.length (by simp); rw [bsN_low] at h9; exact h9
  have hhi : cs[2 + (low.length + 1)]? = some (.int .u32 (low.flatten.length + m.length : Nat)) := by have h9 := hM.bs (low.length + 1) (by simp); rw [bsN_top] at h9; exact h9
  have hln : low.length + 1 ≤ 7 := by have h9 := hM.ln; rw [List.length_append, List.length_singleton] at h9; exact h9
  have hfl : low.flatten.length + m.length ≤ n := by have h9 := hM.le; rw [flat_snoc, List.length_append] at h9; exact h9
  have hnb := hM.nb
  have hmx : m.length ≤ 717280 := hM.mx m (by simp)
  have hbc0 := kC.lt
  refine enter (n := 80) Hvaa.func272 rfl rfl (Nat.le_of_ble_eq_true rfl) ?_
  have U : Ch (fun b => b = bc ∨ (b = bm ∧ col bm = 8)) w w := Ch.refl _ w
  refine c_seq (fun K1 hK1 => ?_)
  exact (by
    refine c_region ?_
    refine l_step y_assignC ?_
    refine l_nil ?_
    refine hK1 _ _ ?_
    refine fg2 1 0 (gS rfl (gS rfl g0)) (gS rfl g0) (fun g => ?_)
    refine c_seq (fun K2 hK2 => ?_)
    exact (by
      refine c_region ?_
      refine l_step (y_moveV (et g0 rfl)) ?_
      refine l_eff (e_callV cal_363 (aC (et g0 rfl) aN) (g_top kC hM hcC)) (fun v3 w3 h3 => ?_)
      obtain ⟨a9, rfl, ha9, u3⟩ := h3
      replace kC := kC.up u3
      replace kM := kM.up u3
      replace U := U.tr u3
      refine l_step (y_moveV (et g0 rfl)) ?_
      refine l_step (y_ext (et g0 rfl) rfl) ?_
      refine l_step (y_ext (et (gS rfl g0) rfl) rfl) ?_
      refine l_step (y_assignV (et (gS rfl g0) rfl)) ?_
      refine l_step (y_assignV (et (gS rfl g0) rfl)) ?_
      refine l_nil ?_
      refine hK2 _ _ ?_
      refine fg4 1 0 5 6 (gS rfl (gS rfl (gS rfl (gS rfl (gS rfl (gS rfl (gS rfl (gS rfl g0)))))))) (gS rfl (gS rfl (gS rfl (gS rfl (gS rfl (gS rfl (gS rfl g0))))))) (gS rfl g0) g0 (fun g => ?_)
      refine c_seq (fun K4 hK4 => ?_)
      refine c_seq (fun K5 hK5 => ?_)
      exact (by
        refine c_region ?_
        refine l_step (y_moveV (et g0 rfl)) ?_
        refine l_step (y_not (et g0 rfl)) ?_
        refine l_step (y_moveV (et g0 rfl)) ?_
        refine gsplitL (i := 17) g0 (fun q6 => ?_) (fun q6 => ?_)
        · skip
          cases q6
        · skip
          refine l_gstep (j := 2) (t := 17) (by exact rfl) (by exact rfl) (et g0 rfl) (by decide) (y_moveV (et (gS rfl (gS rfl (gS rfl (gS rfl (gS rfl (gS rfl (gS rfl g0))))))) rfl)) ?_
          refine l_gstep (j := 2) (t := 17) (by exact rfl) (by exact rfl) (et (gS rfl g0) rfl) (by decide) (y_gtr (et g0 rfl) rfl) ?_
          refine l_step (y_pickF (et (gS rfl (gS rfl g0)) rfl) (et g0 rfl)) ?_
          refine l_nil ?_
          refine hK5 _ _ ?_
          refine fg4 1 0 5 20 (gS rfl (gS rfl (gS rfl (gS rfl (gS rfl (gS rfl (gS rfl (gS rfl (gS rfl (gS rfl g0)))))))))) (gS rfl (gS rfl (gS rfl (gS rfl (gS rfl (gS rfl (gS rfl (gS rfl (gS rfl g0))))))))) (gS rfl (gS rfl (gS rfl (gS rfl (gS rfl (gS rfl (gS rfl (gS rfl g0)))))))) g0 (fun g => ?_)
          refine c_false (et g0 rfl) (by (first | rfl | exact decide_eq_false (by omega))) ?_
          refine c_skip ?_
          refine hK4 _ _ ?_
          refine fg3 1 0 5 (gS rfl (gS rfl (gS rfl g0))) (gS rfl (gS rfl g0)) (gS rfl g0) (fun g => ?_)
          refine c_seq (fun K8 hK8 => ?_)
          refine c_seq (fun K9 hK9 => ?_)
          exact (by
            refine c_region ?_
            refine l_step (y_moveV (et (gS rfl (gS rfl g0)) rfl)) ?_
            refine l_step (y_mul rfl (et g0 rfl) (wrapU_mulN (a := 32) uk32 ?_)) ?_
            omega
            refine l_step (y_moveV (et (gS rfl (gS rfl g0)) rfl)) ?_
            refine l_step (y_len Hvaa.underlying38 (et g0 rfl)) ?_
            refine l_step (y_conv Hvaa.underlying3 Hvaa.underlying60 (et g0 rfl) (wrapU_id uk32 ?_)) ?_
            omega
            refine l_step (y_leq (et (gS rfl (gS rfl (gS rfl g0))) rfl) (et g0 rfl)) ?_
            refine l_nil ?_
            refine hK9 _ _ ?_
            refine fg4 1 0 5 26 (gS rfl (gS rfl (gS rfl (gS rfl (gS rfl (gS rfl (gS rfl (gS rfl g0)))))))) (gS rfl (gS rfl (gS rfl (gS rfl (gS rfl (gS rfl (gS rfl g0))))))) (gS rfl (gS rfl (gS rfl (gS rfl (gS rfl (gS rfl g0)))))) g0 (fun g => ?_)
            refine c_false (et g0 rfl) (by (exact decide_eq_false (by omega))) ?_
            refine c_skip ?_
            refine hK8 _ _ ?_
            refine fg3 1 0 5 (gS rfl (gS rfl (gS rfl g0))) (gS rfl (gS rfl g0)) (gS rfl g0) (fun g => ?_)
            refine c_seq (fun K11 hK11 => ?_)
            exact (by
              refine c_region ?_
              refine l_step (y_moveV (et (gS rfl (gS rfl g0)) rfl)) ?_
              refine l_step (y_mul rfl (et g0 rfl) (wrapU_mulN (a := 32) uk32 ?_)) ?_
              omega
              refine l_step (y_conv Hvaa.underlying60 Hvaa.underlying3 (et g0 rfl) (wrapIN ?_)) ?_
              omega
              refine l_step (y_moveV (et (gS rfl (gS rfl (gS rfl g0))) rfl)) ?_
              refine l_step (y_len Hvaa.underlying38 (et g0 rfl)) ?_
              refine l_step (y_sub (et (gS rfl (gS rfl g0)) rfl) (et g0 rfl) (subIN ?_ ?_)) ?_
              omega
              omega
              refine l_step (y_assignV (et g0 rfl)) ?_
              refine l_nil ?_
              refine hK11 _ _ ?_
              refine fg2 0 7 (gS rfl (gS rfl (gS rfl (gS rfl (gS rfl (gS rfl (gS rfl (gS rfl g0)))))))) g0 (fun g => ?_)
              refine c_seq (fun K12 hK12 => ?_)
              exact (by
                refine c_draw Up 10 [(0, true), (1, true), (2, true), (3, true), (4, true), (5, true), (6, true), (7, true), (8, true), (9, true)] (by kernel_rfl) (fun w13 hu => ⟨Up.refl _, ?_⟩)
                replace kC := kC.up hu
                replace kM := kM.up hu
                replace U := U.tr hu
                have SU := Up.refl w13
                refine p_step (by exact rfl) (y_moveV (et (gS rfl g0) rfl)) ?_
                refine p_step (by exact rfl) (y_moveV (et (gS rfl (gS rfl g0)) rfl)) ?_
                refine p_step (by exact rfl) (y_nil (et g0 rfl)) ?_
                refine p_step (by exact rfl) (y_fld fld_63_2 (et g0 rfl)) ?_
                refine p_step (by exact rfl) (y_load1 one_5 (et g0 rfl) (atS (kC.c1 htp rfl))) ?_
                refine p_step (by exact rfl) (y_nil (et (gS rfl (gS rfl (gS rfl (gS rfl g0)))) rfl)) ?_
                refine p_step (by exact rfl) (y_fld fld_63_1 (et g0 rfl)) ?_
                refine p_step (by exact rfl) (y_idxA Hvaa.underlying61 sz_60 (et g0 rfl) (et (gS rfl (gS rfl g0)) rfl) ?_ ?_) ?_
                omega
                omega
                refine p_step (by exact rfl) (y_load1 one_60 (et g0 rfl) (atS (kC.c1 hhi (by omega)))) ?_
                refine p_step (by exact rfl) (y_assignV (et g0 rfl)) ?_
                refine p_nil ?_
                refine hK12 _ _ ?_
                refine fg3 0 7 8 (gS rfl (gS rfl (gS rfl (gS rfl (gS rfl (gS rfl (gS rfl (gS rfl (gS rfl (gS rfl (gS rfl g0))))))))))) (gS rfl (gS rfl (gS rfl (gS rfl (gS rfl (gS rfl (gS rfl (gS rfl (gS rfl (gS rfl g0)))))))))) g0 (fun g => ?_)
                refine c_seq (fun K14 hK14 => ?_)
                exact (by
                  refine c_region ?_
                  refine l_step (y_moveV (et (gS rfl (gS rfl g0)) rfl)) ?_
                  refine l_step (y_nil (et g0 rfl)) ?_
                  refine l_step (y_fld fld_63_0 (et g0 rfl)) ?_
                  refine l_step (y_load1 one_38 (et g0 rfl) (at1 (kC.c1 hbf rfl))) ?_
                  refine l_step (y_moveV (et (gS rfl (gS rfl (gS rfl (gS rfl g0)))) rfl)) ?_
                  refine l_step (y_slS100g Hvaa.underlying38 sz_5 (et (gS rfl g0) rfl) (et g0 rfl) ?_ ?_) ?_
                  omega
                  omega
                  refine l_step (y_assignV (et g0 rfl)) ?_
                  refine l_nil ?_
                  refine hK14 _ _ ?_
                  refine fg4 0 7 8 9 (gS rfl (gS rfl (gS rfl (gS rfl (gS rfl (gS rfl (gS rfl (gS rfl (gS rfl g0))))))))) (gS rfl (gS rfl (gS rfl (gS rfl (gS rfl (gS rfl (gS rfl (gS rfl g0)))))))) (gS rfl (gS rfl (gS rfl (gS rfl (gS rfl (gS rfl (gS rfl g0))))))) g0 (fun g => ?_)
                  refine c_seq (fun K15 hK15 => ?_)
                  refine c_seq (fun K16 hK16 => ?_)
                  exact (by
                    refine c_region ?_
                    refine l_step (y_moveV (et g0 rfl)) ?_
                    refine l_step (y_len Hvaa.underlying38 (et g0 rfl)) ?_
                    refine l_step (y_moveV (et (gS rfl (gS rfl (gS rfl (gS rfl g0)))) rfl)) ?_
                    refine l_step (y_geq (et (gS rfl g0) rfl) (et g0 rfl)) ?_
                    refine l_nil ?_
                    refine hK16 _ _ ?_
                    refine fg5 0 7 8 9 51 (gS rfl (gS rfl (gS rfl (gS rfl (gS rfl (gS rfl (gS rfl g0))))))) (gS rfl (gS rfl (gS rfl (gS rfl (gS rfl (gS rfl g0)))))) (gS rfl (gS rfl (gS rfl (gS rfl (gS rfl g0))))) (gS rfl (gS rfl (gS rfl (gS rfl g0)))) g0 (fun g => ?_)
                    refine c_false (et g0 rfl) (by (exact decide_eq_false (by omega))) ?_
                    refine c_seq (fun K18 hK18 => ?_)
                    exact (by
                      refine c_region ?_
                      refine l_step (y_moveV (et (gS rfl g0) rfl)) ?_
                      refine l_effN (e_clear0 Hvaa.underlying38 (et g0 rfl) (.inr (by omega))) (fun v19 w19 h19 => ?_)
                      obtain ⟨rfl, hw19⟩ := h19
                      replace kC := kC.up (up_eq hw19)
                      replace kM := kM.up (up_eq hw19)
                      replace U := U.tr (up_eq hw19)
                      refine l_nil ?_
                      refine hK18 _ _ ?_
                      refine fg4 0 7 8 9 (gS rfl (gS rfl (gS rfl (gS rfl (gS rfl g0))))) (gS rfl (gS rfl (gS rfl (gS rfl g0)))) (gS rfl (gS rfl (gS rfl g0))) (gS rfl (gS rfl g0)) (fun g => ?_)
                      refine c_region ?_
                      refine l_step (y_moveV (et (gS rfl (gS rfl (gS rfl g0))) rfl)) ?_
                      refine l_step (y_moveV (et (gS rfl (gS rfl (gS rfl (gS rfl g0)))) rfl)) ?_
                      refine l_step (y_nil (et g0 rfl)) ?_
                      refine l_step (y_fld fld_63_0 (et g0 rfl)) ?_
                      refine l_step (y_load1 one_38 (et g0 rfl) (at1 (kC.c1 hbf rfl))) ?_
                      refine l_step (y_moveV (et (gS rfl (gS rfl (gS rfl (gS rfl (gS rfl (gS rfl (gS rfl g0))))))) rfl)) ?_
                      refine l_step (y_moveV (et (gS rfl (gS rfl (gS rfl (gS rfl (gS rfl (gS rfl g0)))))) rfl)) ?_
                      refine l_step (y_len Hvaa.underlying38 (et g0 rfl)) ?_
                      refine l_step (y_sub (et (gS rfl (gS rfl g0)) rfl) (et g0 rfl) ((subIN ?_ ?_).trans (castE (show _ = (32 * W - m.length) by omega)))) ?_
                      omega
                      omega
                      have hbc1 := kC.lt
                      have hU1 := U.size
                      have hown : ∀ b, (Value.slice (some ⟨bm, 0, none⟩) n cap).ownBlock = some b → b = bm ∧ col bm = 8 := fun b hb => by cases hb; exact ⟨rfl, hc8⟩
                      refine l_eff (e_appZ (k := (32 * W - m.length)) (et (gS rfl (gS rfl (gS rfl (gS rfl g0)))) rfl) (show GB _ 1 (.slice (some ⟨bm, 0, none⟩) n cap) bm cm n from ⟨.inr ⟨cap, rfl, hcap, hcmx, by omega, kM⟩⟩) (et g0 rfl) (by omega) (by omega)) (fun v20 w20 h20 => ?_)
                      obtain ⟨bg9, cur9, hG9, hP9, hR9, ch20, hd9⟩ := h20
                      obtain ⟨cap8, rfl, hc81, hc82, hc83, kG⟩ := hG9.pos (by omega)
                      replace kC := kC.ch ch20 (by intro hm; have h8 := hown _ hm; rw [h8.1] at hcC; omega)
                      replace U := U.cc ch20 (by intro b hb; first | exact .inl (.inl hb) | exact .inl (.inr ⟨hb, hc8⟩) | (have h9 := hown b hb; exact .inl (.inr h9)))
                      have hG0 := kG.lt
                      have hgc : bg9 ≠ bc := by
                        rcases hd9 with h9 | ⟨h9, _⟩
                        · intro e
                          have h8 := hown _ h9; rw [h8.1] at e; subst e; omega
                        · intro e; have := hbc1; omega
                      exact (by
                        refine l_step (y_nil (et (gS rfl (gS rfl (gS rfl (gS rfl (gS rfl (gS rfl (gS rfl (gS rfl (gS rfl g0))))))))) rfl)) ?_
                        refine l_step (y_fld fld_63_0 (et g0 rfl)) ?_
                        refine l_effN (e_store sz_38 (et g0 rfl) (cellsV (et (gS rfl (gS rfl g0)) rfl) rfl) rfl (by intro v hv; simp at hv; subst hv; rfl) kC (by omega)) (fun v21 w21 h21 => ?_)
                        obtain ⟨rfl, x21⟩ := h21
                        replace kG := kG.ch x21.ch (by intro hm; omega)
                        replace kC := x21.blk
                        replace U := U.st x21 (.inl (by exact .inl rfl))
                        refine l_nil ?_
                        refine hK15 _ _ ?_
                        refine fg3 0 7 8 (gS rfl (gS rfl (gS rfl (gS rfl (gS rfl (gS rfl (gS rfl (gS rfl (gS rfl (gS rfl (gS rfl (gS rfl (gS rfl (gS rfl (gS rfl g0))))))))))))))) (gS rfl (gS rfl (gS rfl (gS rfl (gS rfl (gS rfl (gS rfl (gS rfl (gS rfl (gS rfl (gS rfl (gS rfl (gS rfl (gS rfl g0)))))))))))))) (gS rfl (gS rfl (gS rfl (gS rfl (gS rfl (gS rfl (gS rfl (gS rfl (gS rfl (gS rfl (gS rfl (gS rfl (gS rfl g0))))))))))))) (fun g => ?_)
                        refine c_seq (fun K22 hK22 => ?_)
                        exact (by
                          refine c_draw Up 12 [(0, true), (1, true), (2, true), (3, true), (4, true), (5, true), (6, true), (7, true), (8, true), (9, true), (10, true), (11, true), (12, false)] (by kernel_rfl) (fun w23 hu => ⟨Up.refl _, ?_⟩)
                          replace kC := kC.up hu
                          replace kG := kG.up hu
                          replace U := U.tr hu
                          have SU := Up.refl w23
                          refine p_step (by exact rfl) (y_moveV (et (gS rfl (gS rfl g0)) rfl)) ?_
                          refine p_step (by exact rfl) (y_moveV (et (gS rfl (gS rfl (gS rfl g0))) rfl)) ?_
                          refine p_step (by exact rfl) (y_nil (et g0 rfl)) ?_
                          refine p_step (by exact rfl) (y_fld fld_63_2 (et g0 rfl)) ?_
                          refine p_step (by exact rfl) (y_load1 one_5 (et g0 rfl) (atS (kC.c1 (show (spl cs _ _)[10]? = some (Value.int .u8 (low.length + 1 : Nat)) by rw [sp1 (by decide)]; exact htp) rfl))) ?_
                          refine p_step (by exact rfl) (y_moveV (et (gS rfl (gS rfl (gS rfl (gS rfl (gS rfl g0))))) rfl)) ?_
                          refine p_step (by exact rfl) (y_moveV (et (gS rfl (gS rfl (gS rfl (gS rfl (gS rfl (gS rfl (gS rfl g0))))))) rfl)) ?_
                          refine p_step (by exact rfl) (y_conv Hvaa.underlying3 Hvaa.underlying60 (et g0 rfl) (wrapU_id uk32 ?_)) ?_
                          omega
                          refine p_step (by exact rfl) (y_add (et (gS rfl (gS rfl g0)) rfl) (et g0 rfl) (wrapU_addN uk32 ?_)) ?_
                          omega
                          refine p_step (by exact rfl) (y_nil (et (gS rfl (gS rfl (gS rfl (gS rfl (gS rfl (gS rfl (gS rfl (gS rfl g0)))))))) rfl)) ?_
                          refine p_step (by exact rfl) (y_fld fld_63_1 (et g0 rfl)) ?_
                          refine p_step (by exact rfl) (y_idxA Hvaa.underlying61 sz_60 (et g0 rfl) (et (gS rfl (gS rfl (gS rfl (gS rfl (gS rfl (gS rfl g0)))))) rfl) ?_ ?_) ?_
                          omega
                          omega
                          refine p_effN (by exact rfl) (e_store sz_60 (et g0 rfl) (cellsV (et (gS rfl (gS rfl (gS rfl g0))) rfl) rfl) rfl (by intro v hv; simp at hv; subst hv; rfl) kC (by (first | omega | (rw [size_spl]; omega)))) (fun v24 w24 h24 => ?_)
                          obtain ⟨rfl, x24⟩ := h24
                          replace kG := kG.ch x24.ch (by intro hm; omega)
                          replace kC := x24.blk
                          replace U := U.st x24 (.inl (by exact .inl rfl))
                          refine ⟨.inl rfl, ?_⟩
                          refine p_nil ?_
                          refine hK22 _ _ ?_
                          refine fg0 (fun g => ?_)
                          refine c_seq (fun K25 hK25 => ?_)
                          exact (by
                            refine c_region ?_
                            refine l_step y_assignC ?_
                            refine l_nil ?_
                            refine hK25 _ _ ?_
                            refine c_ret ?_
                            repeat with_reducible refine then_ret ?_
                            refine ret1 rfl (res_tmp (et g0 rfl)) ?_
                            have e1 : n + (32 * W - m.length) = low.flatten.length + m.length + (32 * W - m.length) := by omega
                            have hrw0 : RowIn cur9 0 (bL (low.flatten ++ m)) := hP9.row (by have h9 := hM.by'; rw [flat_snoc] at h9; exact h9) (by rw [length_bL, List.length_append]; omega)
                            have hrw1 : RowIn cur9 (low.flatten.length + m.length) (bL (List.replicate ((32 * W - m.length)) 0)) := by
                              rw [show (32 * W - m.length) = (0) + (32 * W - m.length) by omega]
                              refine row_join ?_ ?_
                              · exact row_nil _ _
                              · rw [show (low.flatten.length + m.length) + (0) = n by omega, bz]
                                exact hR9
                            have hcell : ∀ (c9 : Array Value) (v9 : Value), c9.size = 27024 → (spl c9 (1 + 1 + (((low.length + 1 : Nat) : Int)).toNat * 1) [v9])[2 + (low.length + 1)]? = some v9 := fun c9 v9 hs9 => by
                              rw [show 2 + (low.length + 1) = 1 + 1 + (((low.length + 1 : Nat) : Int)).toNat * 1 by omega]
                              exact sp0 (by omega)
                            have hG8 : ∀ (u : World), Blk u bg9 cur9 → GB u 1 (.slice (some ⟨bg9, 0, none⟩) (n + (32 * W - m.length)) cap8) bg9 cur9 (n + (32 * W - m.length)) := fun u hu => ⟨.inr ⟨cap8, rfl, hc81, hc82, hc83, hu⟩⟩
                            have hOut : Out cs _ 1 10 := ((Out.refl cs 1 10).put (j := 1) (v := .slice (some ⟨bg9, 0, none⟩) (n + (32 * W - m.length)) cap8) (by decide) (by decide)).put (j := 1 + 1 + (((low.length + 1 : Nat) : Int)).toNat * 1) (v := .int .u32 (low.flatten.length + m.length + (32 * W - m.length) : Nat)) (by omega) (by omega)
                            rcases hd9 with hd9 | ⟨hd9, _⟩
                            · cases hd9
                              refine ⟨rfl, col, _, bm, cur9, _, kC, hM.grown (hG8 _ kG) (fun _ => hc8) (by rw [sp1 (by omega)]; exact sp0 (by omega)) (by rw [sp1 (by omega), sp1 (by omega)]) (fun i hi => by rw [sp1 (by omega), sp1 (by omega)]) (hcell _ _ (by rw [size_spl]; exact hz)) hrw0 hrw1 (by omega) (by omega) (by omega), hOut, U, fun _ => .inl rfl⟩
                            · refine ⟨rfl, fun q => if q = bg9 then 8 else col q, _, bg9, cur9, _, kC, hM.grown (hG8 _ kG) (fun _ => if_pos rfl) (by rw [sp1 (by omega)]; exact sp0 (by omega)) (by rw [sp1 (by omega), sp1 (by omega)]) (fun i hi => by rw [sp1 (by omega), sp1 (by omega)]) (hcell _ _ (by rw [size_spl]; exact hz)) hrw0 hrw1 (by omega) (by omega) (by omega), hOut, U, fun q => ?_⟩
                              by_cases hq : q = bg9
                              · right
                                subst hq
                                exact ⟨by omega, kG.lt, rfl, if_pos rfl⟩
                              · left
                                exact if_neg hq))))))))))))
theorem g_growb0 {w : World} {col : Nat → Nat} {bc : Nat} {cs : Array Value} {low : List (List Nat)} {m : List Nat} {bm : Nat} {cm : Array Value} {n : Nat} (kC : Blk w bc cs) (hM : MA w col cs (low ++ [m]) bm cm n) (hcC : col bc = 1) (W : Nat) (hW : W ≤ 22415) (hWm : m.length < 32 * W) (hfr : low.flatten.length ≤ 6 * 717280) (hz : cs.size = 27024) (hbf : cs[1]? = some (.slice none 0 0)) (hn0 : n = 0) :
    Ret 272 [.pointer (some ⟨bc, 1, none⟩), .int .u32 (W : Nat)] w (fun v w' => v = .bool true ∧ ∃ (col' : Nat → Nat) (cs' : Array Value) (bm' : Nat) (cm' : Array Value) (n' : Nat), Blk w' bc cs' ∧ MA w' col' cs' (low ++ [m ++ List.replicate (32 * W - m.length) 0]) bm' cm' n' ∧ Out cs cs' 1 10 ∧ Ch (fun b => b = bc ∨ (b = bm ∧ col bm = 8)) w w' ∧ (∀ q, col' q = col q ∨ (w.heap.size ≤ q ∧ q < w'.heap.size ∧ q = bm' ∧ col' q = 8))) := by
  have htp : cs[10]? = some (.int .u8 (low.length + 1 : Nat)) := by have h9 := hM.tp; rw [List.length_append, List.length_singleton] at h9; exact h9
  have hlo : cs[2 + low.length]? = some (.int .u32 (low.flatten.length : Nat)) := by have h9 := hM.bs low.length (by simp); rw [bsN_low] at h9; exact h9
  have hhi : cs[2 + (low.length + 1)]? = some (.int .u32 (low.flatten.length + m.length : Nat)) := by have h9 := hM.bs (low.length + 1) (by simp); rw [bsN_top] at h9; exact h9
  have hln : low.length + 1 ≤ 7 := by have h9 := hM.ln; rw [List.length_append, List.length_singleton] at h9; exact h9
  have hfl : low.flatten.length + m.length ≤ n := by have h9 := hM.le; rw [flat_snoc, List.length_append] at h9; exact h9
  have hnb := hM.nb
  have hmx : m.length ≤ 717280 := hM.mx m (by simp)
  have hbc0 := kC.lt
  refine enter (n := 80) Hvaa.func272 rfl rfl (Nat.le_of_ble_eq_true rfl) ?_
  have U : Ch (fun b => b = bc ∨ (b = bm ∧ col bm = 8)) w w := Ch.refl _ w
  refine c_seq (fun K1 hK1 => ?_)
  exact (by
    refine c_region ?_
    refine l_step y_assignC ?_
    refine l_nil ?_
    refine hK1 _ _ ?_
    refine fg2 1 0 (gS rfl (gS rfl g0)) (gS rfl g0) (fun g => ?_)
    refine c_seq (fun K2 hK2 => ?_)
    exact (by
      refine c_region ?_
      refine l_step (y_moveV (et g0 rfl)) ?_
      refine l_eff (e_callV cal_363 (aC (et g0 rfl) aN) (g_top kC hM hcC)) (fun v3 w3 h3 => ?_)
      obtain ⟨a9, rfl, ha9, u3⟩ := h3
      replace kC := kC.up u3
      replace U := U.tr u3
      refine l_step (y_moveV (et g0 rfl)) ?_
      refine l_step (y_ext (et g0 rfl) rfl) ?_
      refine l_step (y_ext (et (gS rfl g0) rfl) rfl) ?_
      refine l_step (y_assignV (et (gS rfl g0) rfl)) ?_
      refine l_step (y_assignV (et (gS rfl g0) rfl)) ?_
      refine l_nil ?_
      refine hK2 _ _ ?_
      refine fg4 1 0 5 6 (gS rfl (gS rfl (gS rfl (gS rfl (gS rfl (gS rfl (gS rfl (gS rfl g0)))))))) (gS rfl (gS rfl (gS rfl (gS rfl (gS rfl (gS rfl (gS rfl g0))))))) (gS rfl g0) g0 (fun g => ?_)
      refine c_seq (fun K4 hK4 => ?_)
      refine c_seq (fun K5 hK5 => ?_)
      exact (by
        refine c_region ?_
        refine l_step (y_moveV (et g0 rfl)) ?_
        refine l_step (y_not (et g0 rfl)) ?_
        refine l_step (y_moveV (et g0 rfl)) ?_
        refine gsplitL (i := 17) g0 (fun q6 => ?_) (fun q6 => ?_)
        · skip
          cases q6
        · skip
          refine l_gstep (j := 2) (t := 17) (by exact rfl) (by exact rfl) (et g0 rfl) (by decide) (y_moveV (et (gS rfl (gS rfl (gS rfl (gS rfl (gS rfl (gS rfl (gS rfl g0))))))) rfl)) ?_
          refine l_gstep (j := 2) (t := 17) (by exact rfl) (by exact rfl) (et (gS rfl g0) rfl) (by decide) (y_gtr (et g0 rfl) rfl) ?_
          refine l_step (y_pickF (et (gS rfl (gS rfl g0)) rfl) (et g0 rfl)) ?_
          refine l_nil ?_
          refine hK5 _ _ ?_
          refine fg4 1 0 5 20 (gS rfl (gS rfl (gS rfl (gS rfl (gS rfl (gS rfl (gS rfl (gS rfl (gS rfl (gS rfl g0)))))))))) (gS rfl (gS rfl (gS rfl (gS rfl (gS rfl (gS rfl (gS rfl (gS rfl (gS rfl g0))))))))) (gS rfl (gS rfl (gS rfl (gS rfl (gS rfl (gS rfl (gS rfl (gS rfl g0)))))))) g0 (fun g => ?_)
          refine c_false (et g0 rfl) (by (first | rfl | exact decide_eq_false (by omega))) ?_
          refine c_skip ?_
          refine hK4 _ _ ?_
          refine fg3 1 0 5 (gS rfl (gS rfl (gS rfl g0))) (gS rfl (gS rfl g0)) (gS rfl g0) (fun g => ?_)
          refine c_seq (fun K8 hK8 => ?_)
          refine c_seq (fun K9 hK9 => ?_)
          exact (by
            refine c_region ?_
            refine l_step (y_moveV (et (gS rfl (gS rfl g0)) rfl)) ?_
            refine l_step (y_mul rfl (et g0 rfl) (wrapU_mulN (a := 32) uk32 ?_)) ?_
            omega
            refine l_step (y_moveV (et (gS rfl (gS rfl g0)) rfl)) ?_
            refine l_step (y_len Hvaa.underlying38 (et g0 rfl)) ?_
            refine l_step (y_conv Hvaa.underlying3 Hvaa.underlying60 (et g0 rfl) (wrapU_id uk32 ?_)) ?_
            omega
            refine l_step (y_leq (et (gS rfl (gS rfl (gS rfl g0))) rfl) (et g0 rfl)) ?_
            refine l_nil ?_
            refine hK9 _ _ ?_
            refine fg4 1 0 5 26 (gS rfl (gS rfl (gS rfl (gS rfl (gS rfl (gS rfl (gS rfl (gS rfl g0)))))))) (gS rfl (gS rfl (gS rfl (gS rfl (gS rfl (gS rfl (gS rfl g0))))))) (gS rfl (gS rfl (gS rfl (gS rfl (gS rfl (gS rfl g0)))))) g0 (fun g => ?_)
            refine c_false (et g0 rfl) (by (exact decide_eq_false (by omega))) ?_
            refine c_skip ?_
            refine hK8 _ _ ?_
            refine fg3 1 0 5 (gS rfl (gS rfl (gS rfl g0))) (gS rfl (gS rfl g0)) (gS rfl g0) (fun g => ?_)
            refine c_seq (fun K11 hK11 => ?_)
            exact (by
              refine c_region ?_
              refine l_step (y_moveV (et (gS rfl (gS rfl g0)) rfl)) ?_
              refine l_step (y_mul rfl (et g0 rfl) (wrapU_mulN (a := 32) uk32 ?_)) ?_
              omega
              refine l_step (y_conv Hvaa.underlying60 Hvaa.underlying3 (et g0 rfl) (wrapIN ?_)) ?_
              omega
              refine l_step (y_moveV (et (gS rfl (gS rfl (gS rfl g0))) rfl)) ?_
              refine l_step (y_len Hvaa.underlying38 (et g0 rfl)) ?_
              refine l_step (y_sub (et (gS rfl (gS rfl g0)) rfl) (et g0 rfl) (subIN ?_ ?_)) ?_
              omega
              omega
              refine l_step (y_assignV (et g0 rfl)) ?_
              refine l_nil ?_
              refine hK11 _ _ ?_
              refine fg2 0 7 (gS rfl (gS rfl (gS rfl (gS rfl (gS rfl (gS rfl (gS rfl (gS rfl g0)))))))) g0 (fun g => ?_)
              refine c_seq (fun K12 hK12 => ?_)
              exact (by
                refine c_draw Up 10 [(0, true), (1, true), (2, true), (3, true), (4, true), (5, true), (6, true), (7, true), (8, true), (9, true)] (by kernel_rfl) (fun w13 hu => ⟨Up.refl _, ?_⟩)
                replace kC := kC.up hu
                replace U := U.tr hu
                have SU := Up.refl w13
                refine p_step (by exact rfl) (y_moveV (et (gS rfl g0) rfl)) ?_
                refine p_step (by exact rfl) (y_moveV (et (gS rfl (gS rfl g0)) rfl)) ?_
                refine p_step (by exact rfl) (y_nil (et g0 rfl)) ?_
                refine p_step (by exact rfl) (y_fld fld_63_2 (et g0 rfl)) ?_
                refine p_step (by exact rfl) (y_load1 one_5 (et g0 rfl) (atS (kC.c1 htp rfl))) ?_
                refine p_step (by exact rfl) (y_nil (et (gS rfl (gS rfl (gS rfl (gS rfl g0)))) rfl)) ?_
                refine p_step (by exact rfl) (y_fld fld_63_1 (et g0 rfl)) ?_
                refine p_step (by exact rfl) (y_idxA Hvaa.underlying61 sz_60 (et g0 rfl) (et (gS rfl (gS rfl g0)) rfl) ?_ ?_) ?_
                omega
                omega
                refine p_step (by exact rfl) (y_load1 one_60 (et g0 rfl) (atS (kC.c1 hhi (by omega)))) ?_
                refine p_step (by exact rfl) (y_assignV (et g0 rfl)) ?_
                refine p_nil ?_
                refine hK12 _ _ ?_
                refine fg3 0 7 8 (gS rfl (gS rfl (gS rfl (gS rfl (gS rfl (gS rfl (gS rfl (gS rfl (gS rfl (gS rfl (gS rfl g0))))))))))) (gS rfl (gS rfl (gS rfl (gS rfl (gS rfl (gS rfl (gS rfl (gS rfl (gS rfl (gS rfl g0)))))))))) g0 (fun g => ?_)
                refine c_seq (fun K14 hK14 => ?_)
                exact (by
                  refine c_region ?_
                  refine l_step (y_moveV (et (gS rfl (gS rfl g0)) rfl)) ?_
                  refine l_step (y_nil (et g0 rfl)) ?_
                  refine l_step (y_fld fld_63_0 (et g0 rfl)) ?_
                  refine l_step (y_load1 one_38 (et g0 rfl) (at1 (kC.c1 hbf rfl))) ?_
                  refine l_step (y_moveV (et (gS rfl (gS rfl (gS rfl (gS rfl g0)))) rfl)) ?_
                  refine l_step (y_slS100z Hvaa.underlying38 sz_5 (et (gS rfl g0) rfl) (et g0 rfl) ?_) ?_
                  omega
                  refine l_step (y_assignV (et g0 rfl)) ?_
                  refine l_nil ?_
                  refine hK14 _ _ ?_
                  refine fg4 0 7 8 9 (gS rfl (gS rfl (gS rfl (gS rfl (gS rfl (gS rfl (gS rfl (gS rfl (gS rfl g0))))))))) (gS rfl (gS rfl (gS rfl (gS rfl (gS rfl (gS rfl (gS rfl (gS rfl g0)))))))) (gS rfl (gS rfl (gS rfl (gS rfl (gS rfl (gS rfl (gS rfl g0))))))) g0 (fun g => ?_)
                  refine c_seq (fun K15 hK15 => ?_)
                  refine c_seq (fun K16 hK16 => ?_)
                  exact (by
                    refine c_region ?_
                    refine l_step (y_moveV (et g0 rfl)) ?_
                    refine l_step (y_len Hvaa.underlying38 (et g0 rfl)) ?_
                    refine l_step (y_moveV (et (gS rfl (gS rfl (gS rfl (gS rfl g0)))) rfl)) ?_
                    refine l_step (y_geq (et (gS rfl g0) rfl) (et g0 rfl)) ?_
                    refine l_nil ?_
                    refine hK16 _ _ ?_
                    refine fg5 0 7 8 9 51 (gS rfl (gS rfl (gS rfl (gS rfl (gS rfl (gS rfl (gS rfl g0))))))) (gS rfl (gS rfl (gS rfl (gS rfl (gS rfl (gS rfl g0)))))) (gS rfl (gS rfl (gS rfl (gS rfl (gS rfl g0))))) (gS rfl (gS rfl (gS rfl (gS rfl g0)))) g0 (fun g => ?_)
                    refine c_false (et g0 rfl) (by (exact decide_eq_false (by omega))) ?_
                    refine c_seq (fun K18 hK18 => ?_)
                    exact (by
                      refine c_region ?_
                      refine l_step (y_moveV (et (gS rfl g0) rfl)) ?_
                      refine l_effN (e_clear0 Hvaa.underlying38 (et g0 rfl) (.inl rfl)) (fun v19 w19 h19 => ?_)
                      obtain ⟨rfl, hw19⟩ := h19
                      replace kC := kC.up (up_eq hw19)
                      replace U := U.tr (up_eq hw19)
                      refine l_nil ?_
                      refine hK18 _ _ ?_
                      refine fg4 0 7 8 9 (gS rfl (gS rfl (gS rfl (gS rfl (gS rfl g0))))) (gS rfl (gS rfl (gS rfl (gS rfl g0)))) (gS rfl (gS rfl (gS rfl g0))) (gS rfl (gS rfl g0)) (fun g => ?_)
                      refine c_region ?_
                      refine l_step (y_moveV (et (gS rfl (gS rfl (gS rfl g0))) rfl)) ?_
                      refine l_step (y_moveV (et (gS rfl (gS rfl (gS rfl (gS rfl g0)))) rfl)) ?_
                      refine l_step (y_nil (et g0 rfl)) ?_
                      refine l_step (y_fld fld_63_0 (et g0 rfl)) ?_
                      refine l_step (y_load1 one_38 (et g0 rfl) (at1 (kC.c1 hbf rfl))) ?_
                      refine l_step (y_moveV (et (gS rfl (gS rfl (gS rfl (gS rfl (gS rfl (gS rfl (gS rfl g0))))))) rfl)) ?_
                      refine l_step (y_moveV (et (gS rfl (gS rfl (gS rfl (gS rfl (gS rfl (gS rfl g0)))))) rfl)) ?_
                      refine l_step (y_len Hvaa.underlying38 (et g0 rfl)) ?_
                      refine l_step (y_sub (et (gS rfl (gS rfl g0)) rfl) (et g0 rfl) ((subIN ?_ ?_).trans (castE (show _ = (32 * W - m.length) by omega)))) ?_
                      omega
                      omega
                      have hbc1 := kC.lt
                      have hU1 := U.size
                      have hown : ∀ b, (Value.slice none 0 0).ownBlock = some b → b = bm ∧ col bm = 8 := fun b hb => by cases hb
                      refine l_eff (e_appZ (k := (32 * W - m.length)) (et (gS rfl (gS rfl (gS rfl (gS rfl g0)))) rfl) (show GB _ 1 (.slice none 0 0) bm cm n from ⟨.inl ⟨rfl, hn0⟩⟩) (et g0 rfl) (by omega) (by omega)) (fun v20 w20 h20 => ?_)
                      obtain ⟨bg9, cur9, hG9, hP9, hR9, ch20, hd9⟩ := h20
                      obtain ⟨cap8, rfl, hc81, hc82, hc83, kG⟩ := hG9.pos (by omega)
                      replace kC := kC.ch ch20 (by intro hm; cases hm)
                      replace U := U.cc ch20 (by intro b hb; first | exact .inl (.inl hb) | exact .inl (.inr ⟨hb, hc8⟩) | (have h9 := hown b hb; exact .inl (.inr h9)))
                      have hG0 := kG.lt
                      have hgc : bg9 ≠ bc := by
                        rcases hd9 with h9 | ⟨h9, _⟩
                        · intro e
                          cases h9
                        · intro e; have := hbc1; omega
                      exact (by
                        refine l_step (y_nil (et (gS rfl (gS rfl (gS rfl (gS rfl (gS rfl (gS rfl (gS rfl (gS rfl (gS rfl g0))))))))) rfl)) ?_
                        refine l_step (y_fld fld_63_0 (et g0 rfl)) ?_
                        refine l_effN (e_store sz_38 (et g0 rfl) (cellsV (et (gS rfl (gS rfl g0)) rfl) rfl) rfl (by intro v hv; simp at hv; subst hv; rfl) kC (by omega)) (fun v21 w21 h21 => ?_)
                        obtain ⟨rfl, x21⟩ := h21
                        replace kG := kG.ch x21.ch (by intro hm; omega)
                        replace kC := x21.blk
                        replace U := U.st x21 (.inl (by exact .inl rfl))
                        refine l_nil ?_
                        refine hK15 _ _ ?_
                        refine fg3 0 7 8 (gS rfl (gS rfl (gS rfl (gS rfl (gS rfl (gS rfl (gS rfl (gS rfl (gS rfl (gS rfl (gS rfl (gS rfl (gS rfl (gS rfl (gS rfl g0))))))))))))))) (gS rfl (gS rfl (gS rfl (gS rfl (gS rfl (gS rfl (gS rfl (gS rfl (gS rfl (gS rfl (gS rfl (gS rfl (gS rfl (gS rfl g0)))))))))))))) (gS rfl (gS rfl (gS rfl (gS rfl (gS rfl (gS rfl (gS rfl (gS rfl (gS rfl (gS rfl (gS rfl (gS rfl (gS rfl g0))))))))))))) (fun g => ?_)
                        refine c_seq (fun K22 hK22 => ?_)
                        exact (by
                          refine c_draw Up 12 [(0, true), (1, true), (2, true), (3, true), (4, true), (5, true), (6, true), (7, true), (8, true), (9, true), (10, true), (11, true), (12, false)] (by kernel_rfl) (fun w23 hu => ⟨Up.refl _, ?_⟩)
                          replace kC := kC.up hu
                          replace kG := kG.up hu
                          replace U := U.tr hu
                          have SU := Up.refl w23
                          refine p_step (by exact rfl) (y_moveV (et (gS rfl (gS rfl g0)) rfl)) ?_
                          refine p_step (by exact rfl) (y_moveV (et (gS rfl (gS rfl (gS rfl g0))) rfl)) ?_
                          refine p_step (by exact rfl) (y_nil (et g0 rfl)) ?_
                          refine p_step (by exact rfl) (y_fld fld_63_2 (et g0 rfl)) ?_
                          refine p_step (by exact rfl) (y_load1 one_5 (et g0 rfl) (atS (kC.c1 (show (spl cs _ _)[10]? = some (Value.int .u8 (low.length + 1 : Nat)) by rw [sp1 (by decide)]; exact htp) rfl))) ?_
                          refine p_step (by exact rfl) (y_moveV (et (gS rfl (gS rfl (gS rfl (gS rfl (gS rfl g0))))) rfl)) ?_
                          refine p_step (by exact rfl) (y_moveV (et (gS rfl (gS rfl (gS rfl (gS rfl (gS rfl (gS rfl (gS rfl g0))))))) rfl)) ?_
                          refine p_step (by exact rfl) (y_conv Hvaa.underlying3 Hvaa.underlying60 (et g0 rfl) (wrapU_id uk32 ?_)) ?_
                          omega
                          refine p_step (by exact rfl) (y_add (et (gS rfl (gS rfl g0)) rfl) (et g0 rfl) (wrapU_addN uk32 ?_)) ?_
                          omega
                          refine p_step (by exact rfl) (y_nil (et (gS rfl (gS rfl (gS rfl (gS rfl (gS rfl (gS rfl (gS rfl (gS rfl g0)))))))) rfl)) ?_
                          refine p_step (by exact rfl) (y_fld fld_63_1 (et g0 rfl)) ?_
                          refine p_step (by exact rfl) (y_idxA Hvaa.underlying61 sz_60 (et g0 rfl) (et (gS rfl (gS rfl (gS rfl (gS rfl (gS rfl (gS rfl g0)))))) rfl) ?_ ?_) ?_
                          omega
                          omega
                          refine p_effN (by exact rfl) (e_store sz_60 (et g0 rfl) (cellsV (et (gS rfl (gS rfl (gS rfl g0))) rfl) rfl) rfl (by intro v hv; simp at hv; subst hv; rfl) kC (by (first | omega | (rw [size_spl]; omega)))) (fun v24 w24 h24 => ?_)
                          obtain ⟨rfl, x24⟩ := h24
                          replace kG := kG.ch x24.ch (by intro hm; omega)
                          replace kC := x24.blk
                          replace U := U.st x24 (.inl (by exact .inl rfl))
                          refine ⟨.inl rfl, ?_⟩
                          refine p_nil ?_
                          refine hK22 _ _ ?_
                          refine fg0 (fun g => ?_)
                          refine c_seq (fun K25 hK25 => ?_)
                          exact (by
                            refine c_region ?_
                            refine l_step y_assignC ?_
                            refine l_nil ?_
                            refine hK25 _ _ ?_
                            refine c_ret ?_
                            repeat with_reducible refine then_ret ?_
                            refine ret1 rfl (res_tmp (et g0 rfl)) ?_
                            have e1 : n + (32 * W - m.length) = low.flatten.length + m.length + (32 * W - m.length) := by omega
                            have hrw0 : RowIn cur9 0 (bL (low.flatten ++ m)) := hP9.row (by have h9 := hM.by'; rw [flat_snoc] at h9; exact h9) (by rw [length_bL, List.length_append]; omega)
                            have hrw1 : RowIn cur9 (low.flatten.length + m.length) (bL (List.replicate ((32 * W - m.length)) 0)) := by
                              rw [show (32 * W - m.length) = (0) + (32 * W - m.length) by omega]
                              refine row_join ?_ ?_
                              · exact row_nil _ _
                              · rw [show (low.flatten.length + m.length) + (0) = n by omega, bz]
                                exact hR9
                            have hcell : ∀ (c9 : Array Value) (v9 : Value), c9.size = 27024 → (spl c9 (1 + 1 + (((low.length + 1 : Nat) : Int)).toNat * 1) [v9])[2 + (low.length + 1)]? = some v9 := fun c9 v9 hs9 => by
                              rw [show 2 + (low.length + 1) = 1 + 1 + (((low.length + 1 : Nat) : Int)).toNat * 1 by omega]
                              exact sp0 (by omega)
                            have hG8 : ∀ (u : World), Blk u bg9 cur9 → GB u 1 (.slice (some ⟨bg9, 0, none⟩) (n + (32 * W - m.length)) cap8) bg9 cur9 (n + (32 * W - m.length)) := fun u hu => ⟨.inr ⟨cap8, rfl, hc81, hc82, hc83, hu⟩⟩
                            have hOut : Out cs _ 1 10 := ((Out.refl cs 1 10).put (j := 1) (v := .slice (some ⟨bg9, 0, none⟩) (n + (32 * W - m.length)) cap8) (by decide) (by decide)).put (j := 1 + 1 + (((low.length + 1 : Nat) : Int)).toNat * 1) (v := .int .u32 (low.flatten.length + m.length + (32 * W - m.length) : Nat)) (by omega) (by omega)
                            rcases hd9 with hd9 | ⟨hd9, _⟩
                            · cases hd9
                            · refine ⟨rfl, fun q => if q = bg9 then 8 else col q, _, bg9, cur9, _, kC, hM.grown (hG8 _ kG) (fun _ => if_pos rfl) (by rw [sp1 (by omega)]; exact sp0 (by omega)) (by rw [sp1 (by omega), sp1 (by omega)]) (fun i hi => by rw [sp1 (by omega), sp1 (by omega)]) (hcell _ _ (by rw [size_spl]; exact hz)) hrw0 hrw1 (by omega) (by omega) (by omega), hOut, U, fun q => ?_⟩
                              by_cases hq : q = bg9
                              · right
                                subst hq
                                exact ⟨by omega, kG.lt, rfl, if_pos rfl⟩
                              · left
                                exact if_neg hq))))))))))))
theorem g_grow {w : World} {col : Nat → Nat} {bc : Nat} {cs : Array Value} {low : List (List Nat)} {m : List Nat} {bm : Nat} {cm : Array Value} {n : Nat} (kC : Blk w bc cs) (hM : MA w col cs (low ++ [m]) bm cm n) (hcC : col bc = 1) (W : Nat) (hW : W ≤ 22415) (hWm : m.length < 32 * W) (hfr : low.flatten.length ≤ 6 * 717280) (hz : cs.size = 27024) : Ret 272 [.pointer (some ⟨bc, 1, none⟩), .int .u32 (W : Nat)] w (fun v w' => v = .bool true ∧ ∃ (col' : Nat → Nat) (cs' : Array Value) (bm' : Nat) (cm' : Array Value) (n' : Nat), Blk w' bc cs' ∧ MA w' col' cs' (low ++ [m ++ List.replicate (32 * W - m.length) 0]) bm' cm' n' ∧ Out cs cs' 1 10 ∧ Ch (fun b => b = bc ∨ (b = bm ∧ col bm = 8)) w w' ∧ (∀ q, col' q = col q ∨ (w.heap.size ≤ q ∧ q < w'.heap.size ∧ q = bm' ∧ col' q = 8))) := by
  obtain ⟨v, h1, h2, h3⟩ := hM.bf
  have hfl : low.flatten.length + m.length ≤ n := by have h9 := hM.le; rw [flat_snoc, List.length_append] at h9; exact h9
  rcases h2.at' with ⟨rfl, h4⟩ | ⟨cap, rfl, h4, h5, h6, h7⟩
  · exact g_growb0 kC hM hcC W hW hWm hfr hz h1 h4
  · rw [Nat.mul_one] at h6
    by_cases ha : 32 * W - m.length ≤ n - (low.flatten.length + m.length)
    · exact g_growa kC hM hcC W hW hWm hfr hz h1 h4 h5 h6 h7 (h3 rfl) ha
    · by_cases hb : n = low.flatten.length + m.length
      · exact g_growb1 kC hM hcC W hW hWm hfr hz h1 h4 h5 h6 h7 (h3 rfl) hb
      · exact g_growb2 kC hM hcC W hW hWm hfr hz h1 h4 h5 h6 h7 (h3 rfl) (by omega) (by omega)
end Go.Proofs.YgvaawGreat
