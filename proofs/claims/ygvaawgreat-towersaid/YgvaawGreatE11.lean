import Derived.Test.YgvaawGreatE10
import Derived.Test.YgvaawGreatEU
set_option maxRecDepth 100000
set_option maxHeartbeats 4000000
set_option linter.unusedSimpArgs false
set_option linter.unusedVariables false
namespace Go.Proofs.YgvaawGreat
open Go
theorem take_le1 {l : List Nat} {i id q : Nat} (h : (l.take id)[i]? = some q) : (l.take (id + 1))[i]? = some q := by
  rw [List.getElem?_take] at h ⊢
  split at h
  · rw [if_pos (by omega)]; exact h
  · cases h
theorem v_undoOne {w : World} {H : Store} {col : Nat → Nat} {bc : Nat} {cs : Array Value} {V : EV} (hV : VL w H col bc cs V) (ho : VOk V) {m : Nat} (hmk : V.marks[V.marks.length - 1]? = some m) (hmj : m < V.journal.length) {e9 : EEnt} (he9 : V.journal[V.journal.length - 1]? = some e9) (hlg : e9.kind = 7 → V.logs ≠ []) :
    Ret 356 [.pointer (some ⟨bc, 2435, none⟩)] w (fun v w' => v = .bool true ∧ ∃ col' cs', VT w H col bc cs w' H col' cs' (unV V e9)) := by
  have hT := VT.refl hV
  have hnw := hV.new
  have hcC := hV.colC
  have hml := ho.bd.marks
  obtain ⟨bj, cj, capj, vbj, hsl, hcap, hJ⟩ := hV.jour he9
  have hlJ := hsl
  have hjb := ho.bd.journal
  have hm0 : 0 < V.marks.length := by have := (List.getElem?_eq_some_iff.1 hmk).1; omega
  have hE := ho.jr e9 (List.mem_of_getElem? he9)
  refine enter (n := 55) Hvaa.func356 rfl rfl (Nat.le_of_ble_eq_true rfl) ?_
  have U : Ch (fun _ => True) w w := Ch.refl _ w
  refine c_seq (fun K1 hK1 => ?_)
  exact (by
    refine c_region ?_
    refine l_step y_assignC ?_
    refine l_nil ?_
    refine hK1 _ _ ?_
    refine fg1 0 (gS rfl g0) (fun g => ?_)
    refine c_seq (fun K2 hK2 => ?_)
    exact (by
      refine c_region ?_
      refine l_step (y_moveV (et g0 rfl)) ?_
      refine l_step (y_nil (et g0 rfl)) ?_
      refine l_step (y_fld fld_84_4 (et g0 rfl)) ?_
      refine l_step (y_load1 one_79 (et g0 rfl) (at1 (hT.vl.c1 hlJ rfl))) ?_
      refine l_step (y_len Hvaa.underlying79 (et g0 rfl)) ?_
      refine l_step (y_assignV (et g0 rfl)) ?_
      refine l_nil ?_
      refine hK2 _ _ ?_
      refine fg2 0 3 (gS rfl (gS rfl (gS rfl (gS rfl (gS rfl (gS rfl g0)))))) g0 (fun g => ?_)
      refine c_seq (fun K3 hK3 => ?_)
      refine c_seq (fun K4 hK4 => ?_)
      exact (by
        refine c_draw Up 26 [(0, true), (1, true), (2, true), (3, true), (4, true), (5, true), (6, true), (7, true), (8, true), (9, false), (10, true), (11, true), (12, true), (13, true), (14, true), (15, true), (16, true), (17, true), (18, true), (19, true), (20, true), (21, true), (22, true), (23, true), (24, true), (25, true)] (by kernel_rfl) (fun w5 hu => ⟨Up.refl _, ?_⟩)
        replace hT := hT.up hu
        replace hJ := hJ.up hu
        replace U := U.tr hu
        have SU := Up.refl w5
        have hT_s := hT
        refine p_step (by exact rfl) (y_moveV (et g0 rfl)) ?_
        refine p_step (by exact rfl) (y_eql (et g0 rfl) rfl) ?_
        refine p_step (by exact rfl) (y_moveV (et g0 rfl)) ?_
        refine gsplitP (i := 11) g0 (fun q6 => ?_) (fun q6 => ?_)
        · skip
          exact absurd (of_decide_eq_true q6) (by omega)
        · skip
          refine p_gstep (j := 2) (t := 11) (by exact rfl) (by exact rfl) (by exact rfl) (et g0 rfl) rfl (y_moveV (et (gS rfl (gS rfl (gS rfl (gS rfl (gS rfl g0))))) rfl)) ?_
          refine p_gstep (j := 2) (t := 11) (by exact rfl) (by exact rfl) (by exact rfl) (et (gS rfl g0) rfl) rfl (y_moveV (et (gS rfl (gS rfl (gS rfl (gS rfl (gS rfl (gS rfl g0)))))) rfl)) ?_
          refine p_gstep (j := 2) (t := 11) (by exact rfl) (by exact rfl) (by exact rfl) (et (gS rfl (gS rfl g0)) rfl) rfl (y_nil (et g0 rfl)) ?_
          refine p_gstep (j := 2) (t := 11) (by exact rfl) (by exact rfl) (by exact rfl) (et (gS rfl (gS rfl (gS rfl g0))) rfl) rfl (y_fld fld_84_6 (et g0 rfl)) ?_
          refine p_gstep (j := 2) (t := 11) (by exact rfl) (by exact rfl) (by exact rfl) (et (gS rfl (gS rfl (gS rfl (gS rfl g0)))) rfl) rfl (y_load1 one_21 (et g0 rfl) (atS (hT_s.vl.c1 hT_s.vl.nmk rfl))) ?_
          refine p_gstep (j := 2) (t := 11) (by exact rfl) (by exact rfl) (by exact rfl) (et (gS rfl (gS rfl (gS rfl (gS rfl (gS rfl g0))))) rfl) rfl (y_sub (et g0 rfl) rfl (wrap_i32 ?_ ?_)) ?_
          omega
          omega
          refine p_geff (j := 2) (t := 11) (by exact rfl) (by exact rfl) (by exact rfl) (et (gS rfl (gS rfl (gS rfl (gS rfl (gS rfl (gS rfl g0)))))) rfl) rfl (e_callV cal_355 (aC (et (gS rfl (gS rfl (gS rfl (gS rfl (gS rfl g0))))) rfl) (aC (et g0 rfl) aN)) (v_live hT.vl hml _)) (fun v7 w7 h7 => ?_)
          obtain ⟨rfl, u7⟩ := h7
          replace hT := hT.up u7
          replace hJ := hJ.up u7
          replace U := U.tr u7
          refine ⟨.inr (SU.tr u7), ?_⟩
          replace SU := SU.tr u7
          refine p_gstep (j := 2) (t := 11) (by exact rfl) (by exact rfl) (by exact rfl) (et (gS rfl (gS rfl (gS rfl (gS rfl (gS rfl (gS rfl (gS rfl g0))))))) rfl) rfl (y_moveV (et g0 rfl)) ?_
          refine gsplitP (i := 19) g0 (fun q8 => ?_) (fun q8 => ?_)
          · skip
            refine p_gstep (j := 10) (t := 19) (by exact rfl) (by exact rfl) (by exact rfl) (et g0 rfl) rfl (y_moveV (et (gS rfl (gS rfl (gS rfl (gS rfl (gS rfl (gS rfl (gS rfl (gS rfl (gS rfl (gS rfl (gS rfl (gS rfl (gS rfl g0))))))))))))) rfl)) ?_
            refine p_gstep (j := 10) (t := 19) (by exact rfl) (by exact rfl) (by exact rfl) (et (gS rfl g0) rfl) rfl (y_moveV (et (gS rfl (gS rfl (gS rfl (gS rfl (gS rfl (gS rfl (gS rfl (gS rfl (gS rfl (gS rfl (gS rfl (gS rfl (gS rfl (gS rfl (gS rfl g0))))))))))))))) rfl)) ?_
            refine p_gstep (j := 10) (t := 19) (by exact rfl) (by exact rfl) (by exact rfl) (et (gS rfl (gS rfl g0)) rfl) rfl (y_moveV (et (gS rfl (gS rfl (gS rfl (gS rfl (gS rfl (gS rfl (gS rfl (gS rfl (gS rfl (gS rfl (gS rfl (gS rfl (gS rfl (gS rfl (gS rfl (gS rfl g0)))))))))))))))) rfl)) ?_
            refine p_gstep (j := 10) (t := 19) (by exact rfl) (by exact rfl) (by exact rfl) (et (gS rfl (gS rfl (gS rfl g0))) rfl) rfl (y_nil (et g0 rfl)) ?_
            refine p_gstep (j := 10) (t := 19) (by exact rfl) (by exact rfl) (by exact rfl) (et (gS rfl (gS rfl (gS rfl (gS rfl g0)))) rfl) rfl (y_fld fld_84_6 (et g0 rfl)) ?_
            refine p_gstep (j := 10) (t := 19) (by exact rfl) (by exact rfl) (by exact rfl) (et (gS rfl (gS rfl (gS rfl (gS rfl (gS rfl g0))))) rfl) rfl (y_load1 one_21 (et g0 rfl) (atS (hT_s.vl.c1 hT_s.vl.nmk rfl))) ?_
            refine p_gstep (j := 10) (t := 19) (by exact rfl) (by exact rfl) (by exact rfl) (et (gS rfl (gS rfl (gS rfl (gS rfl (gS rfl (gS rfl g0)))))) rfl) rfl (y_sub (et g0 rfl) rfl (wrap_i32 ?_ ?_)) ?_
            omega
            omega
            refine p_gstep (j := 10) (t := 19) (by exact rfl) (by exact rfl) (by exact rfl) (et (gS rfl (gS rfl (gS rfl (gS rfl (gS rfl (gS rfl (gS rfl g0))))))) rfl) rfl (y_nil (et (gS rfl (gS rfl (gS rfl (gS rfl (gS rfl g0))))) rfl)) ?_
            refine p_gstep (j := 10) (t := 19) (by exact rfl) (by exact rfl) (by exact rfl) (et (gS rfl (gS rfl (gS rfl (gS rfl (gS rfl (gS rfl (gS rfl (gS rfl g0)))))))) rfl) rfl (y_fld fld_84_5 (et g0 rfl)) ?_
            refine p_gstep (j := 10) (t := 19) (by exact rfl) (by exact rfl) (by exact rfl) (et (gS rfl (gS rfl (gS rfl (gS rfl (gS rfl (gS rfl (gS rfl (gS rfl (gS rfl g0))))))))) rfl) rfl (y_idxA Hvaa.underlying80 sz_21 (et g0 rfl) (et (gS rfl (gS rfl g0)) rfl) ?_ ?_) ?_
            omega
            omega
            refine p_gstep (j := 10) (t := 19) (by exact rfl) (by exact rfl) (by exact rfl) (et (gS rfl (gS rfl (gS rfl (gS rfl (gS rfl (gS rfl (gS rfl (gS rfl (gS rfl (gS rfl g0)))))))))) rfl) rfl (y_load1 one_21 (et g0 rfl) (atS (hT_s.vl.c1 (hT_s.vl.mrk (V.marks.length - 1) m hmk) (by omega)))) ?_
            refine p_gstep (j := 10) (t := 19) (by exact rfl) (by exact rfl) (by exact rfl) (et (gS rfl (gS rfl (gS rfl (gS rfl (gS rfl (gS rfl (gS rfl (gS rfl (gS rfl (gS rfl (gS rfl g0))))))))))) rfl) rfl (y_conv Hvaa.underlying21 Hvaa.underlying2 (et g0 rfl) (wrap_i64 ?_ ?_)) ?_
            omega
            omega
            refine p_gstep (j := 10) (t := 19) (by exact rfl) (by exact rfl) (by exact rfl) (et (gS rfl (gS rfl (gS rfl (gS rfl (gS rfl (gS rfl (gS rfl (gS rfl (gS rfl (gS rfl (gS rfl (gS rfl g0)))))))))))) rfl) rfl (y_leq (et (gS rfl (gS rfl (gS rfl (gS rfl (gS rfl (gS rfl (gS rfl (gS rfl (gS rfl (gS rfl (gS rfl g0))))))))))) rfl) (et g0 rfl)) ?_
            refine p_gstep (j := 2) (t := 11) (by exact rfl) (by exact rfl) (by exact rfl) (et (gS rfl (gS rfl (gS rfl (gS rfl (gS rfl (gS rfl (gS rfl (gS rfl (gS rfl (gS rfl (gS rfl (gS rfl (gS rfl (gS rfl (gS rfl (gS rfl (gS rfl (gS rfl (gS rfl (gS rfl (gS rfl (gS rfl g0)))))))))))))))))))))) rfl) rfl (y_pickT (et (gS rfl (gS rfl (gS rfl (gS rfl (gS rfl (gS rfl (gS rfl (gS rfl (gS rfl (gS rfl (gS rfl (gS rfl (gS rfl g0))))))))))))) rfl) (et g0 rfl)) ?_
            refine p_step (by exact rfl) (y_pickF (et (gS rfl (gS rfl (gS rfl (gS rfl (gS rfl (gS rfl (gS rfl (gS rfl (gS rfl (gS rfl (gS rfl (gS rfl (gS rfl (gS rfl (gS rfl (gS rfl (gS rfl (gS rfl (gS rfl (gS rfl (gS rfl (gS rfl (gS rfl g0))))))))))))))))))))))) rfl) (et g0 rfl)) ?_
            refine p_nil ?_
            refine hK4 _ _ ?_
            refine fg3 0 3 34 (gS rfl (gS rfl (gS rfl (gS rfl (gS rfl (gS rfl (gS rfl (gS rfl (gS rfl (gS rfl (gS rfl (gS rfl (gS rfl (gS rfl (gS rfl (gS rfl (gS rfl (gS rfl (gS rfl (gS rfl (gS rfl (gS rfl (gS rfl (gS rfl (gS rfl (gS rfl (gS rfl (gS rfl (gS rfl g0))))))))))))))))))))))))))))) (gS rfl (gS rfl (gS rfl (gS rfl (gS rfl (gS rfl (gS rfl (gS rfl (gS rfl (gS rfl (gS rfl (gS rfl (gS rfl (gS rfl (gS rfl (gS rfl (gS rfl (gS rfl (gS rfl (gS rfl (gS rfl (gS rfl (gS rfl (gS rfl (gS rfl (gS rfl (gS rfl (gS rfl g0)))))))))))))))))))))))))))) g0 (fun g => ?_)
            refine c_false (et g0 rfl) (by (exact decide_eq_false (by omega))) ?_
            refine c_skip ?_
            refine hK3 _ _ ?_
            refine fg2 0 3 (gS rfl (gS rfl g0)) (gS rfl g0) (fun g => ?_)
            refine c_seq (fun K10 hK10 => ?_)
            refine c_seq (fun K11 hK11 => ?_)
            exact (by
              refine c_region ?_
              refine l_step (y_moveV (et (gS rfl g0) rfl)) ?_
              refine l_step (y_moveV (et (gS rfl (gS rfl g0)) rfl)) ?_
              refine l_step (y_nil (et g0 rfl)) ?_
              refine l_step (y_fld fld_84_4 (et g0 rfl)) ?_
              refine l_step (y_load1 one_79 (et g0 rfl) (at1 (hT.vl.c1 hsl rfl))) ?_
              refine l_step (y_moveV (et (gS rfl (gS rfl (gS rfl (gS rfl (gS rfl g0))))) rfl)) ?_
              refine l_step (y_sub (et g0 rfl) rfl (subIN (y := 1) ?_ ?_)) ?_
              omega
              omega
              refine l_step (y_idxS Hvaa.underlying79 sz_218 (et (gS rfl (gS rfl g0)) rfl) (et g0 rfl) ?_ ?_) ?_
              omega
              omega
              refine l_eff (e_callV cal_399 (aC (et (gS rfl (gS rfl (gS rfl (gS rfl (gS rfl (gS rfl (gS rfl g0))))))) rfl) (aC (et g0 rfl) aN)) (v_undo hT.vl ho hJ (by omega) hE hlg)) (fun v12 w12 h12 => ?_)
              obtain ⟨rfl, col2, cs2, hT2⟩ := h12
              replace hT := hT.trans hT2
              replace U := U.cc hT2.go.ch (by intro b hb; exact .inl trivial)
              have hk2 := undoE_keep V e9
              have hj2 : (undoE V e9).journal = V.journal := hk2.1
              replace hcC := hT2.vl.colC
              replace hml : (undoE V e9).marks.length ≤ 16384 := by rw [hk2.2.1]; exact hml
              obtain ⟨bj2, cj2, cap2, vb2, hsl2, hcap2, hJ2⟩ := hT2.vl.jour (i := V.journal.length - 1) (e := e9) (by rw [hj2]; exact he9)
              rw [hj2] at hsl2 hcap2
              refine l_step (y_not (et g0 rfl)) ?_
              refine l_nil ?_
              refine hK11 _ _ ?_
              refine fg3 0 3 44 (gS rfl (gS rfl (gS rfl (gS rfl (gS rfl (gS rfl (gS rfl (gS rfl (gS rfl (gS rfl (gS rfl g0))))))))))) (gS rfl (gS rfl (gS rfl (gS rfl (gS rfl (gS rfl (gS rfl (gS rfl (gS rfl (gS rfl g0)))))))))) g0 (fun g => ?_)
              refine c_false (et g0 rfl) (by rfl) ?_
              refine c_skip ?_
              refine hK10 _ _ ?_
              refine fg2 0 3 (gS rfl (gS rfl g0)) (gS rfl g0) (fun g => ?_)
              refine c_seq (fun K14 hK14 => ?_)
              exact (by
                refine c_region ?_
                refine l_step (y_moveV (et (gS rfl g0) rfl)) ?_
                refine l_step (y_moveV (et (gS rfl (gS rfl g0)) rfl)) ?_
                refine l_step (y_nil (et g0 rfl)) ?_
                refine l_step (y_fld fld_84_4 (et g0 rfl)) ?_
                refine l_step (y_load1 one_79 (et g0 rfl) (at1 (hT.vl.c1 hsl2 rfl))) ?_
                refine l_step (y_moveV (et (gS rfl (gS rfl (gS rfl (gS rfl (gS rfl g0))))) rfl)) ?_
                refine l_step (y_sub (et g0 rfl) rfl (subIN (y := 1) ?_ ?_)) ?_
                omega
                omega
                refine l_step (y_slS010n Hvaa.underlying79 sz_218 (et (gS rfl (gS rfl g0)) rfl) (et g0 rfl) ?_) ?_
                omega
                refine l_step (y_nil (et (gS rfl (gS rfl (gS rfl (gS rfl (gS rfl (gS rfl (gS rfl g0))))))) rfl)) ?_
                refine l_step (y_fld fld_84_4 (et g0 rfl)) ?_
                refine l_effN (e_store sz_79 (et g0 rfl) (cellsV (et (gS rfl (gS rfl g0)) rfl) rfl) rfl (by intro v hv; simp at hv; subst hv; rfl) hT.vl.kC (by rw [hT.vl.size]; exact Nat.le_of_ble_eq_true rfl)) (fun v15 w15 h15 => ?_)
                obtain ⟨rfl, x15⟩ := h15
                have hcj := hT.cutJ (m := V.journal.length - 1) (by rw [hj2]; exact hsl2) (by rw [hj2]; omega)
                obtain ⟨col3, hv15, hq15⟩ := hcj.layJ hml x15
                replace hT := hv15
                replace U := U.cc x15.ch (by intro b hb; exact .inl trivial)
                refine l_nil ?_
                refine hK14 _ _ ?_
                refine fg0 (fun g => ?_)
                refine c_seq (fun K16 hK16 => ?_)
                exact (by
                  refine c_region ?_
                  refine l_step y_assignC ?_
                  refine l_nil ?_
                  refine hK16 _ _ ?_
                  refine c_ret ?_
                  repeat with_reducible refine then_ret ?_
                  refine ret1 rfl (res_tmp (et g0 rfl)) ?_
                  have h9 := hT
                  rw [hj2] at h9
                  exact ⟨rfl, col3, _, h9⟩)))
          · skip
            exact absurd (of_decide_eq_false q8) (by omega))))
theorem v_undoOne0 {w : World} {H : Store} {col : Nat → Nat} {bc : Nat} {cs : Array Value} {V : EV} (hV : VL w H col bc cs V) (ho : VOk V) {m : Nat} (hmk : V.marks[V.marks.length - 1]? = some m) (hmj : V.journal.length ≤ m) :
    Ret 356 [.pointer (some ⟨bc, 2435, none⟩)] w (fun v w' => v = .bool false ∧ Up w w') := by
  have hnw := hV.new
  have hfz := hV.fz
  obtain ⟨lj9, lk9, hlJ⟩ := hV.lenJ
  have hml := ho.bd.marks
  have hjb := ho.bd.journal
  have hm0 : 0 < V.marks.length := by have := (List.getElem?_eq_some_iff.1 hmk).1; omega
  have hmb := ho.bd.mkb m (List.mem_of_getElem? hmk)
  refine enter (n := 55) Hvaa.func356 rfl rfl (Nat.le_of_ble_eq_true rfl) ?_
  have U := Up.refl w
  refine c_seq (fun K1 hK1 => ?_)
  exact (by
    refine c_region ?_
    refine l_step y_assignC ?_
    refine l_nil ?_
    refine hK1 _ _ ?_
    refine fg1 0 (gS rfl g0) (fun g => ?_)
    refine c_seq (fun K2 hK2 => ?_)
    exact (by
      refine c_region ?_
      refine l_step (y_moveV (et g0 rfl)) ?_
      refine l_step (y_nil (et g0 rfl)) ?_
      refine l_step (y_fld fld_84_4 (et g0 rfl)) ?_
      refine l_step (y_load1 one_79 (et g0 rfl) (at1 (hV.c1 hlJ rfl))) ?_
      refine l_step (y_len Hvaa.underlying79 (et g0 rfl)) ?_
      refine l_step (y_assignV (et g0 rfl)) ?_
      refine l_nil ?_
      refine hK2 _ _ ?_
      refine fg2 0 3 (gS rfl (gS rfl (gS rfl (gS rfl (gS rfl (gS rfl g0)))))) g0 (fun g => ?_)
      refine c_seq (fun K3 hK3 => ?_)
      refine c_seq (fun K4 hK4 => ?_)
      exact (by
        refine c_draw Up 26 [(0, true), (1, true), (2, true), (3, true), (4, true), (5, true), (6, true), (7, true), (8, true), (9, false), (10, true), (11, true), (12, true), (13, true), (14, true), (15, true), (16, true), (17, true), (18, true), (19, true), (20, true), (21, true), (22, true), (23, true), (24, true), (25, true)] (by kernel_rfl) (fun w5 hu => ⟨Up.refl _, ?_⟩)
        replace hV := hV.up hu
        replace U := U.tr hu
        have SU := Up.refl w5
        have hV_s := hV
        refine p_step (by exact rfl) (y_moveV (et g0 rfl)) ?_
        refine p_step (by exact rfl) (y_eql (et g0 rfl) rfl) ?_
        refine p_step (by exact rfl) (y_moveV (et g0 rfl)) ?_
        refine gsplitP (i := 11) g0 (fun q6 => ?_) (fun q6 => ?_)
        · skip
          refine p_gskip (j := 2) (t := 11) (by exact rfl) (by exact rfl) (by exact rfl) (et g0 rfl) rfl rfl ?_
          refine p_gskip (j := 2) (t := 11) (by exact rfl) (by exact rfl) (by exact rfl) (et (gS rfl g0) rfl) rfl rfl ?_
          refine p_gskip (j := 2) (t := 11) (by exact rfl) (by exact rfl) (by exact rfl) (et (gS rfl (gS rfl g0)) rfl) rfl rfl ?_
          refine p_gskip (j := 2) (t := 11) (by exact rfl) (by exact rfl) (by exact rfl) (et (gS rfl (gS rfl (gS rfl g0))) rfl) rfl rfl ?_
          refine p_gskip (j := 2) (t := 11) (by exact rfl) (by exact rfl) (by exact rfl) (et (gS rfl (gS rfl (gS rfl (gS rfl g0)))) rfl) rfl rfl ?_
          refine p_gskip (j := 2) (t := 11) (by exact rfl) (by exact rfl) (by exact rfl) (et (gS rfl (gS rfl (gS rfl (gS rfl (gS rfl g0))))) rfl) rfl rfl ?_
          refine p_geskip (j := 2) (t := 11) (by exact rfl) (by exact rfl) (by exact rfl) (et (gS rfl (gS rfl (gS rfl (gS rfl (gS rfl (gS rfl g0)))))) rfl) rfl rfl ⟨.inr SU, ?_⟩
          refine p_gskip (j := 2) (t := 11) (by exact rfl) (by exact rfl) (by exact rfl) (et (gS rfl (gS rfl (gS rfl (gS rfl (gS rfl (gS rfl (gS rfl g0))))))) rfl) rfl rfl ?_
          refine p_uskip (j := 10) (t := 19) (by exact rfl) (by exact rfl) (by exact rfl) (et g0 rfl) rfl ?_
          refine p_uskip (j := 10) (t := 19) (by exact rfl) (by exact rfl) (by exact rfl) (et (gS rfl g0) rfl) rfl ?_
          refine p_uskip (j := 10) (t := 19) (by exact rfl) (by exact rfl) (by exact rfl) (et (gS rfl (gS rfl g0)) rfl) rfl ?_
          refine p_uskip (j := 10) (t := 19) (by exact rfl) (by exact rfl) (by exact rfl) (et (gS rfl (gS rfl (gS rfl g0))) rfl) rfl ?_
          refine p_uskip (j := 10) (t := 19) (by exact rfl) (by exact rfl) (by exact rfl) (et (gS rfl (gS rfl (gS rfl (gS rfl g0)))) rfl) rfl ?_
          refine p_uskip (j := 10) (t := 19) (by exact rfl) (by exact rfl) (by exact rfl) (et (gS rfl (gS rfl (gS rfl (gS rfl (gS rfl g0))))) rfl) rfl ?_
          refine p_uskip (j := 10) (t := 19) (by exact rfl) (by exact rfl) (by exact rfl) (et (gS rfl (gS rfl (gS rfl (gS rfl (gS rfl (gS rfl g0)))))) rfl) rfl ?_
          refine p_uskip (j := 10) (t := 19) (by exact rfl) (by exact rfl) (by exact rfl) (et (gS rfl (gS rfl (gS rfl (gS rfl (gS rfl (gS rfl (gS rfl g0))))))) rfl) rfl ?_
          refine p_uskip (j := 10) (t := 19) (by exact rfl) (by exact rfl) (by exact rfl) (et (gS rfl (gS rfl (gS rfl (gS rfl (gS rfl (gS rfl (gS rfl (gS rfl g0)))))))) rfl) rfl ?_
          refine p_uskip (j := 10) (t := 19) (by exact rfl) (by exact rfl) (by exact rfl) (et (gS rfl (gS rfl (gS rfl (gS rfl (gS rfl (gS rfl (gS rfl (gS rfl (gS rfl g0))))))))) rfl) rfl ?_
          refine p_uskip (j := 10) (t := 19) (by exact rfl) (by exact rfl) (by exact rfl) (et (gS rfl (gS rfl (gS rfl (gS rfl (gS rfl (gS rfl (gS rfl (gS rfl (gS rfl (gS rfl g0)))))))))) rfl) rfl ?_
          refine p_uskip (j := 10) (t := 19) (by exact rfl) (by exact rfl) (by exact rfl) (et (gS rfl (gS rfl (gS rfl (gS rfl (gS rfl (gS rfl (gS rfl (gS rfl (gS rfl (gS rfl (gS rfl g0))))))))))) rfl) rfl ?_
          refine p_uskip (j := 10) (t := 19) (by exact rfl) (by exact rfl) (by exact rfl) (et (gS rfl (gS rfl (gS rfl (gS rfl (gS rfl (gS rfl (gS rfl (gS rfl (gS rfl (gS rfl (gS rfl (gS rfl g0)))))))))))) rfl) rfl ?_
          refine p_gskip (j := 2) (t := 11) (by exact rfl) (by exact rfl) (by exact rfl) (et (gS rfl (gS rfl (gS rfl (gS rfl (gS rfl (gS rfl (gS rfl (gS rfl (gS rfl (gS rfl (gS rfl (gS rfl (gS rfl (gS rfl (gS rfl (gS rfl (gS rfl (gS rfl (gS rfl (gS rfl (gS rfl g0))))))))))))))))))))) rfl) rfl rfl ?_
          refine p_step (by exact rfl) (y_pickT (et (gS rfl (gS rfl (gS rfl (gS rfl (gS rfl (gS rfl (gS rfl (gS rfl (gS rfl (gS rfl (gS rfl (gS rfl (gS rfl (gS rfl (gS rfl (gS rfl (gS rfl (gS rfl (gS rfl (gS rfl (gS rfl (gS rfl g0)))))))))))))))))))))) rfl) rfl) ?_
          refine p_nil ?_
          refine hK4 _ _ ?_
          refine fg3 0 3 34 (gS rfl (gS rfl (gS rfl (gS rfl (gS rfl (gS rfl (gS rfl (gS rfl (gS rfl (gS rfl (gS rfl (gS rfl (gS rfl (gS rfl (gS rfl (gS rfl (gS rfl (gS rfl (gS rfl (gS rfl (gS rfl (gS rfl (gS rfl (gS rfl (gS rfl (gS rfl (gS rfl (gS rfl g0)))))))))))))))))))))))))))) (gS rfl (gS rfl (gS rfl (gS rfl (gS rfl (gS rfl (gS rfl (gS rfl (gS rfl (gS rfl (gS rfl (gS rfl (gS rfl (gS rfl (gS rfl (gS rfl (gS rfl (gS rfl (gS rfl (gS rfl (gS rfl (gS rfl (gS rfl (gS rfl (gS rfl (gS rfl (gS rfl g0))))))))))))))))))))))))))) g0 (fun g => ?_)
          refine c_true (et g0 rfl) rfl ?_
          refine c_seq (fun K8 hK8 => ?_)
          exact (by
            refine c_region ?_
            refine l_step y_assignC ?_
            refine l_nil ?_
            refine hK8 _ _ ?_
            refine fg1 2 g0 (fun g => ?_)
            refine c_ret ?_
            repeat with_reducible refine then_ret ?_
            refine ret1 rfl (res_tmp (et g0 rfl)) ?_
            exact ⟨rfl, U⟩)
        · skip
          refine p_gstep (j := 2) (t := 11) (by exact rfl) (by exact rfl) (by exact rfl) (et g0 rfl) rfl (y_moveV (et (gS rfl (gS rfl (gS rfl (gS rfl (gS rfl g0))))) rfl)) ?_
          refine p_gstep (j := 2) (t := 11) (by exact rfl) (by exact rfl) (by exact rfl) (et (gS rfl g0) rfl) rfl (y_moveV (et (gS rfl (gS rfl (gS rfl (gS rfl (gS rfl (gS rfl g0)))))) rfl)) ?_
          refine p_gstep (j := 2) (t := 11) (by exact rfl) (by exact rfl) (by exact rfl) (et (gS rfl (gS rfl g0)) rfl) rfl (y_nil (et g0 rfl)) ?_
          refine p_gstep (j := 2) (t := 11) (by exact rfl) (by exact rfl) (by exact rfl) (et (gS rfl (gS rfl (gS rfl g0))) rfl) rfl (y_fld fld_84_6 (et g0 rfl)) ?_
          refine p_gstep (j := 2) (t := 11) (by exact rfl) (by exact rfl) (by exact rfl) (et (gS rfl (gS rfl (gS rfl (gS rfl g0)))) rfl) rfl (y_load1 one_21 (et g0 rfl) (atS (hV_s.c1 hV_s.nmk rfl))) ?_
          refine p_gstep (j := 2) (t := 11) (by exact rfl) (by exact rfl) (by exact rfl) (et (gS rfl (gS rfl (gS rfl (gS rfl (gS rfl g0))))) rfl) rfl (y_sub (et g0 rfl) rfl (wrap_i32 ?_ ?_)) ?_
          omega
          omega
          refine p_geff (j := 2) (t := 11) (by exact rfl) (by exact rfl) (by exact rfl) (et (gS rfl (gS rfl (gS rfl (gS rfl (gS rfl (gS rfl g0)))))) rfl) rfl (e_callV cal_355 (aC (et (gS rfl (gS rfl (gS rfl (gS rfl (gS rfl g0))))) rfl) (aC (et g0 rfl) aN)) (v_live hV hml _)) (fun v9 w9 h9 => ?_)
          obtain ⟨rfl, u9⟩ := h9
          replace hV := hV.up u9
          replace U := U.tr u9
          refine ⟨.inr (SU.tr u9), ?_⟩
          replace SU := SU.tr u9
          refine p_gstep (j := 2) (t := 11) (by exact rfl) (by exact rfl) (by exact rfl) (et (gS rfl (gS rfl (gS rfl (gS rfl (gS rfl (gS rfl (gS rfl g0))))))) rfl) rfl (y_moveV (et g0 rfl)) ?_
          refine gsplitP (i := 19) g0 (fun q10 => ?_) (fun q10 => ?_)
          · skip
            refine p_gstep (j := 10) (t := 19) (by exact rfl) (by exact rfl) (by exact rfl) (et g0 rfl) rfl (y_moveV (et (gS rfl (gS rfl (gS rfl (gS rfl (gS rfl (gS rfl (gS rfl (gS rfl (gS rfl (gS rfl (gS rfl (gS rfl (gS rfl g0))))))))))))) rfl)) ?_
            refine p_gstep (j := 10) (t := 19) (by exact rfl) (by exact rfl) (by exact rfl) (et (gS rfl g0) rfl) rfl (y_moveV (et (gS rfl (gS rfl (gS rfl (gS rfl (gS rfl (gS rfl (gS rfl (gS rfl (gS rfl (gS rfl (gS rfl (gS rfl (gS rfl (gS rfl (gS rfl g0))))))))))))))) rfl)) ?_
            refine p_gstep (j := 10) (t := 19) (by exact rfl) (by exact rfl) (by exact rfl) (et (gS rfl (gS rfl g0)) rfl) rfl (y_moveV (et (gS rfl (gS rfl (gS rfl (gS rfl (gS rfl (gS rfl (gS rfl (gS rfl (gS rfl (gS rfl (gS rfl (gS rfl (gS rfl (gS rfl (gS rfl (gS rfl g0)))))))))))))))) rfl)) ?_
            refine p_gstep (j := 10) (t := 19) (by exact rfl) (by exact rfl) (by exact rfl) (et (gS rfl (gS rfl (gS rfl g0))) rfl) rfl (y_nil (et g0 rfl)) ?_
            refine p_gstep (j := 10) (t := 19) (by exact rfl) (by exact rfl) (by exact rfl) (et (gS rfl (gS rfl (gS rfl (gS rfl g0)))) rfl) rfl (y_fld fld_84_6 (et g0 rfl)) ?_
            refine p_gstep (j := 10) (t := 19) (by exact rfl) (by exact rfl) (by exact rfl) (et (gS rfl (gS rfl (gS rfl (gS rfl (gS rfl g0))))) rfl) rfl (y_load1 one_21 (et g0 rfl) (atS (hV_s.c1 hV_s.nmk rfl))) ?_
            refine p_gstep (j := 10) (t := 19) (by exact rfl) (by exact rfl) (by exact rfl) (et (gS rfl (gS rfl (gS rfl (gS rfl (gS rfl (gS rfl g0)))))) rfl) rfl (y_sub (et g0 rfl) rfl (wrap_i32 ?_ ?_)) ?_
            omega
            omega
            refine p_gstep (j := 10) (t := 19) (by exact rfl) (by exact rfl) (by exact rfl) (et (gS rfl (gS rfl (gS rfl (gS rfl (gS rfl (gS rfl (gS rfl g0))))))) rfl) rfl (y_nil (et (gS rfl (gS rfl (gS rfl (gS rfl (gS rfl g0))))) rfl)) ?_
            refine p_gstep (j := 10) (t := 19) (by exact rfl) (by exact rfl) (by exact rfl) (et (gS rfl (gS rfl (gS rfl (gS rfl (gS rfl (gS rfl (gS rfl (gS rfl g0)))))))) rfl) rfl (y_fld fld_84_5 (et g0 rfl)) ?_
            refine p_gstep (j := 10) (t := 19) (by exact rfl) (by exact rfl) (by exact rfl) (et (gS rfl (gS rfl (gS rfl (gS rfl (gS rfl (gS rfl (gS rfl (gS rfl (gS rfl g0))))))))) rfl) rfl (y_idxA Hvaa.underlying80 sz_21 (et g0 rfl) (et (gS rfl (gS rfl g0)) rfl) ?_ ?_) ?_
            omega
            omega
            refine p_gstep (j := 10) (t := 19) (by exact rfl) (by exact rfl) (by exact rfl) (et (gS rfl (gS rfl (gS rfl (gS rfl (gS rfl (gS rfl (gS rfl (gS rfl (gS rfl (gS rfl g0)))))))))) rfl) rfl (y_load1 one_21 (et g0 rfl) (atS (hV_s.c1 (hV_s.mrk (V.marks.length - 1) m hmk) (by omega)))) ?_
            refine p_gstep (j := 10) (t := 19) (by exact rfl) (by exact rfl) (by exact rfl) (et (gS rfl (gS rfl (gS rfl (gS rfl (gS rfl (gS rfl (gS rfl (gS rfl (gS rfl (gS rfl (gS rfl g0))))))))))) rfl) rfl (y_conv Hvaa.underlying21 Hvaa.underlying2 (et g0 rfl) (wrap_i64 ?_ ?_)) ?_
            omega
            omega
            refine p_gstep (j := 10) (t := 19) (by exact rfl) (by exact rfl) (by exact rfl) (et (gS rfl (gS rfl (gS rfl (gS rfl (gS rfl (gS rfl (gS rfl (gS rfl (gS rfl (gS rfl (gS rfl (gS rfl g0)))))))))))) rfl) rfl (y_leq (et (gS rfl (gS rfl (gS rfl (gS rfl (gS rfl (gS rfl (gS rfl (gS rfl (gS rfl (gS rfl (gS rfl g0))))))))))) rfl) (et g0 rfl)) ?_
            refine p_gstep (j := 2) (t := 11) (by exact rfl) (by exact rfl) (by exact rfl) (et (gS rfl (gS rfl (gS rfl (gS rfl (gS rfl (gS rfl (gS rfl (gS rfl (gS rfl (gS rfl (gS rfl (gS rfl (gS rfl (gS rfl (gS rfl (gS rfl (gS rfl (gS rfl (gS rfl (gS rfl (gS rfl (gS rfl g0)))))))))))))))))))))) rfl) rfl (y_pickT (et (gS rfl (gS rfl (gS rfl (gS rfl (gS rfl (gS rfl (gS rfl (gS rfl (gS rfl (gS rfl (gS rfl (gS rfl (gS rfl g0))))))))))))) rfl) (et g0 rfl)) ?_
            refine p_step (by exact rfl) (y_pickF (et (gS rfl (gS rfl (gS rfl (gS rfl (gS rfl (gS rfl (gS rfl (gS rfl (gS rfl (gS rfl (gS rfl (gS rfl (gS rfl (gS rfl (gS rfl (gS rfl (gS rfl (gS rfl (gS rfl (gS rfl (gS rfl (gS rfl (gS rfl g0))))))))))))))))))))))) rfl) (et g0 rfl)) ?_
            refine p_nil ?_
            refine hK4 _ _ ?_
            refine fg3 0 3 34 (gS rfl (gS rfl (gS rfl (gS rfl (gS rfl (gS rfl (gS rfl (gS rfl (gS rfl (gS rfl (gS rfl (gS rfl (gS rfl (gS rfl (gS rfl (gS rfl (gS rfl (gS rfl (gS rfl (gS rfl (gS rfl (gS rfl (gS rfl (gS rfl (gS rfl (gS rfl (gS rfl (gS rfl (gS rfl g0))))))))))))))))))))))))))))) (gS rfl (gS rfl (gS rfl (gS rfl (gS rfl (gS rfl (gS rfl (gS rfl (gS rfl (gS rfl (gS rfl (gS rfl (gS rfl (gS rfl (gS rfl (gS rfl (gS rfl (gS rfl (gS rfl (gS rfl (gS rfl (gS rfl (gS rfl (gS rfl (gS rfl (gS rfl (gS rfl (gS rfl g0)))))))))))))))))))))))))))) g0 (fun g => ?_)
            refine c_true (et g0 rfl) (by (first | rfl | exact decide_eq_true (by omega))) ?_
            refine c_seq (fun K12 hK12 => ?_)
            exact (by
              refine c_region ?_
              refine l_step y_assignC ?_
              refine l_nil ?_
              refine hK12 _ _ ?_
              refine fg1 2 g0 (fun g => ?_)
              refine c_ret ?_
              repeat with_reducible refine then_ret ?_
              refine ret1 rfl (res_tmp (et g0 rfl)) ?_
              exact ⟨rfl, U⟩)
          · skip
            exact absurd (of_decide_eq_false q10) (by omega))))
theorem v_revertTo {w : World} {H : Store} {col : Nat → Nat} {bc : Nat} {cs : Array Value} {V : EV} (hV : VL w H col bc cs V) (ho : VOk V) {id m : Nat} (hm : V.marks[id]? = some m) (hmr : m ≤ V.journal.length) :
    Ret 249 [.pointer (some ⟨bc, 2435, none⟩), .int .i32 (id : Nat)] w (fun v w' => v = .bool true ∧ ∃ col' cs' Vk, VT w H col bc cs w' H col' cs' { Vk with marks := V.marks.take id } ∧ VOk { Vk with marks := V.marks.take id } ∧ UnR V Vk m) := by
  have hT := VT.refl hV
  have hnw := hV.new
  have hcC := hV.colC
  have hml := ho.bd.marks
  have hid : id < V.marks.length := (List.getElem?_eq_some_iff.1 hm).1
  have ho0 := ho
  have hml0 := ho.bd.marks
  refine enter (n := 20) Hvaa.func249 rfl rfl (Nat.le_of_ble_eq_true rfl) ?_
  have U : Ch (fun _ => True) w w := Ch.refl _ w
  refine c_seq (fun K1 hK1 => ?_)
  exact (by
    refine c_region ?_
    refine l_step y_assignC ?_
    refine l_nil ?_
    refine hK1 _ _ ?_
    refine fg2 1 0 (gS rfl (gS rfl g0)) (gS rfl g0) (fun g => ?_)
    refine c_seq (fun K2 hK2 => ?_)
    refine c_seq (fun K3 hK3 => ?_)
    exact (by
      refine c_region ?_
      refine l_step (y_moveV (et g0 rfl)) ?_
      refine l_step (y_moveV (et (gS rfl (gS rfl g0)) rfl)) ?_
      refine l_eff (e_callV cal_355 (aC (et (gS rfl g0) rfl) (aC (et g0 rfl) aN)) (v_live hT.vl hml _)) (fun v4 w4 h4 => ?_)
      obtain ⟨rfl, u4⟩ := h4
      replace hT := hT.up u4
      replace U := U.tr u4
      refine l_step (y_not (et g0 rfl)) ?_
      refine l_nil ?_
      refine hK3 _ _ ?_
      refine fg3 1 0 8 (gS rfl (gS rfl (gS rfl (gS rfl (gS rfl g0))))) (gS rfl (gS rfl (gS rfl (gS rfl g0)))) g0 (fun g => ?_)
      refine c_false (et g0 rfl) (by (simp; omega)) ?_
      refine c_skip ?_
      refine hK2 _ _ ?_
      refine fg2 1 0 (gS rfl (gS rfl g0)) (gS rfl g0) (fun g => ?_)
      refine c_seq (fun K6 hK6 => ?_)
      exact (by
        refine c_region ?_
        refine l_step (y_moveV (et g0 rfl)) ?_
        refine l_step (y_moveV (et (gS rfl (gS rfl g0)) rfl)) ?_
        refine l_step (y_add (et g0 rfl) rfl (wrap_i32 ?_ ?_)) ?_
        omega
        omega
        refine l_step (y_nil (et (gS rfl (gS rfl g0)) rfl)) ?_
        refine l_step (y_fld fld_84_6 (et g0 rfl)) ?_
        refine l_effN (e_store sz_21 (et g0 rfl) (cellsV (et (gS rfl (gS rfl g0)) rfl) rfl) rfl (by intro v hv; simp at hv; subst hv; rfl) hT.vl.kC (by rw [hT.vl.size]; exact Nat.le_of_ble_eq_true rfl)) (fun v7 w7 h7 => ?_)
        obtain ⟨rfl, x7⟩ := h7
        have hv7 := hT.stNm (l := V.marks.take (id + 1)) (by rw [List.length_take]; omega) (fun i m hi => hT.vl.mrk i m (by rw [List.getElem?_take] at hi; split at hi; exact hi; cases hi)) hml (by rw [List.length_take]; omega) x7
        replace hT := hv7
        replace U := U.cc x7.ch (by intro b hb; exact .inl trivial)
        replace hml : ({ V with marks := V.marks.take (id + 1) } : EV).marks.length ≤ 16384 := by show (V.marks.take _).length ≤ _; rw [List.length_take]; omega
        refine l_nil ?_
        refine hK6 _ _ ?_
        refine fg2 1 0 (gS rfl (gS rfl (gS rfl (gS rfl (gS rfl (gS rfl g0)))))) (gS rfl (gS rfl (gS rfl (gS rfl (gS rfl g0))))) (fun g => ?_)
        refine c_seq (fun K8 hK8 => ?_)
        refine c_block (fun Q9 hQ9 => ?_)
        refine fg2 0 1 g0 (gS rfl g0) (fun g => ?_)
        have hok0 : VOk ({ V with marks := V.marks.take (id + 1) } : EV) := ho.marks (by rw [List.length_take]; omega) (fun m hm => ho.bd.mkb m (List.mem_of_mem_take hm))
        refine c_loop (fun k_ s_ W10 => ∃ (g : Nat → Value) (j : Nat) (colk : Nat → Nat) (csk : Array Value) (Vk : EV), s_ = (upd (upd g 0 (.pointer (some ⟨bc, 2435, none⟩))) 1 (.int .i32 (id : Nat))) ∧ j = k_ ∧ VT w H col bc cs W10 H colk csk Vk ∧ VOk Vk ∧ UnR V Vk j ∧ Vk.marks = V.marks.take (id + 1) ∧ m ≤ j) V.journal.length ?_ ?_
        · exact ⟨g, _, _, _, _, rfl, rfl, hT, hok0, UnR.refl rfl, rfl, hmr⟩
        · skip
          intro k_ s_ W10 hI K10 hK10
          obtain ⟨g, j, colk, csk, Vk, rfl, rfl, hT, ho, hUn, hmk2, hmj⟩ := hI
          have U : Ch (fun _ => True) w W10 := hT.go.ch.mono (fun _ _ _ => trivial)
          have hlen : Vk.journal.length = j := by rw [hUn.jj, List.length_take]; have := hUn.le; omega
          have hml2 : Vk.marks.length = id + 1 := by rw [hmk2, List.length_take]; omega
          have hmk3 : Vk.marks[Vk.marks.length - 1]? = some m := by rw [hml2, hmk2, List.getElem?_take, if_pos (by omega)]; exact hm
          replace hcC := hT.vl.colC
          replace hml : Vk.marks.length ≤ 16384 := ho.bd.marks
          by_cases hjm : m < j
          · skip
            obtain ⟨e9, he9⟩ : ∃ e9, Vk.journal[Vk.journal.length - 1]? = some e9 := ⟨_, List.getElem?_eq_getElem (by omega)⟩
            have hlg : e9.kind = 7 → Vk.logs ≠ [] := fun hk he => by
              have h9 := ho.jl
              rw [he] at h9
              have h8 : e9 ∈ Vk.journal.filter (fun e => e.kind == 7) := List.mem_filter.2 ⟨List.mem_of_getElem? he9, by simp [hk]⟩
              have h7 := List.length_pos_of_mem h8
              simp only [List.length_nil] at h9
              omega
            refine c_seq (fun K11 hK11 => ?_)
            refine c_seq (fun K12 hK12 => ?_)
            exact (by
              refine c_region ?_
              refine l_step (y_moveV (et (gS rfl g0) rfl)) ?_
              have hen9 : e9.n < 18446744073709551616 := by
                obtain ⟨_, _, _, _, _, _, hJ9⟩ := hT.vl.jour he9
                exact hJ9.ok.n
              refine l_eff (e_callV cal_356 (aC (et g0 rfl) aN) (v_undoOne hT.vl ho hmk3 (by omega) he9 hlg)) (fun v13 w13 h13 => ?_)
              obtain ⟨rfl, col5, cs5, hT5⟩ := h13
              replace hT := hT.trans hT5
              replace U := U.cc hT5.go.ch (by intro b hb; exact .inl trivial)
              skip
              refine l_nil ?_
              refine hK12 _ _ ?_
              refine fg3 0 1 15 (gS rfl (gS rfl (gS rfl g0))) (gS rfl (gS rfl g0)) g0 (fun g => ?_)
              refine c_true (et g0 rfl) (by rfl) ?_
              refine c_skip ?_
              refine hK11 _ _ ?_
              refine fg2 0 1 (gS rfl (gS rfl g0)) (gS rfl g0) (fun g => ?_)
              refine c_block (fun Q15 hQ15 => ?_)
              refine c_skip ?_
              refine hQ15 _ _ _ (in_normal ?_)
              refine fK2 0 1 (gS rfl g0) g0 (fun g => ?_)
              exact hK10 (j - 1) _ _ (by omega) ⟨g, _, _, _, _, rfl, rfl, hT, ho.un he9 hen9, hUn.step (by omega) he9, by rw [← hmk2]; exact (undoE_keep Vk e9).2.1, by omega⟩)
          · skip
            refine c_seq (fun K16 hK16 => ?_)
            refine c_seq (fun K17 hK17 => ?_)
            exact (by
              refine c_region ?_
              refine l_step (y_moveV (et (gS rfl g0) rfl)) ?_
              refine l_eff (e_callV cal_356 (aC (et g0 rfl) aN) (v_undoOne0 hT.vl ho hmk3 (by omega))) (fun v18 w18 h18 => ?_)
              obtain ⟨rfl, u18⟩ := h18
              replace hT := hT.up u18
              replace U := U.tr u18
              refine l_nil ?_
              refine hK17 _ _ ?_
              refine fg3 0 1 15 (gS rfl (gS rfl (gS rfl g0))) (gS rfl (gS rfl g0)) g0 (fun g => ?_)
              refine c_false (et g0 rfl) (by rfl) ?_
              refine c_exit ?_
              refine hQ9 _ _ _ (in_exit ?_)
              refine hK8 _ _ ?_
              refine fg2 0 1 (gS rfl (gS rfl g0)) (gS rfl g0) (fun g => ?_)
              refine c_seq (fun K20 hK20 => ?_)
              exact (by
                refine c_region ?_
                refine l_step (y_moveV (et (gS rfl g0) rfl)) ?_
                refine l_step (y_moveV (et (gS rfl g0) rfl)) ?_
                refine l_step (y_nil (et (gS rfl g0) rfl)) ?_
                refine l_step (y_fld fld_84_6 (et g0 rfl)) ?_
                refine l_effN (e_store sz_21 (et g0 rfl) (cellsV (et (gS rfl (gS rfl g0)) rfl) rfl) rfl (by intro v hv; simp at hv; subst hv; rfl) hT.vl.kC (by rw [hT.vl.size]; exact Nat.le_of_ble_eq_true rfl)) (fun v21 w21 h21 => ?_)
                obtain ⟨rfl, x21⟩ := h21
                have hjm2 : j = m := by omega
                have hv21 := hT.stNm (l := V.marks.take id) (by rw [List.length_take]; omega) (fun i q hi => hT.vl.mrk i q (by rw [hmk2]; exact take_le1 hi)) hml (by rw [List.length_take]; omega) x21
                replace hT := hv21
                replace U := U.cc x21.ch (by intro b hb; exact .inl trivial)
                refine l_nil ?_
                refine hK20 _ _ ?_
                refine fg0 (fun g => ?_)
                refine c_seq (fun K22 hK22 => ?_)
                exact (by
                  refine c_region ?_
                  refine l_step y_assignC ?_
                  refine l_nil ?_
                  refine hK22 _ _ ?_
                  refine c_ret ?_
                  repeat with_reducible refine then_ret ?_
                  refine ret1 rfl (res_tmp (et g0 rfl)) ?_
                  subst hjm2
                  exact ⟨rfl, _, _, Vk, hT, ho.marks (by rw [List.length_take]; omega) (fun q hq => ho0.bd.mkb q (List.mem_of_mem_take hq)), hUn⟩))))))
end Go.Proofs.YgvaawGreat
