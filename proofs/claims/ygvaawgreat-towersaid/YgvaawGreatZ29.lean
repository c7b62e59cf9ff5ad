import Derived.Test.YgvaawGreatZ28
set_option maxRecDepth 100000
set_option maxHeartbeats 4000000
set_option linter.unusedSimpArgs false
set_option linter.unusedVariables false
namespace Go.Proofs.YgvaawGreat
open Go
theorem spl_bL {A M C Q : List Nat} {o : Nat} (ho : o = A.length) (h : M.length = Q.length) : spl (bL (A ++ M ++ C)).toArray o (bL Q) = (bL (A ++ Q ++ C)).toArray := by
  have h1 := spl_app (A := bL A) (M := bL M) (C := bL C) (Q := bL Q) (by rw [length_bL, length_bL]; exact h)
  rw [length_bL] at h1
  rw [ho, bL_append, bL_append, bL_append, bL_append]
  exact h1
theorem Blk.putB {w : World} {b o : Nat} {A M C Q : List Nat} (k : Blk w b (spl (bL (A ++ M ++ C)).toArray o (bL Q))) (ho : o = A.length) (h : M.length = Q.length) : Blk w b (bL (A ++ Q ++ C)).toArray := by rw [spl_bL ho h] at k; exact k
theorem Blk.reL {w : World} {b : Nat} {A C : List Nat} (k : Blk w b (bL A).toArray) (h : A = C) : Blk w b (bL C).toArray := by rw [← h]; exact k
theorem lenB_0 : lenB 0 = 0 := by rw [lenB]; rfl
theorem lenB_s {n : Nat} (h : n ≠ 0) : lenB n = lenB (n / 256) + 1 := by rw [lenB, dif_neg h]
theorem be_take1 {d n i : Nat} (h : i < d) : (be d n).take (i + 1) = (be d n).take i ++ [n / 2 ^ (8 * (d - 1 - i)) % 256] := by
  have h1 := be_take_drop i 1 (d - 1 - i) n
  rw [show i + 1 + (d - 1 - i) = d by omega] at h1
  rw [List.take_add, h1, Nat.pow_mul]
  rfl
theorem m_kecB {w : World} {b : Nat} {A C : List Nat} {k cc : Nat} (kB : Blk w b (bL (A ++ C)).toArray) (hd : Dig 256 A) (hk : k = A.length) (hcc : A.length ≤ cc) (h63 : cc < 9223372036854775808) : Ret 166 [.slice (some ⟨b, 0, none⟩) k cc] w (fun v w' => v = hV (kecN A) ∧ Up w w') := by
  subst hk
  have h := kec_Sum (WV.ofBlk (l := A) (r := C) (by rw [← bL_append]; exact kB) hd kB.lt hcc h63) (Nat.le_refl _)
  rw [ks_kec hd] at h
  exact h
theorem crt_dig {a n : Nat} : Dig 256 (be 20 a ++ crtR n) → n < 18446744073709551616 → Dig 256 ((213 + (crtR n).length) :: 148 :: (be 20 a ++ crtR n)) := fun h hn => by
  have hl : (crtR n).length ≤ 9 := by
    unfold crtR
    have := lenB_le 8 n hn
    split
    · decide
    · split
      · exact Nat.le_of_ble_eq_true rfl
      · rw [List.length_cons, length_be]; omega
  exact Dig.cons (by omega) (Dig.cons (by decide) h)
theorem m_createAddr (a n : Nat) (w : World) (ha : a < A160) (hn : n < 18446744073709551616) :
    Ret 93 [aV a, .int .u64 (n : Nat)] w (fun v w' => v = aV (crtN a n) ∧ Up w w') := by
  have hlb := lenB_le 8 n hn
  have hcd : Dig 256 (crtR n) := by
    unfold crtR
    split
    · exact Dig.one (by decide)
    · split
      · exact Dig.one (by omega)
      · exact Dig.cons (by omega) (be_lt _ _)
  refine enter (n := 67) Hvaa.func93 rfl rfl (Nat.le_of_ble_eq_true rfl) ?_
  have U := Up.refl w
  refine c_seq (fun K1 hK1 => ?_)
  exact (by
    refine c_region ?_
    refine l_eff (e_boxV (et g0 rfl)) (fun v2 w2 h2 => ?_)
    obtain ⟨b2, rfl, n2⟩ := h2
    have f2 : w.heap.size ≤ b2 := Nat.le_trans U.size n2.fresh
    replace U := U.tr n2.up
    have k2 := n2.blk
    replace k2 : Blk w2 b2 (bL (be 20 a)).toArray := k2
    refine l_eff (e_alloc zr_25) (fun v3 w3 h3 => ?_)
    obtain ⟨b3, rfl, n3⟩ := h3
    have d2_3 : b2 < b3 := Nat.lt_of_lt_of_le k2.lt n3.fresh
    have f3 : w.heap.size ≤ b3 := Nat.le_trans U.size n3.fresh
    replace k2 := k2.up n3.up
    replace U := U.tr n3.up
    have k3 := n3.blk
    refine l_nil ?_
    refine hK1 _ _ ?_
    refine fg3 1 2 4 (gS rfl (gS rfl (gS rfl g0))) (gS rfl g0) g0 (fun g => ?_)
    refine c_seq (fun K4 hK4 => ?_)
    exact (by
      refine c_region ?_
      refine l_eff (e_alloc zr_27) (fun v5 w5 h5 => ?_)
      obtain ⟨b5, rfl, n5⟩ := h5
      have d2_5 : b2 < b5 := Nat.lt_of_lt_of_le k2.lt n5.fresh
      have d3_5 : b3 < b5 := Nat.lt_of_lt_of_le k3.lt n5.fresh
      have f5 : w.heap.size ≤ b5 := Nat.le_trans U.size n5.fresh
      replace k2 := k2.up n5.up
      replace k3 := k3.up n5.up
      replace U := U.tr n5.up
      have k5 := n5.blk
      replace k5 : Blk w5 b5 (bL ([0] ++ [0] ++ List.replicate 30 0)).toArray := k5
      refine l_nil ?_
      refine hK4 _ _ ?_
      refine c_seq (fun K6 hK6 => ?_)
      exact (by
        refine c_region ?_
        refine l_step (y_idxAC 1 1 Hvaa.underlying27 sz_5 (et g0 rfl) rfl rfl rfl) ?_
        refine l_effN (e_store sz_5 (et g0 rfl) (cellsV rfl rfl) rfl (by first | exact one_bL _ | exact one_uL _ | (intro v hv; simp at hv; subst hv; rfl)) k5 (by first | exact Nat.le_of_ble_eq_true rfl | simp | omega)) (fun v7 w7 h7 => ?_)
        obtain ⟨rfl, x7⟩ := h7
        replace k2 := k2.ch x7.ch (by omega)
        replace k3 := k3.ch x7.ch (by omega)
        replace k5 := x7.blk
        replace U := U.st x7 f5
        replace k5 : Blk w7 b5 (bL ([0, 148] ++ List.replicate 20 0 ++ List.replicate 10 0)).toArray := Blk.putB (A := [0]) (M := [0]) (C := List.replicate 30 0) (Q := [148]) k5 rfl rfl
        refine l_nil ?_
        refine hK6 _ _ ?_
        refine fg4 1 2 4 5 (gS rfl (gS rfl (gS rfl (gS rfl g0)))) (gS rfl (gS rfl (gS rfl g0))) (gS rfl (gS rfl g0)) (gS rfl g0) (fun g => ?_)
        refine c_seq (fun K8 hK8 => ?_)
        exact (by
          refine c_draw Up 2 [(0, true), (1, true), (2, false)] (by kernel_rfl) (fun w9 hu => ⟨Up.refl _, ?_⟩)
          replace k2 := k2.up hu
          replace k3 := k3.up hu
          replace k5 := k5.up hu
          replace U := U.tr hu
          have SU := Up.refl w9
          refine p_step (by exact rfl) (y_slA110 Hvaa.underlying27 sz_5 (et g0 rfl) rfl rfl ?_ ?_ ?_ ?_ ?_) ?_
          decide
          decide
          decide
          decide
          decide
          refine p_step (by exact rfl) (y_slA000 Hvaa.underlying25 sz_5 (et (gS rfl (gS rfl (gS rfl g0))) rfl) ) ?_
          have hW := wv_addr k2
          refine p_eff (by exact rfl) (e_copyW Hvaa.underlying38 (et (gS rfl g0) rfl) (et g0 rfl) hW k5 (by rw [length_be]; exact Nat.le_of_ble_eq_true rfl)) (fun v10 w10 h10 => ?_)
          obtain ⟨rfl, x10⟩ := h10
          replace k2 := k2.ch x10.ch (by omega)
          replace k3 := k3.ch x10.ch (by omega)
          replace k5 := x10.blk
          replace U := U.cc x10.ch (by intro b hb; first | exact hb ▸ f5 | omega)
          refine ⟨.inl rfl, ?_⟩
          rw [List.take_of_length_le (by rw [length_be]; decide)] at k5
          replace k5 : Blk w10 b5 (bL ([0, 148] ++ be 20 a ++ ([0] ++ List.replicate 9 0))).toArray := Blk.putB k5 rfl (by rw [length_be]; rfl)
          replace k5 : Blk w10 b5 (bL (([0, 148] ++ be 20 a) ++ [0] ++ List.replicate 9 0)).toArray := k5.reL (by simp only [List.append_assoc])
          have hl22 : ([0, 148] ++ be 20 a).length = 22 := by rw [List.length_append, length_be]; rfl
          refine p_nil ?_
          refine hK8 _ _ ?_
          refine fg3 1 4 5 (gS rfl (gS rfl (gS rfl (gS rfl (gS rfl (gS rfl g0)))))) (gS rfl (gS rfl (gS rfl (gS rfl g0)))) (gS rfl (gS rfl (gS rfl g0))) (fun g => ?_)
          refine c_seq (fun K11 hK11 => ?_)
          exact (by
            refine c_region ?_
            refine l_step y_assignC ?_
            refine l_nil ?_
            refine hK11 _ _ ?_
            refine c_seq (fun K12 hK12 => ?_)
            refine c_block (fun Q13 hQ13 => ?_)
            refine c_seq (fun K14 hK14 => ?_)
            exact (by
              refine c_region ?_
              refine l_step (y_moveV (et (gS rfl (gS rfl (gS rfl g0))) rfl)) ?_
              refine l_step (y_eql (et g0 rfl) rfl) ?_
              refine l_step (y_assignV (et g0 rfl)) ?_
              refine l_nil ?_
              refine hK14 _ _ ?_
              refine fg5 1 4 5 6 45 (gS rfl (gS rfl (gS rfl (gS rfl (gS rfl (gS rfl g0)))))) (gS rfl (gS rfl (gS rfl (gS rfl (gS rfl g0))))) (gS rfl (gS rfl (gS rfl (gS rfl g0)))) (gS rfl (gS rfl (gS rfl g0))) g0 (fun g => ?_)
              refine c_cond (et g0 rfl) (fun cB1 => ?_) (fun cB1 => ?_)
              · skip
                
                have e1 : n = 0 := by have := of_decide_eq_true cB1; omega
                exact (by
                  refine c_region ?_
                  refine l_step (y_idxAC 22 22 Hvaa.underlying27 sz_5 (et (gS rfl (gS rfl g0)) rfl) rfl rfl rfl) ?_
                  refine l_effN (e_store sz_5 (et g0 rfl) (cellsV rfl rfl) rfl (by first | exact one_bL _ | exact one_uL _ | (intro v hv; simp at hv; subst hv; rfl)) k5 (by (rw [size_bL, List.length_append, List.length_append, hl22]; decide))) (fun v16 w16 h16 => ?_)
                  obtain ⟨rfl, x16⟩ := h16
                  replace k2 := k2.ch x16.ch (by omega)
                  replace k3 := k3.ch x16.ch (by omega)
                  replace k5 := x16.blk
                  replace U := U.st x16 f5
                  replace k5 := Blk.putB (Q := [128]) k5 hl22.symm rfl
                  have ecr : crtR n = [128] := by rw [crtR, if_pos e1]
                  rw [← ecr] at k5
                  refine l_nil ?_
                  refine hQ13 _ _ _ (in_normal ?_)
                  refine hK12 _ _ ?_
                  refine fg3 4 5 6 (gS rfl (gS rfl (gS rfl (gS rfl g0)))) (gS rfl (gS rfl (gS rfl g0))) (gS rfl (gS rfl g0)) (fun g => ?_)
                  refine c_seq (fun K17 hK17 => ?_)
                  exact (by
                    refine c_region ?_
                    refine l_step (y_moveV (et g0 rfl)) ?_
                    refine l_step (y_add rfl (et g0 rfl) (addIN (x := 21) (y := 1) ?_)) ?_
                    omega
                    refine l_step (y_conv Hvaa.underlying3 Hvaa.underlying5 (et g0 rfl) (wrapU_id uk8 ?_)) ?_
                    omega
                    refine l_step (y_add rfl (et g0 rfl) (wrapU_addN (a := 192) uk8 ?_)) ?_
                    omega
                    refine l_step (y_idxAC 0 0 Hvaa.underlying27 sz_5 (et (gS rfl (gS rfl (gS rfl (gS rfl (gS rfl g0))))) rfl) rfl rfl rfl) ?_
                    have hlc : (crtR n).length = 1 := by rw [ecr]; rfl
                    refine l_effN (e_store sz_5 (et g0 rfl) (cellsV (et (gS rfl g0) rfl) rfl) rfl (by first | exact one_bL _ | exact one_uL _ | (intro v hv; simp at hv; subst hv; rfl)) k5 (by (rw [size_bL, List.length_append, List.length_append, hl22]; omega))) (fun v18 w18 h18 => ?_)
                    obtain ⟨rfl, x18⟩ := h18
                    replace k2 := k2.ch x18.ch (by omega)
                    replace k3 := k3.ch x18.ch (by omega)
                    replace k5 := x18.blk
                    replace U := U.st x18 f5
                    replace k5 : Blk w18 b5 (bL ([] ++ [192 + (21 + 1)] ++ (148 :: (be 20 a ++ crtR n ++ List.replicate 9 0)))).toArray := Blk.putB (A := []) (M := [0]) (C := 148 :: (be 20 a ++ crtR n ++ List.replicate 9 0)) (Q := [192 + (21 + 1)]) (by rw [show ([0, 148] ++ be 20 a ++ crtR n ++ List.replicate 9 0 : List Nat) = [] ++ [0] ++ (148 :: (be 20 a ++ crtR n ++ List.replicate 9 0)) by simp only [List.append_assoc, List.cons_append, List.nil_append]] at k5; exact k5) rfl rfl
                    replace k5 : Blk w18 b5 (bL (((213 + (crtR n).length) :: 148 :: (be 20 a ++ crtR n)) ++ List.replicate 9 0)).toArray := k5.reL (by rw [show 192 + (21 + 1) = 213 + (crtR n).length by omega]; simp only [List.append_assoc, List.cons_append, List.nil_append])
                    refine l_nil ?_
                    refine hK17 _ _ ?_
                    refine fg3 4 5 6 (gS rfl (gS rfl (gS rfl (gS rfl (gS rfl (gS rfl (gS rfl g0))))))) (gS rfl (gS rfl (gS rfl (gS rfl (gS rfl (gS rfl g0)))))) (gS rfl (gS rfl (gS rfl (gS rfl (gS rfl g0))))) (fun g => ?_)
                    refine c_seq (fun K19 hK19 => ?_)
                    exact (by
                      refine c_region ?_
                      refine l_step (y_moveV (et g0 rfl)) ?_
                      refine l_step (y_add rfl (et g0 rfl) (addIN (x := 22) (y := 1) ?_)) ?_
                      omega
                      refine l_step (y_slA010 Hvaa.underlying27 sz_5 (et (gS rfl (gS rfl (gS rfl g0))) rfl) (et g0 rfl) ?_ ?_) ?_
                      omega
                      omega
                      refine l_eff (e_callV cal_166 (aC (et g0 rfl) aN) (m_kecB (k := 22 + 1) (cc := 32) k5 (crt_dig (Dig.app (be_lt 20 a) hcd) hn) (by rw [List.length_cons, List.length_cons, List.length_append, length_be]; omega) (by rw [List.length_cons, List.length_cons, List.length_append, length_be]; omega) (by decide))) (fun v20 w20 h20 => ?_)
                      obtain ⟨rfl, u20⟩ := h20
                      replace k2 := k2.up u20
                      replace k3 := k3.up u20
                      replace k5 := k5.up u20
                      replace U := U.tr u20
                      refine l_eff (e_alloc zr_27) (fun v21 w21 h21 => ?_)
                      obtain ⟨b21, rfl, n21⟩ := h21
                      have d2_21 : b2 < b21 := Nat.lt_of_lt_of_le k2.lt n21.fresh
                      have d3_21 : b3 < b21 := Nat.lt_of_lt_of_le k3.lt n21.fresh
                      have d5_21 : b5 < b21 := Nat.lt_of_lt_of_le k5.lt n21.fresh
                      have f21 : w.heap.size ≤ b21 := Nat.le_trans U.size n21.fresh
                      replace k2 := k2.up n21.up
                      replace k3 := k3.up n21.up
                      replace k5 := k5.up n21.up
                      replace U := U.tr n21.up
                      have k21 := n21.blk
                      obtain ⟨zs21, hz21, k21⟩ : ∃ cs : Array Value, cs.size = 32 ∧ Blk w21 b21 cs := ⟨_, rfl, k21⟩
                      refine l_effN (e_store sz_27 (et g0 rfl) (cellsV (et (gS rfl g0) rfl) rfl) (by rw [length_bL, length_be]) (by exact one_bL _) k21 (by (rw [hz21]; exact Nat.le_refl _))) (fun v22 w22 h22 => ?_)
                      obtain ⟨rfl, x22⟩ := h22
                      replace k2 := k2.ch x22.ch (by omega)
                      replace k3 := k3.ch x22.ch (by omega)
                      replace k5 := k5.ch x22.ch (by omega)
                      replace k21 := x22.blk.full (by rw [length_bL, length_be, hz21])
                      replace U := U.st x22 f21
                      refine l_nil ?_
                      refine hK19 _ _ ?_
                      refine fg2 4 10 (gS rfl (gS rfl (gS rfl (gS rfl (gS rfl (gS rfl (gS rfl g0))))))) g0 (fun g => ?_)
                      refine c_seq (fun K23 hK23 => ?_)
                      exact (by
                        refine c_region ?_
                        refine l_step (y_slA110 Hvaa.underlying27 sz_5 (et g0 rfl) rfl rfl ?_ ?_ ?_ ?_ ?_) ?_
                        decide
                        decide
                        decide
                        decide
                        decide
                        refine l_step (y_s2a Hvaa.underlying25 (et g0 rfl) ?_) ?_
                        decide
                        refine l_step (y_loadR agg_25 sz_25 (et g0 rfl) (by rw [length_bL, length_be]) (at1R (addr_mid k21))) ?_
                        refine l_effN (e_store sz_25 (et (gS rfl (gS rfl (gS rfl (gS rfl g0)))) rfl) (cellsV (et g0 rfl) rfl) (by rw [length_bL, length_be]) (by exact one_bL _) k3 (by exact Nat.le_of_ble_eq_true rfl)) (fun v24 w24 h24 => ?_)
                        obtain ⟨rfl, x24⟩ := h24
                        replace k2 := k2.ch x24.ch (by omega)
                        replace k5 := k5.ch x24.ch (by omega)
                        replace k21 := k21.ch x24.ch (by omega)
                        replace k3 := x24.blk.full (by rw [length_bL, length_be]; rfl)
                        replace U := U.st x24 f3
                        refine l_nil ?_
                        refine hK23 _ _ ?_
                        refine fg1 4 (gS rfl (gS rfl (gS rfl (gS rfl g0)))) (fun g => ?_)
                        refine c_ret ?_
                        repeat with_reducible refine then_ret ?_
                        refine ret1 rfl (res_blk agg_25 sz_25 (et g0 rfl) (by rw [List.size_toArray, length_bL, length_be]) k3) ?_
                        exact ⟨rfl, U⟩))))
              · skip
                
                have e1 : n ≠ 0 := by have := of_decide_eq_false cB1; omega
                refine c_seq (fun K25 hK25 => ?_)
                exact (by
                  refine c_region ?_
                  refine l_step (y_moveV (et (gS rfl (gS rfl (gS rfl (gS rfl g0)))) rfl)) ?_
                  refine l_step (y_lss (et g0 rfl) rfl) ?_
                  refine l_step (y_assignV (et g0 rfl)) ?_
                  refine l_nil ?_
                  refine hK25 _ _ ?_
                  refine fg5 1 4 5 6 49 (gS rfl (gS rfl (gS rfl (gS rfl (gS rfl (gS rfl (gS rfl g0))))))) (gS rfl (gS rfl (gS rfl (gS rfl (gS rfl (gS rfl g0)))))) (gS rfl (gS rfl (gS rfl (gS rfl (gS rfl g0))))) (gS rfl (gS rfl (gS rfl (gS rfl g0)))) g0 (fun g => ?_)
                  refine c_cond (et g0 rfl) (fun cB2 => ?_) (fun cB2 => ?_)
                  · skip
                    
                    have e2 : n < 128 := by have := of_decide_eq_true cB2; omega
                    exact (by
                      refine c_region ?_
                      refine l_step (y_moveV (et (gS rfl (gS rfl (gS rfl (gS rfl g0)))) rfl)) ?_
                      refine l_step (y_conv Hvaa.underlying26 Hvaa.underlying5 (et g0 rfl) (wrapU_id uk8 ?_)) ?_
                      omega
                      refine l_step (y_idxAC 22 22 Hvaa.underlying27 sz_5 (et (gS rfl (gS rfl (gS rfl (gS rfl g0)))) rfl) rfl rfl rfl) ?_
                      refine l_effN (e_store sz_5 (et g0 rfl) (cellsV (et (gS rfl g0) rfl) rfl) rfl (by first | exact one_bL _ | exact one_uL _ | (intro v hv; simp at hv; subst hv; rfl)) k5 (by (rw [size_bL, List.length_append, List.length_append, hl22]; decide))) (fun v27 w27 h27 => ?_)
                      obtain ⟨rfl, x27⟩ := h27
                      replace k2 := k2.ch x27.ch (by omega)
                      replace k3 := k3.ch x27.ch (by omega)
                      replace k5 := x27.blk
                      replace U := U.st x27 f5
                      replace k5 := Blk.putB (Q := [n]) k5 hl22.symm rfl
                      have ecr : crtR n = [n] := by rw [crtR, if_neg e1, if_pos e2]
                      rw [← ecr] at k5
                      refine l_nil ?_
                      refine hQ13 _ _ _ (in_normal ?_)
                      refine hK12 _ _ ?_
                      refine fg3 4 5 6 (gS rfl (gS rfl (gS rfl (gS rfl (gS rfl (gS rfl g0)))))) (gS rfl (gS rfl (gS rfl (gS rfl (gS rfl g0))))) (gS rfl (gS rfl (gS rfl (gS rfl g0)))) (fun g => ?_)
                      refine c_seq (fun K28 hK28 => ?_)
                      exact (by
                        refine c_region ?_
                        refine l_step (y_moveV (et g0 rfl)) ?_
                        refine l_step (y_add rfl (et g0 rfl) (addIN (x := 21) (y := 1) ?_)) ?_
                        omega
                        refine l_step (y_conv Hvaa.underlying3 Hvaa.underlying5 (et g0 rfl) (wrapU_id uk8 ?_)) ?_
                        omega
                        refine l_step (y_add rfl (et g0 rfl) (wrapU_addN (a := 192) uk8 ?_)) ?_
                        omega
                        refine l_step (y_idxAC 0 0 Hvaa.underlying27 sz_5 (et (gS rfl (gS rfl (gS rfl (gS rfl (gS rfl g0))))) rfl) rfl rfl rfl) ?_
                        have hlc : (crtR n).length = 1 := by rw [ecr]; rfl
                        refine l_effN (e_store sz_5 (et g0 rfl) (cellsV (et (gS rfl g0) rfl) rfl) rfl (by first | exact one_bL _ | exact one_uL _ | (intro v hv; simp at hv; subst hv; rfl)) k5 (by (rw [size_bL, List.length_append, List.length_append, hl22]; omega))) (fun v29 w29 h29 => ?_)
                        obtain ⟨rfl, x29⟩ := h29
                        replace k2 := k2.ch x29.ch (by omega)
                        replace k3 := k3.ch x29.ch (by omega)
                        replace k5 := x29.blk
                        replace U := U.st x29 f5
                        replace k5 : Blk w29 b5 (bL ([] ++ [192 + (21 + 1)] ++ (148 :: (be 20 a ++ crtR n ++ List.replicate 9 0)))).toArray := Blk.putB (A := []) (M := [0]) (C := 148 :: (be 20 a ++ crtR n ++ List.replicate 9 0)) (Q := [192 + (21 + 1)]) (by rw [show ([0, 148] ++ be 20 a ++ crtR n ++ List.replicate 9 0 : List Nat) = [] ++ [0] ++ (148 :: (be 20 a ++ crtR n ++ List.replicate 9 0)) by simp only [List.append_assoc, List.cons_append, List.nil_append]] at k5; exact k5) rfl rfl
                        replace k5 : Blk w29 b5 (bL (((213 + (crtR n).length) :: 148 :: (be 20 a ++ crtR n)) ++ List.replicate 9 0)).toArray := k5.reL (by rw [show 192 + (21 + 1) = 213 + (crtR n).length by omega]; simp only [List.append_assoc, List.cons_append, List.nil_append])
                        refine l_nil ?_
                        refine hK28 _ _ ?_
                        refine fg3 4 5 6 (gS rfl (gS rfl (gS rfl (gS rfl (gS rfl (gS rfl (gS rfl g0))))))) (gS rfl (gS rfl (gS rfl (gS rfl (gS rfl (gS rfl g0)))))) (gS rfl (gS rfl (gS rfl (gS rfl (gS rfl g0))))) (fun g => ?_)
                        refine c_seq (fun K30 hK30 => ?_)
                        exact (by
                          refine c_region ?_
                          refine l_step (y_moveV (et g0 rfl)) ?_
                          refine l_step (y_add rfl (et g0 rfl) (addIN (x := 22) (y := 1) ?_)) ?_
                          omega
                          refine l_step (y_slA010 Hvaa.underlying27 sz_5 (et (gS rfl (gS rfl (gS rfl g0))) rfl) (et g0 rfl) ?_ ?_) ?_
                          omega
                          omega
                          refine l_eff (e_callV cal_166 (aC (et g0 rfl) aN) (m_kecB (k := 22 + 1) (cc := 32) k5 (crt_dig (Dig.app (be_lt 20 a) hcd) hn) (by rw [List.length_cons, List.length_cons, List.length_append, length_be]; omega) (by rw [List.length_cons, List.length_cons, List.length_append, length_be]; omega) (by decide))) (fun v31 w31 h31 => ?_)
                          obtain ⟨rfl, u31⟩ := h31
                          replace k2 := k2.up u31
                          replace k3 := k3.up u31
                          replace k5 := k5.up u31
                          replace U := U.tr u31
                          refine l_eff (e_alloc zr_27) (fun v32 w32 h32 => ?_)
                          obtain ⟨b32, rfl, n32⟩ := h32
                          have d2_32 : b2 < b32 := Nat.lt_of_lt_of_le k2.lt n32.fresh
                          have d3_32 : b3 < b32 := Nat.lt_of_lt_of_le k3.lt n32.fresh
                          have d5_32 : b5 < b32 := Nat.lt_of_lt_of_le k5.lt n32.fresh
                          have f32 : w.heap.size ≤ b32 := Nat.le_trans U.size n32.fresh
                          replace k2 := k2.up n32.up
                          replace k3 := k3.up n32.up
                          replace k5 := k5.up n32.up
                          replace U := U.tr n32.up
                          have k32 := n32.blk
                          obtain ⟨zs32, hz32, k32⟩ : ∃ cs : Array Value, cs.size = 32 ∧ Blk w32 b32 cs := ⟨_, rfl, k32⟩
                          refine l_effN (e_store sz_27 (et g0 rfl) (cellsV (et (gS rfl g0) rfl) rfl) (by rw [length_bL, length_be]) (by exact one_bL _) k32 (by (rw [hz32]; exact Nat.le_refl _))) (fun v33 w33 h33 => ?_)
                          obtain ⟨rfl, x33⟩ := h33
                          replace k2 := k2.ch x33.ch (by omega)
                          replace k3 := k3.ch x33.ch (by omega)
                          replace k5 := k5.ch x33.ch (by omega)
                          replace k32 := x33.blk.full (by rw [length_bL, length_be, hz32])
                          replace U := U.st x33 f32
                          refine l_nil ?_
                          refine hK30 _ _ ?_
                          refine fg2 4 10 (gS rfl (gS rfl (gS rfl (gS rfl (gS rfl (gS rfl (gS rfl g0))))))) g0 (fun g => ?_)
                          refine c_seq (fun K34 hK34 => ?_)
                          exact (by
                            refine c_region ?_
                            refine l_step (y_slA110 Hvaa.underlying27 sz_5 (et g0 rfl) rfl rfl ?_ ?_ ?_ ?_ ?_) ?_
                            decide
                            decide
                            decide
                            decide
                            decide
                            refine l_step (y_s2a Hvaa.underlying25 (et g0 rfl) ?_) ?_
                            decide
                            refine l_step (y_loadR agg_25 sz_25 (et g0 rfl) (by rw [length_bL, length_be]) (at1R (addr_mid k32))) ?_
                            refine l_effN (e_store sz_25 (et (gS rfl (gS rfl (gS rfl (gS rfl g0)))) rfl) (cellsV (et g0 rfl) rfl) (by rw [length_bL, length_be]) (by exact one_bL _) k3 (by exact Nat.le_of_ble_eq_true rfl)) (fun v35 w35 h35 => ?_)
                            obtain ⟨rfl, x35⟩ := h35
                            replace k2 := k2.ch x35.ch (by omega)
                            replace k5 := k5.ch x35.ch (by omega)
                            replace k32 := k32.ch x35.ch (by omega)
                            replace k3 := x35.blk.full (by rw [length_bL, length_be]; rfl)
                            replace U := U.st x35 f3
                            refine l_nil ?_
                            refine hK34 _ _ ?_
                            refine fg1 4 (gS rfl (gS rfl (gS rfl (gS rfl g0)))) (fun g => ?_)
                            refine c_ret ?_
                            repeat with_reducible refine then_ret ?_
                            refine ret1 rfl (res_blk agg_25 sz_25 (et g0 rfl) (by rw [List.size_toArray, length_bL, length_be]) k3) ?_
                            exact ⟨rfl, U⟩))))
                  · skip
                    
                    have e2 : ¬ n < 128 := by have := of_decide_eq_false cB2; omega
                    refine c_seq (fun K36 hK36 => ?_)
                    exact (by
                      refine c_region ?_
                      refine l_step y_assignC ?_
                      refine l_nil ?_
                      refine hK36 _ _ ?_
                      refine fg5 1 4 5 6 7 (gS rfl (gS rfl (gS rfl (gS rfl (gS rfl g0))))) (gS rfl (gS rfl (gS rfl (gS rfl g0)))) (gS rfl (gS rfl (gS rfl g0))) (gS rfl (gS rfl g0)) g0 (fun g => ?_)
                      refine c_seq (fun K37 hK37 => ?_)
                      refine c_seq (fun K38 hK38 => ?_)
                      exact (by
                        refine c_region ?_
                        refine l_step (y_moveV (et (gS rfl (gS rfl (gS rfl (gS rfl g0)))) rfl)) ?_
                        refine l_step (y_assignV (et g0 rfl)) ?_
                        refine l_nil ?_
                        refine hK38 _ _ ?_
                        refine fg6 1 4 5 6 7 8 (gS rfl (gS rfl (gS rfl (gS rfl (gS rfl (gS rfl g0)))))) (gS rfl (gS rfl (gS rfl (gS rfl (gS rfl g0))))) (gS rfl (gS rfl (gS rfl (gS rfl g0)))) (gS rfl (gS rfl (gS rfl g0))) (gS rfl (gS rfl g0)) g0 (fun g => ?_)
                        refine c_block (fun Q39 hQ39 => ?_)
                        refine fg6 1 4 5 6 7 8 (gS rfl (gS rfl (gS rfl (gS rfl (gS rfl g0))))) (gS rfl (gS rfl (gS rfl (gS rfl g0)))) (gS rfl (gS rfl (gS rfl g0))) (gS rfl (gS rfl g0)) (gS rfl g0) g0 (fun g => ?_)
                        refine c_loop (fun k_ s_ W40 => ∃ (g : Nat → Value) (d x : Nat), s_ = (upd (upd (upd (upd (upd (upd g 1 (.int .u64 (n : Nat))) 4 (.pointer (some ⟨b3, 0, none⟩))) 5 (.pointer (some ⟨b5, 0, none⟩))) 6 (.int .i64 1)) 7 (.int .i64 (d : Nat))) 8 (.int .u64 (x : Nat))) ∧ x = k_ ∧ (d + lenB x = lenB n) ∧ (x < 18446744073709551616) ∧ Ch (fun k => False) w10 W40) ((n)) ?_ ?_
                        · exact ⟨g, 0, n, rfl, rfl, Nat.zero_add _, hn, Ch.refl _ _⟩
                        · skip
                          intro k_ s_ W40 hI K40 hK40
                          obtain ⟨g, d, x, rfl, rfl, hdx, hx, V40⟩ := hI
                          replace k2 := k2.ch V40 (by exact fun h => h)
                          replace k3 := k3.ch V40 (by exact fun h => h)
                          replace k5 := k5.ch V40 (by exact fun h => h)
                          replace U := U.cc V40 (by intro b hb; first | exact hb.elim | omega | (simp at hb ⊢; omega))
                          refine c_seq (fun K41 hK41 => ?_)
                          refine c_seq (fun K42 hK42 => ?_)
                          exact (by
                            refine c_region ?_
                            refine l_step (y_moveV (et g0 rfl)) ?_
                            refine l_step (y_gtr (et g0 rfl) rfl) ?_
                            refine l_nil ?_
                            refine hK42 _ _ ?_
                            refine fg7 1 4 5 6 7 8 17 (gS rfl (gS rfl (gS rfl (gS rfl (gS rfl (gS rfl (gS rfl g0))))))) (gS rfl (gS rfl (gS rfl (gS rfl (gS rfl (gS rfl g0)))))) (gS rfl (gS rfl (gS rfl (gS rfl (gS rfl g0))))) (gS rfl (gS rfl (gS rfl (gS rfl g0)))) (gS rfl (gS rfl (gS rfl g0))) (gS rfl (gS rfl g0)) g0 (fun g => ?_)
                            refine c_cond (et g0 rfl) (fun cB3 => ?_) (fun cB3 => ?_)
                            · skip
                              
                              have hx0 : x ≠ 0 := by have := of_decide_eq_true cB3; omega
                              refine c_skip ?_
                              refine hK41 _ _ ?_
                              refine fg6 1 4 5 6 7 8 (gS rfl (gS rfl (gS rfl (gS rfl (gS rfl (gS rfl g0)))))) (gS rfl (gS rfl (gS rfl (gS rfl (gS rfl g0))))) (gS rfl (gS rfl (gS rfl (gS rfl g0)))) (gS rfl (gS rfl (gS rfl g0))) (gS rfl (gS rfl g0)) (gS rfl g0) (fun g => ?_)
                              refine c_seq (fun K44 hK44 => ?_)
                              refine c_block (fun Q45 hQ45 => ?_)
                              exact (by
                                refine c_region ?_
                                refine l_step (y_moveV (et (gS rfl g0) rfl)) ?_
                                refine l_step (y_add (et g0 rfl) rfl (addIN (y := 1) ?_)) ?_
                                omega
                                refine l_step (y_assignV (et g0 rfl)) ?_
                                refine l_nil ?_
                                refine hQ45 _ _ _ (in_normal ?_)
                                refine hK44 _ _ ?_
                                refine fg6 1 4 5 6 7 8 (gS rfl (gS rfl (gS rfl (gS rfl (gS rfl (gS rfl (gS rfl (gS rfl g0)))))))) (gS rfl (gS rfl (gS rfl (gS rfl (gS rfl (gS rfl (gS rfl g0))))))) (gS rfl (gS rfl (gS rfl (gS rfl (gS rfl (gS rfl g0)))))) (gS rfl (gS rfl (gS rfl (gS rfl (gS rfl g0))))) g0 (gS rfl (gS rfl (gS rfl g0))) (fun g => ?_)
                                refine c_region ?_
                                refine l_step (y_moveV (et g0 rfl)) ?_
                                refine l_step (y_shr (et g0 rfl) rfl (by decide) (shrV (c := 8) (by decide))) ?_
                                refine l_step (y_assignV (et g0 rfl)) ?_
                                refine l_nil ?_
                                refine fK6 1 4 5 6 7 8 (gS rfl (gS rfl (gS rfl (gS rfl (gS rfl (gS rfl (gS rfl (gS rfl g0)))))))) (gS rfl (gS rfl (gS rfl (gS rfl (gS rfl (gS rfl (gS rfl g0))))))) (gS rfl (gS rfl (gS rfl (gS rfl (gS rfl (gS rfl g0)))))) (gS rfl (gS rfl (gS rfl (gS rfl (gS rfl g0))))) (gS rfl (gS rfl (gS rfl (gS rfl g0)))) g0 (fun g => ?_)
                                exact hK40 (((x / 256))) _ _ (by omega) ⟨g, (d + 1), (x / 256), rfl, rfl, by have := lenB_s hx0; omega, by omega, V40⟩)
                            · skip
                              
                              have hx0 : x = 0 := by have := of_decide_eq_false cB3; omega
                              subst hx0
                              rw [lenB_0, Nat.add_zero] at hdx
                              subst hdx
                              refine c_exit ?_
                              refine hQ39 _ _ _ (in_exit ?_)
                              refine hK37 _ _ ?_
                              refine fg5 1 4 5 6 7 (gS rfl (gS rfl (gS rfl (gS rfl (gS rfl (gS rfl g0)))))) (gS rfl (gS rfl (gS rfl (gS rfl (gS rfl g0))))) (gS rfl (gS rfl (gS rfl (gS rfl g0)))) (gS rfl (gS rfl (gS rfl g0))) (gS rfl (gS rfl g0)) (fun g => ?_)
                              refine c_seq (fun K46 hK46 => ?_)
                              exact (by
                                refine c_region ?_
                                refine l_step (y_moveV (et g0 rfl)) ?_
                                refine l_step (y_conv Hvaa.underlying3 Hvaa.underlying5 (et g0 rfl) (wrapU_id uk8 ?_)) ?_
                                omega
                                refine l_step (y_add rfl (et g0 rfl) (wrapU_addN (a := 128) uk8 ?_)) ?_
                                omega
                                refine l_step (y_idxAC 22 22 Hvaa.underlying27 sz_5 (et (gS rfl (gS rfl (gS rfl (gS rfl (gS rfl g0))))) rfl) rfl rfl rfl) ?_
                                refine l_effN (e_store sz_5 (et g0 rfl) (cellsV (et (gS rfl g0) rfl) rfl) rfl (by first | exact one_bL _ | exact one_uL _ | (intro v hv; simp at hv; subst hv; rfl)) k5 (by (rw [size_bL, List.length_append, List.length_append, hl22]; decide))) (fun v47 w47 h47 => ?_)
                                obtain ⟨rfl, x47⟩ := h47
                                replace k2 := k2.ch x47.ch (by omega)
                                replace k3 := k3.ch x47.ch (by omega)
                                replace k5 := x47.blk
                                replace U := U.st x47 f5
                                replace k5 := Blk.putB (Q := [128 + lenB n]) k5 hl22.symm rfl
                                replace k5 : Blk w47 b5 (bL (([0, 148] ++ be 20 a) ++ ((128 + lenB n) :: (be (lenB n) n).take 0) ++ List.replicate (9 - 0) 0)).toArray := k5
                                refine l_nil ?_
                                refine hK46 _ _ ?_
                                refine fg5 1 4 5 6 7 (gS rfl (gS rfl (gS rfl (gS rfl (gS rfl (gS rfl (gS rfl (gS rfl g0)))))))) (gS rfl (gS rfl (gS rfl (gS rfl (gS rfl (gS rfl (gS rfl g0))))))) (gS rfl (gS rfl (gS rfl (gS rfl (gS rfl (gS rfl g0)))))) (gS rfl (gS rfl (gS rfl (gS rfl (gS rfl g0))))) (gS rfl (gS rfl (gS rfl (gS rfl g0)))) (fun g => ?_)
                                refine c_seq (fun K48 hK48 => ?_)
                                refine c_seq (fun K49 hK49 => ?_)
                                exact (by
                                  refine c_region ?_
                                  refine l_step y_assignC ?_
                                  refine l_nil ?_
                                  refine hK49 _ _ ?_
                                  refine c_block (fun Q50 hQ50 => ?_)
                                  refine fg6 1 4 5 6 7 9 (gS rfl (gS rfl (gS rfl (gS rfl (gS rfl g0))))) (gS rfl (gS rfl (gS rfl (gS rfl g0)))) (gS rfl (gS rfl (gS rfl g0))) (gS rfl (gS rfl g0)) (gS rfl g0) g0 (fun g => ?_)
                                  refine c_loop (fun k_ s_ W51 => ∃ (g : Nat → Value) (i : Nat), s_ = (upd (upd (upd (upd (upd (upd g 1 (.int .u64 (n : Nat))) 4 (.pointer (some ⟨b3, 0, none⟩))) 5 (.pointer (some ⟨b5, 0, none⟩))) 6 (.int .i64 1)) 7 (.int .i64 (lenB n : Nat))) 9 (.int .i64 (i : Nat))) ∧ lenB n - i = k_ ∧ (i ≤ lenB n) ∧ Blk W51 b5 ((bL (([0, 148] ++ be 20 a) ++ ((128 + lenB n) :: (be (lenB n) n).take i) ++ List.replicate (9 - i) 0)).toArray) ∧ Ch (fun k => k = b5) w47 W51) (lenB n - (0)) ?_ ?_
                                  · exact ⟨g, 0, rfl, rfl, Nat.zero_le _, k5, Ch.refl _ _⟩
                                  · skip
                                    intro k_ s_ W51 hI K51 hK51
                                    obtain ⟨g, i, rfl, rfl, hi, nk5, V51⟩ := hI
                                    replace k2 := k2.ch V51 (by omega)
                                    replace k3 := k3.ch V51 (by omega)
                                    replace k5 := nk5
                                    replace U := U.cc V51 (by intro b hb; first | exact hb.elim | omega | (simp at hb ⊢; omega))
                                    refine c_seq (fun K52 hK52 => ?_)
                                    refine c_seq (fun K53 hK53 => ?_)
                                    exact (by
                                      refine c_region ?_
                                      refine l_step (y_moveV (et g0 rfl)) ?_
                                      refine l_step (y_moveV (et (gS rfl (gS rfl g0)) rfl)) ?_
                                      refine l_step (y_lss (et (gS rfl g0) rfl) (et g0 rfl)) ?_
                                      refine l_nil ?_
                                      refine hK53 _ _ ?_
                                      refine fg7 1 4 5 6 7 9 28 (gS rfl (gS rfl (gS rfl (gS rfl (gS rfl (gS rfl (gS rfl (gS rfl g0)))))))) (gS rfl (gS rfl (gS rfl (gS rfl (gS rfl (gS rfl (gS rfl g0))))))) (gS rfl (gS rfl (gS rfl (gS rfl (gS rfl (gS rfl g0)))))) (gS rfl (gS rfl (gS rfl (gS rfl (gS rfl g0))))) (gS rfl (gS rfl (gS rfl (gS rfl g0)))) (gS rfl (gS rfl (gS rfl g0))) g0 (fun g => ?_)
                                      refine c_cond (et g0 rfl) (fun cB4 => ?_) (fun cB4 => ?_)
                                      · skip
                                        
                                        have hi4 : i < lenB n := by have := of_decide_eq_true cB4; omega
                                        refine c_skip ?_
                                        refine hK52 _ _ ?_
                                        refine fg6 1 4 5 6 7 9 (gS rfl (gS rfl (gS rfl (gS rfl (gS rfl (gS rfl g0)))))) (gS rfl (gS rfl (gS rfl (gS rfl (gS rfl g0))))) (gS rfl (gS rfl (gS rfl (gS rfl g0)))) (gS rfl (gS rfl (gS rfl g0))) (gS rfl (gS rfl g0)) (gS rfl g0) (fun g => ?_)
                                        refine c_seq (fun K55 hK55 => ?_)
                                        refine c_block (fun Q56 hQ56 => ?_)
                                        exact (by
                                          refine c_region ?_
                                          refine l_step (y_moveV (et g0 rfl)) ?_
                                          refine l_step (y_add rfl (et g0 rfl) (addIN (x := 23) ?_)) ?_
                                          omega
                                          refine l_step (y_moveV (et (gS rfl (gS rfl (gS rfl (gS rfl (gS rfl (gS rfl (gS rfl g0))))))) rfl)) ?_
                                          refine l_step (y_moveV (et (gS rfl (gS rfl (gS rfl (gS rfl g0)))) rfl)) ?_
                                          refine l_step (y_sub (et g0 rfl) rfl (subIN (y := 1) ?_ ?_)) ?_
                                          omega
                                          omega
                                          refine l_step (y_moveV (et (gS rfl (gS rfl (gS rfl (gS rfl (gS rfl g0))))) rfl)) ?_
                                          refine l_step (y_sub (et (gS rfl g0) rfl) (et g0 rfl) (subIN ?_ ?_)) ?_
                                          omega
                                          omega
                                          refine l_step (y_mul rfl (et g0 rfl) (mulIN (x := 8) ?_)) ?_
                                          omega
                                          refine l_step (y_shr (et (gS rfl (gS rfl (gS rfl (gS rfl (gS rfl g0))))) rfl) (et g0 rfl) (by omega) (shrV (c := 8 * (lenB n - 1 - i)) (by omega))) ?_
                                          refine l_step (y_conv Hvaa.underlying26 Hvaa.underlying5 (et g0 rfl) (wrapU_nat uk8)) ?_
                                          refine l_step (y_idxA Hvaa.underlying27 sz_5 (et (gS rfl (gS rfl (gS rfl (gS rfl (gS rfl (gS rfl (gS rfl (gS rfl (gS rfl (gS rfl (gS rfl (gS rfl (gS rfl g0))))))))))))) rfl) (et (gS rfl (gS rfl (gS rfl (gS rfl (gS rfl (gS rfl (gS rfl (gS rfl g0)))))))) rfl) ?_ ?_) ?_
                                          omega
                                          omega
                                          refine l_effN (e_store sz_5 (et g0 rfl) (cellsV (et (gS rfl g0) rfl) rfl) rfl (by first | exact one_bL _ | exact one_uL _ | (intro v hv; simp at hv; subst hv; rfl)) k5 (by (rw [size_bL, List.length_append, List.length_append, hl22, List.length_cons, List.length_take, length_be, List.length_replicate]; omega))) (fun v57 w57 h57 => ?_)
                                          obtain ⟨rfl, x57⟩ := h57
                                          replace k2 := k2.ch x57.ch (by omega)
                                          replace k3 := k3.ch x57.ch (by omega)
                                          replace k5 := x57.blk
                                          replace U := U.st x57 f5
                                          replace V51 := V51.st x57 (by omega)
                                          rw [show 9 - i = (9 - (i + 1)) + 1 by omega, List.replicate_succ, show (0 :: List.replicate (9 - (i + 1)) 0 : List Nat) = [0] ++ List.replicate (9 - (i + 1)) 0 from rfl, ← List.append_assoc] at k5
                                          replace k5 := Blk.putB (Q := [_]) k5 (by rw [List.length_append, hl22, List.length_cons, List.length_take, length_be]; omega) rfl
                                          replace k5 : Blk w57 b5 (bL (([0, 148] ++ be 20 a) ++ ((128 + lenB n) :: (be (lenB n) n).take (i + 1)) ++ List.replicate (9 - (i + 1)) 0)).toArray := k5.reL (by rw [be_take1 hi4]; simp only [List.append_assoc, List.cons_append])
                                          refine l_nil ?_
                                          refine hQ56 _ _ _ (in_normal ?_)
                                          refine hK55 _ _ ?_
                                          refine fg6 1 4 5 6 7 9 (gS rfl (gS rfl (gS rfl (gS rfl (gS rfl (gS rfl (gS rfl (gS rfl (gS rfl (gS rfl (gS rfl (gS rfl (gS rfl (gS rfl (gS rfl (gS rfl g0)))))))))))))))) (gS rfl (gS rfl (gS rfl (gS rfl (gS rfl (gS rfl (gS rfl (gS rfl (gS rfl (gS rfl (gS rfl (gS rfl (gS rfl (gS rfl (gS rfl g0))))))))))))))) (gS rfl (gS rfl (gS rfl (gS rfl (gS rfl (gS rfl (gS rfl (gS rfl (gS rfl (gS rfl (gS rfl (gS rfl (gS rfl (gS rfl g0)))))))))))))) (gS rfl (gS rfl (gS rfl (gS rfl (gS rfl (gS rfl (gS rfl (gS rfl (gS rfl (gS rfl (gS rfl (gS rfl (gS rfl g0))))))))))))) (gS rfl (gS rfl (gS rfl (gS rfl (gS rfl (gS rfl (gS rfl (gS rfl (gS rfl (gS rfl (gS rfl (gS rfl g0)))))))))))) (gS rfl (gS rfl (gS rfl (gS rfl (gS rfl (gS rfl (gS rfl (gS rfl (gS rfl (gS rfl (gS rfl g0))))))))))) (fun g => ?_)
                                          refine c_region ?_
                                          exact (by
                                            refine l_step (y_moveV (et g0 rfl)) ?_
                                            refine l_step (y_add (et g0 rfl) rfl (addIN (y := 1) ?_)) ?_
                                            omega
                                            refine l_step (y_assignV (et g0 rfl)) ?_
                                            refine l_nil ?_
                                            refine fK6 1 4 5 6 7 9 (gS rfl (gS rfl (gS rfl (gS rfl (gS rfl (gS rfl (gS rfl (gS rfl g0)))))))) (gS rfl (gS rfl (gS rfl (gS rfl (gS rfl (gS rfl (gS rfl g0))))))) (gS rfl (gS rfl (gS rfl (gS rfl (gS rfl (gS rfl g0)))))) (gS rfl (gS rfl (gS rfl (gS rfl (gS rfl g0))))) (gS rfl (gS rfl (gS rfl (gS rfl g0)))) g0 (fun g => ?_)
                                            exact hK51 (lenB n - ((i + 1))) _ _ (by omega) ⟨g, (i + 1), rfl, rfl, by omega, k5, V51⟩))
                                      · skip
                                        
                                        have hi4 : i = lenB n := by have := of_decide_eq_false cB4; omega
                                        subst hi4
                                        have ecr : crtR n = (128 + lenB n) :: be (lenB n) n := by rw [crtR, if_neg e1, if_neg e2]
                                        rw [List.take_of_length_le (by rw [length_be]; exact Nat.le_refl _), ← ecr] at k5
                                        refine c_exit ?_
                                        refine hQ50 _ _ _ (in_exit ?_)
                                        refine hK48 _ _ ?_
                                        refine fg4 4 5 6 7 (gS rfl (gS rfl (gS rfl (gS rfl (gS rfl g0))))) (gS rfl (gS rfl (gS rfl (gS rfl g0)))) (gS rfl (gS rfl (gS rfl g0))) (gS rfl (gS rfl g0)) (fun g => ?_)
                                        exact (by
                                          refine c_region ?_
                                          refine l_step (y_moveV (et (gS rfl g0) rfl)) ?_
                                          refine l_step (y_moveV (et (gS rfl g0) rfl)) ?_
                                          refine l_step (y_add (et (gS rfl g0) rfl) (et g0 rfl) (addIN (x := 1) ?_)) ?_
                                          omega
                                          refine l_step (y_assignV (et g0 rfl)) ?_
                                          refine l_nil ?_
                                          refine hQ13 _ _ _ (in_normal ?_)
                                          refine hK12 _ _ ?_
                                          refine fg3 4 5 6 (gS rfl (gS rfl (gS rfl (gS rfl (gS rfl (gS rfl (gS rfl g0))))))) (gS rfl (gS rfl (gS rfl (gS rfl (gS rfl (gS rfl g0)))))) g0 (fun g => ?_)
                                          refine c_seq (fun K58 hK58 => ?_)
                                          exact (by
                                            refine c_region ?_
                                            refine l_step (y_moveV (et g0 rfl)) ?_
                                            refine l_step (y_add rfl (et g0 rfl) (addIN (x := 21) ?_)) ?_
                                            omega
                                            refine l_step (y_conv Hvaa.underlying3 Hvaa.underlying5 (et g0 rfl) (wrapU_id uk8 ?_)) ?_
                                            omega
                                            refine l_step (y_add rfl (et g0 rfl) (wrapU_addN (a := 192) uk8 ?_)) ?_
                                            omega
                                            refine l_step (y_idxAC 0 0 Hvaa.underlying27 sz_5 (et (gS rfl (gS rfl (gS rfl (gS rfl (gS rfl g0))))) rfl) rfl rfl rfl) ?_
                                            have hlc : (crtR n).length = 1 + lenB n := by rw [ecr, List.length_cons, length_be]; omega
                                            refine l_effN (e_store sz_5 (et g0 rfl) (cellsV (et (gS rfl g0) rfl) rfl) rfl (by first | exact one_bL _ | exact one_uL _ | (intro v hv; simp at hv; subst hv; rfl)) k5 (by (rw [size_bL, List.length_append, List.length_append, hl22]; omega))) (fun v59 w59 h59 => ?_)
                                            obtain ⟨rfl, x59⟩ := h59
                                            replace k2 := k2.ch x59.ch (by omega)
                                            replace k3 := k3.ch x59.ch (by omega)
                                            replace k5 := x59.blk
                                            replace U := U.st x59 f5
                                            replace k5 : Blk w59 b5 (bL ([] ++ [192 + (21 + (1 + lenB n))] ++ (148 :: (be 20 a ++ crtR n ++ List.replicate (9 - lenB n) 0)))).toArray := Blk.putB (A := []) (M := [0]) (C := 148 :: (be 20 a ++ crtR n ++ List.replicate (9 - lenB n) 0)) (Q := [192 + (21 + (1 + lenB n))]) (by rw [show ([0, 148] ++ be 20 a ++ crtR n ++ List.replicate (9 - lenB n) 0 : List Nat) = [] ++ [0] ++ (148 :: (be 20 a ++ crtR n ++ List.replicate (9 - lenB n) 0)) by simp only [List.append_assoc, List.cons_append, List.nil_append]] at k5; exact k5) rfl rfl
                                            replace k5 : Blk w59 b5 (bL (((213 + (crtR n).length) :: 148 :: (be 20 a ++ crtR n)) ++ List.replicate (9 - lenB n) 0)).toArray := k5.reL (by rw [show 192 + (21 + (1 + lenB n)) = 213 + (crtR n).length by omega]; simp only [List.append_assoc, List.cons_append, List.nil_append])
                                            refine l_nil ?_
                                            refine hK58 _ _ ?_
                                            refine fg3 4 5 6 (gS rfl (gS rfl (gS rfl (gS rfl (gS rfl (gS rfl (gS rfl g0))))))) (gS rfl (gS rfl (gS rfl (gS rfl (gS rfl (gS rfl g0)))))) (gS rfl (gS rfl (gS rfl (gS rfl (gS rfl g0))))) (fun g => ?_)
                                            refine c_seq (fun K60 hK60 => ?_)
                                            exact (by
                                              refine c_region ?_
                                              refine l_step (y_moveV (et g0 rfl)) ?_
                                              refine l_step (y_add rfl (et g0 rfl) (addIN (x := 22) ?_)) ?_
                                              omega
                                              refine l_step (y_slA010 Hvaa.underlying27 sz_5 (et (gS rfl (gS rfl (gS rfl g0))) rfl) (et g0 rfl) ?_ ?_) ?_
                                              omega
                                              omega
                                              refine l_eff (e_callV cal_166 (aC (et g0 rfl) aN) (m_kecB (k := 22 + (1 + lenB n)) (cc := 32) k5 (crt_dig (Dig.app (be_lt 20 a) hcd) hn) (by rw [List.length_cons, List.length_cons, List.length_append, length_be]; omega) (by rw [List.length_cons, List.length_cons, List.length_append, length_be]; omega) (by decide))) (fun v61 w61 h61 => ?_)
                                              obtain ⟨rfl, u61⟩ := h61
                                              replace k2 := k2.up u61
                                              replace k3 := k3.up u61
                                              replace k5 := k5.up u61
                                              replace U := U.tr u61
                                              refine l_eff (e_alloc zr_27) (fun v62 w62 h62 => ?_)
                                              obtain ⟨b62, rfl, n62⟩ := h62
                                              have d2_62 : b2 < b62 := Nat.lt_of_lt_of_le k2.lt n62.fresh
                                              have d3_62 : b3 < b62 := Nat.lt_of_lt_of_le k3.lt n62.fresh
                                              have d5_62 : b5 < b62 := Nat.lt_of_lt_of_le k5.lt n62.fresh
                                              have f62 : w.heap.size ≤ b62 := Nat.le_trans U.size n62.fresh
                                              replace k2 := k2.up n62.up
                                              replace k3 := k3.up n62.up
                                              replace k5 := k5.up n62.up
                                              replace U := U.tr n62.up
                                              have k62 := n62.blk
                                              obtain ⟨zs62, hz62, k62⟩ : ∃ cs : Array Value, cs.size = 32 ∧ Blk w62 b62 cs := ⟨_, rfl, k62⟩
                                              refine l_effN (e_store sz_27 (et g0 rfl) (cellsV (et (gS rfl g0) rfl) rfl) (by rw [length_bL, length_be]) (by exact one_bL _) k62 (by (rw [hz62]; exact Nat.le_refl _))) (fun v63 w63 h63 => ?_)
                                              obtain ⟨rfl, x63⟩ := h63
                                              replace k2 := k2.ch x63.ch (by omega)
                                              replace k3 := k3.ch x63.ch (by omega)
                                              replace k5 := k5.ch x63.ch (by omega)
                                              replace k62 := x63.blk.full (by rw [length_bL, length_be, hz62])
                                              replace U := U.st x63 f62
                                              refine l_nil ?_
                                              refine hK60 _ _ ?_
                                              refine fg2 4 10 (gS rfl (gS rfl (gS rfl (gS rfl (gS rfl (gS rfl (gS rfl g0))))))) g0 (fun g => ?_)
                                              refine c_seq (fun K64 hK64 => ?_)
                                              exact (by
                                                refine c_region ?_
                                                refine l_step (y_slA110 Hvaa.underlying27 sz_5 (et g0 rfl) rfl rfl ?_ ?_ ?_ ?_ ?_) ?_
                                                decide
                                                decide
                                                decide
                                                decide
                                                decide
                                                refine l_step (y_s2a Hvaa.underlying25 (et g0 rfl) ?_) ?_
                                                decide
                                                refine l_step (y_loadR agg_25 sz_25 (et g0 rfl) (by rw [length_bL, length_be]) (at1R (addr_mid k62))) ?_
                                                refine l_effN (e_store sz_25 (et (gS rfl (gS rfl (gS rfl (gS rfl g0)))) rfl) (cellsV (et g0 rfl) rfl) (by rw [length_bL, length_be]) (by exact one_bL _) k3 (by exact Nat.le_of_ble_eq_true rfl)) (fun v65 w65 h65 => ?_)
                                                obtain ⟨rfl, x65⟩ := h65
                                                replace k2 := k2.ch x65.ch (by omega)
                                                replace k5 := k5.ch x65.ch (by omega)
                                                replace k62 := k62.ch x65.ch (by omega)
                                                replace k3 := x65.blk.full (by rw [length_bL, length_be]; rfl)
                                                replace U := U.st x65 f3
                                                refine l_nil ?_
                                                refine hK64 _ _ ?_
                                                refine fg1 4 (gS rfl (gS rfl (gS rfl (gS rfl g0)))) (fun g => ?_)
                                                refine c_ret ?_
                                                repeat with_reducible refine then_ret ?_
                                                refine ret1 rfl (res_blk agg_25 sz_25 (et g0 rfl) (by rw [List.size_toArray, length_bL, length_be]) k3) ?_
                                                exact ⟨rfl, U⟩)))))))))))))))))
theorem m_create2Addr {w : World} {H : Store} (hF : Fz w H) {a x : Nat} {la : Option Addr} {lc : Nat} {l : List Nat} (ha : a < A160) (hx : x < W256) (hB : BV H (.slice la l.length lc) l) :
    Ret 309 [aV a, wV x, .slice la l.length lc] w (fun v w' => v = aV (c2N a x l) ∧ Up w w') := by
  refine enter (n := 28) Hvaa.func309 rfl rfl (Nat.le_of_ble_eq_true rfl) ?_
  have U := Up.refl w
  have G : Go (No) w H w H := Go.refl hF
  refine c_seq (fun K1 hK1 => ?_)
  exact (by
    refine c_region ?_
    refine l_eff (e_boxV (et g0 rfl)) (fun v2 w2 h2 => ?_)
    obtain ⟨b2, rfl, n2⟩ := h2
    have f2 : w.heap.size ≤ b2 := Nat.le_trans U.size n2.fresh
    have nb2 := hF.nb n2.fresh
    replace G := G.tr (Go.ofUp hF n2.up)
    replace hF := hF.up n2.up
    replace U := U.tr n2.up
    have k2 := n2.blk
    replace k2 : Blk w2 b2 (bL (be 20 a)).toArray := k2
    refine l_eff (e_boxV (et (gS rfl (gS rfl g0)) rfl)) (fun v3 w3 h3 => ?_)
    obtain ⟨b3, rfl, n3⟩ := h3
    have d2_3 : b2 < b3 := Nat.lt_of_lt_of_le k2.lt n3.fresh
    have f3 : w.heap.size ≤ b3 := Nat.le_trans U.size n3.fresh
    have nb3 := hF.nb n3.fresh
    replace G := G.tr (Go.ofUp hF n3.up)
    replace hF := hF.up n3.up
    replace k2 := k2.up n3.up
    replace U := U.tr n3.up
    have k3 := n3.blk
    refine l_eff (e_alloc zr_25) (fun v4 w4 h4 => ?_)
    obtain ⟨b4, rfl, n4⟩ := h4
    have d2_4 : b2 < b4 := Nat.lt_of_lt_of_le k2.lt n4.fresh
    have d3_4 : b3 < b4 := Nat.lt_of_lt_of_le k3.lt n4.fresh
    have f4 : w.heap.size ≤ b4 := Nat.le_trans U.size n4.fresh
    have nb4 := hF.nb n4.fresh
    replace G := G.tr (Go.ofUp hF n4.up)
    replace hF := hF.up n4.up
    replace k2 := k2.up n4.up
    replace k3 := k3.up n4.up
    replace U := U.tr n4.up
    have k4 := n4.blk
    refine l_nil ?_
    refine hK1 _ _ ?_
    refine fg4 2 3 4 6 (gS rfl (gS rfl (gS rfl (gS rfl (gS rfl g0))))) (gS rfl (gS rfl g0)) (gS rfl g0) g0 (fun g => ?_)
    refine c_seq (fun K5 hK5 => ?_)
    exact (by
      refine c_region ?_
      refine l_eff (e_alloc zr_428) (fun v6 w6 h6 => ?_)
      obtain ⟨b6, rfl, n6⟩ := h6
      have d2_6 : b2 < b6 := Nat.lt_of_lt_of_le k2.lt n6.fresh
      have d3_6 : b3 < b6 := Nat.lt_of_lt_of_le k3.lt n6.fresh
      have d4_6 : b4 < b6 := Nat.lt_of_lt_of_le k4.lt n6.fresh
      have f6 : w.heap.size ≤ b6 := Nat.le_trans U.size n6.fresh
      have nb6 := hF.nb n6.fresh
      replace G := G.tr (Go.ofUp hF n6.up)
      replace hF := hF.up n6.up
      replace k2 := k2.up n6.up
      replace k3 := k3.up n6.up
      replace k4 := k4.up n6.up
      replace U := U.tr n6.up
      have k6 := n6.blk
      replace k6 : Blk w6 b6 (bL ([] ++ [0] ++ List.replicate 84 0)).toArray := k6
      refine l_nil ?_
      refine hK5 _ _ ?_
      refine c_seq (fun K7 hK7 => ?_)
      exact (by
        refine c_region ?_
        refine l_step (y_idxAC 0 0 Hvaa.underlying428 sz_5 (et g0 rfl) rfl rfl rfl) ?_
        refine l_effN (e_store sz_5 (et g0 rfl) (cellsV rfl rfl) rfl (by first | exact one_bL _ | exact one_uL _ | (intro v hv; simp at hv; subst hv; rfl)) k6 (by first | exact Nat.le_of_ble_eq_true rfl | simp | omega)) (fun v8 w8 h8 => ?_)
        obtain ⟨rfl, x8⟩ := h8
        replace k2 := k2.ch x8.ch (by omega)
        replace k3 := k3.ch x8.ch (by omega)
        replace k4 := k4.ch x8.ch (by omega)
        replace k6 := x8.blk
        replace G := G.wr x8 (by first | exact .inr f6 | omega | (simp; omega)) nb6
        replace hF := G.fz
        replace U := U.st x8 f6
        replace k6 : Blk w8 b6 (bL ([255] ++ List.replicate 20 0 ++ (List.replicate 32 0 ++ List.replicate 32 0))).toArray := Blk.putB (A := []) (M := [0]) (C := List.replicate 84 0) (Q := [255]) k6 rfl rfl
        refine l_nil ?_
        refine hK7 _ _ ?_
        refine fg5 2 3 4 6 7 (gS rfl (gS rfl (gS rfl (gS rfl (gS rfl g0))))) (gS rfl (gS rfl (gS rfl (gS rfl g0)))) (gS rfl (gS rfl (gS rfl g0))) (gS rfl (gS rfl g0)) (gS rfl g0) (fun g => ?_)
        refine c_seq (fun K9 hK9 => ?_)
        exact (by
          refine c_draw Up 2 [(0, true), (1, true), (2, false)] (by kernel_rfl) (fun w10 hu => ⟨Up.refl _, ?_⟩)
          replace G := G.tr (Go.ofUp hF hu)
          replace hF := hF.up hu
          replace k2 := k2.up hu
          replace k3 := k3.up hu
          replace k4 := k4.up hu
          replace k6 := k6.up hu
          replace U := U.tr hu
          have SU := Up.refl w10
          refine p_step (by exact rfl) (y_slA110 Hvaa.underlying428 sz_5 (et g0 rfl) rfl rfl ?_ ?_ ?_ ?_ ?_) ?_
          decide
          decide
          decide
          decide
          decide
          refine p_step (by exact rfl) (y_slA000 Hvaa.underlying25 sz_5 (et (gS rfl (gS rfl (gS rfl (gS rfl g0)))) rfl) ) ?_
          have hW := wv_addr k2
          refine p_eff (by exact rfl) (e_copyW Hvaa.underlying38 (et (gS rfl g0) rfl) (et g0 rfl) hW k6 (by rw [length_be]; exact Nat.le_of_ble_eq_true rfl)) (fun v11 w11 h11 => ?_)
          obtain ⟨rfl, x11⟩ := h11
          replace G := G.chs x11.ch (by intro b hb; first | omega | exact .inl hb | (simp at hb ⊢; omega)) (by intro q hq; first | (subst hq; assumption) | (simp only at hq; first | (subst hq; assumption) | (rcases hq with rfl | rfl <;> assumption)))
          replace hF := G.fz
          replace k2 := k2.ch x11.ch (by omega)
          replace k3 := k3.ch x11.ch (by omega)
          replace k4 := k4.ch x11.ch (by omega)
          replace k6 := x11.blk
          replace U := U.cc x11.ch (by intro b hb; first | exact hb ▸ f6 | omega)
          refine ⟨.inl rfl, ?_⟩
          rw [List.take_of_length_le (by rw [length_be]; decide)] at k6
          replace k6 : Blk w11 b6 (bL (([255] ++ be 20 a) ++ List.replicate 32 0 ++ List.replicate 32 0)).toArray := (Blk.putB k6 rfl (by rw [length_be]; rfl)).reL (by simp only [List.append_assoc])
          have hl21 : ([255] ++ be 20 a).length = 21 := by rw [List.length_append, length_be]; rfl
          refine p_nil ?_
          refine hK9 _ _ ?_
          refine fg4 2 4 6 7 (gS rfl (gS rfl (gS rfl (gS rfl (gS rfl (gS rfl (gS rfl g0))))))) (gS rfl (gS rfl (gS rfl (gS rfl (gS rfl g0))))) (gS rfl (gS rfl (gS rfl (gS rfl g0)))) (gS rfl (gS rfl (gS rfl g0))) (fun g => ?_)
          refine c_seq (fun K12 hK12 => ?_)
          exact (by
            refine c_draw Up 5 [(0, true), (1, true), (2, true), (3, false), (4, true), (5, false)] (by kernel_rfl) (fun w13 hu => ⟨Up.refl _, ?_⟩)
            replace G := G.tr (Go.ofUp hF hu)
            replace hF := hF.up hu
            replace k2 := k2.up hu
            replace k3 := k3.up hu
            replace k4 := k4.up hu
            replace k6 := k6.up hu
            replace U := U.tr hu
            have SU := Up.refl w13
            refine p_step (by exact rfl) (y_slA110 Hvaa.underlying428 sz_5 (et g0 rfl) rfl rfl ?_ ?_ ?_ ?_ ?_) ?_
            decide
            decide
            decide
            decide
            decide
            refine p_step (by exact rfl) (y_s2a Hvaa.underlying27 (et g0 rfl) ?_) ?_
            decide
            refine p_step (by exact rfl) (y_loadB agg_65 sz_65 (et (gS rfl (gS rfl (gS rfl (gS rfl g0)))) rfl) rfl (atSB k3)) ?_
            refine p_eff (by exact rfl) (e_callV cal_76 (aC (et g0 rfl) aN) (wBE32_spec x _)) (fun v14 w14 h14 => ?_)
            obtain ⟨rfl, u14⟩ := h14
            replace G := G.tr (Go.ofUp hF u14)
            replace hF := hF.up u14
            replace k2 := k2.up u14
            replace k3 := k3.up u14
            replace k4 := k4.up u14
            replace k6 := k6.up u14
            replace U := U.tr u14
            refine ⟨.inr (SU.tr u14), ?_⟩
            replace SU := SU.tr u14
            refine p_step (by exact rfl) (y_nil (et (gS rfl (gS rfl g0)) rfl)) ?_
            refine p_effN (by exact rfl) (e_store sz_27 (et g0 rfl) (cellsV (et (gS rfl g0) rfl) rfl) (by rw [length_bL, length_be]) (by exact one_bL _) k6 (by (rw [size_bL, List.length_append, List.length_append, hl21]; decide))) (fun v15 w15 h15 => ?_)
            obtain ⟨rfl, x15⟩ := h15
            replace k2 := k2.ch x15.ch (by omega)
            replace k3 := k3.ch x15.ch (by omega)
            replace k4 := k4.ch x15.ch (by omega)
            replace k6 := x15.blk
            replace G := G.wr x15 (by first | exact .inr f6 | omega | (simp; omega)) nb6
            replace hF := G.fz
            replace U := U.st x15 f6
            refine ⟨.inl rfl, ?_⟩
            replace k6 : Blk w15 b6 (bL (([255] ++ be 20 a ++ be 32 x) ++ List.replicate 32 0 ++ [])).toArray := (Blk.putB (Q := be 32 x) k6 hl21.symm (by rw [length_be]; rfl)).reL (by simp only [List.append_assoc, List.append_nil])
            have hl53 : ([255] ++ be 20 a ++ be 32 x).length = 53 := by rw [List.length_append, hl21, length_be]
            refine p_nil ?_
            refine hK12 _ _ ?_
            refine fg3 2 6 7 (gS rfl (gS rfl (gS rfl (gS rfl (gS rfl (gS rfl (gS rfl (gS rfl g0)))))))) (gS rfl (gS rfl (gS rfl (gS rfl (gS rfl (gS rfl g0)))))) (gS rfl (gS rfl (gS rfl (gS rfl (gS rfl g0))))) (fun g => ?_)
            refine c_seq (fun K16 hK16 => ?_)
            exact (by
              refine c_draw Up 5 [(0, true), (1, true), (2, true), (3, false), (4, true), (5, false)] (by kernel_rfl) (fun w17 hu => ⟨Up.refl _, ?_⟩)
              replace G := G.tr (Go.ofUp hF hu)
              replace hF := hF.up hu
              replace k2 := k2.up hu
              replace k3 := k3.up hu
              replace k4 := k4.up hu
              replace k6 := k6.up hu
              replace U := U.tr hu
              have SU := Up.refl w17
              refine p_step (by exact rfl) (y_slA110 Hvaa.underlying428 sz_5 (et g0 rfl) rfl rfl ?_ ?_ ?_ ?_ ?_) ?_
              decide
              decide
              decide
              decide
              decide
              refine p_step (by exact rfl) (y_s2a Hvaa.underlying27 (et g0 rfl) ?_) ?_
              decide
              refine p_step (by exact rfl) (y_moveV (et (gS rfl (gS rfl (gS rfl (gS rfl g0)))) rfl)) ?_
              refine p_eff (by exact rfl) (e_callV cal_166 (aC (et g0 rfl) aN) (m_kec hF hB)) (fun v18 w18 h18 => ?_)
              obtain ⟨rfl, u18⟩ := h18
              replace G := G.tr (Go.ofUp hF u18)
              replace hF := hF.up u18
              replace k2 := k2.up u18
              replace k3 := k3.up u18
              replace k4 := k4.up u18
              replace k6 := k6.up u18
              replace U := U.tr u18
              refine ⟨.inr (SU.tr u18), ?_⟩
              replace SU := SU.tr u18
              refine p_step (by exact rfl) (y_nil (et (gS rfl (gS rfl g0)) rfl)) ?_
              refine p_effN (by exact rfl) (e_store sz_27 (et g0 rfl) (cellsV (et (gS rfl g0) rfl) rfl) (by rw [length_bL, length_be]) (by exact one_bL _) k6 (by (rw [size_bL, List.length_append, List.length_append, hl53]; decide))) (fun v19 w19 h19 => ?_)
              obtain ⟨rfl, x19⟩ := h19
              replace k2 := k2.ch x19.ch (by omega)
              replace k3 := k3.ch x19.ch (by omega)
              replace k4 := k4.ch x19.ch (by omega)
              replace k6 := x19.blk
              replace G := G.wr x19 (by first | exact .inr f6 | omega | (simp; omega)) nb6
              replace hF := G.fz
              replace U := U.st x19 f6
              refine ⟨.inl rfl, ?_⟩
              replace k6 : Blk w19 b6 (bL (([255] ++ be 20 a ++ be 32 x ++ be 32 (kecN l)) ++ [])).toArray := (Blk.putB (Q := be 32 (kecN l)) k6 hl53.symm (by rw [length_be]; rfl)).reL (by simp only [List.append_nil])
              refine p_nil ?_
              refine hK16 _ _ ?_
              refine fg2 6 7 (gS rfl (gS rfl (gS rfl (gS rfl (gS rfl (gS rfl g0)))))) (gS rfl (gS rfl (gS rfl (gS rfl (gS rfl g0))))) (fun g => ?_)
              refine c_seq (fun K20 hK20 => ?_)
              exact (by
                refine c_region ?_
                refine l_step (y_slA000 Hvaa.underlying428 sz_5 (et g0 rfl) ) ?_
                refine l_eff (e_callV cal_166 (aC (et g0 rfl) aN) (m_kecB k6 (Dig.app (Dig.app (Dig.app (Dig.one (by decide)) (be_lt _ _)) (be_lt _ _)) (be_lt _ _)) (by rw [List.length_append, hl53, length_be]) (by rw [List.length_append, hl53, length_be]; decide) (by decide))) (fun v21 w21 h21 => ?_)
                obtain ⟨rfl, u21⟩ := h21
                replace G := G.tr (Go.ofUp hF u21)
                replace hF := hF.up u21
                replace k2 := k2.up u21
                replace k3 := k3.up u21
                replace k4 := k4.up u21
                replace k6 := k6.up u21
                replace U := U.tr u21
                refine l_eff (e_alloc zr_27) (fun v22 w22 h22 => ?_)
                obtain ⟨b22, rfl, n22⟩ := h22
                have d2_22 : b2 < b22 := Nat.lt_of_lt_of_le k2.lt n22.fresh
                have d3_22 : b3 < b22 := Nat.lt_of_lt_of_le k3.lt n22.fresh
                have d4_22 : b4 < b22 := Nat.lt_of_lt_of_le k4.lt n22.fresh
                have d6_22 : b6 < b22 := Nat.lt_of_lt_of_le k6.lt n22.fresh
                have f22 : w.heap.size ≤ b22 := Nat.le_trans U.size n22.fresh
                have nb22 := hF.nb n22.fresh
                replace G := G.tr (Go.ofUp hF n22.up)
                replace hF := hF.up n22.up
                replace k2 := k2.up n22.up
                replace k3 := k3.up n22.up
                replace k4 := k4.up n22.up
                replace k6 := k6.up n22.up
                replace U := U.tr n22.up
                have k22 := n22.blk
                obtain ⟨zs22, hz22, k22⟩ : ∃ cs : Array Value, cs.size = 32 ∧ Blk w22 b22 cs := ⟨_, rfl, k22⟩
                refine l_effN (e_store sz_27 (et g0 rfl) (cellsV (et (gS rfl g0) rfl) rfl) (by rw [length_bL, length_be]) (by exact one_bL _) k22 (by (rw [hz22]; exact Nat.le_refl _))) (fun v23 w23 h23 => ?_)
                obtain ⟨rfl, x23⟩ := h23
                replace k2 := k2.ch x23.ch (by omega)
                replace k3 := k3.ch x23.ch (by omega)
                replace k4 := k4.ch x23.ch (by omega)
                replace k6 := k6.ch x23.ch (by omega)
                replace k22 := x23.blk.full (by rw [length_bL, length_be, hz22])
                replace G := G.wr x23 (by first | exact .inr f22 | omega | (simp; omega)) nb22
                replace hF := G.fz
                replace U := U.st x23 f22
                refine l_nil ?_
                refine hK20 _ _ ?_
                refine fg2 6 8 (gS rfl (gS rfl (gS rfl (gS rfl g0)))) g0 (fun g => ?_)
                refine c_seq (fun K24 hK24 => ?_)
                exact (by
                  refine c_region ?_
                  refine l_step (y_slA110 Hvaa.underlying27 sz_5 (et g0 rfl) rfl rfl ?_ ?_ ?_ ?_ ?_) ?_
                  decide
                  decide
                  decide
                  decide
                  decide
                  refine l_step (y_s2a Hvaa.underlying25 (et g0 rfl) ?_) ?_
                  decide
                  refine l_step (y_loadR agg_25 sz_25 (et g0 rfl) (by rw [length_bL, length_be]) (at1R (addr_mid k22))) ?_
                  refine l_effN (e_store sz_25 (et (gS rfl (gS rfl (gS rfl (gS rfl g0)))) rfl) (cellsV (et g0 rfl) rfl) (by rw [length_bL, length_be]) (by exact one_bL _) k4 (by exact Nat.le_of_ble_eq_true rfl)) (fun v25 w25 h25 => ?_)
                  obtain ⟨rfl, x25⟩ := h25
                  replace k2 := k2.ch x25.ch (by omega)
                  replace k3 := k3.ch x25.ch (by omega)
                  replace k6 := k6.ch x25.ch (by omega)
                  replace k22 := k22.ch x25.ch (by omega)
                  replace k4 := x25.blk.full (by rw [length_bL, length_be]; rfl)
                  replace G := G.wr x25 (by first | exact .inr f4 | omega | (simp; omega)) nb4
                  replace hF := G.fz
                  replace U := U.st x25 f4
                  refine l_nil ?_
                  refine hK24 _ _ ?_
                  refine fg1 6 (gS rfl (gS rfl (gS rfl (gS rfl g0)))) (fun g => ?_)
                  refine c_ret ?_
                  repeat with_reducible refine then_ret ?_
                  refine ret1 rfl (res_blk agg_25 sz_25 (et g0 rfl) (by rw [List.size_toArray, length_bL, length_be]) k4) ?_
                  exact ⟨rfl, U⟩))))))))
end Go.Proofs.YgvaawGreat
