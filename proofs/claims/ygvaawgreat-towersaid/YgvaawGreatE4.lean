import Derived.Test.YgvaawGreatE3
import Derived.Test.YgvaawGreatEB
set_option maxRecDepth 100000
set_option maxHeartbeats 4000000
set_option linter.unusedSimpArgs false
set_option linter.unusedVariables false
namespace Go.Proofs.YgvaawGreat
open Go
theorem Lay.slots0 {V V1 : EV} {na nt : Nat} (h : Lay V V1 na 0 nt) : V1.slots = V.slots := by
  obtain ⟨l, h1, _⟩ := h.ext.s
  have h2 := h.ns
  rw [h1, List.length_append] at h2
  rw [h1, List.eq_nil_of_length_eq_zero (l := l) (by omega), List.append_nil]
theorem Lay.temps0 {V V1 : EV} {na ns : Nat} (h : Lay V V1 na ns 0) : V1.temps = V.temps := by
  obtain ⟨l, h1, _⟩ := h.ext.t
  have h2 := h.nt
  rw [h1, List.length_append] at h2
  rw [h1, List.eq_nil_of_length_eq_zero (l := l) (by omega), List.append_nil]
theorem v_acct {w : World} {H : Store} {col : Nat → Nat} {bc : Nat} {cs : Array Value} {V : EV} (hV : VL w H col bc cs V) (ho : VOk V) (a : Nat) (ha : a < A160) (na : Nat) (hr : (hasA V a ∧ na = 0) ∨ (V.accts.length < 2560 ∧ na = 1)) :
    Ret 82 [.pointer (some ⟨bc, 2435, none⟩), aV a] w (fun v w' => ∃ (i : Nat) (x : EAcct) (col' : Nat → Nat) (cs' : Array Value) (V1 : EV), v = .tuple #[.int .i32 (i : Nat), .bool true] ∧ VT w H col bc cs w' H col' cs' V1 ∧ Lay V V1 na 0 0 ∧ V1.accts[i]? = some x ∧ x.addr = a ∧ V1.tm = V.tm) := by
  have hT := VT.refl hV
  have hnw := hV.new
  have hcC := hV.colC
  have hml := ho.bd.marks
  refine enter (n := 51) Hvaa.func82 rfl rfl (Nat.le_of_ble_eq_true rfl) ?_
  have U : Ch (fun _ => True) w w := Ch.refl _ w
  refine c_seq (fun K1 hK1 => ?_)
  exact (by
    refine c_region ?_
    refine l_eff (e_boxV (et (gS rfl g0) rfl)) (fun v2 w2 h2 => ?_)
    obtain ⟨b2, rfl, n2⟩ := h2
    have f2 : w.heap.size ≤ b2 := Nat.le_trans U.size n2.fresh
    replace hT := hT.up n2.up
    replace U := U.tr n2.up
    have k2 := n2.blk
    replace k2 : Blk w2 b2 (bL (be 20 a)).toArray := k2
    have nc2 : col b2 = 0 := hnw _ f2
    refine l_step y_assignC ?_
    refine l_step y_assignC ?_
    refine l_nil ?_
    refine hK1 _ _ ?_
    refine fg2 0 3 (gS rfl (gS rfl (gS rfl g0))) (gS rfl (gS rfl g0)) (fun g => ?_)
    refine c_seq (fun K3 hK3 => ?_)
    exact (by
      refine c_region ?_
      refine l_step (y_moveV (et (gS rfl g0) rfl)) ?_
      refine l_step (y_loadB agg_25 sz_25 (et (gS rfl g0) rfl) (by rw [List.size_toArray, length_bL, length_be]) (at1B k2)) ?_
      refine l_eff (e_callV cal_159 (aC (et (gS rfl g0) rfl) (aC (et g0 rfl) aN)) (v_findAcct hT.vl ho a ha)) (fun v4 w4 h4 => ?_)
      obtain ⟨i4, f4, rfl, hfd, u4⟩ := h4
      replace k2 := k2.up u4
      replace hT := hT.up u4
      replace U := U.tr u4
      refine l_step (y_moveV (et g0 rfl)) ?_
      refine l_step (y_ext (et g0 rfl) rfl) ?_
      refine l_step (y_ext (et (gS rfl g0) rfl) rfl) ?_
      refine l_step (y_assignV (et (gS rfl g0) rfl)) ?_
      refine l_step (y_assignV (et (gS rfl g0) rfl)) ?_
      refine l_nil ?_
      refine hK3 _ _ ?_
      refine fg4 0 3 6 7 (gS rfl (gS rfl (gS rfl (gS rfl (gS rfl (gS rfl (gS rfl (gS rfl (gS rfl g0))))))))) (gS rfl (gS rfl (gS rfl (gS rfl (gS rfl (gS rfl (gS rfl (gS rfl g0)))))))) (gS rfl g0) g0 (fun g => ?_)
      refine c_seq (fun K5 hK5 => ?_)
      refine c_seq (fun K6 hK6 => ?_)
      exact (by
        refine c_region ?_
        refine l_step (y_moveV (et (gS rfl g0) rfl)) ?_
        refine l_step (y_geq (et g0 rfl) rfl) ?_
        refine l_nil ?_
        refine hK6 _ _ ?_
        refine fg5 0 3 6 7 15 (gS rfl (gS rfl (gS rfl (gS rfl (gS rfl g0))))) (gS rfl (gS rfl (gS rfl (gS rfl g0)))) (gS rfl (gS rfl (gS rfl g0))) (gS rfl (gS rfl g0)) g0 (fun g => ?_)
        refine c_cond (et g0 rfl) (fun cB1 => ?_) (fun cB1 => ?_)
        · skip
          
          obtain ⟨k9, ⟨x9, hx9, hxa⟩, hk9, rfl, rfl⟩ := hfd.pos (by have := of_decide_eq_true cB1; omega)
          refine c_seq (fun K8 hK8 => ?_)
          exact (by
            refine c_region ?_
            refine l_step (y_moveV (et (gS rfl (gS rfl g0)) rfl)) ?_
            refine l_step (y_assignV (et g0 rfl)) ?_
            refine l_step y_assignC ?_
            refine l_nil ?_
            refine hK8 _ _ ?_
            refine fg2 4 5 (gS rfl g0) g0 (fun g => ?_)
            refine c_ret ?_
            repeat with_reducible refine then_ret ?_
            refine ret2 rfl (res_tmp (et (gS rfl g0) rfl)) (res_tmp (et g0 rfl)) ?_
            exact ⟨k9, x9, _, _, V, rfl, hT, ⟨ho, Ext.refl V, rfl, rfl, by omega, by omega, by omega⟩, hx9, hxa, rfl⟩)
        · skip
          
          obtain ⟨hno, rfl, p9, rfl, hfr⟩ := hfd.neg (by have := of_decide_eq_false cB1; omega)
          have hna := mA_no hno
          obtain ⟨hrm, rfl⟩ : V.accts.length < 2560 ∧ na = 1 := hr.resolve_left (fun h9 => hna h9.1)
          obtain ⟨la9, lc9, hlA⟩ := hV.lenA
          refine c_skip ?_
          refine hK5 _ _ ?_
          refine fg3 0 3 7 (gS rfl (gS rfl (gS rfl (gS rfl g0)))) (gS rfl (gS rfl (gS rfl g0))) (gS rfl g0) (fun g => ?_)
          refine c_seq (fun K9 hK9 => ?_)
          refine c_seq (fun K10 hK10 => ?_)
          exact (by
            refine c_region ?_
            refine l_step (y_moveV (et g0 rfl)) ?_
            refine l_step (y_lss (et g0 rfl) rfl) ?_
            refine l_step (y_moveV (et g0 rfl)) ?_
            refine gsplitL (i := 19) g0 (fun q11 => ?_) (fun q11 => ?_)
            · skip
              exact absurd (of_decide_eq_true q11) (by omega)
            · skip
              refine l_gstep (j := 2) (t := 19) (by exact rfl) (by exact rfl) (et g0 rfl) (by decide) (y_moveV (et (gS rfl (gS rfl (gS rfl (gS rfl (gS rfl (gS rfl g0)))))) rfl)) ?_
              refine l_gstep (j := 2) (t := 19) (by exact rfl) (by exact rfl) (et (gS rfl g0) rfl) (by decide) (y_nil (et g0 rfl)) ?_
              refine l_gstep (j := 2) (t := 19) (by exact rfl) (by exact rfl) (et (gS rfl (gS rfl g0)) rfl) (by decide) (y_fld fld_84_0 (et g0 rfl)) ?_
              refine l_gstep (j := 2) (t := 19) (by exact rfl) (by exact rfl) (et (gS rfl (gS rfl (gS rfl g0))) rfl) (by decide) (y_load1 one_76 (et g0 rfl) (at1 (hT.vl.c1 hlA rfl))) ?_
              refine l_gstep (j := 2) (t := 19) (by exact rfl) (by exact rfl) (et (gS rfl (gS rfl (gS rfl (gS rfl g0)))) rfl) (by decide) (y_len Hvaa.underlying76 (et g0 rfl)) ?_
              refine l_gstep (j := 2) (t := 19) (by exact rfl) (by exact rfl) (et (gS rfl (gS rfl (gS rfl (gS rfl (gS rfl g0))))) rfl) (by decide) (y_geq (et g0 rfl) rfl) ?_
              refine l_step (y_pickF (et (gS rfl (gS rfl (gS rfl (gS rfl (gS rfl (gS rfl g0)))))) rfl) (et g0 rfl)) ?_
              refine l_nil ?_
              refine hK10 _ _ ?_
              refine fg4 0 3 7 26 (gS rfl (gS rfl (gS rfl (gS rfl (gS rfl (gS rfl (gS rfl (gS rfl (gS rfl (gS rfl (gS rfl (gS rfl (gS rfl g0))))))))))))) (gS rfl (gS rfl (gS rfl (gS rfl (gS rfl (gS rfl (gS rfl (gS rfl (gS rfl (gS rfl (gS rfl (gS rfl g0)))))))))))) (gS rfl (gS rfl (gS rfl (gS rfl (gS rfl (gS rfl (gS rfl (gS rfl (gS rfl (gS rfl (gS rfl g0))))))))))) g0 (fun g => ?_)
              refine c_cond (et g0 rfl) (fun cB2 => ?_) (fun cB2 => ?_)
              · skip
                
                exact absurd (of_decide_eq_true cB2) (by omega)
              · skip
                
                refine c_skip ?_
                refine hK9 _ _ ?_
                refine fg3 0 3 7 (gS rfl (gS rfl (gS rfl g0))) (gS rfl (gS rfl g0)) (gS rfl g0) (fun g => ?_)
                refine c_seq (fun K13 hK13 => ?_)
                exact (by
                  refine c_region ?_
                  refine l_step (y_moveV (et (gS rfl (gS rfl g0)) rfl)) ?_
                  refine l_step (y_nil (et g0 rfl)) ?_
                  refine l_step (y_fld fld_84_0 (et g0 rfl)) ?_
                  refine l_step (y_load1 one_76 (et g0 rfl) (at1 (hT.vl.c1 hlA rfl))) ?_
                  refine l_step (y_len Hvaa.underlying76 (et g0 rfl)) ?_
                  refine l_step (y_conv Hvaa.underlying3 Hvaa.underlying21 (et g0 rfl) (wrap_i32 ?_ ?_)) ?_
                  omega
                  omega
                  refine l_step (y_assignV (et g0 rfl)) ?_
                  refine l_nil ?_
                  refine hK13 _ _ ?_
                  refine fg4 0 3 7 6 (gS rfl (gS rfl (gS rfl (gS rfl (gS rfl (gS rfl (gS rfl (gS rfl (gS rfl g0))))))))) (gS rfl (gS rfl (gS rfl (gS rfl (gS rfl (gS rfl (gS rfl (gS rfl g0)))))))) (gS rfl (gS rfl (gS rfl (gS rfl (gS rfl (gS rfl (gS rfl g0))))))) g0 (fun g => ?_)
                  refine c_seq (fun K14 hK14 => ?_)
                  exact (by
                    refine c_draw (Ch (fun k => col k = 2)) 11 [(0, true), (1, true), (2, true), (3, true), (4, true), (5, true), (6, true), (7, false), (8, false), (9, true), (10, true), (11, false)] (by kernel_rfl) (fun w15 hu => ⟨Ch.refl _ _, ?_⟩)
                    replace k2 := k2.up hu
                    replace hT := hT.up hu
                    replace U := U.tr hu
                    have SU : (Ch (fun k => col k = 2)) w15 w15 := Ch.refl _ _
                    refine p_step (by exact rfl) (y_moveV (et (gS rfl (gS rfl (gS rfl g0))) rfl)) ?_
                    refine p_step (by exact rfl) (y_moveV (et (gS rfl (gS rfl (gS rfl (gS rfl g0)))) rfl)) ?_
                    refine p_step (by exact rfl) (y_nil (et g0 rfl)) ?_
                    refine p_step (by exact rfl) (y_fld fld_84_0 (et g0 rfl)) ?_
                    refine p_step (by exact rfl) (y_load1 one_76 (et g0 rfl) (atC (hT.vl.c1 hlA rfl) (by intro hm; omega))) ?_
                    refine p_step (by exact rfl) (y_loadB agg_25 sz_25 (et (gS rfl (gS rfl (gS rfl (gS rfl (gS rfl (gS rfl (gS rfl g0))))))) rfl) (by rw [List.size_toArray, length_bL, length_be]) (atCB k2 (by intro hm; omega))) ?_
                    refine p_step (by exact rfl) (y_bldEA (et g0 rfl)) ?_
                    refine p_eff (by exact rfl) (e_slice1 (k := 28) Hvaa.underlying76 sz_167 zr_167 rfl (by decide) (et g0 rfl) (show (eaC (blankA a) (.slice none 0 0)).toArray.size = 29 by rw [List.size_toArray, eaC_len _ _])) (fun v16 w16 h16 => ?_)
                    obtain ⟨bb16, rfl, nn16⟩ := h16
                    replace k2 := k2.up nn16.up
                    replace hT := hT.up nn16.up
                    replace U := U.tr nn16.up
                    have kk16 : Blk w16 bb16 (eaC (blankA a) (.slice none 0 0)).toArray := nn16.blk
                    refine ⟨.inr (SU.tr nn16.up), ?_⟩
                    replace SU := SU.tr nn16.up
                    have lt2 := k2.lt
                    refine p_eff (by exact rfl) (e_appT (y := blankA a) (news := eaC (blankA a) (.slice none 0 0)) Hvaa.underlying76 sz_167 zr_167 by_167 rfl (by decide) (et (gS rfl (gS rfl (gS rfl g0))) rfl) hT hT.vl.acc hlA (by decide) (by decide) (et g0 rfl) kk16 (eaC_len _ _) one_eaC ⟨_, rfl, BV.nil _, ⟨ha, show 0 < 18446744073709551616 by decide, show 0 < W256 by decide, show 0 ≤ 512 by decide⟩⟩ (by decide) (by omega)) (fun v17 w17 h17 => ?_)
                    obtain ⟨hm17, ch17⟩ := h17
                    replace k2 := k2.ch ch17 (by intro hm; first | omega | (subst hm; omega))
                    replace hT := hm17
                    replace U := U.cc ch17 (by intro b hb; exact .inl trivial)
                    replace SU := SU.cc ch17 (by intro b hb; first | exact .inl hb | exact hb.elim | omega | (have h9 := hOo.lim b hb.symm; first | exact .inl (by omega) | omega))
                    obtain ⟨pa17, pc17, rfl⟩ := hm17.pd.len
                    refine ⟨.inr SU, ?_⟩
                    refine p_step (by exact rfl) (y_nil (et (gS rfl (gS rfl (gS rfl (gS rfl (gS rfl (gS rfl (gS rfl (gS rfl g0)))))))) rfl)) ?_
                    refine p_step (by exact rfl) (y_fld fld_84_0 (et g0 rfl)) ?_
                    exact (by
                      refine p_effN (by exact rfl) (e_store sz_76 (et g0 rfl) (cellsV (et (gS rfl (gS rfl g0)) rfl) rfl) rfl (by intro v hv; simp at hv; subst hv; rfl) hT.m.kC (by rw [hT.m.size]; exact Nat.le_of_ble_eq_true rfl)) (fun v18 w18 h18 => ?_)
                      obtain ⟨rfl, x18⟩ := h18
                      obtain ⟨col1, hv18, hq18⟩ := hT.layA hml x18
                      replace k2 := k2.ch x18.ch (by intro hm; first | omega | (subst hm; omega))
                      replace hT := hv18
                      replace U := U.cc x18.ch (by intro b hb; exact .inl trivial)
                      replace nc2 := (hq18 b2 lt2).trans nc2
                      replace hcC := hT.vl.colC
                      refine ⟨.inl rfl, ?_⟩
                      refine p_nil ?_
                      refine hK14 _ _ ?_
                      refine fg3 0 7 6 (gS rfl (gS rfl (gS rfl (gS rfl (gS rfl (gS rfl (gS rfl (gS rfl (gS rfl (gS rfl (gS rfl (gS rfl (gS rfl (gS rfl g0)))))))))))))) (gS rfl (gS rfl (gS rfl (gS rfl (gS rfl (gS rfl (gS rfl (gS rfl (gS rfl (gS rfl (gS rfl (gS rfl g0)))))))))))) (gS rfl (gS rfl (gS rfl (gS rfl (gS rfl (gS rfl (gS rfl (gS rfl (gS rfl (gS rfl (gS rfl g0))))))))))) (fun g => ?_)
                      refine c_seq (fun K19 hK19 => ?_)
                      exact (by
                        refine c_region ?_
                        refine l_step (y_moveV (et (gS rfl (gS rfl g0)) rfl)) ?_
                        refine l_step (y_moveV (et (gS rfl (gS rfl g0)) rfl)) ?_
                        refine l_step (y_moveV (et (gS rfl (gS rfl g0)) rfl)) ?_
                        refine l_step (y_nil (et (gS rfl (gS rfl g0)) rfl)) ?_
                        refine l_step (y_fld fld_84_2 (et g0 rfl)) ?_
                        refine l_step (y_idxA Hvaa.underlying78 sz_21 (et g0 rfl) (et (gS rfl (gS rfl (gS rfl g0))) rfl) ?_ ?_) ?_
                        have := hfr.lt; omega
                        have := hfr.lt; omega
                        refine l_effN (e_store sz_21 (et g0 rfl) (cellsV (et (gS rfl (gS rfl (gS rfl g0))) rfl) rfl) rfl (by intro v hv; simp at hv; subst hv; rfl) hT.vl.kC (by rw [hT.vl.size]; have := hfr.lt; omega)) (fun v20 w20 h20 => ?_)
                        obtain ⟨rfl, x20⟩ := h20
                        have hv20 := hT.stA hml hfr.lt (by omega) x20
                        replace k2 := k2.ch x20.ch (by intro hm; first | omega | (subst hm; omega))
                        replace hT := hv20
                        replace U := U.cc x20.ch (by intro b hb; exact .inl trivial)
                        refine l_nil ?_
                        refine hK19 _ _ ?_
                        refine fg1 6 (gS rfl (gS rfl (gS rfl (gS rfl (gS rfl (gS rfl g0)))))) (fun g => ?_)
                        refine c_seq (fun K21 hK21 => ?_)
                        exact (by
                          refine c_region ?_
                          refine l_step (y_moveV (et g0 rfl)) ?_
                          refine l_step (y_assignV (et g0 rfl)) ?_
                          refine l_step y_assignC ?_
                          refine l_nil ?_
                          refine hK21 _ _ ?_
                          refine fg2 4 5 (gS rfl g0) g0 (fun g => ?_)
                          refine c_ret ?_
                          repeat with_reducible refine then_ret ?_
                          refine ret2 rfl (res_tmp (et (gS rfl g0) rfl)) (res_tmp (et g0 rfl)) ?_
                          exact ⟨V.accts.length, blankA a, _, _, _, rfl, hT, ⟨VOk.layA ho hna hrm hfr, Ext.layA V a _, rfl, rfl, by show (V.accts ++ [blankA a]).length ≤ _; simp, by simp, by simp⟩, by simp, rfl, rfl⟩)))))))))
theorem v_slot {w : World} {H : Store} {col : Nat → Nat} {bc : Nat} {cs : Array Value} {V : EV} (hV : VL w H col bc cs V) (ho : VOk V) (q k : Nat) (hq0 : q < V.accts.length) (hk : k < W256) (ns : Nat) (hr : ((q, k) ∈ sKs V.slots ∧ ns = 0) ∨ (V.slots.length < 2560 ∧ ns = 1)) :
    Ret 84 [.pointer (some ⟨bc, 2435, none⟩), .int .i32 (q : Nat), wV k] w (fun v w' => ∃ (i : Nat) (x : ESlot) (col' : Nat → Nat) (cs' : Array Value) (V1 : EV), v = .tuple #[.int .i32 (i : Nat), .bool true] ∧ VT w H col bc cs w' H col' cs' V1 ∧ Lay V V1 0 ns 0 ∧ V1.slots[i]? = some x ∧ x.acct = q ∧ x.key = k) := by
  have hT := VT.refl hV
  have hnw := hV.new
  have hcC := hV.colC
  have hml := ho.bd.marks
  have hb9 := ho.bd.accts
  refine enter (n := 55) Hvaa.func84 rfl rfl (Nat.le_of_ble_eq_true rfl) ?_
  have U : Ch (fun _ => True) w w := Ch.refl _ w
  refine c_seq (fun K1 hK1 => ?_)
  exact (by
    refine c_region ?_
    refine l_eff (e_boxV (et (gS rfl (gS rfl g0)) rfl)) (fun v2 w2 h2 => ?_)
    obtain ⟨b2, rfl, n2⟩ := h2
    have f2 : w.heap.size ≤ b2 := Nat.le_trans U.size n2.fresh
    replace hT := hT.up n2.up
    replace U := U.tr n2.up
    have k2 := n2.blk
    have nc2 : col b2 = 0 := hnw _ f2
    refine l_step y_assignC ?_
    refine l_step y_assignC ?_
    refine l_nil ?_
    refine hK1 _ _ ?_
    refine fg3 1 0 5 (gS rfl (gS rfl (gS rfl (gS rfl g0)))) (gS rfl (gS rfl (gS rfl g0))) (gS rfl (gS rfl g0)) (fun g => ?_)
    refine c_seq (fun K3 hK3 => ?_)
    exact (by
      refine c_region ?_
      refine l_step (y_moveV (et (gS rfl g0) rfl)) ?_
      refine l_step (y_moveV (et (gS rfl (gS rfl (gS rfl g0))) rfl)) ?_
      refine l_step (y_loadB agg_65 sz_65 (et (gS rfl (gS rfl g0)) rfl) (by first | (simp only [Value.cells, hV, aV, bV, wV, wL, List.size_toArray, length_bL, length_uL, length_be, size_spl, List.length_cons, List.length_nil, List.length_replicate, Nat.zero_add, Nat.reduceAdd, Nat.reduceLeDiff, Nat.le_refl]; done) | rfl) (at1B k2)) ?_
      refine l_eff (e_callV cal_160 (aC (et (gS rfl (gS rfl g0)) rfl) (aC (et (gS rfl g0) rfl) (aC (et g0 rfl) aN))) (v_findSlot hT.vl ho q k (by omega) hk)) (fun v4 w4 h4 => ?_)
      obtain ⟨i4, f4, rfl, hfd, u4⟩ := h4
      replace k2 := k2.up u4
      replace hT := hT.up u4
      replace U := U.tr u4
      refine l_step (y_moveV (et g0 rfl)) ?_
      refine l_step (y_ext (et g0 rfl) rfl) ?_
      refine l_step (y_ext (et (gS rfl g0) rfl) rfl) ?_
      refine l_step (y_assignV (et (gS rfl g0) rfl)) ?_
      refine l_step (y_assignV (et (gS rfl g0) rfl)) ?_
      refine l_nil ?_
      refine hK3 _ _ ?_
      refine fg5 1 0 5 8 9 (gS rfl (gS rfl (gS rfl (gS rfl (gS rfl (gS rfl (gS rfl (gS rfl (gS rfl (gS rfl (gS rfl g0))))))))))) (gS rfl (gS rfl (gS rfl (gS rfl (gS rfl (gS rfl (gS rfl (gS rfl (gS rfl (gS rfl g0)))))))))) (gS rfl (gS rfl (gS rfl (gS rfl (gS rfl (gS rfl (gS rfl (gS rfl (gS rfl g0))))))))) (gS rfl g0) g0 (fun g => ?_)
      refine c_seq (fun K5 hK5 => ?_)
      refine c_seq (fun K6 hK6 => ?_)
      exact (by
        refine c_region ?_
        refine l_step (y_moveV (et (gS rfl g0) rfl)) ?_
        refine l_step (y_geq (et g0 rfl) rfl) ?_
        refine l_nil ?_
        refine hK6 _ _ ?_
        refine fg6 1 0 5 8 9 18 (gS rfl (gS rfl (gS rfl (gS rfl (gS rfl (gS rfl g0)))))) (gS rfl (gS rfl (gS rfl (gS rfl (gS rfl g0))))) (gS rfl (gS rfl (gS rfl (gS rfl g0)))) (gS rfl (gS rfl (gS rfl g0))) (gS rfl (gS rfl g0)) g0 (fun g => ?_)
        refine c_cond (et g0 rfl) (fun cB1 => ?_) (fun cB1 => ?_)
        · skip
          
          obtain ⟨k9, ⟨x9, hx9, hxa, hxk⟩, hk9, rfl, rfl⟩ := hfd.pos (by have := of_decide_eq_true cB1; omega)
          refine c_seq (fun K8 hK8 => ?_)
          exact (by
            refine c_region ?_
            refine l_step (y_moveV (et (gS rfl (gS rfl g0)) rfl)) ?_
            refine l_step (y_assignV (et g0 rfl)) ?_
            refine l_step y_assignC ?_
            refine l_nil ?_
            refine hK8 _ _ ?_
            refine fg2 6 7 (gS rfl g0) g0 (fun g => ?_)
            refine c_ret ?_
            repeat with_reducible refine then_ret ?_
            refine ret2 rfl (res_tmp (et (gS rfl g0) rfl)) (res_tmp (et g0 rfl)) ?_
            exact ⟨k9, x9, _, _, V, rfl, hT, ⟨ho, Ext.refl V, rfl, rfl, by omega, by omega, by omega⟩, hx9, hxa, hxk⟩)
        · skip
          
          obtain ⟨hno, rfl, p9, rfl, hfr⟩ := hfd.neg (by have := of_decide_eq_false cB1; omega)
          have hna := mS_no hno
          obtain ⟨hrm, rfl⟩ : V.slots.length < 2560 ∧ ns = 1 := hr.resolve_left (fun h9 => hna h9.1)
          obtain ⟨la9, lc9, hlA⟩ := hV.lenS
          refine c_skip ?_
          refine hK5 _ _ ?_
          refine fg4 1 0 5 9 (gS rfl (gS rfl (gS rfl (gS rfl (gS rfl g0))))) (gS rfl (gS rfl (gS rfl (gS rfl g0)))) (gS rfl (gS rfl (gS rfl g0))) (gS rfl g0) (fun g => ?_)
          refine c_seq (fun K9 hK9 => ?_)
          refine c_seq (fun K10 hK10 => ?_)
          exact (by
            refine c_region ?_
            refine l_step (y_moveV (et g0 rfl)) ?_
            refine l_step (y_lss (et g0 rfl) rfl) ?_
            refine l_step (y_moveV (et g0 rfl)) ?_
            refine gsplitL (i := 22) g0 (fun q11 => ?_) (fun q11 => ?_)
            · skip
              exact absurd (of_decide_eq_true q11) (by omega)
            · skip
              refine l_gstep (j := 2) (t := 22) (by exact rfl) (by exact rfl) (et g0 rfl) (by decide) (y_moveV (et (gS rfl (gS rfl (gS rfl (gS rfl (gS rfl (gS rfl g0)))))) rfl)) ?_
              refine l_gstep (j := 2) (t := 22) (by exact rfl) (by exact rfl) (et (gS rfl g0) rfl) (by decide) (y_nil (et g0 rfl)) ?_
              refine l_gstep (j := 2) (t := 22) (by exact rfl) (by exact rfl) (et (gS rfl (gS rfl g0)) rfl) (by decide) (y_fld fld_84_1 (et g0 rfl)) ?_
              refine l_gstep (j := 2) (t := 22) (by exact rfl) (by exact rfl) (et (gS rfl (gS rfl (gS rfl g0))) rfl) (by decide) (y_load1 one_77 (et g0 rfl) (at1 (hT.vl.c1 hlA rfl))) ?_
              refine l_gstep (j := 2) (t := 22) (by exact rfl) (by exact rfl) (et (gS rfl (gS rfl (gS rfl (gS rfl g0)))) rfl) (by decide) (y_len Hvaa.underlying77 (et g0 rfl)) ?_
              refine l_gstep (j := 2) (t := 22) (by exact rfl) (by exact rfl) (et (gS rfl (gS rfl (gS rfl (gS rfl (gS rfl g0))))) rfl) (by decide) (y_geq (et g0 rfl) rfl) ?_
              refine l_step (y_pickF (et (gS rfl (gS rfl (gS rfl (gS rfl (gS rfl (gS rfl g0)))))) rfl) (et g0 rfl)) ?_
              refine l_nil ?_
              refine hK10 _ _ ?_
              refine fg5 1 0 5 9 29 (gS rfl (gS rfl (gS rfl (gS rfl (gS rfl (gS rfl (gS rfl (gS rfl (gS rfl (gS rfl (gS rfl (gS rfl (gS rfl (gS rfl g0)))))))))))))) (gS rfl (gS rfl (gS rfl (gS rfl (gS rfl (gS rfl (gS rfl (gS rfl (gS rfl (gS rfl (gS rfl (gS rfl (gS rfl g0))))))))))))) (gS rfl (gS rfl (gS rfl (gS rfl (gS rfl (gS rfl (gS rfl (gS rfl (gS rfl (gS rfl (gS rfl (gS rfl g0)))))))))))) (gS rfl (gS rfl (gS rfl (gS rfl (gS rfl (gS rfl (gS rfl (gS rfl (gS rfl (gS rfl (gS rfl g0))))))))))) g0 (fun g => ?_)
              refine c_cond (et g0 rfl) (fun cB2 => ?_) (fun cB2 => ?_)
              · skip
                
                exact absurd (of_decide_eq_true cB2) (by omega)
              · skip
                
                refine c_skip ?_
                refine hK9 _ _ ?_
                refine fg4 1 0 5 9 (gS rfl (gS rfl (gS rfl (gS rfl g0)))) (gS rfl (gS rfl (gS rfl g0))) (gS rfl (gS rfl g0)) (gS rfl g0) (fun g => ?_)
                refine c_seq (fun K13 hK13 => ?_)
                exact (by
                  refine c_region ?_
                  refine l_step (y_moveV (et (gS rfl (gS rfl g0)) rfl)) ?_
                  refine l_step (y_nil (et g0 rfl)) ?_
                  refine l_step (y_fld fld_84_1 (et g0 rfl)) ?_
                  refine l_step (y_load1 one_77 (et g0 rfl) (at1 (hT.vl.c1 hlA rfl))) ?_
                  refine l_step (y_len Hvaa.underlying77 (et g0 rfl)) ?_
                  refine l_step (y_conv Hvaa.underlying3 Hvaa.underlying21 (et g0 rfl) (wrap_i32 ?_ ?_)) ?_
                  omega
                  omega
                  refine l_step (y_assignV (et g0 rfl)) ?_
                  refine l_nil ?_
                  refine hK13 _ _ ?_
                  refine fg5 1 0 5 9 8 (gS rfl (gS rfl (gS rfl (gS rfl (gS rfl (gS rfl (gS rfl (gS rfl (gS rfl (gS rfl g0)))))))))) (gS rfl (gS rfl (gS rfl (gS rfl (gS rfl (gS rfl (gS rfl (gS rfl (gS rfl g0))))))))) (gS rfl (gS rfl (gS rfl (gS rfl (gS rfl (gS rfl (gS rfl (gS rfl g0)))))))) (gS rfl (gS rfl (gS rfl (gS rfl (gS rfl (gS rfl (gS rfl g0))))))) g0 (fun g => ?_)
                  refine c_seq (fun K14 hK14 => ?_)
                  exact (by
                    refine c_draw (Ch (fun k => col k = 3)) 12 [(0, true), (1, true), (2, true), (3, true), (4, true), (5, true), (6, true), (7, true), (8, false), (9, false), (10, true), (11, true), (12, false)] (by kernel_rfl) (fun w15 hu => ⟨Ch.refl _ _, ?_⟩)
                    replace k2 := k2.up hu
                    replace hT := hT.up hu
                    replace U := U.tr hu
                    have SU : (Ch (fun k => col k = 3)) w15 w15 := Ch.refl _ _
                    refine p_step (by exact rfl) (y_moveV (et (gS rfl (gS rfl (gS rfl g0))) rfl)) ?_
                    refine p_step (by exact rfl) (y_moveV (et (gS rfl (gS rfl (gS rfl (gS rfl g0)))) rfl)) ?_
                    refine p_step (by exact rfl) (y_nil (et g0 rfl)) ?_
                    refine p_step (by exact rfl) (y_fld fld_84_1 (et g0 rfl)) ?_
                    refine p_step (by exact rfl) (y_load1 one_77 (et g0 rfl) (atC (hT.vl.c1 hlA rfl) (by intro hm; omega))) ?_
                    refine p_step (by exact rfl) (y_moveV (et (gS rfl (gS rfl (gS rfl (gS rfl (gS rfl (gS rfl (gS rfl (gS rfl (gS rfl g0))))))))) rfl)) ?_
                    refine p_step (by exact rfl) (y_loadB agg_65 sz_65 (et (gS rfl (gS rfl (gS rfl (gS rfl (gS rfl (gS rfl (gS rfl (gS rfl g0)))))))) rfl) (by first | (simp only [Value.cells, hV, aV, bV, wV, wL, List.size_toArray, length_bL, length_uL, length_be, size_spl, List.length_cons, List.length_nil, List.length_replicate, Nat.zero_add, Nat.reduceAdd, Nat.reduceLeDiff, Nat.le_refl]; done) | rfl) (atCB k2 (by intro hm; omega))) ?_
                    refine p_step (by exact rfl) (y_bldES (et (gS rfl g0) rfl) (et g0 rfl)) ?_
                    refine p_eff (by exact rfl) (e_slice1 (k := 13) Hvaa.underlying77 sz_176 zr_176 rfl (by decide) (et g0 rfl) (show (esC (blankS q k)).toArray.size = 14 by rw [List.size_toArray, esC_len _])) (fun v16 w16 h16 => ?_)
                    obtain ⟨bb16, rfl, nn16⟩ := h16
                    replace k2 := k2.up nn16.up
                    replace hT := hT.up nn16.up
                    replace U := U.tr nn16.up
                    have kk16 : Blk w16 bb16 (esC (blankS q k)).toArray := nn16.blk
                    refine ⟨.inr (SU.tr nn16.up), ?_⟩
                    replace SU := SU.tr nn16.up
                    have lt2 := k2.lt
                    refine p_eff (by exact rfl) (e_appT (y := blankS q k) (news := esC (blankS q k)) Hvaa.underlying77 sz_176 zr_176 by_176 rfl (by decide) (et (gS rfl (gS rfl (gS rfl (gS rfl g0)))) rfl) hT hT.vl.slo hlA (by decide) (by decide) (et g0 rfl) kk16 (esC_len _) one_esC ⟨rfl, ⟨show q < 2560 by omega, hk, show 0 < W256 by decide, show 0 < W256 by decide⟩⟩ (by decide) (by omega)) (fun v17 w17 h17 => ?_)
                    obtain ⟨hm17, ch17⟩ := h17
                    replace k2 := k2.ch ch17 (by intro hm; first | omega | (subst hm; omega))
                    replace hT := hm17
                    replace U := U.cc ch17 (by intro b hb; exact .inl trivial)
                    replace SU := SU.cc ch17 (by intro b hb; first | exact .inl hb | exact hb.elim | omega | (have h9 := hOo.lim b hb.symm; first | exact .inl (by omega) | omega))
                    obtain ⟨pa17, pc17, rfl⟩ := hm17.pd.len
                    refine ⟨.inr SU, ?_⟩
                    refine p_step (by exact rfl) (y_nil (et (gS rfl (gS rfl (gS rfl (gS rfl (gS rfl (gS rfl (gS rfl (gS rfl (gS rfl g0))))))))) rfl)) ?_
                    exact (by
                      refine p_step (by exact rfl) (y_fld fld_84_1 (et g0 rfl)) ?_
                      refine p_effN (by exact rfl) (e_store sz_77 (et g0 rfl) (cellsV (et (gS rfl (gS rfl g0)) rfl) rfl) rfl (by intro v hv; simp at hv; subst hv; rfl) hT.m.kC (by rw [hT.m.size]; exact Nat.le_of_ble_eq_true rfl)) (fun v18 w18 h18 => ?_)
                      obtain ⟨rfl, x18⟩ := h18
                      obtain ⟨col1, hv18, hq18⟩ := hT.layS hml x18
                      replace k2 := k2.ch x18.ch (by intro hm; first | omega | (subst hm; omega))
                      replace hT := hv18
                      replace U := U.cc x18.ch (by intro b hb; exact .inl trivial)
                      replace nc2 := (hq18 b2 lt2).trans nc2
                      replace hcC := hT.vl.colC
                      refine ⟨.inl rfl, ?_⟩
                      refine p_nil ?_
                      refine hK14 _ _ ?_
                      refine fg3 0 9 8 (gS rfl (gS rfl (gS rfl (gS rfl (gS rfl (gS rfl (gS rfl (gS rfl (gS rfl (gS rfl (gS rfl (gS rfl (gS rfl (gS rfl (gS rfl g0))))))))))))))) (gS rfl (gS rfl (gS rfl (gS rfl (gS rfl (gS rfl (gS rfl (gS rfl (gS rfl (gS rfl (gS rfl (gS rfl (gS rfl g0))))))))))))) (gS rfl (gS rfl (gS rfl (gS rfl (gS rfl (gS rfl (gS rfl (gS rfl (gS rfl (gS rfl (gS rfl (gS rfl g0)))))))))))) (fun g => ?_)
                      refine c_seq (fun K19 hK19 => ?_)
                      exact (by
                        refine c_region ?_
                        refine l_step (y_moveV (et (gS rfl (gS rfl g0)) rfl)) ?_
                        refine l_step (y_moveV (et (gS rfl (gS rfl g0)) rfl)) ?_
                        refine l_step (y_moveV (et (gS rfl (gS rfl g0)) rfl)) ?_
                        refine l_step (y_nil (et (gS rfl (gS rfl g0)) rfl)) ?_
                        refine l_step (y_fld fld_84_3 (et g0 rfl)) ?_
                        refine l_step (y_idxA Hvaa.underlying78 sz_21 (et g0 rfl) (et (gS rfl (gS rfl (gS rfl g0))) rfl) ?_ ?_) ?_
                        have := hfr.lt; omega
                        have := hfr.lt; omega
                        refine l_effN (e_store sz_21 (et g0 rfl) (cellsV (et (gS rfl (gS rfl (gS rfl g0))) rfl) rfl) rfl (by intro v hv; simp at hv; subst hv; rfl) hT.vl.kC (by rw [hT.vl.size]; have := hfr.lt; omega)) (fun v20 w20 h20 => ?_)
                        obtain ⟨rfl, x20⟩ := h20
                        have hv20 := hT.stS hml hfr.lt (by omega) x20
                        replace k2 := k2.ch x20.ch (by intro hm; first | omega | (subst hm; omega))
                        replace hT := hv20
                        replace U := U.cc x20.ch (by intro b hb; exact .inl trivial)
                        refine l_nil ?_
                        refine hK19 _ _ ?_
                        refine fg1 8 (gS rfl (gS rfl (gS rfl (gS rfl (gS rfl (gS rfl g0)))))) (fun g => ?_)
                        refine c_seq (fun K21 hK21 => ?_)
                        exact (by
                          refine c_region ?_
                          refine l_step (y_moveV (et g0 rfl)) ?_
                          refine l_step (y_assignV (et g0 rfl)) ?_
                          refine l_step y_assignC ?_
                          refine l_nil ?_
                          refine hK21 _ _ ?_
                          refine fg2 6 7 (gS rfl g0) g0 (fun g => ?_)
                          refine c_ret ?_
                          repeat with_reducible refine then_ret ?_
                          refine ret2 rfl (res_tmp (et (gS rfl g0) rfl)) (res_tmp (et g0 rfl)) ?_
                          exact ⟨V.slots.length, blankS q k, _, _, _, rfl, hT, ⟨VOk.layS ho hna hq0 hrm hfr, Ext.layS V q k _, rfl, rfl, by simp, by show (V.slots ++ [blankS q k]).length ≤ _; simp, by simp⟩, by simp, rfl, rfl⟩)))))))))
theorem v_slotOf {w : World} {H : Store} {col : Nat → Nat} {bc : Nat} {cs : Array Value} {V : EV} (hV : VL w H col bc cs V) (ho : VOk V) (a k : Nat) (ha : a < A160) (hk : k < W256) (na ns : Nat) (hr : (hasA V a ∧ na = 0) ∨ (V.accts.length < 2560 ∧ na = 1)) (hrs : (hasS V a k ∧ ns = 0) ∨ (V.slots.length < 2560 ∧ ns = 1)) :
    Ret 248 [.pointer (some ⟨bc, 2435, none⟩), aV a, wV k] w (fun v w' => ∃ (i : Nat) (x : ESlot) (col' : Nat → Nat) (cs' : Array Value) (V1 : EV), v = .tuple #[.int .i32 (i : Nat), .bool true] ∧ VT w H col bc cs w' H col' cs' V1 ∧ Lay V V1 na ns 0 ∧ hasA V1 a ∧ V1.slots[i]? = some x ∧ x.acct = ai V1 a ∧ x.key = k) := by
  have hT := VT.refl hV
  have hnw := hV.new
  have hcC := hV.colC
  have hml := ho.bd.marks
  refine enter (n := 41) Hvaa.func248 rfl rfl (Nat.le_of_ble_eq_true rfl) ?_
  have U : Ch (fun _ => True) w w := Ch.refl _ w
  refine c_seq (fun K1 hK1 => ?_)
  exact (by
    refine c_region ?_
    refine l_eff (e_boxV (et (gS rfl g0) rfl)) (fun v2 w2 h2 => ?_)
    obtain ⟨b2, rfl, n2⟩ := h2
    have f2 : w.heap.size ≤ b2 := Nat.le_trans U.size n2.fresh
    replace hT := hT.up n2.up
    replace U := U.tr n2.up
    have k2 := n2.blk
    replace k2 : Blk w2 b2 (bL (be 20 a)).toArray := k2
    have nc2 : col b2 = 0 := hnw _ f2
    refine l_eff (e_boxV (et (gS rfl (gS rfl (gS rfl g0))) rfl)) (fun v3 w3 h3 => ?_)
    obtain ⟨b3, rfl, n3⟩ := h3
    have d2_3 : b2 < b3 := Nat.lt_of_lt_of_le k2.lt n3.fresh
    have f3 : w.heap.size ≤ b3 := Nat.le_trans U.size n3.fresh
    replace k2 := k2.up n3.up
    replace hT := hT.up n3.up
    replace U := U.tr n3.up
    have k3 := n3.blk
    have nc3 : col b3 = 0 := hnw _ f3
    refine l_step y_assignC ?_
    refine l_step y_assignC ?_
    refine l_nil ?_
    refine hK1 _ _ ?_
    refine fg3 0 4 5 (gS rfl (gS rfl (gS rfl (gS rfl g0)))) (gS rfl (gS rfl (gS rfl g0))) (gS rfl (gS rfl g0)) (fun g => ?_)
    refine c_seq (fun K4 hK4 => ?_)
    exact (by
      refine c_region ?_
      refine l_step (y_moveV (et (gS rfl (gS rfl g0)) rfl)) ?_
      refine l_step (y_loadB agg_25 sz_25 (et (gS rfl (gS rfl g0)) rfl) (by rw [List.size_toArray, length_bL, length_be]) (at1B k2)) ?_
      refine l_eff (e_callV cal_159 (aC (et (gS rfl g0) rfl) (aC (et g0 rfl) aN)) (v_findAcct hT.vl ho a ha)) (fun v5 w5 h5 => ?_)
      obtain ⟨i5, f5, rfl, hfd, u5⟩ := h5
      replace k2 := k2.up u5
      replace k3 := k3.up u5
      replace hT := hT.up u5
      replace U := U.tr u5
      obtain ⟨ls9, lc9, hlS⟩ := hV.lenS
      refine l_step (y_moveV (et g0 rfl)) ?_
      refine l_step (y_ext (et g0 rfl) rfl) ?_
      refine l_step (y_ext (et (gS rfl g0) rfl) rfl) ?_
      refine l_step (y_assignV (et (gS rfl g0) rfl)) ?_
      refine l_step (y_assignV (et (gS rfl g0) rfl)) ?_
      refine l_nil ?_
      refine hK4 _ _ ?_
      refine fg4 0 4 5 8 (gS rfl (gS rfl (gS rfl (gS rfl (gS rfl (gS rfl (gS rfl (gS rfl (gS rfl (gS rfl g0)))))))))) (gS rfl (gS rfl (gS rfl (gS rfl (gS rfl (gS rfl (gS rfl (gS rfl (gS rfl g0))))))))) (gS rfl (gS rfl (gS rfl (gS rfl (gS rfl (gS rfl (gS rfl (gS rfl g0)))))))) (gS rfl g0) (fun g => ?_)
      refine c_seq (fun K6 hK6 => ?_)
      refine c_seq (fun K7 hK7 => ?_)
      exact (by
        refine c_region ?_
        refine l_step (y_moveV (et g0 rfl)) ?_
        refine l_step (y_lss (et g0 rfl) rfl) ?_
        refine l_step (y_moveV (et g0 rfl)) ?_
        refine gsplitL (i := 19) g0 (fun q8 => ?_) (fun q8 => ?_)
        · skip
          have hng := of_decide_eq_true q8
          refine l_gstep (j := 2) (t := 19) (by exact rfl) (by exact rfl) (et g0 rfl) (by decide) (y_moveV (et (gS rfl (gS rfl (gS rfl (gS rfl (gS rfl (gS rfl (gS rfl g0))))))) rfl)) ?_
          refine l_gstep (j := 2) (t := 19) (by exact rfl) (by exact rfl) (et (gS rfl g0) rfl) (by decide) (y_nil (et g0 rfl)) ?_
          refine l_gstep (j := 2) (t := 19) (by exact rfl) (by exact rfl) (et (gS rfl (gS rfl g0)) rfl) (by decide) (y_fld fld_84_1 (et g0 rfl)) ?_
          refine l_gstep (j := 2) (t := 19) (by exact rfl) (by exact rfl) (et (gS rfl (gS rfl (gS rfl g0))) rfl) (by decide) (y_load1 one_77 (et g0 rfl) (at1 (hT.vl.c1 hlS rfl))) ?_
          refine l_gstep (j := 2) (t := 19) (by exact rfl) (by exact rfl) (et (gS rfl (gS rfl (gS rfl (gS rfl g0)))) rfl) (by decide) (y_len Hvaa.underlying77 (et g0 rfl)) ?_
          refine l_gstep (j := 2) (t := 19) (by exact rfl) (by exact rfl) (et (gS rfl (gS rfl (gS rfl (gS rfl (gS rfl g0))))) rfl) (by decide) (y_geq (et g0 rfl) rfl) ?_
          refine l_step (y_pickT (et (gS rfl (gS rfl (gS rfl (gS rfl (gS rfl (gS rfl g0)))))) rfl) (et g0 rfl)) ?_
          refine l_nil ?_
          refine hK7 _ _ ?_
          refine fg4 0 4 5 26 (gS rfl (gS rfl (gS rfl (gS rfl (gS rfl (gS rfl (gS rfl (gS rfl (gS rfl (gS rfl (gS rfl (gS rfl (gS rfl (gS rfl g0)))))))))))))) (gS rfl (gS rfl (gS rfl (gS rfl (gS rfl (gS rfl (gS rfl (gS rfl (gS rfl (gS rfl (gS rfl (gS rfl (gS rfl g0))))))))))))) (gS rfl (gS rfl (gS rfl (gS rfl (gS rfl (gS rfl (gS rfl (gS rfl (gS rfl (gS rfl (gS rfl (gS rfl g0)))))))))))) g0 (fun g => ?_)
          refine c_cond (et g0 rfl) (fun cB1 => ?_) (fun cB1 => ?_)
          · skip
            
            obtain ⟨hno, _, _⟩ := hfd.neg (by omega)
            rcases hrs with h9 | h9
            · exact absurd h9.1.1 (mA_no hno)
            · have := of_decide_eq_true cB1; omega
          · skip
            
            refine c_skip ?_
            refine hK6 _ _ ?_
            refine fg3 0 4 5 (gS rfl (gS rfl (gS rfl g0))) (gS rfl (gS rfl g0)) (gS rfl g0) (fun g => ?_)
            refine c_seq (fun K10 hK10 => ?_)
            exact (by
              refine c_region ?_
              refine l_step (y_moveV (et (gS rfl (gS rfl g0)) rfl)) ?_
              refine l_step (y_loadB agg_25 sz_25 (et (gS rfl (gS rfl g0)) rfl) (by rw [List.size_toArray, length_bL, length_be]) (at1B k2)) ?_
              have lt2 := k2.lt
              have lt3 := k3.lt
              refine l_eff (e_callV cal_82 (aC (et (gS rfl g0) rfl) (aC (et g0 rfl) aN)) (v_acct hT.vl ho a ha na hr)) (fun v11 w11 h11 => ?_)
              obtain ⟨i11, x11, col2, cs2, V2, rfl, hT2, hL2, hx2, hxa2, htmE⟩ := h11
              replace k2 := k2.ch hT2.go.ch (by intro hm; omega)
              replace k3 := k3.ch hT2.go.ch (by intro hm; omega)
              replace hT := hT.trans hT2
              replace U := U.cc hT2.go.ch (by intro b hb; exact .inl trivial)
              have hq2 := hT2.col
              replace nc2 := (hq2 b2 lt2).trans nc2
              replace nc3 := (hq2 b3 lt3).trans nc3
              refine l_step (y_moveV (et g0 rfl)) ?_
              refine l_step (y_ext (et g0 rfl) rfl) ?_
              refine l_step (y_ext (et (gS rfl g0) rfl) rfl) ?_
              refine l_step (y_assignV (et (gS rfl g0) rfl)) ?_
              refine l_step (y_assignV (et (gS rfl g0) rfl)) ?_
              refine l_nil ?_
              refine hK10 _ _ ?_
              refine fg4 0 5 8 10 (gS rfl (gS rfl (gS rfl (gS rfl (gS rfl (gS rfl (gS rfl (gS rfl (gS rfl (gS rfl g0)))))))))) (gS rfl (gS rfl (gS rfl (gS rfl (gS rfl (gS rfl (gS rfl (gS rfl g0)))))))) (gS rfl g0) g0 (fun g => ?_)
              refine c_seq (fun K12 hK12 => ?_)
              refine c_seq (fun K13 hK13 => ?_)
              exact (by
                refine c_region ?_
                refine l_step (y_moveV (et g0 rfl)) ?_
                refine l_step (y_not (et g0 rfl)) ?_
                refine l_nil ?_
                refine hK13 _ _ ?_
                refine fg4 0 5 8 34 (gS rfl (gS rfl (gS rfl (gS rfl (gS rfl g0))))) (gS rfl (gS rfl (gS rfl (gS rfl g0)))) (gS rfl (gS rfl (gS rfl g0))) g0 (fun g => ?_)
                refine c_false (et g0 rfl) (by rfl) ?_
                refine c_skip ?_
                refine hK12 _ _ ?_
                refine fg3 0 5 8 (gS rfl (gS rfl (gS rfl g0))) (gS rfl (gS rfl g0)) (gS rfl g0) (fun g => ?_)
                refine c_seq (fun K15 hK15 => ?_)
                exact (by
                  refine c_region ?_
                  refine l_step (y_moveV (et (gS rfl (gS rfl g0)) rfl)) ?_
                  refine l_step (y_moveV (et (gS rfl g0) rfl)) ?_
                  refine l_step (y_loadB agg_65 sz_65 (et (gS rfl (gS rfl (gS rfl g0))) rfl) (by first | (simp only [Value.cells, hV, aV, bV, wV, wL, List.size_toArray, length_bL, length_uL, length_be, size_spl, List.length_cons, List.length_nil, List.length_replicate, Nat.zero_add, Nat.reduceAdd, Nat.reduceLeDiff, Nat.le_refl]; done) | rfl) (at1B k3)) ?_
                  refine l_eff (e_callV cal_84 (aC (et (gS rfl (gS rfl g0)) rfl) (aC (et (gS rfl g0) rfl) (aC (et g0 rfl) aN))) (v_slot hT.vl hL2.ok _ k (List.getElem?_eq_some_iff.1 hx2).1 hk ns (by rw [hL2.slots0]; exact orI hrs (fun h9 => ⟨by have h8 := hL2.ext.ai h9.1.1; rw [ai_eq hL2.ok hx2 hxa2] at h8; rw [h8]; exact h9.1.2, h9.2⟩) id))) (fun v16 w16 h16 => ?_)
                  obtain ⟨i16, x16, col3, cs3, V3, rfl, hT3, hL3, hx3, hxa3, hxk3⟩ := h16
                  replace k2 := k2.ch hT3.go.ch (by intro hm; omega)
                  replace k3 := k3.ch hT3.go.ch (by intro hm; omega)
                  replace hT := hT.trans hT3
                  replace U := U.cc hT3.go.ch (by intro b hb; exact .inl trivial)
                  refine l_step (y_ext (et g0 rfl) rfl) ?_
                  refine l_step (y_ext (et (gS rfl g0) rfl) rfl) ?_
                  refine l_step (y_assignV (et (gS rfl g0) rfl)) ?_
                  refine l_step (y_assignV (et (gS rfl g0) rfl)) ?_
                  refine l_nil ?_
                  refine hK15 _ _ ?_
                  refine fg2 6 7 (gS rfl g0) g0 (fun g => ?_)
                  refine c_ret ?_
                  repeat with_reducible refine then_ret ?_
                  refine ret2 rfl (res_tmp (et (gS rfl g0) rfl)) (res_tmp (et g0 rfl)) ?_
                  have hA2 := hasA_of hx2 hxa2
                  refine ⟨_, _, _, _, _, rfl, hT, ?_, hL3.ext.hasA hA2, hx3, ?_, hxk3⟩
                  · have h9 := hL2.trans hL3
                    simpa using h9
                  · rw [hxa3, hL3.ext.ai hA2, ai_eq hL2.ok hx2 hxa2])))
        · skip
          refine l_gskip (j := 2) (t := 19) (by exact rfl) (by exact rfl) (et g0 rfl) (by decide) (by decide) ?_
          refine l_gskip (j := 2) (t := 19) (by exact rfl) (by exact rfl) (et (gS rfl g0) rfl) (by decide) (by decide) ?_
          refine l_gskip (j := 2) (t := 19) (by exact rfl) (by exact rfl) (et (gS rfl (gS rfl g0)) rfl) (by decide) (by decide) ?_
          refine l_gskip (j := 2) (t := 19) (by exact rfl) (by exact rfl) (et (gS rfl (gS rfl (gS rfl g0))) rfl) (by decide) (by decide) ?_
          refine l_gskip (j := 2) (t := 19) (by exact rfl) (by exact rfl) (et (gS rfl (gS rfl (gS rfl (gS rfl g0)))) rfl) (by decide) (by decide) ?_
          refine l_gskip (j := 2) (t := 19) (by exact rfl) (by exact rfl) (et (gS rfl (gS rfl (gS rfl (gS rfl (gS rfl g0))))) rfl) (by decide) (by decide) ?_
          refine l_step (y_pickF (et (gS rfl (gS rfl (gS rfl (gS rfl (gS rfl (gS rfl g0)))))) rfl) rfl) ?_
          refine l_nil ?_
          refine hK7 _ _ ?_
          refine fg4 0 4 5 26 (gS rfl (gS rfl (gS rfl (gS rfl (gS rfl (gS rfl (gS rfl (gS rfl (gS rfl (gS rfl (gS rfl (gS rfl (gS rfl (gS rfl g0)))))))))))))) (gS rfl (gS rfl (gS rfl (gS rfl (gS rfl (gS rfl (gS rfl (gS rfl (gS rfl (gS rfl (gS rfl (gS rfl (gS rfl g0))))))))))))) (gS rfl (gS rfl (gS rfl (gS rfl (gS rfl (gS rfl (gS rfl (gS rfl (gS rfl (gS rfl (gS rfl (gS rfl g0)))))))))))) g0 (fun g => ?_)
          refine c_false (et g0 rfl) rfl ?_
          refine c_skip ?_
          refine hK6 _ _ ?_
          refine fg3 0 4 5 (gS rfl (gS rfl (gS rfl g0))) (gS rfl (gS rfl g0)) (gS rfl g0) (fun g => ?_)
          refine c_seq (fun K18 hK18 => ?_)
          exact (by
            refine c_region ?_
            refine l_step (y_moveV (et (gS rfl (gS rfl g0)) rfl)) ?_
            refine l_step (y_loadB agg_25 sz_25 (et (gS rfl (gS rfl g0)) rfl) (by rw [List.size_toArray, length_bL, length_be]) (at1B k2)) ?_
            have lt2 := k2.lt
            have lt3 := k3.lt
            refine l_eff (e_callV cal_82 (aC (et (gS rfl g0) rfl) (aC (et g0 rfl) aN)) (v_acct hT.vl ho a ha na hr)) (fun v19 w19 h19 => ?_)
            obtain ⟨i19, x19, col2, cs2, V2, rfl, hT2, hL2, hx2, hxa2, htmE⟩ := h19
            replace k2 := k2.ch hT2.go.ch (by intro hm; omega)
            replace k3 := k3.ch hT2.go.ch (by intro hm; omega)
            replace hT := hT.trans hT2
            replace U := U.cc hT2.go.ch (by intro b hb; exact .inl trivial)
            have hq2 := hT2.col
            replace nc2 := (hq2 b2 lt2).trans nc2
            replace nc3 := (hq2 b3 lt3).trans nc3
            refine l_step (y_moveV (et g0 rfl)) ?_
            refine l_step (y_ext (et g0 rfl) rfl) ?_
            refine l_step (y_ext (et (gS rfl g0) rfl) rfl) ?_
            refine l_step (y_assignV (et (gS rfl g0) rfl)) ?_
            refine l_step (y_assignV (et (gS rfl g0) rfl)) ?_
            refine l_nil ?_
            refine hK18 _ _ ?_
            refine fg4 0 5 8 10 (gS rfl (gS rfl (gS rfl (gS rfl (gS rfl (gS rfl (gS rfl (gS rfl (gS rfl (gS rfl g0)))))))))) (gS rfl (gS rfl (gS rfl (gS rfl (gS rfl (gS rfl (gS rfl (gS rfl g0)))))))) (gS rfl g0) g0 (fun g => ?_)
            refine c_seq (fun K20 hK20 => ?_)
            refine c_seq (fun K21 hK21 => ?_)
            exact (by
              refine c_region ?_
              refine l_step (y_moveV (et g0 rfl)) ?_
              refine l_step (y_not (et g0 rfl)) ?_
              refine l_nil ?_
              refine hK21 _ _ ?_
              refine fg4 0 5 8 34 (gS rfl (gS rfl (gS rfl (gS rfl (gS rfl g0))))) (gS rfl (gS rfl (gS rfl (gS rfl g0)))) (gS rfl (gS rfl (gS rfl g0))) g0 (fun g => ?_)
              refine c_false (et g0 rfl) (by rfl) ?_
              refine c_skip ?_
              refine hK20 _ _ ?_
              refine fg3 0 5 8 (gS rfl (gS rfl (gS rfl g0))) (gS rfl (gS rfl g0)) (gS rfl g0) (fun g => ?_)
              refine c_seq (fun K23 hK23 => ?_)
              exact (by
                refine c_region ?_
                refine l_step (y_moveV (et (gS rfl (gS rfl g0)) rfl)) ?_
                refine l_step (y_moveV (et (gS rfl g0) rfl)) ?_
                refine l_step (y_loadB agg_65 sz_65 (et (gS rfl (gS rfl (gS rfl g0))) rfl) (by first | (simp only [Value.cells, hV, aV, bV, wV, wL, List.size_toArray, length_bL, length_uL, length_be, size_spl, List.length_cons, List.length_nil, List.length_replicate, Nat.zero_add, Nat.reduceAdd, Nat.reduceLeDiff, Nat.le_refl]; done) | rfl) (at1B k3)) ?_
                refine l_eff (e_callV cal_84 (aC (et (gS rfl (gS rfl g0)) rfl) (aC (et (gS rfl g0) rfl) (aC (et g0 rfl) aN))) (v_slot hT.vl hL2.ok _ k (List.getElem?_eq_some_iff.1 hx2).1 hk ns (by rw [hL2.slots0]; exact orI hrs (fun h9 => ⟨by have h8 := hL2.ext.ai h9.1.1; rw [ai_eq hL2.ok hx2 hxa2] at h8; rw [h8]; exact h9.1.2, h9.2⟩) id))) (fun v24 w24 h24 => ?_)
                obtain ⟨i24, x24, col3, cs3, V3, rfl, hT3, hL3, hx3, hxa3, hxk3⟩ := h24
                replace k2 := k2.ch hT3.go.ch (by intro hm; omega)
                replace k3 := k3.ch hT3.go.ch (by intro hm; omega)
                replace hT := hT.trans hT3
                replace U := U.cc hT3.go.ch (by intro b hb; exact .inl trivial)
                refine l_step (y_ext (et g0 rfl) rfl) ?_
                refine l_step (y_ext (et (gS rfl g0) rfl) rfl) ?_
                refine l_step (y_assignV (et (gS rfl g0) rfl)) ?_
                refine l_step (y_assignV (et (gS rfl g0) rfl)) ?_
                refine l_nil ?_
                refine hK23 _ _ ?_
                refine fg2 6 7 (gS rfl g0) g0 (fun g => ?_)
                refine c_ret ?_
                repeat with_reducible refine then_ret ?_
                refine ret2 rfl (res_tmp (et (gS rfl g0) rfl)) (res_tmp (et g0 rfl)) ?_
                have hA2 := hasA_of hx2 hxa2
                refine ⟨_, _, _, _, _, rfl, hT, ?_, hL3.ext.hasA hA2, hx3, ?_, hxk3⟩
                · have h9 := hL2.trans hL3
                  simpa using h9
                · rw [hxa3, hL3.ext.ai hA2, ai_eq hL2.ok hx2 hxa2]))))))
end Go.Proofs.YgvaawGreat
