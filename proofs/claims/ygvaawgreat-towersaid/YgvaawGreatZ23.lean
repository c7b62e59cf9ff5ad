import Derived.Test.YgvaawGreatZ22
set_option maxRecDepth 100000
set_option maxHeartbeats 4000000
set_option linter.unusedSimpArgs false
set_option linter.unusedVariables false
namespace Go.Proofs.YgvaawGreat
open Go
theorem cut_zero {l : List Nat} {x : Nat} (h : ¬ x < l.length) : (bL (List.replicate 32 0)).toArray = (bL (cutN l x 32)).toArray := by rw [cut_none 32 h]
theorem hv_cut {l : List Nat} (hd : Dig 256 l) (x : Nat) : (bL (cutN l x 32)).toArray = (bL (be 32 (ofBE (cutN l x 32)))).toArray := by
  have h := be_ofBE (cutN l x 32) (dig_cut hd x 32)
  rw [len_cut] at h
  rw [h]
theorem srcN_lt (x : Nat) : srcN x < 18446744073709551616 := by unfold srcN; omega
theorem cut_src {l : List Nat} (hl : l.length ≤ 717280) (x y : Nat) : cutN l (srcN x) y = cutN l x y := by
  by_cases h : x ≤ 18446744073709551615
  · rw [show srcN x = x by unfold srcN; omega]
  · rw [cut_none _ (by unfold srcN; omega), cut_none _ (by omega)]
theorem m_word32 {w : World} (s0 x9 : Nat) (hx9 : x9 < 18446744073709551616) {a : Option Addr} {c : Nat} {l : List Nat} (hW : WV s0 w (.slice a l.length c) l) (hs0 : s0 ≤ w.heap.size) (hl : l.length ≤ 717280) :
    Ret 296 [.slice a l.length c, .int .u64 (x9 : Nat)] w (fun v w' => v = wV (ofBE (cutN l x9 32)) ∧ Up w w') := by
  obtain ⟨_, _, e9, hcl9, hcm9⟩ := hW.val
  cases e9
  refine enter (n := 18) Hvaa.func296 rfl rfl (Nat.le_of_ble_eq_true rfl) ?_
  have U := Up.refl w
  refine c_seq (fun K1 hK1 => ?_)
  exact (by
    refine c_region ?_
    refine l_eff (e_alloc zr_65) (fun v2 w2 h2 => ?_)
    obtain ⟨b2, rfl, n2⟩ := h2
    have f2 : w.heap.size ≤ b2 := Nat.le_trans U.size n2.fresh
    replace hW := hW.up n2.up
    replace U := U.tr n2.up
    have k2 := n2.blk
    obtain ⟨zs2, hz2, k2⟩ : ∃ cs : Array Value, cs.size = 4 ∧ Blk w2 b2 cs := ⟨_, rfl, k2⟩
    refine l_nil ?_
    refine hK1 _ _ ?_
    refine c_seq (fun K3 hK3 => ?_)
    exact (by
      refine c_region ?_
      refine l_eff (e_alloc zr_27) (fun v4 w4 h4 => ?_)
      obtain ⟨b4, rfl, n4⟩ := h4
      have d2_4 : b2 < b4 := Nat.lt_of_lt_of_le k2.lt n4.fresh
      have f4 : w.heap.size ≤ b4 := Nat.le_trans U.size n4.fresh
      replace k2 := k2.up n4.up
      replace hW := hW.up n4.up
      replace U := U.tr n4.up
      have k4 := n4.blk
      replace k4 : Blk w4 b4 (bL (List.replicate 32 0)).toArray := k4
      refine l_nil ?_
      refine hK3 _ _ ?_
      refine c_seq (fun K5 hK5 => ?_)
      refine c_seq (fun K6 hK6 => ?_)
      exact (by
        refine c_region ?_
        refine l_step (y_moveV (et (gS rfl (gS rfl (gS rfl g0))) rfl)) ?_
        refine l_step (y_moveV (et (gS rfl (gS rfl (gS rfl g0))) rfl)) ?_
        refine l_step (y_len Hvaa.underlying38 (et g0 rfl)) ?_
        refine l_step (y_conv Hvaa.underlying3 Hvaa.underlying26 (et g0 rfl) (wrapU_id uk64 ?_)) ?_
        omega
        refine l_step (y_lss (et (gS rfl (gS rfl (gS rfl g0))) rfl) (et g0 rfl)) ?_
        refine l_nil ?_
        refine hK6 _ _ ?_
        refine fg5 1 0 4 5 10 (gS rfl (gS rfl (gS rfl (gS rfl (gS rfl (gS rfl (gS rfl (gS rfl g0)))))))) (gS rfl (gS rfl (gS rfl (gS rfl (gS rfl (gS rfl (gS rfl g0))))))) (gS rfl (gS rfl (gS rfl (gS rfl (gS rfl (gS rfl g0)))))) (gS rfl (gS rfl (gS rfl (gS rfl (gS rfl g0))))) g0 (fun g => ?_)
        refine c_cond (et g0 rfl) (fun cB1 => ?_) (fun cB1 => ?_)
        · skip
          
          have hlt9 : x9 < l.length := by have := of_decide_eq_true cB1; omega
          obtain ⟨b0, o0, rfl, hb0, hr0⟩ := hW.at (by omega)
          exact (by
            refine c_draw Up 4 [(0, true), (1, true), (2, true), (3, true), (4, false)] (by kernel_rfl) (fun w8 hu => ⟨Up.refl _, ?_⟩)
            replace k2 := k2.up hu
            replace k4 := k4.up hu
            replace hW := hW.up hu
            replace U := U.tr hu
            have SU := Up.refl w8
            refine p_step (by exact rfl) (y_slA000 Hvaa.underlying27 sz_5 (et (gS rfl g0) rfl) ) ?_
            refine p_step (by exact rfl) (y_moveV (et (gS rfl (gS rfl (gS rfl (gS rfl g0)))) rfl)) ?_
            refine p_step (by exact rfl) (y_moveV (et (gS rfl (gS rfl (gS rfl (gS rfl (gS rfl (gS rfl g0)))))) rfl)) ?_
            refine p_step (by exact rfl) (y_slS100n Hvaa.underlying38 sz_5 (et (gS rfl g0) rfl) (et g0 rfl) ?_ ?_) ?_
            omega
            omega
            have hW2 := WV.drop0 hW (k := x9) (by omega)
            refine p_eff (by exact rfl) (e_copyW Hvaa.underlying38 (et (gS rfl (gS rfl (gS rfl g0))) rfl) (et g0 rfl) hW2 k4 (by simp only [List.size_toArray, length_bL, List.length_replicate, List.length_drop]; omega)) (fun v9 w9 h9 => ?_)
            obtain ⟨rfl, x9⟩ := h9
            replace k2 := k2.ch x9.ch (by omega)
            replace hW := hW.ch x9.ch (by first | omega | (intro q hq; omega))
            replace k4 := x9.blk
            replace U := U.cc x9.ch (by intro b hb; first | exact hb ▸ f4 | omega)
            refine ⟨.inl rfl, ?_⟩
            rw [cut_spl] at k4
            refine p_nil ?_
            refine hK5 _ _ ?_
            refine fg2 4 5 (gS rfl (gS rfl (gS rfl (gS rfl (gS rfl (gS rfl (gS rfl g0))))))) (gS rfl (gS rfl (gS rfl (gS rfl (gS rfl (gS rfl g0)))))) (fun g => ?_)
            refine c_seq (fun K10 hK10 => ?_)
            exact (by
              refine c_region ?_
              rw [hv_cut hW.dig] at k4
              refine l_step (y_loadB agg_27 sz_27 (et g0 rfl) (by rw [List.size_toArray, length_bL, length_be]) (at1B k4)) ?_
              refine l_eff (e_callV cal_83 (aC (et g0 rfl) aN) (fromBytes_spec _ _)) (fun v11 w11 h11 => ?_)
              obtain ⟨rfl, u11⟩ := h11
              replace k2 := k2.up u11
              replace k4 := k4.up u11
              replace hW := hW.up u11
              replace U := U.tr u11
              refine l_effN (e_store sz_65 (et (gS rfl (gS rfl (gS rfl g0))) rfl) (cellsV (et g0 rfl) rfl) rfl (by exact one_uL _) k2 (by (first | (rw [hz2]; exact Nat.le_refl _) | (rw [List.size_toArray, wL_len]; exact Nat.le_refl _)))) (fun v12 w12 h12 => ?_)
              obtain ⟨rfl, x12⟩ := h12
              replace k4 := k4.ch x12.ch (by omega)
              replace hW := hW.ch x12.ch (by first | omega | (first | omega | (intro q hq; omega)))
              replace k2 := x12.blk.full (by first | (rw [hz2]; rfl) | (rw [List.size_toArray, wL_len, wL_len]))
              replace U := U.st x12 f2
              refine l_nil ?_
              refine hK10 _ _ ?_
              refine fg1 4 (gS rfl (gS rfl (gS rfl g0))) (fun g => ?_)
              refine c_ret ?_
              repeat with_reducible refine then_ret ?_
              refine ret1 rfl (res_blk agg_65 sz_65 (et g0 rfl) rfl k2) ?_
              exact ⟨rfl, U⟩))
        · skip
          
          have hlt9 : ¬ x9 < l.length := by have := of_decide_eq_false cB1; omega
          rw [cut_zero hlt9] at k4
          refine c_skip ?_
          refine hK5 _ _ ?_
          refine fg2 4 5 (gS rfl (gS rfl g0)) (gS rfl g0) (fun g => ?_)
          refine c_seq (fun K13 hK13 => ?_)
          exact (by
            refine c_region ?_
            rw [hv_cut hW.dig] at k4
            refine l_step (y_loadB agg_27 sz_27 (et g0 rfl) (by rw [List.size_toArray, length_bL, length_be]) (at1B k4)) ?_
            refine l_eff (e_callV cal_83 (aC (et g0 rfl) aN) (fromBytes_spec _ _)) (fun v14 w14 h14 => ?_)
            obtain ⟨rfl, u14⟩ := h14
            replace k2 := k2.up u14
            replace k4 := k4.up u14
            replace hW := hW.up u14
            replace U := U.tr u14
            refine l_effN (e_store sz_65 (et (gS rfl (gS rfl (gS rfl g0))) rfl) (cellsV (et g0 rfl) rfl) rfl (by exact one_uL _) k2 (by (first | (rw [hz2]; exact Nat.le_refl _) | (rw [List.size_toArray, wL_len]; exact Nat.le_refl _)))) (fun v15 w15 h15 => ?_)
            obtain ⟨rfl, x15⟩ := h15
            replace k4 := k4.ch x15.ch (by omega)
            replace hW := hW.ch x15.ch (by first | omega | (first | omega | (intro q hq; omega)))
            replace k2 := x15.blk.full (by first | (rw [hz2]; rfl) | (rw [List.size_toArray, wL_len, wL_len]))
            replace U := U.st x15 f2
            refine l_nil ?_
            refine hK13 _ _ ?_
            refine fg1 4 (gS rfl (gS rfl (gS rfl g0))) (fun g => ?_)
            refine c_ret ?_
            repeat with_reducible refine then_ret ?_
            refine ret1 rfl (res_blk agg_65 sz_65 (et g0 rfl) rfl k2) ?_
            exact ⟨rfl, U⟩))))
theorem m_opSur53 {w : World} {H : Store} {col : Nat → Nat} {bc : Nat} {cs : Array Value} {V : EV} {s : YSt} {sn : List Nat} {sv : List AW} {ms : List (List Nat)} {c : Nat} {low : List YF} {f : YF} (hE : EX w H col bc cs V s sn sv ms c) (hs : s.frames = low ++ [f]) (hp : s.phase = 1) (hq : opcN f = 53) (hpc9 : f.pc < 512) (htk9 : 1 ≤ f.stack.length) :
    Ret 194 [.pointer (some ⟨bc, 0, none⟩)] w (fun v w' => v = .tuple #[] ∧ ∃ cs', XT w H col w' H col bc cs' V { s with frames := low ++ [ansN f 1 (ofBE (cutN f.input (argN f.stack 0) 32))] } sn sv ms c) := by
  obtain ⟨n9, hn9, hR⟩ := hE.topF hs
  have hB := hE.fbT hs
  have h6 := hE.six hs
  have htop := hE.cTop hs
  have hphs := hE.cPh hp
  have hbp := hB.pc
  have hbs := hB.stk
  have hbg := hB.gas
  have hbc9 := hB.code
  have hnw := hE.vl.new
  have hfz := hE.vl.fz
  have hcC := hE.vl.colC
  have hbc0 := hE.vl.kC.lt
  have hX := XT.refl hE
  obtain ⟨ca9, cc9, ia9, ic9, hr5, hcode, hinp⟩ := hR.r5
  have hbi9 := hB.input
  have hx8 : ofBE (cutN f.input (srcN (argN f.stack 0)) 32) < W256 := by have h9 := ofBE_lt _ (dig_cut hB.idig (srcN (argN f.stack 0)) 32); rw [len_cut] at h9; exact h9
  refine enter (n := 122) Hvaa.func194 rfl rfl (Nat.le_of_ble_eq_true rfl) ?_
  have U : Ch (fun _ => True) w w := Ch.refl _ w
  refine c_seq (fun K1 hK1 => ?_)
  exact (by
    refine c_region ?_
    refine l_step (y_moveV (et g0 rfl)) ?_
    refine l_eff (e_callV cal_183 (aC (et g0 rfl) aN) (m_running hX.ex hs hp)) (fun v2 w2 h2 => ?_)
    obtain ⟨rfl, u2⟩ := h2
    replace hX := hX.up u2
    replace U := U.tr u2
    refine l_step (y_assignV (et g0 rfl)) ?_
    refine l_nil ?_
    refine hK1 _ _ ?_
    refine fg2 0 2 (gS rfl (gS rfl (gS rfl g0))) g0 (fun g => ?_)
    refine c_seq (fun K3 hK3 => ?_)
    refine c_seq (fun K4 hK4 => ?_)
    exact (by
      refine c_region ?_
      refine l_step (y_moveV (et g0 rfl)) ?_
      refine l_step (y_eqlNil Hvaa.underlying276 (et g0 rfl) rfl) ?_
      refine l_nil ?_
      refine hK4 _ _ ?_
      refine fg3 0 2 8 (gS rfl (gS rfl (gS rfl g0))) (gS rfl (gS rfl g0)) g0 (fun g => ?_)
      refine c_false (et g0 rfl) rfl ?_
      refine c_skip ?_
      refine hK3 _ _ ?_
      refine fg2 0 2 (gS rfl (gS rfl g0)) (gS rfl g0) (fun g => ?_)
      refine c_seq (fun K6 hK6 => ?_)
      exact (by
        refine c_region ?_
        refine l_step (y_bld bN bld65_z) ?_
        refine l_eff (e_alloc zr_65) (fun v7 w7 h7 => ?_)
        obtain ⟨b7, rfl, n7⟩ := h7
        have f7 : w.heap.size ≤ b7 := Nat.le_trans U.size n7.fresh
        replace hX := hX.up n7.up
        replace U := U.tr n7.up
        have k7 := n7.blk
        obtain ⟨zs7, hz7, k7⟩ : ∃ cs : Array Value, cs.size = 4 ∧ Blk w7 b7 cs := ⟨_, rfl, k7⟩
        have nc7 : col b7 = 0 := hnw _ f7
        refine l_effN (e_store sz_65 (et g0 rfl) (cellsV (et (gS rfl g0) rfl) rfl) rfl (by exact one_uL _) k7 (by (first | (rw [hz7]; exact Nat.le_refl _) | (rw [List.size_toArray, wL_len]; exact Nat.le_refl _)))) (fun v8 w8 h8 => ?_)
        obtain ⟨rfl, x8⟩ := h8
        replace hX := hX.ch x8.ch (by first | omega | (intro b hb; first | (subst hb; first | exact ⟨by omega, fun hh => by have := hfz.lt hh; omega, by omega⟩ | exact ⟨by omega, by assumption, by omega⟩) | (rcases hb with hb | hb <;> (subst hb; first | exact ⟨by omega, fun hh => by have := hfz.lt hh; omega, by omega⟩ | exact ⟨by omega, by assumption, by omega⟩))))
        replace k7 := x8.blk.full (by first | (rw [hz7]; rfl) | (rw [List.size_toArray, wL_len, wL_len]))
        replace U := U.st x8 (.inr f7)
        refine l_nil ?_
        refine hK6 _ _ ?_
        refine fg3 0 2 3 (gS rfl (gS rfl (gS rfl g0))) (gS rfl (gS rfl g0)) g0 (fun g => ?_)
        refine c_seq (fun K9 hK9 => ?_)
        exact (by
          refine c_region ?_
          refine l_step y_assignC ?_
          refine l_nil ?_
          refine hK9 _ _ ?_
          refine c_seq (fun K10 hK10 => ?_)
          refine c_seq (fun K11 hK11 => ?_)
          exact (by
            refine c_region ?_
            refine l_step (y_moveV (et (gS rfl (gS rfl (gS rfl g0))) rfl)) ?_
            refine l_eff (e_callV cal_108 (aC (et g0 rfl) aN) (m_opcode hX.ex hs hp)) (fun v12 w12 h12 => ?_)
            obtain ⟨rfl, u12⟩ := h12
            replace k7 := k7.up u12
            replace hX := hX.up u12
            replace U := U.tr u12
            refine l_nil ?_
            refine hK11 _ _ ?_
            refine fg5 0 2 3 4 11 (gS rfl (gS rfl (gS rfl (gS rfl (gS rfl g0))))) (gS rfl (gS rfl (gS rfl (gS rfl g0)))) (gS rfl (gS rfl (gS rfl g0))) (gS rfl (gS rfl g0)) g0 (fun g => ?_)
            refine c_block (fun Q13 hQ13 => ?_)
            refine c_seq (fun K14 hK14 => ?_)
            exact (by
              refine c_region ?_
              refine l_step (y_eql (et g0 rfl) rfl) ?_
              refine l_step (y_assignV (et g0 rfl)) ?_
              refine l_nil ?_
              refine hK14 _ _ ?_
              refine fg6 0 2 3 4 11 12 (gS rfl (gS rfl (gS rfl (gS rfl (gS rfl (gS rfl g0)))))) (gS rfl (gS rfl (gS rfl (gS rfl (gS rfl g0))))) (gS rfl (gS rfl (gS rfl (gS rfl g0)))) (gS rfl (gS rfl (gS rfl g0))) (gS rfl (gS rfl g0)) g0 (fun g => ?_)
              refine c_false (et g0 rfl) (by (exact decide_eq_false (by omega))) ?_
              refine c_seq (fun K16 hK16 => ?_)
              exact (by
                refine c_region ?_
                refine l_step (y_eql (et (gS rfl g0) rfl) rfl) ?_
                refine l_step (y_assignV (et g0 rfl)) ?_
                refine l_nil ?_
                refine hK16 _ _ ?_
                refine fg6 0 2 3 4 11 19 (gS rfl (gS rfl (gS rfl (gS rfl (gS rfl (gS rfl (gS rfl g0))))))) (gS rfl (gS rfl (gS rfl (gS rfl (gS rfl (gS rfl g0)))))) (gS rfl (gS rfl (gS rfl (gS rfl (gS rfl g0))))) (gS rfl (gS rfl (gS rfl (gS rfl g0)))) (gS rfl (gS rfl (gS rfl g0))) g0 (fun g => ?_)
                refine c_false (et g0 rfl) (by (exact decide_eq_false (by omega))) ?_
                refine c_seq (fun K18 hK18 => ?_)
                exact (by
                  refine c_region ?_
                  refine l_step (y_eql (et (gS rfl g0) rfl) rfl) ?_
                  refine l_step (y_assignV (et g0 rfl)) ?_
                  refine l_nil ?_
                  refine hK18 _ _ ?_
                  refine fg6 0 2 3 4 11 26 (gS rfl (gS rfl (gS rfl (gS rfl (gS rfl (gS rfl (gS rfl g0))))))) (gS rfl (gS rfl (gS rfl (gS rfl (gS rfl (gS rfl g0)))))) (gS rfl (gS rfl (gS rfl (gS rfl (gS rfl g0))))) (gS rfl (gS rfl (gS rfl (gS rfl g0)))) (gS rfl (gS rfl (gS rfl g0))) g0 (fun g => ?_)
                  refine c_false (et g0 rfl) (by (exact decide_eq_false (by omega))) ?_
                  refine c_seq (fun K20 hK20 => ?_)
                  exact (by
                    refine c_region ?_
                    refine l_step (y_eql (et (gS rfl g0) rfl) rfl) ?_
                    refine l_step (y_assignV (et g0 rfl)) ?_
                    refine l_nil ?_
                    refine hK20 _ _ ?_
                    refine fg6 0 2 3 4 11 33 (gS rfl (gS rfl (gS rfl (gS rfl (gS rfl (gS rfl (gS rfl g0))))))) (gS rfl (gS rfl (gS rfl (gS rfl (gS rfl (gS rfl g0)))))) (gS rfl (gS rfl (gS rfl (gS rfl (gS rfl g0))))) (gS rfl (gS rfl (gS rfl (gS rfl g0)))) (gS rfl (gS rfl (gS rfl g0))) g0 (fun g => ?_)
                    refine c_false (et g0 rfl) (by (exact decide_eq_false (by omega))) ?_
                    refine c_seq (fun K22 hK22 => ?_)
                    exact (by
                      refine c_region ?_
                      refine l_step (y_eql (et (gS rfl g0) rfl) rfl) ?_
                      refine l_step (y_assignV (et g0 rfl)) ?_
                      refine l_nil ?_
                      refine hK22 _ _ ?_
                      refine fg6 0 2 3 4 11 39 (gS rfl (gS rfl (gS rfl (gS rfl (gS rfl (gS rfl (gS rfl g0))))))) (gS rfl (gS rfl (gS rfl (gS rfl (gS rfl (gS rfl g0)))))) (gS rfl (gS rfl (gS rfl (gS rfl (gS rfl g0))))) (gS rfl (gS rfl (gS rfl (gS rfl g0)))) (gS rfl (gS rfl (gS rfl g0))) g0 (fun g => ?_)
                      refine c_true (et g0 rfl) (by (exact decide_eq_true (by omega))) ?_
                      refine c_seq (fun K24 hK24 => ?_)
                      exact (by
                        refine c_draw Up 9 [(0, true), (1, true), (2, true), (3, true), (4, true), (5, true), (6, false), (7, false), (8, false), (9, false)] (by kernel_rfl) (fun w25 hu => ⟨Up.refl _, ?_⟩)
                        replace k7 := k7.up hu
                        replace hX := hX.up hu
                        replace U := U.tr hu
                        have SU := Up.refl w25
                        refine p_step (by exact rfl) (y_moveV (et (gS rfl (gS rfl (gS rfl (gS rfl g0)))) rfl)) ?_
                        refine p_step (by exact rfl) (y_nil (et g0 rfl)) ?_
                        refine p_step (by exact rfl) (y_fld fld_71_13 (et g0 rfl)) ?_
                        refine p_step (by exact rfl) (y_load1 one_38 (et g0 rfl) (atS (hX.ex.vl.c1 (hr5 1 _ rfl) (by omega)))) ?_
                        refine p_step (by exact rfl) (y_moveV (et (gS rfl (gS rfl (gS rfl (gS rfl (gS rfl (gS rfl (gS rfl (gS rfl (gS rfl g0))))))))) rfl)) ?_
                        refine p_step (by exact rfl) (y_moveV (et (gS rfl (gS rfl (gS rfl (gS rfl (gS rfl (gS rfl (gS rfl (gS rfl (gS rfl g0))))))))) rfl)) ?_
                        refine p_eff (by exact rfl) (e_callV cal_264 (aC (et (gS rfl g0) rfl) (aC (et g0 rfl) (aC (v := .int .i64 ((0 : Nat) : Int)) rfl aN))) (m_arg hX.ex hs hp (by first | exact hpf | rfl) _ (by decide))) (fun v26 w26 h26 => ?_)
                        obtain ⟨rfl, u26⟩ := h26
                        replace k7 := k7.up u26
                        replace hX := hX.up u26
                        replace U := U.tr u26
                        refine ⟨.inr (SU.tr u26), ?_⟩
                        replace SU := SU.tr u26
                        refine p_eff (by exact rfl) (e_callV cal_297 (aC (et g0 rfl) aN) (mach_source _ _ (argN_lt hB _))) (fun v27 w27 h27 => ?_)
                        obtain ⟨rfl, u27⟩ := h27
                        replace k7 := k7.up u27
                        replace hX := hX.up u27
                        replace U := U.tr u27
                        refine ⟨.inr (SU.tr u27), ?_⟩
                        replace SU := SU.tr u27
                        refine p_eff (by exact rfl) (e_callV cal_296 (aC (et (gS rfl (gS rfl (gS rfl (gS rfl g0)))) rfl) (aC (et g0 rfl) aN)) (m_word32 _ _ (srcN_lt _) (hinp.wv hX.ex.vl.fz) (Nat.le_refl _) (by omega))) (fun v28 w28 h28 => ?_)
                        obtain ⟨rfl, u28⟩ := h28
                        replace k7 := k7.up u28
                        replace hX := hX.up u28
                        replace U := U.tr u28
                        refine ⟨.inr (SU.tr u28), ?_⟩
                        replace SU := SU.tr u28
                        exact (by
                          refine p_effN (by exact rfl) (e_store sz_65 (et (gS rfl (gS rfl (gS rfl (gS rfl (gS rfl (gS rfl (gS rfl (gS rfl (gS rfl (gS rfl (gS rfl (gS rfl g0)))))))))))) rfl) (cellsV (et g0 rfl) rfl) rfl (by exact one_uL _) k7 (by (first | (rw [hz7]; exact Nat.le_refl _) | (rw [List.size_toArray, wL_len]; exact Nat.le_refl _)))) (fun v29 w29 h29 => ?_)
                          obtain ⟨rfl, x29⟩ := h29
                          replace hX := hX.ch x29.ch (by first | omega | (intro b hb; first | (subst hb; first | exact ⟨by omega, fun hh => by have := hfz.lt hh; omega, by omega⟩ | exact ⟨by omega, by assumption, by omega⟩) | (rcases hb with hb | hb <;> (subst hb; first | exact ⟨by omega, fun hh => by have := hfz.lt hh; omega, by omega⟩ | exact ⟨by omega, by assumption, by omega⟩))))
                          replace k7 := x29.blk.full (by first | (rw [hz7]; rfl) | (rw [List.size_toArray, wL_len, wL_len]))
                          replace U := U.st x29 (.inr f7)
                          refine ⟨.inl rfl, ?_⟩
                          refine p_nil ?_
                          refine hK24 _ _ ?_
                          refine fg3 0 2 3 (gS rfl (gS rfl (gS rfl (gS rfl (gS rfl (gS rfl (gS rfl (gS rfl (gS rfl (gS rfl (gS rfl (gS rfl (gS rfl (gS rfl g0)))))))))))))) (gS rfl (gS rfl (gS rfl (gS rfl (gS rfl (gS rfl (gS rfl (gS rfl (gS rfl (gS rfl (gS rfl (gS rfl (gS rfl g0))))))))))))) (gS rfl (gS rfl (gS rfl (gS rfl (gS rfl (gS rfl (gS rfl (gS rfl (gS rfl (gS rfl (gS rfl (gS rfl g0)))))))))))) (fun g => ?_)
                          refine c_region ?_
                          refine l_step y_assignC ?_
                          refine l_nil ?_
                          refine hQ13 _ _ _ (in_normal ?_)
                          refine hK10 _ _ ?_
                          refine c_region ?_
                          refine l_step (y_moveV (et (gS rfl (gS rfl (gS rfl g0))) rfl)) ?_
                          refine l_step (y_moveV (et (gS rfl (gS rfl (gS rfl g0))) rfl)) ?_
                          refine l_step (y_moveV (et (gS rfl (gS rfl g0)) rfl)) ?_
                          refine l_step (y_loadB agg_65 sz_65 (et (gS rfl (gS rfl (gS rfl (gS rfl g0)))) rfl) rfl (at1B k7)) ?_
                          refine l_eff (e_callV cal_259 (aC (et (gS rfl (gS rfl (gS rfl g0))) rfl) (aC (et (gS rfl (gS rfl g0)) rfl) (aC (et (gS rfl g0) rfl) (aC rfl (aC (et g0 rfl) (aC (v := .int .u16 ((1 : Nat) : Int)) rfl aN)))))) (m_settle1 hX.ex hs hp rfl 1 _ 1 (by omega) hx8 (by omega) (by omega))) (fun v30 w30 h30 => ?_)
                          obtain ⟨rfl, cs30, y30⟩ := h30
                          replace k7 := k7.ch y30.et.go.ch (by intro hm; (have e0 := hm); omega)
                          replace hX := hX.trans y30
                          replace U := U.cc y30.et.go.ch (by intro b hb; exact .inl trivial)
                          refine l_nil ?_
                          refine end0 rfl ?_
                          rw [set_ans, cut_src hbi9] at hX
                          exact ⟨rfl, _, hX⟩))))))))))))
end Go.Proofs.YgvaawGreat
