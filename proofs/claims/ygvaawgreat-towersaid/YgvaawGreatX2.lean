import Derived.Test.YgvaawGreatX1
set_option maxRecDepth 100000
set_option maxHeartbeats 4000000
set_option linter.unusedSimpArgs false
set_option linter.unusedVariables false
namespace Go.Proofs.YgvaawGreat
open Go
def zrsN (l : List Nat) : Nat := l.countP (· == 0)
def accS (l : List (Nat × List Nat)) : Nat := 2400 * l.length + 1900 * keysN l
def intrN (T : YTx) : Nat := 21000 + 4 * zrsN T.data + 16 * (T.data.length - zrsN T.data) + accS T.access + (if T.create = true then 32000 + 2 * wordsN T.data.length else 0)
theorem zrs_take {l : List Nat} {i : Nat} (h : i < l.length) : zrsN (l.take (i + 1)) = zrsN (l.take i) + (if l[i] = 0 then 1 else 0) := by
  unfold zrsN
  rw [← List.take_append_getElem h, List.countP_append]
  simp [List.countP_cons]
theorem zrs_le (l : List Nat) : zrsN l ≤ l.length := List.countP_le_length
theorem accS_take {l : List (Nat × List Nat)} {i : Nat} (h : i < l.length) : accS (l.take (i + 1)) = accS (l.take i) + (2400 + 1900 * l[i].2.length) := by
  unfold accS
  rw [keys_take h, List.length_take, List.length_take, Nat.min_eq_left (by omega), Nat.min_eq_left (by omega)]
  omega
theorem accS_le {l : List (Nat × List Nat)} (h : lsOk l = true) (i : Nat) : accS (l.take i) ≤ 160000 := by
  simp only [lsOk, Bool.and_eq_true, decide_eq_true_eq] at h
  have h1 := keys_le l i
  unfold accS
  rw [List.length_take]
  omega
theorem yp_intrinsic {w : World} {H : Store} (hF : Fz w H) {txc : List Value} {T : YTx} (ht : TC H txc.toArray T) (hdl : T.data.length ≤ 1024) (hls : lsOk T.access = true) :
    Ret 46 [.agg txc.toArray] w (fun v w' => ∃ H', Go No w H w' H' ∧ NV H' v (intrN T) ∧ intrN T < 256 ^ 10) := by
  obtain ⟨tda, tdc, taa, tac, rT1, rT2, rT3, rT4, rT5, rT6, rT7, rT8, rT9, hTd, hTa⟩ := ht.ex
  have tok := ht.ok
  have to1 := tok.data
  have to2 := tok.access
  refine enter (n := 74) Hvaa.func46 rfl rfl (Nat.le_of_ble_eq_true rfl) ?_
  have U := Up.refl w
  have G : Go (No) w H w H := Go.refl hF
  have hL0 : Le H H := Le.refl H
  refine c_seq (fun K1 hK1 => ?_)
  exact (by
    refine c_region ?_
    refine l_eff (e_boxV (et g0 rfl)) (fun v2 w2 h2 => ?_)
    obtain ⟨b2, rfl, n2⟩ := h2
    have f2 : w.heap.size ≤ b2 := Nat.le_trans U.size n2.fresh
    have nb2 := hF.nb n2.fresh
    replace G := G.tr (Go.ofUp hF n2.up)
    replace hF := hF.up n2.up
    replace U := U.tr n2.up
    have k2 := n2.blk
    replace k2 : Blk w2 b2 txc.toArray := k2
    refine l_step y_assignC ?_
    refine l_nil ?_
    refine hK1 _ _ ?_
    refine fg1 1 (gS rfl g0) (fun g => ?_)
    refine c_seq (fun K3 hK3 => ?_)
    exact (by
      refine c_region ?_
      refine l_eff (e_callV cal_32 (aC (v := .int .u64 ((21000 : Nat) : Int)) rfl aN) (yp_num (x := 21000) hF (by decide))) (fun v4 w4 h4 => ?_)
      obtain ⟨H4, g4, n4⟩ := h4
      have hlew4 := g4.le
      replace nb2 := g4.nb nb2 k2.lt
      replace hL0 := hL0.trans hlew4
      replace k2 := k2.up g4.up
      replace U := U.tr g4.up
      replace G := G.tr g4
      replace hF := g4.fz
      have q4 : 21000 < 256 ^ 2 := by decide
      refine l_step (y_assignV (et g0 rfl)) ?_
      refine l_nil ?_
      refine hK3 _ _ ?_
      refine fg2 1 3 (gS rfl (gS rfl g0)) g0 (fun g => ?_)
      refine c_seq (fun K5 hK5 => ?_)
      exact (by
        refine c_region ?_
        refine l_step y_assignC ?_
        refine l_nil ?_
        refine hK5 _ _ ?_
        refine c_seq (fun K6 hK6 => ?_)
        refine c_seq (fun K7 hK7 => ?_)
        exact (by
          refine c_region ?_
          refine l_step (y_fld fld_41_7 (et (gS rfl (gS rfl g0)) rfl)) ?_
          refine l_step (y_load1 one_38 (et g0 rfl) (at1 (k2.cell (rT6 0 _ rfl)))) ?_
          refine l_step (y_len Hvaa.underlying38 (et g0 rfl)) ?_
          refine l_step y_moveC ?_
          refine l_nil ?_
          refine hK7 _ _ ?_
          refine fg6 1 3 4 11 12 13 (gS rfl (gS rfl (gS rfl (gS rfl (gS rfl (gS rfl g0)))))) (gS rfl (gS rfl (gS rfl (gS rfl (gS rfl g0))))) (gS rfl (gS rfl (gS rfl (gS rfl g0)))) (gS rfl (gS rfl g0)) (gS rfl g0) g0 (fun g => ?_)
          refine c_block (fun Q8 hQ8 => ?_)
          refine fg6 1 3 4 11 12 13 (gS rfl (gS rfl (gS rfl (gS rfl (gS rfl g0))))) (gS rfl (gS rfl (gS rfl (gS rfl g0)))) (gS rfl (gS rfl (gS rfl g0))) (gS rfl (gS rfl g0)) (gS rfl g0) g0 (fun g => ?_)
          refine c_loop (fun k_ s_ W9 => ∃ (g : Nat → Value) (Hk9 : Store) (z i : Nat), s_ = (upd (upd (upd (upd (upd (upd g 1 (.pointer (some ⟨b2, 0, none⟩))) 3 v4) 4 (.int .u64 (z : Nat))) 11 (.slice tda T.data.length tdc)) 12 (.int .i64 (T.data.length : Nat))) 13 (.int .i64 (i : Nat))) ∧ T.data.length - i = k_ ∧ (i ≤ T.data.length) ∧ (z = zrsN (T.data.take i)) ∧ Go (fun k => False) w4 H4 W9 Hk9) (T.data.length - (0)) ?_ ?_
          · exact ⟨g, _, 0, 0, rfl, rfl, Nat.zero_le _, rfl, Go.refl hF⟩
          · skip
            intro k_ s_ W9 hI K9 hK9
            obtain ⟨g, Hk9, z, i, rfl, rfl, hi, hz, V9⟩ := hI
            have hle9 := V9.le
            replace nb2 := V9.nb nb2 k2.lt
            replace n4 := n4.mono hle9
            replace hL0 := hL0.trans hle9
            replace G := G.trans V9 (by intro b hb; first | exact hb.elim | omega | (simp at hb ⊢; omega))
            replace hF := V9.fz
            replace k2 := k2.ch V9.ch (by exact fun h => h)
            replace U := U.cc V9.ch (by intro b hb; first | exact hb.elim | omega | (simp at hb ⊢; omega))
            refine c_seq (fun K10 hK10 => ?_)
            exact (by
              refine c_region ?_
              refine l_step (y_lss (et g0 rfl) (et (gS rfl g0) rfl)) ?_
              refine l_nil ?_
              refine hK10 _ _ ?_
              refine c_seq (fun K11 hK11 => ?_)
              refine c_cond (et g0 rfl) (fun cB1 => ?_) (fun cB1 => ?_)
              · skip
                
                have hil : i < T.data.length := by have := of_decide_eq_true cB1; omega
                have hzl := zrs_le (T.data.take i)
                rw [List.length_take] at hzl
                refine c_skip ?_
                refine hK11 _ _ ?_
                refine fg6 1 3 4 11 12 13 (gS rfl (gS rfl (gS rfl (gS rfl (gS rfl (gS rfl g0)))))) (gS rfl (gS rfl (gS rfl (gS rfl (gS rfl g0))))) (gS rfl (gS rfl (gS rfl (gS rfl g0)))) (gS rfl (gS rfl (gS rfl g0))) (gS rfl (gS rfl g0)) (gS rfl g0) (fun g => ?_)
                refine c_seq (fun K13 hK13 => ?_)
                refine c_block (fun Q14 hQ14 => ?_)
                refine c_seq (fun K15 hK15 => ?_)
                exact (by
                  refine c_region ?_
                  obtain ⟨ba, oa, ha, hb9, hr⟩ := ((hTd.mono hL0).wv hF).at (by omega)
                  refine l_step (y_idxSa ha Hvaa.underlying38 sz_5 (et (gS rfl (gS rfl g0)) rfl) (et g0 rfl) ?_) ?_
                  omega
                  refine l_step (y_load1 one_5 (et g0 rfl) (at1 (row_byte hr (by omega)))) ?_
                  refine l_step (y_assignV (et g0 rfl)) ?_
                  refine l_nil ?_
                  refine hK15 _ _ ?_
                  refine fg7 1 3 4 11 12 13 6 (gS rfl (gS rfl (gS rfl (gS rfl (gS rfl (gS rfl (gS rfl (gS rfl g0)))))))) (gS rfl (gS rfl (gS rfl (gS rfl (gS rfl (gS rfl (gS rfl g0))))))) (gS rfl (gS rfl (gS rfl (gS rfl (gS rfl (gS rfl g0)))))) (gS rfl (gS rfl (gS rfl (gS rfl (gS rfl g0))))) (gS rfl (gS rfl (gS rfl (gS rfl g0)))) (gS rfl (gS rfl (gS rfl g0))) g0 (fun g => ?_)
                  refine c_seq (fun K16 hK16 => ?_)
                  exact (by
                    refine c_region ?_
                    refine l_step (y_moveV (et g0 rfl)) ?_
                    refine l_step (y_eql (et g0 rfl) rfl) ?_
                    refine l_nil ?_
                    refine hK16 _ _ ?_
                    refine fg7 1 3 4 11 12 13 18 (gS rfl (gS rfl (gS rfl (gS rfl (gS rfl (gS rfl (gS rfl (gS rfl g0)))))))) (gS rfl (gS rfl (gS rfl (gS rfl (gS rfl (gS rfl (gS rfl g0))))))) (gS rfl (gS rfl (gS rfl (gS rfl (gS rfl (gS rfl g0)))))) (gS rfl (gS rfl (gS rfl (gS rfl (gS rfl g0))))) (gS rfl (gS rfl (gS rfl (gS rfl g0)))) (gS rfl (gS rfl (gS rfl g0))) g0 (fun g => ?_)
                    refine c_cond (et g0 rfl) (fun cB2 => ?_) (fun cB2 => ?_)
                    · skip
                      
                      have hb0 : T.data[i] = 0 := by have := of_decide_eq_true cB2; omega
                      exact (by
                        refine c_region ?_
                        refine l_step (y_moveV (et (gS rfl (gS rfl (gS rfl (gS rfl g0)))) rfl)) ?_
                        refine l_step (y_add (et g0 rfl) rfl (wrapU_addN (b := 1) uk64 ?_)) ?_
                        omega
                        refine l_step (y_assignV (et g0 rfl)) ?_
                        refine l_nil ?_
                        refine hQ14 _ _ _ (in_normal ?_)
                        refine hK13 _ _ ?_
                        refine fg6 1 3 4 11 12 13 (gS rfl (gS rfl (gS rfl (gS rfl (gS rfl (gS rfl (gS rfl (gS rfl (gS rfl g0))))))))) (gS rfl (gS rfl (gS rfl (gS rfl (gS rfl (gS rfl (gS rfl (gS rfl g0)))))))) g0 (gS rfl (gS rfl (gS rfl (gS rfl (gS rfl (gS rfl g0)))))) (gS rfl (gS rfl (gS rfl (gS rfl (gS rfl g0))))) (gS rfl (gS rfl (gS rfl (gS rfl g0)))) (fun g => ?_)
                        refine c_region ?_
                        refine l_step (y_add (et g0 rfl) rfl (addIN (y := 1) ?_)) ?_
                        omega
                        refine l_step (y_moveV (et g0 rfl)) ?_
                        refine l_nil ?_
                        refine fK6 1 3 4 11 12 13 (gS rfl (gS rfl (gS rfl (gS rfl (gS rfl (gS rfl (gS rfl g0))))))) (gS rfl (gS rfl (gS rfl (gS rfl (gS rfl (gS rfl g0)))))) (gS rfl (gS rfl (gS rfl (gS rfl (gS rfl g0))))) (gS rfl (gS rfl (gS rfl (gS rfl g0)))) (gS rfl (gS rfl (gS rfl g0))) g0 (fun g => ?_)
                        exact hK9 (T.data.length - ((i + 1))) _ _ (by omega) ⟨g, _, _, (i + 1), rfl, rfl, by omega, by rw [zrs_take hil, hz, if_pos hb0], V9⟩)
                    · skip
                      
                      have hb0 : ¬ T.data[i] = 0 := by have := of_decide_eq_false cB2; omega
                      refine c_skip ?_
                      refine hQ14 _ _ _ (in_normal ?_)
                      refine hK13 _ _ ?_
                      refine fg6 1 3 4 11 12 13 (gS rfl (gS rfl (gS rfl (gS rfl (gS rfl (gS rfl g0)))))) (gS rfl (gS rfl (gS rfl (gS rfl (gS rfl g0))))) (gS rfl (gS rfl (gS rfl (gS rfl g0)))) (gS rfl (gS rfl (gS rfl g0))) (gS rfl (gS rfl g0)) (gS rfl g0) (fun g => ?_)
                      refine c_region ?_
                      refine l_step (y_add (et g0 rfl) rfl (addIN (y := 1) ?_)) ?_
                      omega
                      refine l_step (y_moveV (et g0 rfl)) ?_
                      refine l_nil ?_
                      refine fK6 1 3 4 11 12 13 (gS rfl (gS rfl (gS rfl (gS rfl (gS rfl (gS rfl (gS rfl g0))))))) (gS rfl (gS rfl (gS rfl (gS rfl (gS rfl (gS rfl g0)))))) (gS rfl (gS rfl (gS rfl (gS rfl (gS rfl g0))))) (gS rfl (gS rfl (gS rfl (gS rfl g0)))) (gS rfl (gS rfl (gS rfl g0))) g0 (fun g => ?_)
                      exact hK9 (T.data.length - ((i + 1))) _ _ (by omega) ⟨g, _, _, (i + 1), rfl, rfl, by omega, by rw [zrs_take hil, hz, if_neg hb0]; rfl, V9⟩))
              · skip
                
                have hil : i = T.data.length := by have := of_decide_eq_false cB1; omega
                subst hil
                rw [List.take_length] at hz
                subst hz
                have hzl := zrs_le T.data
                refine c_exit ?_
                refine hQ8 _ _ _ (in_exit ?_)
                refine hK6 _ _ ?_
                refine fg3 1 3 4 (gS rfl (gS rfl (gS rfl (gS rfl (gS rfl (gS rfl g0)))))) (gS rfl (gS rfl (gS rfl (gS rfl (gS rfl g0))))) (gS rfl (gS rfl (gS rfl (gS rfl g0)))) (fun g => ?_)
                refine c_seq (fun K18 hK18 => ?_)
                exact (by
                  refine c_region ?_
                  refine l_step (y_moveV (et (gS rfl g0) rfl)) ?_
                  refine l_eff (e_callV cal_32 (aC (v := .int .u64 ((4 : Nat) : Int)) rfl aN) (yp_num (x := 4) hF (by decide))) (fun v19 w19 h19 => ?_)
                  obtain ⟨H19, g19, n19⟩ := h19
                  have hlew19 := g19.le
                  replace nb2 := g19.nb nb2 k2.lt
                  replace n4 := n4.mono hlew19
                  replace hL0 := hL0.trans hlew19
                  replace k2 := k2.up g19.up
                  replace U := U.tr g19.up
                  replace G := G.tr g19
                  replace hF := g19.fz
                  have q19 : 4 < 256 ^ 1 := by decide
                  refine l_step (y_moveV (et (gS rfl (gS rfl g0)) rfl)) ?_
                  refine l_eff (e_callV cal_32 (aC (et g0 rfl) aN) (yp_num hF (show zrsN T.data < 18446744073709551616 by omega))) (fun v20 w20 h20 => ?_)
                  obtain ⟨H20, g20, n20⟩ := h20
                  have hlew20 := g20.le
                  replace nb2 := g20.nb nb2 k2.lt
                  replace n4 := n4.mono hlew20
                  replace n19 := n19.mono hlew20
                  replace hL0 := hL0.trans hlew20
                  replace k2 := k2.up g20.up
                  replace U := U.tr g20.up
                  replace G := G.tr g20
                  replace hF := g20.fz
                  have q20 := bd_64 (show zrsN T.data < 18446744073709551616 by omega)
                  refine l_eff (e_callV cal_50 (aC (et (gS rfl (gS rfl g0)) rfl) (aC (et g0 rfl) aN)) (nat_mul hF n19 n20 (bd_sm q19 (by decide)) (bd_sm q20 (by decide)))) (fun v21 w21 h21 => ?_)
                  obtain ⟨H21, g21, n21⟩ := h21
                  have hlew21 := g21.le
                  replace nb2 := g21.nb nb2 k2.lt
                  replace n4 := n4.mono hlew21
                  replace n19 := n19.mono hlew21
                  replace n20 := n20.mono hlew21
                  replace hL0 := hL0.trans hlew21
                  replace k2 := k2.up g21.up
                  replace U := U.tr g21.up
                  replace G := G.tr g21
                  replace hF := g21.fz
                  have q21 := bd_mul (c := 9) q19 q20 (by decide)
                  exact (by
                    refine l_eff (e_callV cal_34 (aC (et (gS rfl (gS rfl (gS rfl (gS rfl g0)))) rfl) (aC (et g0 rfl) aN)) (nat_add hF n4 n21 (bd_sm q4 (by decide)) (bd_sm q21 (by decide)))) (fun v22 w22 h22 => ?_)
                    obtain ⟨H22, g22, n22⟩ := h22
                    have hlew22 := g22.le
                    replace nb2 := g22.nb nb2 k2.lt
                    replace n4 := n4.mono hlew22
                    replace n19 := n19.mono hlew22
                    replace n20 := n20.mono hlew22
                    replace n21 := n21.mono hlew22
                    replace hL0 := hL0.trans hlew22
                    replace k2 := k2.up g22.up
                    replace U := U.tr g22.up
                    replace G := G.tr g22
                    replace hF := g22.fz
                    have q22 := bd_add (c := 10) q4 q21 (by decide)
                    refine l_step (y_assignV (et g0 rfl)) ?_
                    refine l_nil ?_
                    refine hK18 _ _ ?_
                    refine fg3 1 3 4 (gS rfl (gS rfl (gS rfl (gS rfl (gS rfl (gS rfl (gS rfl (gS rfl (gS rfl g0))))))))) g0 (gS rfl (gS rfl (gS rfl (gS rfl (gS rfl (gS rfl (gS rfl g0))))))) (fun g => ?_)
                    refine c_seq (fun K23 hK23 => ?_)
                    exact (by
                      refine c_draw Up 12 [(0, true), (2, true), (3, true), (4, true), (5, true), (6, true), (7, true), (1, false), (8, false), (9, false), (10, false), (11, true)] (by kernel_rfl) (fun w24 hu => ⟨Up.refl _, ?_⟩)
                      replace G := G.tr (Go.ofUp hF hu)
                      replace hF := hF.up hu
                      replace k2 := k2.up hu
                      replace U := U.tr hu
                      have SU := Up.refl w24
                      refine p_step (by exact rfl) (y_moveV (et (gS rfl g0) rfl)) ?_
                      refine p_step (by exact rfl) (y_fld fld_41_7 (et (gS rfl (gS rfl (gS rfl g0))) rfl)) ?_
                      refine p_step (by exact rfl) (y_load1 one_38 (et g0 rfl) (atS (k2.cell (rT6 0 _ rfl)))) ?_
                      refine p_step (by exact rfl) (y_len Hvaa.underlying38 (et g0 rfl)) ?_
                      refine p_step (by exact rfl) (y_conv Hvaa.underlying3 Hvaa.underlying26 (et g0 rfl) (wrapU_id uk64 ?_)) ?_
                      omega
                      refine p_step (by exact rfl) (y_moveV (et (gS rfl (gS rfl (gS rfl (gS rfl (gS rfl g0))))) rfl)) ?_
                      refine p_step (by exact rfl) (y_sub (et (gS rfl g0) rfl) (et g0 rfl) (wrapU_subN uk64 ?_ ?_)) ?_
                      omega
                      omega
                      refine p_eff (by exact rfl) (e_callV cal_32 (aC (v := .int .u64 ((16 : Nat) : Int)) rfl aN) (yp_num (x := 16) hF (by decide))) (fun v25 w25 h25 => ?_)
                      obtain ⟨H25, g25, n25⟩ := h25
                      have hlew25 := g25.le
                      replace nb2 := g25.nb nb2 k2.lt
                      replace n4 := n4.mono hlew25
                      replace n19 := n19.mono hlew25
                      replace n20 := n20.mono hlew25
                      replace n21 := n21.mono hlew25
                      replace n22 := n22.mono hlew25
                      replace hL0 := hL0.trans hlew25
                      replace k2 := k2.up g25.up
                      replace U := U.tr g25.up
                      replace G := G.tr g25
                      replace hF := g25.fz
                      have q25 : 16 < 256 ^ 1 := by decide
                      refine ⟨.inr (SU.tr g25.up), ?_⟩
                      replace SU := SU.tr g25.up
                      exact (by
                        refine p_eff (by exact rfl) (e_callV cal_32 (aC (et (gS rfl g0) rfl) aN) (yp_num hF (show T.data.length - zrsN T.data < 18446744073709551616 by omega))) (fun v26 w26 h26 => ?_)
                        obtain ⟨H26, g26, n26⟩ := h26
                        have hlew26 := g26.le
                        replace nb2 := g26.nb nb2 k2.lt
                        replace n4 := n4.mono hlew26
                        replace n19 := n19.mono hlew26
                        replace n20 := n20.mono hlew26
                        replace n21 := n21.mono hlew26
                        replace n22 := n22.mono hlew26
                        replace n25 := n25.mono hlew26
                        replace hL0 := hL0.trans hlew26
                        replace k2 := k2.up g26.up
                        replace U := U.tr g26.up
                        replace G := G.tr g26
                        replace hF := g26.fz
                        have q26 := bd_64 (show T.data.length - zrsN T.data < 18446744073709551616 by omega)
                        refine ⟨.inr (SU.tr g26.up), ?_⟩
                        replace SU := SU.tr g26.up
                        refine p_eff (by exact rfl) (e_callV cal_50 (aC (et (gS rfl g0) rfl) (aC (et g0 rfl) aN)) (nat_mul hF n25 n26 (bd_sm q25 (by decide)) (bd_sm q26 (by decide)))) (fun v27 w27 h27 => ?_)
                        obtain ⟨H27, g27, n27⟩ := h27
                        have hlew27 := g27.le
                        replace nb2 := g27.nb nb2 k2.lt
                        replace n4 := n4.mono hlew27
                        replace n19 := n19.mono hlew27
                        replace n20 := n20.mono hlew27
                        replace n21 := n21.mono hlew27
                        replace n22 := n22.mono hlew27
                        replace n25 := n25.mono hlew27
                        replace n26 := n26.mono hlew27
                        replace hL0 := hL0.trans hlew27
                        replace k2 := k2.up g27.up
                        replace U := U.tr g27.up
                        replace G := G.tr g27
                        replace hF := g27.fz
                        have q27 := bd_mul (c := 9) q25 q26 (by decide)
                        refine ⟨.inr (SU.tr g27.up), ?_⟩
                        replace SU := SU.tr g27.up
                        exact (by
                          refine p_eff (by exact rfl) (e_callV cal_34 (aC (et (gS rfl (gS rfl (gS rfl (gS rfl (gS rfl (gS rfl (gS rfl (gS rfl (gS rfl g0))))))))) rfl) (aC (et g0 rfl) aN)) (nat_add hF n22 n27 (bd_sm q22 (by decide)) (bd_sm q27 (by decide)))) (fun v28 w28 h28 => ?_)
                          obtain ⟨H28, g28, n28⟩ := h28
                          have hlew28 := g28.le
                          replace nb2 := g28.nb nb2 k2.lt
                          replace n4 := n4.mono hlew28
                          replace n19 := n19.mono hlew28
                          replace n20 := n20.mono hlew28
                          replace n21 := n21.mono hlew28
                          replace n22 := n22.mono hlew28
                          replace n25 := n25.mono hlew28
                          replace n26 := n26.mono hlew28
                          replace n27 := n27.mono hlew28
                          replace hL0 := hL0.trans hlew28
                          replace k2 := k2.up g28.up
                          replace U := U.tr g28.up
                          replace G := G.tr g28
                          replace hF := g28.fz
                          have q28 := bd_add (c := 11) q22 q27 (by decide)
                          refine ⟨.inr (SU.tr g28.up), ?_⟩
                          replace SU := SU.tr g28.up
                          refine p_step (by exact rfl) (y_assignV (et g0 rfl)) ?_
                          refine p_nil ?_
                          refine hK23 _ _ ?_
                          refine fg2 1 3 (gS rfl (gS rfl (gS rfl (gS rfl (gS rfl (gS rfl (gS rfl (gS rfl (gS rfl (gS rfl (gS rfl (gS rfl (gS rfl (gS rfl g0)))))))))))))) g0 (fun g => ?_)
                          refine c_seq (fun K29 hK29 => ?_)
                          refine c_seq (fun K30 hK30 => ?_)
                          exact (by
                            refine c_region ?_
                            refine l_step (y_fld fld_41_11 (et (gS rfl g0) rfl)) ?_
                            refine l_step (y_load1 one_39 (et g0 rfl) (at1 (k2.cell (rT9 0 _ rfl)))) ?_
                            refine l_step (y_len Hvaa.underlying39 (et g0 rfl)) ?_
                            refine l_step y_moveC ?_
                            refine l_nil ?_
                            refine hK30 _ _ ?_
                            refine fg5 1 3 40 41 42 (gS rfl (gS rfl (gS rfl (gS rfl (gS rfl g0))))) (gS rfl (gS rfl (gS rfl (gS rfl g0)))) (gS rfl (gS rfl g0)) (gS rfl g0) g0 (fun g => ?_)
                            refine c_block (fun Q31 hQ31 => ?_)
                            refine fg5 1 3 40 41 42 (gS rfl (gS rfl (gS rfl (gS rfl g0)))) (gS rfl (gS rfl (gS rfl g0))) (gS rfl (gS rfl g0)) (gS rfl g0) g0 (fun g => ?_)
                            have hg9 : 21000 + 4 * zrsN T.data + 16 * (T.data.length - zrsN T.data) + accS (T.access.take 0) < 256 ^ 4 := by have := accS_le hls 0; have : (256 : Nat) ^ 4 = 4294967296 := rfl; omega
                            refine c_loop (fun k_ s_ W32 => ∃ (g : Nat → Value) (Hk32 : Store) (vg : Value) (i : Nat), s_ = (upd (upd (upd (upd (upd g 1 (.pointer (some ⟨b2, 0, none⟩))) 3 vg) 40 (.slice taa T.access.length tac)) 41 (.int .i64 (T.access.length : Nat))) 42 (.int .i64 (i : Nat))) ∧ T.access.length - i = k_ ∧ (i ≤ T.access.length) ∧ (NV Hk32 vg (21000 + 4 * zrsN T.data + 16 * (T.data.length - zrsN T.data) + accS (T.access.take i))) ∧ (21000 + 4 * zrsN T.data + 16 * (T.data.length - zrsN T.data) + accS (T.access.take i) < 256 ^ 4) ∧ Go (fun k => False) w28 H28 W32 Hk32) (T.access.length - (0)) ?_ ?_
                            · exact ⟨g, _, _, 0, rfl, rfl, Nat.zero_le _, by rw [List.take_zero]; exact n28, hg9, Go.refl hF⟩
                            · skip
                              intro k_ s_ W32 hI K32 hK32
                              obtain ⟨g, Hk32, vg, i, rfl, rfl, hi, hvg, hvb, V32⟩ := hI
                              have hle32 := V32.le
                              replace nb2 := V32.nb nb2 k2.lt
                              replace n4 := n4.mono hle32
                              replace n19 := n19.mono hle32
                              replace n20 := n20.mono hle32
                              replace n21 := n21.mono hle32
                              replace n22 := n22.mono hle32
                              replace n25 := n25.mono hle32
                              replace n26 := n26.mono hle32
                              replace n27 := n27.mono hle32
                              replace n28 := n28.mono hle32
                              replace hL0 := hL0.trans hle32
                              replace G := G.trans V32 (by intro b hb; first | exact hb.elim | omega | (simp at hb ⊢; omega))
                              replace hF := V32.fz
                              replace k2 := k2.ch V32.ch (by exact fun h => h)
                              replace U := U.cc V32.ch (by intro b hb; first | exact hb.elim | omega | (simp at hb ⊢; omega))
                              refine c_seq (fun K33 hK33 => ?_)
                              exact (by
                                refine c_region ?_
                                refine l_step (y_lss (et g0 rfl) (et (gS rfl g0) rfl)) ?_
                                refine l_nil ?_
                                refine hK33 _ _ ?_
                                refine c_seq (fun K34 hK34 => ?_)
                                refine c_cond (et g0 rfl) (fun cB3 => ?_) (fun cB3 => ?_)
                                · skip
                                  
                                  have hil : i < T.access.length := by have := of_decide_eq_true cB3; omega
                                  refine c_skip ?_
                                  refine hK34 _ _ ?_
                                  refine fg5 1 3 40 41 42 (gS rfl (gS rfl (gS rfl (gS rfl (gS rfl g0))))) (gS rfl (gS rfl (gS rfl (gS rfl g0)))) (gS rfl (gS rfl (gS rfl g0))) (gS rfl (gS rfl g0)) (gS rfl g0) (fun g => ?_)
                                  refine c_seq (fun K36 hK36 => ?_)
                                  refine c_block (fun Q37 hQ37 => ?_)
                                  refine c_seq (fun K38 hK38 => ?_)
                                  exact (by
                                    refine c_region ?_
                                    obtain ⟨bq, oq, r, ha0, hrow, hrl, vk, hr1, hal, hvk⟩ := (hTa.mono hL0).row hF (i := i) hil
                                    rw [hr1] at hrow hrl
                                    obtain ⟨ka9, kc9, rfl, hkl, hkc⟩ := hvk.val
                                    refine l_step (y_idxSa ha0 Hvaa.underlying39 sz_143 (et (gS rfl (gS rfl g0)) rfl) (et g0 rfl) ?_) ?_
                                    omega
                                    refine l_step (y_loadR agg_143 sz_143 (et g0 rfl) len21 (at1R hrow)) ?_
                                    refine l_eff (e_alloc zr_143) (fun v39 w39 h39 => ?_)
                                    obtain ⟨b39, rfl, n39⟩ := h39
                                    have d2_39 : b2 < b39 := Nat.lt_of_lt_of_le k2.lt n39.fresh
                                    have f39 : w.heap.size ≤ b39 := Nat.le_trans U.size n39.fresh
                                    have nb39 := hF.nb n39.fresh
                                    have fV32_39 := Nat.le_trans V32.ch.size n39.fresh
                                    replace G := G.tr (Go.ofUp hF n39.up)
                                    replace V32 := V32.tr (Go.ofUp hF n39.up)
                                    replace hF := hF.up n39.up
                                    replace k2 := k2.up n39.up
                                    replace U := U.tr n39.up
                                    have k39 := n39.blk
                                    refine l_effN (e_store sz_143 (et g0 rfl) (cellsV (et (gS rfl g0) rfl) rfl) len21 (by exact one_app (one_sgl rfl)) k39 (by exact Nat.le_of_ble_eq_true rfl)) (fun v40 w40 h40 => ?_)
                                    obtain ⟨rfl, x40⟩ := h40
                                    replace k2 := k2.ch x40.ch (by omega)
                                    replace k39 := x40.blk.full (by rw [len21]; rfl)
                                    replace G := G.wr x40 (by first | exact .inr f39 | omega | (simp; omega)) nb39
                                    replace V32 := V32.wr x40 (by first | exact .inr f39 | omega | (simp; omega)) nb39
                                    replace hF := G.fz
                                    replace U := U.st x40 f39
                                    refine l_nil ?_
                                    refine hK38 _ _ ?_
                                    refine fg6 1 3 40 41 42 8 (gS rfl (gS rfl (gS rfl (gS rfl (gS rfl (gS rfl (gS rfl g0))))))) (gS rfl (gS rfl (gS rfl (gS rfl (gS rfl (gS rfl g0)))))) (gS rfl (gS rfl (gS rfl (gS rfl (gS rfl g0))))) (gS rfl (gS rfl (gS rfl (gS rfl g0)))) (gS rfl (gS rfl (gS rfl g0))) g0 (fun g => ?_)
                                    refine c_draw Up 12 [(0, true), (3, true), (4, true), (5, true), (6, true), (1, false), (2, false), (7, false), (8, false), (9, false), (10, false), (11, true)] (by kernel_rfl) (fun w41 hu => ⟨Up.refl _, ?_⟩)
                                    replace G := G.tr (Go.ofUp hF hu)
                                    replace V32 := V32.tr (Go.ofUp hF hu)
                                    replace hF := hF.up hu
                                    replace k2 := k2.up hu
                                    replace k39 := k39.up hu
                                    replace U := U.tr hu
                                    have SU := Up.refl w41
                                    exact (by
                                      refine p_step (by exact rfl) (y_moveV (et (gS rfl (gS rfl (gS rfl (gS rfl g0)))) rfl)) ?_
                                      refine p_step (by exact rfl) (y_fld fld_143_1 (et (gS rfl g0) rfl)) ?_
                                      refine p_step (by exact rfl) (y_load1 one_29 (et g0 rfl) (atS (k39.cell ((app20 (i := 0) rfl).trans rfl)))) ?_
                                      refine p_step (by exact rfl) (y_len Hvaa.underlying29 (et g0 rfl)) ?_
                                      refine p_step (by exact rfl) (y_conv Hvaa.underlying3 Hvaa.underlying26 (et g0 rfl) (wrapU_id uk64 ?_)) ?_
                                      omega
                                      refine p_eff (by exact rfl) (e_callV cal_32 (aC (v := .int .u64 ((2400 : Nat) : Int)) rfl aN) (yp_num (x := 2400) hF (by decide))) (fun v42 w42 h42 => ?_)
                                      obtain ⟨H42, g42, n42⟩ := h42
                                      have hlew42 := g42.le
                                      replace nb2 := g42.nb nb2 k2.lt
                                      replace nb39 := g42.nb nb39 k39.lt
                                      replace n4 := n4.mono hlew42
                                      replace n19 := n19.mono hlew42
                                      replace n20 := n20.mono hlew42
                                      replace n21 := n21.mono hlew42
                                      replace n22 := n22.mono hlew42
                                      replace n25 := n25.mono hlew42
                                      replace n26 := n26.mono hlew42
                                      replace n27 := n27.mono hlew42
                                      replace n28 := n28.mono hlew42
                                      replace hvg := hvg.mono hlew42
                                      replace hL0 := hL0.trans hlew42
                                      replace k2 := k2.up g42.up
                                      replace k39 := k39.up g42.up
                                      replace U := U.tr g42.up
                                      replace G := G.tr g42
                                      replace V32 := V32.tr g42
                                      replace hF := g42.fz
                                      have q42 : 2400 < 256 ^ 2 := by decide
                                      refine ⟨.inr (SU.tr g42.up), ?_⟩
                                      replace SU := SU.tr g42.up
                                      exact (by
                                        refine p_eff (by exact rfl) (e_callV cal_32 (aC (v := .int .u64 ((1900 : Nat) : Int)) rfl aN) (yp_num (x := 1900) hF (by decide))) (fun v43 w43 h43 => ?_)
                                        obtain ⟨H43, g43, n43⟩ := h43
                                        have hlew43 := g43.le
                                        replace nb2 := g43.nb nb2 k2.lt
                                        replace nb39 := g43.nb nb39 k39.lt
                                        replace n4 := n4.mono hlew43
                                        replace n19 := n19.mono hlew43
                                        replace n20 := n20.mono hlew43
                                        replace n21 := n21.mono hlew43
                                        replace n22 := n22.mono hlew43
                                        replace n25 := n25.mono hlew43
                                        replace n26 := n26.mono hlew43
                                        replace n27 := n27.mono hlew43
                                        replace n28 := n28.mono hlew43
                                        replace hvg := hvg.mono hlew43
                                        replace n42 := n42.mono hlew43
                                        replace hL0 := hL0.trans hlew43
                                        replace k2 := k2.up g43.up
                                        replace k39 := k39.up g43.up
                                        replace U := U.tr g43.up
                                        replace G := G.tr g43
                                        replace V32 := V32.tr g43
                                        replace hF := g43.fz
                                        have q43 : 1900 < 256 ^ 2 := by decide
                                        refine ⟨.inr (SU.tr g43.up), ?_⟩
                                        replace SU := SU.tr g43.up
                                        refine p_eff (by exact rfl) (e_callV cal_32 (aC (et (gS rfl (gS rfl g0)) rfl) aN) (yp_num hF (show T.access[i].2.length < 18446744073709551616 by omega))) (fun v44 w44 h44 => ?_)
                                        obtain ⟨H44, g44, n44⟩ := h44
                                        have hlew44 := g44.le
                                        replace nb2 := g44.nb nb2 k2.lt
                                        replace nb39 := g44.nb nb39 k39.lt
                                        replace n4 := n4.mono hlew44
                                        replace n19 := n19.mono hlew44
                                        replace n20 := n20.mono hlew44
                                        replace n21 := n21.mono hlew44
                                        replace n22 := n22.mono hlew44
                                        replace n25 := n25.mono hlew44
                                        replace n26 := n26.mono hlew44
                                        replace n27 := n27.mono hlew44
                                        replace n28 := n28.mono hlew44
                                        replace hvg := hvg.mono hlew44
                                        replace n42 := n42.mono hlew44
                                        replace n43 := n43.mono hlew44
                                        replace hL0 := hL0.trans hlew44
                                        replace k2 := k2.up g44.up
                                        replace k39 := k39.up g44.up
                                        replace U := U.tr g44.up
                                        replace G := G.tr g44
                                        replace V32 := V32.tr g44
                                        replace hF := g44.fz
                                        have q44 := bd_64 (show T.access[i].2.length < 18446744073709551616 by omega)
                                        refine ⟨.inr (SU.tr g44.up), ?_⟩
                                        replace SU := SU.tr g44.up
                                        exact (by
                                          refine p_eff (by exact rfl) (e_callV cal_50 (aC (et (gS rfl g0) rfl) (aC (et g0 rfl) aN)) (nat_mul hF n43 n44 (bd_sm q43 (by decide)) (bd_sm q44 (by decide)))) (fun v45 w45 h45 => ?_)
                                          obtain ⟨H45, g45, n45⟩ := h45
                                          have hlew45 := g45.le
                                          replace nb2 := g45.nb nb2 k2.lt
                                          replace nb39 := g45.nb nb39 k39.lt
                                          replace n4 := n4.mono hlew45
                                          replace n19 := n19.mono hlew45
                                          replace n20 := n20.mono hlew45
                                          replace n21 := n21.mono hlew45
                                          replace n22 := n22.mono hlew45
                                          replace n25 := n25.mono hlew45
                                          replace n26 := n26.mono hlew45
                                          replace n27 := n27.mono hlew45
                                          replace n28 := n28.mono hlew45
                                          replace hvg := hvg.mono hlew45
                                          replace n42 := n42.mono hlew45
                                          replace n43 := n43.mono hlew45
                                          replace n44 := n44.mono hlew45
                                          replace hL0 := hL0.trans hlew45
                                          replace k2 := k2.up g45.up
                                          replace k39 := k39.up g45.up
                                          replace U := U.tr g45.up
                                          replace G := G.tr g45
                                          replace V32 := V32.tr g45
                                          replace hF := g45.fz
                                          have q45 := bd_mul (c := 10) q43 q44 (by decide)
                                          refine ⟨.inr (SU.tr g45.up), ?_⟩
                                          replace SU := SU.tr g45.up
                                          refine p_eff (by exact rfl) (e_callV cal_34 (aC (et (gS rfl (gS rfl (gS rfl g0))) rfl) (aC (et g0 rfl) aN)) (nat_add hF n42 n45 (bd_sm q42 (by decide)) (bd_sm q45 (by decide)))) (fun v46 w46 h46 => ?_)
                                          obtain ⟨H46, g46, n46⟩ := h46
                                          have hlew46 := g46.le
                                          replace nb2 := g46.nb nb2 k2.lt
                                          replace nb39 := g46.nb nb39 k39.lt
                                          replace n4 := n4.mono hlew46
                                          replace n19 := n19.mono hlew46
                                          replace n20 := n20.mono hlew46
                                          replace n21 := n21.mono hlew46
                                          replace n22 := n22.mono hlew46
                                          replace n25 := n25.mono hlew46
                                          replace n26 := n26.mono hlew46
                                          replace n27 := n27.mono hlew46
                                          replace n28 := n28.mono hlew46
                                          replace hvg := hvg.mono hlew46
                                          replace n42 := n42.mono hlew46
                                          replace n43 := n43.mono hlew46
                                          replace n44 := n44.mono hlew46
                                          replace n45 := n45.mono hlew46
                                          replace hL0 := hL0.trans hlew46
                                          replace k2 := k2.up g46.up
                                          replace k39 := k39.up g46.up
                                          replace U := U.tr g46.up
                                          replace G := G.tr g46
                                          replace V32 := V32.tr g46
                                          replace hF := g46.fz
                                          have q46 := bd_add (c := 11) q42 q45 (by decide)
                                          refine ⟨.inr (SU.tr g46.up), ?_⟩
                                          replace SU := SU.tr g46.up
                                          exact (by
                                            refine p_eff (by exact rfl) (e_callV cal_34 (aC (et (gS rfl (gS rfl (gS rfl (gS rfl (gS rfl (gS rfl (gS rfl (gS rfl (gS rfl g0))))))))) rfl) (aC (et g0 rfl) aN)) (nat_add hF hvg n46 (bd_sm hvb (by decide)) (bd_sm q46 (by decide)))) (fun v47 w47 h47 => ?_)
                                            obtain ⟨H47, g47, n47⟩ := h47
                                            have hlew47 := g47.le
                                            replace nb2 := g47.nb nb2 k2.lt
                                            replace nb39 := g47.nb nb39 k39.lt
                                            replace n4 := n4.mono hlew47
                                            replace n19 := n19.mono hlew47
                                            replace n20 := n20.mono hlew47
                                            replace n21 := n21.mono hlew47
                                            replace n22 := n22.mono hlew47
                                            replace n25 := n25.mono hlew47
                                            replace n26 := n26.mono hlew47
                                            replace n27 := n27.mono hlew47
                                            replace n28 := n28.mono hlew47
                                            replace hvg := hvg.mono hlew47
                                            replace n42 := n42.mono hlew47
                                            replace n43 := n43.mono hlew47
                                            replace n44 := n44.mono hlew47
                                            replace n45 := n45.mono hlew47
                                            replace n46 := n46.mono hlew47
                                            replace hL0 := hL0.trans hlew47
                                            replace k2 := k2.up g47.up
                                            replace k39 := k39.up g47.up
                                            replace U := U.tr g47.up
                                            replace G := G.tr g47
                                            replace V32 := V32.tr g47
                                            replace hF := g47.fz
                                            have q47 := bd_add (c := 12) hvb q46 (by decide)
                                            refine ⟨.inr (SU.tr g47.up), ?_⟩
                                            replace SU := SU.tr g47.up
                                            refine p_step (by exact rfl) (y_assignV (et g0 rfl)) ?_
                                            refine p_nil ?_
                                            refine hQ37 _ _ _ (in_normal ?_)
                                            refine hK36 _ _ ?_
                                            refine fg5 1 3 40 41 42 (gS rfl (gS rfl (gS rfl (gS rfl (gS rfl (gS rfl (gS rfl (gS rfl (gS rfl (gS rfl (gS rfl (gS rfl (gS rfl (gS rfl (gS rfl (gS rfl (gS rfl g0))))))))))))))))) g0 (gS rfl (gS rfl (gS rfl (gS rfl (gS rfl (gS rfl (gS rfl (gS rfl (gS rfl (gS rfl (gS rfl (gS rfl (gS rfl (gS rfl (gS rfl g0))))))))))))))) (gS rfl (gS rfl (gS rfl (gS rfl (gS rfl (gS rfl (gS rfl (gS rfl (gS rfl (gS rfl (gS rfl (gS rfl (gS rfl (gS rfl g0)))))))))))))) (gS rfl (gS rfl (gS rfl (gS rfl (gS rfl (gS rfl (gS rfl (gS rfl (gS rfl (gS rfl (gS rfl (gS rfl (gS rfl g0))))))))))))) (fun g => ?_)
                                            refine c_region ?_
                                            exact (by
                                              refine l_step (y_add (et g0 rfl) rfl (addIN (y := 1) ?_)) ?_
                                              omega
                                              refine l_step (y_moveV (et g0 rfl)) ?_
                                              refine l_nil ?_
                                              refine fK5 1 3 40 41 42 (gS rfl (gS rfl (gS rfl (gS rfl (gS rfl (gS rfl g0)))))) (gS rfl (gS rfl (gS rfl (gS rfl (gS rfl g0))))) (gS rfl (gS rfl (gS rfl (gS rfl g0)))) (gS rfl (gS rfl (gS rfl g0))) g0 (fun g => ?_)
                                              exact hK32 (T.access.length - ((i + 1))) _ _ (by omega) ⟨g, _, _, (i + 1), rfl, rfl, by omega, by rw [accS_take hil, ← Nat.add_assoc]; exact n47, by have := accS_le hls (i + 1); have : (256 : Nat) ^ 4 = 4294967296 := rfl; omega, V32⟩))))))
                                · skip
                                  
                                  have hil : i = T.access.length := by have := of_decide_eq_false cB3; omega
                                  subst hil
                                  rw [List.take_length] at hvg hvb
                                  refine c_exit ?_
                                  refine hQ31 _ _ _ (in_exit ?_)
                                  refine hK29 _ _ ?_
                                  refine fg2 1 3 (gS rfl (gS rfl (gS rfl (gS rfl (gS rfl g0))))) (gS rfl (gS rfl (gS rfl (gS rfl g0)))) (fun g => ?_)
                                  refine c_seq (fun K48 hK48 => ?_)
                                  refine c_seq (fun K49 hK49 => ?_)
                                  exact (by
                                    refine c_region ?_
                                    refine l_step (y_fld fld_41_2 (et (gS rfl g0) rfl)) ?_
                                    refine l_step (y_load1 one_4 (et g0 rfl) (at1 (k2.cell (rT3 0 _ rfl)))) ?_
                                    refine l_nil ?_
                                    refine hK49 _ _ ?_
                                    refine fg3 1 3 59 (gS rfl (gS rfl (gS rfl g0))) (gS rfl (gS rfl g0)) g0 (fun g => ?_)
                                    refine c_cond (et g0 rfl) (fun cB4 => ?_) (fun cB4 => ?_)
                                    · skip
                                      
                                      refine c_seq (fun K51 hK51 => ?_)
                                      exact (by
                                        refine c_region ?_
                                        refine l_step (y_moveV (et (gS rfl g0) rfl)) ?_
                                        refine l_eff (e_callV cal_32 (aC (v := .int .u64 ((32000 : Nat) : Int)) rfl aN) (yp_num (x := 32000) hF (by decide))) (fun v52 w52 h52 => ?_)
                                        obtain ⟨H52, g52, n52⟩ := h52
                                        have hlew52 := g52.le
                                        replace nb2 := g52.nb nb2 k2.lt
                                        replace n4 := n4.mono hlew52
                                        replace n19 := n19.mono hlew52
                                        replace n20 := n20.mono hlew52
                                        replace n21 := n21.mono hlew52
                                        replace n22 := n22.mono hlew52
                                        replace n25 := n25.mono hlew52
                                        replace n26 := n26.mono hlew52
                                        replace n27 := n27.mono hlew52
                                        replace n28 := n28.mono hlew52
                                        replace hvg := hvg.mono hlew52
                                        replace hL0 := hL0.trans hlew52
                                        replace k2 := k2.up g52.up
                                        replace U := U.tr g52.up
                                        replace G := G.tr g52
                                        replace hF := g52.fz
                                        have q52 : 32000 < 256 ^ 2 := by decide
                                        refine l_eff (e_callV cal_34 (aC (et (gS rfl g0) rfl) (aC (et g0 rfl) aN)) (nat_add hF hvg n52 (bd_sm hvb (by decide)) (bd_sm q52 (by decide)))) (fun v53 w53 h53 => ?_)
                                        obtain ⟨H53, g53, n53⟩ := h53
                                        have hlew53 := g53.le
                                        replace nb2 := g53.nb nb2 k2.lt
                                        replace n4 := n4.mono hlew53
                                        replace n19 := n19.mono hlew53
                                        replace n20 := n20.mono hlew53
                                        replace n21 := n21.mono hlew53
                                        replace n22 := n22.mono hlew53
                                        replace n25 := n25.mono hlew53
                                        replace n26 := n26.mono hlew53
                                        replace n27 := n27.mono hlew53
                                        replace n28 := n28.mono hlew53
                                        replace hvg := hvg.mono hlew53
                                        replace n52 := n52.mono hlew53
                                        replace hL0 := hL0.trans hlew53
                                        replace k2 := k2.up g53.up
                                        replace U := U.tr g53.up
                                        replace G := G.tr g53
                                        replace hF := g53.fz
                                        have q53 := bd_add (c := 5) hvb q52 (by decide)
                                        exact (by
                                          refine l_step (y_assignV (et g0 rfl)) ?_
                                          refine l_nil ?_
                                          refine hK51 _ _ ?_
                                          refine fg2 1 3 (gS rfl (gS rfl (gS rfl (gS rfl (gS rfl (gS rfl g0)))))) g0 (fun g => ?_)
                                          refine c_draw Up 11 [(0, true), (2, true), (3, true), (4, true), (5, true), (1, false), (6, false), (7, false), (8, false), (9, false), (10, true)] (by kernel_rfl) (fun w54 hu => ⟨Up.refl _, ?_⟩)
                                          replace G := G.tr (Go.ofUp hF hu)
                                          replace hF := hF.up hu
                                          replace k2 := k2.up hu
                                          replace U := U.tr hu
                                          have SU := Up.refl w54
                                          refine p_step (by exact rfl) (y_moveV (et g0 rfl)) ?_
                                          refine p_step (by exact rfl) (y_fld fld_41_7 (et (gS rfl (gS rfl g0)) rfl)) ?_
                                          refine p_step (by exact rfl) (y_load1 one_38 (et g0 rfl) (atS (k2.cell (rT6 0 _ rfl)))) ?_
                                          refine p_step (by exact rfl) (y_len Hvaa.underlying38 (et g0 rfl)) ?_
                                          refine p_step (by exact rfl) (y_conv Hvaa.underlying3 Hvaa.underlying26 (et g0 rfl) (wrapU_id uk64 ?_)) ?_
                                          omega
                                          refine p_eff (by exact rfl) (e_callV cal_32 (aC (v := .int .u64 ((2 : Nat) : Int)) rfl aN) (yp_num (x := 2) hF (by decide))) (fun v55 w55 h55 => ?_)
                                          obtain ⟨H55, g55, n55⟩ := h55
                                          have hlew55 := g55.le
                                          replace nb2 := g55.nb nb2 k2.lt
                                          replace n4 := n4.mono hlew55
                                          replace n19 := n19.mono hlew55
                                          replace n20 := n20.mono hlew55
                                          replace n21 := n21.mono hlew55
                                          replace n22 := n22.mono hlew55
                                          replace n25 := n25.mono hlew55
                                          replace n26 := n26.mono hlew55
                                          replace n27 := n27.mono hlew55
                                          replace n28 := n28.mono hlew55
                                          replace hvg := hvg.mono hlew55
                                          replace n52 := n52.mono hlew55
                                          replace n53 := n53.mono hlew55
                                          replace hL0 := hL0.trans hlew55
                                          replace k2 := k2.up g55.up
                                          replace U := U.tr g55.up
                                          replace G := G.tr g55
                                          replace hF := g55.fz
                                          have q55 : 2 < 256 ^ 1 := by decide
                                          refine ⟨.inr (SU.tr g55.up), ?_⟩
                                          replace SU := SU.tr g55.up
                                          exact (by
                                            refine p_eff (by exact rfl) (e_callV cal_32 (aC (et (gS rfl g0) rfl) aN) (yp_num hF (show T.data.length < 18446744073709551616 by omega))) (fun v56 w56 h56 => ?_)
                                            obtain ⟨H56, g56, n56⟩ := h56
                                            have hlew56 := g56.le
                                            replace nb2 := g56.nb nb2 k2.lt
                                            replace n4 := n4.mono hlew56
                                            replace n19 := n19.mono hlew56
                                            replace n20 := n20.mono hlew56
                                            replace n21 := n21.mono hlew56
                                            replace n22 := n22.mono hlew56
                                            replace n25 := n25.mono hlew56
                                            replace n26 := n26.mono hlew56
                                            replace n27 := n27.mono hlew56
                                            replace n28 := n28.mono hlew56
                                            replace hvg := hvg.mono hlew56
                                            replace n52 := n52.mono hlew56
                                            replace n53 := n53.mono hlew56
                                            replace n55 := n55.mono hlew56
                                            replace hL0 := hL0.trans hlew56
                                            replace k2 := k2.up g56.up
                                            replace U := U.tr g56.up
                                            replace G := G.tr g56
                                            replace hF := g56.fz
                                            have q56 := bd_64 (show T.data.length < 18446744073709551616 by omega)
                                            refine ⟨.inr (SU.tr g56.up), ?_⟩
                                            replace SU := SU.tr g56.up
                                            refine p_eff (by exact rfl) (e_callV cal_126 (aC (et g0 rfl) aN) (yp_words' hF n56 q56 (by decide))) (fun v57 w57 h57 => ?_)
                                            obtain ⟨H57, g57, n57⟩ := h57
                                            have hlew57 := g57.le
                                            replace nb2 := g57.nb nb2 k2.lt
                                            replace n4 := n4.mono hlew57
                                            replace n19 := n19.mono hlew57
                                            replace n20 := n20.mono hlew57
                                            replace n21 := n21.mono hlew57
                                            replace n22 := n22.mono hlew57
                                            replace n25 := n25.mono hlew57
                                            replace n26 := n26.mono hlew57
                                            replace n27 := n27.mono hlew57
                                            replace n28 := n28.mono hlew57
                                            replace hvg := hvg.mono hlew57
                                            replace n52 := n52.mono hlew57
                                            replace n53 := n53.mono hlew57
                                            replace n55 := n55.mono hlew57
                                            replace n56 := n56.mono hlew57
                                            replace hL0 := hL0.trans hlew57
                                            replace k2 := k2.up g57.up
                                            replace U := U.tr g57.up
                                            replace G := G.tr g57
                                            replace hF := g57.fz
                                            have q57 := bd_words q56 (by decide)
                                            refine ⟨.inr (SU.tr g57.up), ?_⟩
                                            replace SU := SU.tr g57.up
                                            exact (by
                                              refine p_eff (by exact rfl) (e_callV cal_50 (aC (et (gS rfl (gS rfl g0)) rfl) (aC (et g0 rfl) aN)) (nat_mul hF n55 n57 (bd_sm q55 (by decide)) (bd_sm q57 (by decide)))) (fun v58 w58 h58 => ?_)
                                              obtain ⟨H58, g58, n58⟩ := h58
                                              have hlew58 := g58.le
                                              replace nb2 := g58.nb nb2 k2.lt
                                              replace n4 := n4.mono hlew58
                                              replace n19 := n19.mono hlew58
                                              replace n20 := n20.mono hlew58
                                              replace n21 := n21.mono hlew58
                                              replace n22 := n22.mono hlew58
                                              replace n25 := n25.mono hlew58
                                              replace n26 := n26.mono hlew58
                                              replace n27 := n27.mono hlew58
                                              replace n28 := n28.mono hlew58
                                              replace hvg := hvg.mono hlew58
                                              replace n52 := n52.mono hlew58
                                              replace n53 := n53.mono hlew58
                                              replace n55 := n55.mono hlew58
                                              replace n56 := n56.mono hlew58
                                              replace n57 := n57.mono hlew58
                                              replace hL0 := hL0.trans hlew58
                                              replace k2 := k2.up g58.up
                                              replace U := U.tr g58.up
                                              replace G := G.tr g58
                                              replace hF := g58.fz
                                              have q58 := bd_mul (c := 9) q55 q57 (by decide)
                                              refine ⟨.inr (SU.tr g58.up), ?_⟩
                                              replace SU := SU.tr g58.up
                                              refine p_eff (by exact rfl) (e_callV cal_34 (aC (et (gS rfl (gS rfl (gS rfl (gS rfl (gS rfl (gS rfl (gS rfl (gS rfl g0)))))))) rfl) (aC (et g0 rfl) aN)) (nat_add hF n53 n58 (bd_sm q53 (by decide)) (bd_sm q58 (by decide)))) (fun v59 w59 h59 => ?_)
                                              obtain ⟨H59, g59, n59⟩ := h59
                                              have hlew59 := g59.le
                                              replace nb2 := g59.nb nb2 k2.lt
                                              replace n4 := n4.mono hlew59
                                              replace n19 := n19.mono hlew59
                                              replace n20 := n20.mono hlew59
                                              replace n21 := n21.mono hlew59
                                              replace n22 := n22.mono hlew59
                                              replace n25 := n25.mono hlew59
                                              replace n26 := n26.mono hlew59
                                              replace n27 := n27.mono hlew59
                                              replace n28 := n28.mono hlew59
                                              replace hvg := hvg.mono hlew59
                                              replace n52 := n52.mono hlew59
                                              replace n53 := n53.mono hlew59
                                              replace n55 := n55.mono hlew59
                                              replace n56 := n56.mono hlew59
                                              replace n57 := n57.mono hlew59
                                              replace n58 := n58.mono hlew59
                                              replace hL0 := hL0.trans hlew59
                                              replace k2 := k2.up g59.up
                                              replace U := U.tr g59.up
                                              replace G := G.tr g59
                                              replace hF := g59.fz
                                              have q59 := bd_add (c := 10) q53 q58 (by decide)
                                              refine ⟨.inr (SU.tr g59.up), ?_⟩
                                              replace SU := SU.tr g59.up
                                              exact (by
                                                refine p_step (by exact rfl) (y_assignV (et g0 rfl)) ?_
                                                refine p_nil ?_
                                                refine hK48 _ _ ?_
                                                refine fg1 3 g0 (fun g => ?_)
                                                refine c_seq (fun K60 hK60 => ?_)
                                                exact (by
                                                  refine c_region ?_
                                                  refine l_step (y_moveV (et g0 rfl)) ?_
                                                  refine l_step (y_assignV (et g0 rfl)) ?_
                                                  refine l_nil ?_
                                                  refine hK60 _ _ ?_
                                                  refine fg1 2 g0 (fun g => ?_)
                                                  refine c_ret ?_
                                                  repeat with_reducible refine then_ret ?_
                                                  refine ret1 rfl (res_tmp (et g0 rfl)) ?_
                                                  exact ⟨_, G, nvb (n := 10) n59 q59 (by decide) (by rw [intrN, if_pos cB4]; try omega)⟩))))))
                                    · skip
                                      
                                      refine c_skip ?_
                                      refine hK48 _ _ ?_
                                      refine fg1 3 (gS rfl g0) (fun g => ?_)
                                      refine c_seq (fun K61 hK61 => ?_)
                                      exact (by
                                        refine c_region ?_
                                        refine l_step (y_moveV (et g0 rfl)) ?_
                                        refine l_step (y_assignV (et g0 rfl)) ?_
                                        refine l_nil ?_
                                        refine hK61 _ _ ?_
                                        refine fg1 2 g0 (fun g => ?_)
                                        refine c_ret ?_
                                        repeat with_reducible refine then_ret ?_
                                        refine ret1 rfl (res_tmp (et g0 rfl)) ?_
                                        exact ⟨_, G, nvb (n := 4) hvg hvb (by decide) (by rw [intrN, if_neg (by rw [cB4]; decide)]; try rfl)⟩))))))))))))))
end Go.Proofs.YgvaawGreat
