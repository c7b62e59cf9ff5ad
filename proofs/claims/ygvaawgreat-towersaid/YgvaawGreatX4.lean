import Derived.Test.YgvaawGreatX2
set_option maxRecDepth 100000
set_option maxHeartbeats 4000000
set_option linter.unusedSimpArgs false
set_option linter.unusedVariables false
namespace Go.Proofs.YgvaawGreat
open Go
theorem mach_intrinsic {w : World} {H : Store} (hF : Fz w H) {txc : List Value} {T : YTx} (ht : TC H txc.toArray T) (hdl : T.data.length ≤ 1024) (hls : lsOk T.access = true) :
    Ret 94 [.agg txc.toArray] w (fun v w' => v = .int .u64 (intrN T : Nat) ∧ Up w w') := by
  obtain ⟨tda, tdc, taa, tac, rT1, rT2, rT3, rT4, rT5, rT6, rT7, rT8, rT9, hTd, hTa⟩ := ht.ex
  have tok := ht.ok
  have to1 := tok.data
  have to2 := tok.access
  refine enter (n := 50) Hvaa.func94 rfl rfl (Nat.le_of_ble_eq_true rfl) ?_
  have U := Up.refl w
  have G : Go (No) w H w H := Go.refl hF
  have hL0 : Le H H := Le.refl H
  refine c_seq (fun K1 hK1 => ?_)
  exact (by
    refine c_region ?_
    refine l_eff (e_boxV (et g0 rfl)) (fun v2 w2 h2 => ?_)
    obtain ⟨b2, rfl, n2⟩ := h2
    have f2 : w.heap.size ≤ b2 := Nat.le_trans U.size n2.fresh
    have nb2 := hF.nb n2.fresh
    replace G := G.tr (Go.ofUp hF n2.up)
    replace hF := hF.up n2.up
    replace U := U.tr n2.up
    have k2 := n2.blk
    replace k2 : Blk w2 b2 txc.toArray := k2
    refine l_step y_assignC ?_
    refine l_nil ?_
    refine hK1 _ _ ?_
    refine fg1 1 (gS rfl g0) (fun g => ?_)
    refine c_seq (fun K3 hK3 => ?_)
    exact (by
      refine c_region ?_
      refine l_step y_assignC ?_
      refine l_nil ?_
      refine hK3 _ _ ?_
      refine c_seq (fun K4 hK4 => ?_)
      refine c_seq (fun K5 hK5 => ?_)
      exact (by
        refine c_region ?_
        refine l_step (y_fld fld_41_7 (et (gS rfl g0) rfl)) ?_
        refine l_step (y_load1 one_38 (et g0 rfl) (at1 (k2.cell (rT6 0 _ rfl)))) ?_
        refine l_step (y_len Hvaa.underlying38 (et g0 rfl)) ?_
        refine l_step y_moveC ?_
        refine l_nil ?_
        refine hK5 _ _ ?_
        refine fg5 1 3 9 10 11 (gS rfl (gS rfl (gS rfl (gS rfl (gS rfl g0))))) (gS rfl (gS rfl (gS rfl (gS rfl g0)))) (gS rfl (gS rfl g0)) (gS rfl g0) g0 (fun g => ?_)
        refine c_block (fun Q6 hQ6 => ?_)
        refine fg5 1 3 9 10 11 (gS rfl (gS rfl (gS rfl (gS rfl g0)))) (gS rfl (gS rfl (gS rfl g0))) (gS rfl (gS rfl g0)) (gS rfl g0) g0 (fun g => ?_)
        refine c_loop (fun k_ s_ W7 => ∃ (g : Nat → Value) (Hk7 : Store) (gv z i : Nat), s_ = (upd (upd (upd (upd (upd g 1 (.pointer (some ⟨b2, 0, none⟩))) 3 (.int .u64 (gv : Nat))) 9 (.slice tda T.data.length tdc)) 10 (.int .i64 (T.data.length : Nat))) 11 (.int .i64 (i : Nat))) ∧ T.data.length - i = k_ ∧ (i ≤ T.data.length) ∧ (z = zrsN (T.data.take i)) ∧ (gv = 21000 + 4 * z + 16 * (i - z)) ∧ (z ≤ i) ∧ Go (fun k => False) w2 H W7 Hk7) (T.data.length - (0)) ?_ ?_
        · exact ⟨g, _, _, 0, 0, rfl, rfl, Nat.zero_le _, rfl, rfl, Nat.le_refl _, Go.refl hF⟩
        · skip
          intro k_ s_ W7 hI K7 hK7
          obtain ⟨g, Hk7, gv, z, i, rfl, rfl, hi, hz, hgv, hzl, V7⟩ := hI
          have hle7 := V7.le
          replace nb2 := V7.nb nb2 k2.lt
          replace hL0 := hL0.trans hle7
          replace G := G.trans V7 (by intro b hb; first | exact hb.elim | omega | (simp at hb ⊢; omega))
          replace hF := V7.fz
          replace k2 := k2.ch V7.ch (by exact fun h => h)
          replace U := U.cc V7.ch (by intro b hb; first | exact hb.elim | omega | (simp at hb ⊢; omega))
          refine c_seq (fun K8 hK8 => ?_)
          exact (by
            refine c_region ?_
            refine l_step (y_lss (et g0 rfl) (et (gS rfl g0) rfl)) ?_
            refine l_nil ?_
            refine hK8 _ _ ?_
            refine c_seq (fun K9 hK9 => ?_)
            refine c_cond (et g0 rfl) (fun cB1 => ?_) (fun cB1 => ?_)
            · skip
              
              have hil : i < T.data.length := by have := of_decide_eq_true cB1; omega
              refine c_skip ?_
              refine hK9 _ _ ?_
              refine fg5 1 3 9 10 11 (gS rfl (gS rfl (gS rfl (gS rfl (gS rfl g0))))) (gS rfl (gS rfl (gS rfl (gS rfl g0)))) (gS rfl (gS rfl (gS rfl g0))) (gS rfl (gS rfl g0)) (gS rfl g0) (fun g => ?_)
              refine c_seq (fun K11 hK11 => ?_)
              refine c_block (fun Q12 hQ12 => ?_)
              refine c_seq (fun K13 hK13 => ?_)
              exact (by
                refine c_region ?_
                obtain ⟨ba, oa, ha, hb9, hr⟩ := ((hTd.mono hL0).wv hF).at (by omega)
                refine l_step (y_idxSa ha Hvaa.underlying38 sz_5 (et (gS rfl (gS rfl g0)) rfl) (et g0 rfl) ?_) ?_
                omega
                refine l_step (y_load1 one_5 (et g0 rfl) (at1 (row_byte hr (by omega)))) ?_
                refine l_step (y_assignV (et g0 rfl)) ?_
                refine l_nil ?_
                refine hK13 _ _ ?_
                refine fg6 1 3 9 10 11 5 (gS rfl (gS rfl (gS rfl (gS rfl (gS rfl (gS rfl (gS rfl g0))))))) (gS rfl (gS rfl (gS rfl (gS rfl (gS rfl (gS rfl g0)))))) (gS rfl (gS rfl (gS rfl (gS rfl (gS rfl g0))))) (gS rfl (gS rfl (gS rfl (gS rfl g0)))) (gS rfl (gS rfl (gS rfl g0))) g0 (fun g => ?_)
                refine c_seq (fun K14 hK14 => ?_)
                exact (by
                  refine c_region ?_
                  refine l_step (y_moveV (et (gS rfl (gS rfl (gS rfl (gS rfl g0)))) rfl)) ?_
                  refine l_step (y_add (et g0 rfl) rfl (wrapU_addN (b := 4) uk64 ?_)) ?_
                  omega
                  refine l_step (y_assignV (et g0 rfl)) ?_
                  refine l_nil ?_
                  refine hK14 _ _ ?_
                  refine fg6 1 3 9 10 11 5 (gS rfl (gS rfl (gS rfl (gS rfl (gS rfl (gS rfl (gS rfl (gS rfl g0)))))))) g0 (gS rfl (gS rfl (gS rfl (gS rfl (gS rfl (gS rfl g0)))))) (gS rfl (gS rfl (gS rfl (gS rfl (gS rfl g0))))) (gS rfl (gS rfl (gS rfl (gS rfl g0)))) (gS rfl (gS rfl (gS rfl g0))) (fun g => ?_)
                  refine c_seq (fun K15 hK15 => ?_)
                  exact (by
                    refine c_region ?_
                    refine l_step (y_moveV (et g0 rfl)) ?_
                    refine l_step (y_neq (et g0 rfl) rfl) ?_
                    refine l_nil ?_
                    refine hK15 _ _ ?_
                    refine fg6 1 3 9 10 11 18 (gS rfl (gS rfl (gS rfl (gS rfl (gS rfl (gS rfl (gS rfl g0))))))) (gS rfl (gS rfl (gS rfl (gS rfl (gS rfl (gS rfl g0)))))) (gS rfl (gS rfl (gS rfl (gS rfl (gS rfl g0))))) (gS rfl (gS rfl (gS rfl (gS rfl g0)))) (gS rfl (gS rfl (gS rfl g0))) g0 (fun g => ?_)
                    refine c_cond (et g0 rfl) (fun cB2 => ?_) (fun cB2 => ?_)
                    · skip
                      
                      have hb0 : ¬ T.data[i] = 0 := by have := of_decide_eq_true cB2; omega
                      exact (by
                        refine c_region ?_
                        refine l_step (y_moveV (et (gS rfl (gS rfl (gS rfl (gS rfl g0)))) rfl)) ?_
                        refine l_step (y_add (et g0 rfl) rfl (wrapU_addN (b := 12) uk64 ?_)) ?_
                        omega
                        refine l_step (y_assignV (et g0 rfl)) ?_
                        refine l_nil ?_
                        refine hQ12 _ _ _ (in_normal ?_)
                        refine hK11 _ _ ?_
                        refine fg5 1 3 9 10 11 (gS rfl (gS rfl (gS rfl (gS rfl (gS rfl (gS rfl (gS rfl (gS rfl g0)))))))) g0 (gS rfl (gS rfl (gS rfl (gS rfl (gS rfl (gS rfl g0)))))) (gS rfl (gS rfl (gS rfl (gS rfl (gS rfl g0))))) (gS rfl (gS rfl (gS rfl (gS rfl g0)))) (fun g => ?_)
                        refine c_region ?_
                        refine l_step (y_add (et g0 rfl) rfl (addIN (y := 1) ?_)) ?_
                        omega
                        refine l_step (y_moveV (et g0 rfl)) ?_
                        refine l_nil ?_
                        refine fK5 1 3 9 10 11 (gS rfl (gS rfl (gS rfl (gS rfl (gS rfl (gS rfl g0)))))) (gS rfl (gS rfl (gS rfl (gS rfl (gS rfl g0))))) (gS rfl (gS rfl (gS rfl (gS rfl g0)))) (gS rfl (gS rfl (gS rfl g0))) g0 (fun g => ?_)
                        exact hK7 (T.data.length - ((i + 1))) _ _ (by omega) ⟨g, _, _, (z + 0), (i + 1), rfl, rfl, by omega, by rw [zrs_take hil, hz, if_neg hb0], by omega, by omega, V7⟩)
                    · skip
                      
                      have hb0 : T.data[i] = 0 := by have := of_decide_eq_false cB2; omega
                      refine c_skip ?_
                      refine hQ12 _ _ _ (in_normal ?_)
                      refine hK11 _ _ ?_
                      refine fg5 1 3 9 10 11 (gS rfl (gS rfl (gS rfl (gS rfl (gS rfl g0))))) (gS rfl (gS rfl (gS rfl (gS rfl g0)))) (gS rfl (gS rfl (gS rfl g0))) (gS rfl (gS rfl g0)) (gS rfl g0) (fun g => ?_)
                      refine c_region ?_
                      refine l_step (y_add (et g0 rfl) rfl (addIN (y := 1) ?_)) ?_
                      omega
                      refine l_step (y_moveV (et g0 rfl)) ?_
                      refine l_nil ?_
                      refine fK5 1 3 9 10 11 (gS rfl (gS rfl (gS rfl (gS rfl (gS rfl (gS rfl g0)))))) (gS rfl (gS rfl (gS rfl (gS rfl (gS rfl g0))))) (gS rfl (gS rfl (gS rfl (gS rfl g0)))) (gS rfl (gS rfl (gS rfl g0))) g0 (fun g => ?_)
                      exact hK7 (T.data.length - ((i + 1))) _ _ (by omega) ⟨g, _, _, (z + 1), (i + 1), rfl, rfl, by omega, by rw [zrs_take hil, hz, if_pos hb0], by omega, by omega, V7⟩)))
            · skip
              
              have hil : i = T.data.length := by have := of_decide_eq_false cB1; omega
              subst hil
              rw [List.take_length] at hz
              refine c_exit ?_
              refine hQ6 _ _ _ (in_exit ?_)
              refine hK4 _ _ ?_
              refine fg2 1 3 (gS rfl (gS rfl (gS rfl (gS rfl (gS rfl g0))))) (gS rfl (gS rfl (gS rfl (gS rfl g0)))) (fun g => ?_)
              refine c_seq (fun K17 hK17 => ?_)
              refine c_seq (fun K18 hK18 => ?_)
              exact (by
                refine c_region ?_
                refine l_step (y_fld fld_41_11 (et (gS rfl g0) rfl)) ?_
                refine l_step (y_load1 one_39 (et g0 rfl) (at1 (k2.cell (rT9 0 _ rfl)))) ?_
                refine l_step (y_len Hvaa.underlying39 (et g0 rfl)) ?_
                refine l_step y_moveC ?_
                refine l_nil ?_
                refine hK18 _ _ ?_
                refine fg5 1 3 23 24 25 (gS rfl (gS rfl (gS rfl (gS rfl (gS rfl g0))))) (gS rfl (gS rfl (gS rfl (gS rfl g0)))) (gS rfl (gS rfl g0)) (gS rfl g0) g0 (fun g => ?_)
                refine c_block (fun Q19 hQ19 => ?_)
                refine fg5 1 3 23 24 25 (gS rfl (gS rfl (gS rfl (gS rfl g0)))) (gS rfl (gS rfl (gS rfl g0))) (gS rfl (gS rfl g0)) (gS rfl g0) g0 (fun g => ?_)
                refine c_loop (fun k_ s_ W20 => ∃ (g : Nat → Value) (Hk20 : Store) (ga i : Nat), s_ = (upd (upd (upd (upd (upd g 1 (.pointer (some ⟨b2, 0, none⟩))) 3 (.int .u64 (ga : Nat))) 23 (.slice taa T.access.length tac)) 24 (.int .i64 (T.access.length : Nat))) 25 (.int .i64 (i : Nat))) ∧ T.access.length - i = k_ ∧ (i ≤ T.access.length) ∧ (ga = gv + accS (T.access.take i)) ∧ Go (fun k => False) W7 Hk7 W20 Hk20) (T.access.length - (0)) ?_ ?_
                · exact ⟨g, _, _, 0, rfl, rfl, Nat.zero_le _, rfl, Go.refl hF⟩
                · skip
                  intro k_ s_ W20 hI K20 hK20
                  obtain ⟨g, Hk20, ga, i, rfl, rfl, hi, hga, V20⟩ := hI
                  have hle20 := V20.le
                  replace nb2 := V20.nb nb2 k2.lt
                  replace hL0 := hL0.trans hle20
                  replace G := G.trans V20 (by intro b hb; first | exact hb.elim | omega | (simp at hb ⊢; omega))
                  replace hF := V20.fz
                  replace k2 := k2.ch V20.ch (by exact fun h => h)
                  replace U := U.cc V20.ch (by intro b hb; first | exact hb.elim | omega | (simp at hb ⊢; omega))
                  have hac := accS_le hls i
                  have hac2 := accS_le hls (i + 1)
                  refine c_seq (fun K21 hK21 => ?_)
                  exact (by
                    refine c_region ?_
                    refine l_step (y_lss (et g0 rfl) (et (gS rfl g0) rfl)) ?_
                    refine l_nil ?_
                    refine hK21 _ _ ?_
                    refine c_seq (fun K22 hK22 => ?_)
                    refine c_cond (et g0 rfl) (fun cB3 => ?_) (fun cB3 => ?_)
                    · skip
                      
                      have hil : i < T.access.length := by have := of_decide_eq_true cB3; omega
                      have hat := accS_take hil
                      refine c_skip ?_
                      refine hK22 _ _ ?_
                      refine fg5 1 3 23 24 25 (gS rfl (gS rfl (gS rfl (gS rfl (gS rfl g0))))) (gS rfl (gS rfl (gS rfl (gS rfl g0)))) (gS rfl (gS rfl (gS rfl g0))) (gS rfl (gS rfl g0)) (gS rfl g0) (fun g => ?_)
                      refine c_seq (fun K24 hK24 => ?_)
                      refine c_block (fun Q25 hQ25 => ?_)
                      refine c_seq (fun K26 hK26 => ?_)
                      exact (by
                        refine c_region ?_
                        obtain ⟨bq, oq, r, ha0, hrow, hrl, vk, hr1, hal, hvk⟩ := (hTa.mono hL0).row hF (i := i) hil
                        rw [hr1] at hrow hrl
                        obtain ⟨ka9, kc9, rfl, hkl, hkc⟩ := hvk.val
                        refine l_step (y_idxSa ha0 Hvaa.underlying39 sz_143 (et (gS rfl (gS rfl g0)) rfl) (et g0 rfl) ?_) ?_
                        omega
                        refine l_step (y_loadR agg_143 sz_143 (et g0 rfl) len21 (at1R hrow)) ?_
                        refine l_eff (e_alloc zr_143) (fun v27 w27 h27 => ?_)
                        obtain ⟨b27, rfl, n27⟩ := h27
                        have d2_27 : b2 < b27 := Nat.lt_of_lt_of_le k2.lt n27.fresh
                        have f27 : w.heap.size ≤ b27 := Nat.le_trans U.size n27.fresh
                        have nb27 := hF.nb n27.fresh
                        have fV20_27 := Nat.le_trans V20.ch.size n27.fresh
                        replace G := G.tr (Go.ofUp hF n27.up)
                        replace V20 := V20.tr (Go.ofUp hF n27.up)
                        replace hF := hF.up n27.up
                        replace k2 := k2.up n27.up
                        replace U := U.tr n27.up
                        have k27 := n27.blk
                        refine l_effN (e_store sz_143 (et g0 rfl) (cellsV (et (gS rfl g0) rfl) rfl) len21 (by exact one_app (one_sgl rfl)) k27 (by exact Nat.le_of_ble_eq_true rfl)) (fun v28 w28 h28 => ?_)
                        obtain ⟨rfl, x28⟩ := h28
                        replace k2 := k2.ch x28.ch (by omega)
                        replace k27 := x28.blk.full (by rw [len21]; rfl)
                        replace G := G.wr x28 (by first | exact .inr f27 | omega | (simp; omega)) nb27
                        replace V20 := V20.wr x28 (by first | exact .inr f27 | omega | (simp; omega)) nb27
                        replace hF := G.fz
                        replace U := U.st x28 f27
                        refine l_nil ?_
                        refine hK26 _ _ ?_
                        refine fg6 1 3 23 24 25 7 (gS rfl (gS rfl (gS rfl (gS rfl (gS rfl (gS rfl (gS rfl g0))))))) (gS rfl (gS rfl (gS rfl (gS rfl (gS rfl (gS rfl g0)))))) (gS rfl (gS rfl (gS rfl (gS rfl (gS rfl g0))))) (gS rfl (gS rfl (gS rfl (gS rfl g0)))) (gS rfl (gS rfl (gS rfl g0))) g0 (fun g => ?_)
                        refine c_region ?_
                        exact (by
                          refine l_step (y_moveV (et (gS rfl (gS rfl (gS rfl (gS rfl g0)))) rfl)) ?_
                          refine l_step (y_fld fld_143_1 (et (gS rfl g0) rfl)) ?_
                          refine l_step (y_load1 one_29 (et g0 rfl) (at1 (k27.cell ((app20 (i := 0) rfl).trans rfl)))) ?_
                          refine l_step (y_len Hvaa.underlying29 (et g0 rfl)) ?_
                          refine l_step (y_conv Hvaa.underlying3 Hvaa.underlying26 (et g0 rfl) (wrapU_id uk64 ?_)) ?_
                          omega
                          refine l_step (y_mul rfl (et g0 rfl) (wrapU_mulN (a := 1900) uk64 ?_)) ?_
                          omega
                          refine l_step (y_add rfl (et g0 rfl) (wrapU_addN (a := 2400) uk64 ?_)) ?_
                          omega
                          refine l_step (y_add (et (gS rfl (gS rfl (gS rfl (gS rfl (gS rfl (gS rfl g0)))))) rfl) (et g0 rfl) (wrapU_addN uk64 ?_)) ?_
                          omega
                          refine l_step (y_assignV (et g0 rfl)) ?_
                          refine l_nil ?_
                          refine hQ25 _ _ _ (in_normal ?_)
                          refine hK24 _ _ ?_
                          refine fg5 1 3 23 24 25 (gS rfl (gS rfl (gS rfl (gS rfl (gS rfl (gS rfl (gS rfl (gS rfl (gS rfl (gS rfl (gS rfl (gS rfl (gS rfl (gS rfl g0)))))))))))))) g0 (gS rfl (gS rfl (gS rfl (gS rfl (gS rfl (gS rfl (gS rfl (gS rfl (gS rfl (gS rfl (gS rfl (gS rfl g0)))))))))))) (gS rfl (gS rfl (gS rfl (gS rfl (gS rfl (gS rfl (gS rfl (gS rfl (gS rfl (gS rfl (gS rfl g0))))))))))) (gS rfl (gS rfl (gS rfl (gS rfl (gS rfl (gS rfl (gS rfl (gS rfl (gS rfl (gS rfl g0)))))))))) (fun g => ?_)
                          refine c_region ?_
                          refine l_step (y_add (et g0 rfl) rfl (addIN (y := 1) ?_)) ?_
                          omega
                          refine l_step (y_moveV (et g0 rfl)) ?_
                          refine l_nil ?_
                          refine fK5 1 3 23 24 25 (gS rfl (gS rfl (gS rfl (gS rfl (gS rfl (gS rfl g0)))))) (gS rfl (gS rfl (gS rfl (gS rfl (gS rfl g0))))) (gS rfl (gS rfl (gS rfl (gS rfl g0)))) (gS rfl (gS rfl (gS rfl g0))) g0 (fun g => ?_)
                          exact hK20 (T.access.length - ((i + 1))) _ _ (by omega) ⟨g, _, _, (i + 1), rfl, rfl, by omega, by rw [accS_take hil, hga, Nat.add_assoc], V20⟩))
                    · skip
                      
                      have hil : i = T.access.length := by have := of_decide_eq_false cB3; omega
                      subst hil
                      rw [List.take_length] at hga hac
                      refine c_exit ?_
                      refine hQ19 _ _ _ (in_exit ?_)
                      refine hK17 _ _ ?_
                      refine fg2 1 3 (gS rfl (gS rfl (gS rfl (gS rfl (gS rfl g0))))) (gS rfl (gS rfl (gS rfl (gS rfl g0)))) (fun g => ?_)
                      refine c_seq (fun K29 hK29 => ?_)
                      refine c_seq (fun K30 hK30 => ?_)
                      exact (by
                        refine c_region ?_
                        refine l_step (y_fld fld_41_2 (et (gS rfl g0) rfl)) ?_
                        refine l_step (y_load1 one_4 (et g0 rfl) (at1 (k2.cell (rT3 0 _ rfl)))) ?_
                        refine l_nil ?_
                        refine hK30 _ _ ?_
                        refine fg3 1 3 39 (gS rfl (gS rfl (gS rfl g0))) (gS rfl (gS rfl g0)) g0 (fun g => ?_)
                        refine c_cond (et g0 rfl) (fun cB4 => ?_) (fun cB4 => ?_)
                        · skip
                          
                          exact (by
                            refine c_region ?_
                            refine l_step (y_moveV (et (gS rfl g0) rfl)) ?_
                            refine l_step (y_fld fld_41_7 (et (gS rfl (gS rfl (gS rfl g0))) rfl)) ?_
                            refine l_step (y_load1 one_38 (et g0 rfl) (at1 (k2.cell (rT6 0 _ rfl)))) ?_
                            refine l_step (y_len Hvaa.underlying38 (et g0 rfl)) ?_
                            refine l_step (y_conv Hvaa.underlying3 Hvaa.underlying26 (et g0 rfl) (wrapU_id uk64 ?_)) ?_
                            omega
                            refine l_eff (e_callV cal_167 (aC (et g0 rfl) aN) (words_lo _ _ (by omega))) (fun v32 w32 h32 => ?_)
                            obtain ⟨rfl, u32⟩ := h32
                            replace G := G.tr (Go.ofUp hF u32)
                            replace hF := hF.up u32
                            replace k2 := k2.up u32
                            replace U := U.tr u32
                            have hwl : wordsN T.data.length ≤ 33 := by unfold wordsN; omega
                            refine l_step (y_mul rfl (et g0 rfl) (wrapU_mulN (a := 2) uk64 ?_)) ?_
                            omega
                            refine l_step (y_add rfl (et g0 rfl) (wrapU_addN (a := 32000) uk64 ?_)) ?_
                            omega
                            refine l_step (y_add (et (gS rfl (gS rfl (gS rfl (gS rfl (gS rfl (gS rfl (gS rfl g0))))))) rfl) (et g0 rfl) (wrapU_addN uk64 ?_)) ?_
                            omega
                            refine l_step (y_assignV (et g0 rfl)) ?_
                            refine l_nil ?_
                            refine hK29 _ _ ?_
                            refine fg1 3 g0 (fun g => ?_)
                            refine c_seq (fun K33 hK33 => ?_)
                            exact (by
                              refine c_region ?_
                              refine l_step (y_moveV (et g0 rfl)) ?_
                              refine l_step (y_assignV (et g0 rfl)) ?_
                              refine l_nil ?_
                              refine hK33 _ _ ?_
                              refine fg1 2 g0 (fun g => ?_)
                              refine c_ret ?_
                              repeat with_reducible refine then_ret ?_
                              refine ret1 rfl (res_tmp (et g0 rfl)) ?_
                              exact ⟨by rw [intrN, if_pos cB4, hga, hgv, hz], U⟩))
                        · skip
                          
                          refine c_skip ?_
                          refine hK29 _ _ ?_
                          refine fg1 3 (gS rfl g0) (fun g => ?_)
                          refine c_seq (fun K34 hK34 => ?_)
                          exact (by
                            refine c_region ?_
                            refine l_step (y_moveV (et g0 rfl)) ?_
                            refine l_step (y_assignV (et g0 rfl)) ?_
                            refine l_nil ?_
                            refine hK34 _ _ ?_
                            refine fg1 2 g0 (fun g => ?_)
                            refine c_ret ?_
                            repeat with_reducible refine then_ret ?_
                            refine ret1 rfl (res_tmp (et g0 rfl)) ?_
                            exact ⟨by rw [intrN, if_neg (by rw [cB4]; decide), hga, hgv, hz]; rfl, U⟩))))))))
end Go.Proofs.YgvaawGreat
