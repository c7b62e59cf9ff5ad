import Derived.Test.YgvaawGreatYX
set_option maxRecDepth 100000
set_option maxHeartbeats 4000000
set_option linter.unusedSimpArgs false
set_option linter.unusedVariables false
namespace Go.Proofs.YgvaawGreat
open Go
theorem obs_fees {w : World} {H : Store} (hF : Fz w H) (bt : Nat) (ts : Array Value) (T : YTx) (kT : Blk w bt ts) (ht : TC H ts T) :
    Ret 120 [.pointer (some ⟨bt, 0, none⟩)] w (fun v w' => v = .tuple #[hV (feeM T), hV (feeT T)] ∧ Up w w') := by
  obtain ⟨tda, tdc, taa, tac, rT1, rT2, rT3, rT4, rT5, rT6, rT7, rT8, rT9, hTd, hTa⟩ := ht.ex
  have tok := ht.ok
  have to1 := tok.data
  have to2 := tok.access
  have lT := kT.lt
  refine enter (n := 24) Hvaa.func120 rfl rfl (Nat.le_of_ble_eq_true rfl) ?_
  have U := Up.refl w
  have G : Go (No) w H w H := Go.refl hF
  have hL0 : Le H H := Le.refl H
  refine c_seq (fun K1 hK1 => ?_)
  exact (by
    refine c_region ?_
    refine l_eff (e_alloc zr_28) (fun v2 w2 h2 => ?_)
    obtain ⟨b2, rfl, n2⟩ := h2
    have f2 : w.heap.size ≤ b2 := Nat.le_trans U.size n2.fresh
    have nb2 := hF.nb n2.fresh
    replace G := G.tr (Go.ofUp hF n2.up)
    replace hF := hF.up n2.up
    replace kT := kT.up n2.up
    replace U := U.tr n2.up
    have k2 := n2.blk
    refine l_eff (e_alloc zr_28) (fun v3 w3 h3 => ?_)
    obtain ⟨b3, rfl, n3⟩ := h3
    have d2_3 : b2 < b3 := Nat.lt_of_lt_of_le k2.lt n3.fresh
    have f3 : w.heap.size ≤ b3 := Nat.le_trans U.size n3.fresh
    have nb3 := hF.nb n3.fresh
    replace G := G.tr (Go.ofUp hF n3.up)
    replace hF := hF.up n3.up
    replace k2 := k2.up n3.up
    replace kT := kT.up n3.up
    replace U := U.tr n3.up
    have k3 := n3.blk
    refine l_nil ?_
    refine hK1 _ _ ?_
    refine c_seq (fun K4 hK4 => ?_)
    refine c_seq (fun K5 hK5 => ?_)
    exact (by
      refine c_region ?_
      refine l_step (y_moveV (et (gS rfl (gS rfl g0)) rfl)) ?_
      refine l_step (y_nil (et g0 rfl)) ?_
      refine l_step (y_fld fld_41_8 (et g0 rfl)) ?_
      refine l_step (y_load1 one_4 (et g0 rfl) (at1 (kT.cell (rT6 1 _ rfl)))) ?_
      refine l_nil ?_
      refine hK5 _ _ ?_
      refine fg4 0 2 3 7 (gS rfl (gS rfl (gS rfl (gS rfl (gS rfl (gS rfl g0)))))) (gS rfl (gS rfl (gS rfl (gS rfl (gS rfl g0))))) (gS rfl (gS rfl (gS rfl (gS rfl g0)))) g0 (fun g => ?_)
      refine c_cond (et g0 rfl) (fun cB1 => ?_) (fun cB1 => ?_)
      · skip
        
        refine c_seq (fun K7 hK7 => ?_)
        exact (by
          refine c_draw (Ch (fun k => k = b2)) 9 [(0, true), (1, true), (2, true), (3, true), (4, true), (5, true), (6, true), (7, true), (8, false), (9, false)] (by kernel_rfl) (fun w8 hu => ⟨Ch.refl _ _, ?_⟩)
          replace G := G.tr (Go.ofUp hF hu)
          replace hF := hF.up hu
          replace k2 := k2.up hu
          replace k3 := k3.up hu
          replace kT := kT.up hu
          replace U := U.tr hu
          have SU : (Ch (fun k => k = b2)) w8 w8 := Ch.refl _ _
          refine p_step (by exact rfl) (y_moveV (et (gS rfl (gS rfl (gS rfl g0))) rfl)) ?_
          refine p_step (by exact rfl) (y_nil (et g0 rfl)) ?_
          refine p_step (by exact rfl) (y_fld fld_41_9 (et g0 rfl)) ?_
          refine p_step (by exact rfl) (y_loadR agg_28 sz_28 (et g0 rfl) (by rw [length_bL, length_be]) (atCR (kT.row rT7) (by omega))) ?_
          refine p_step (by exact rfl) (y_moveV (et (gS rfl (gS rfl (gS rfl (gS rfl (gS rfl (gS rfl (gS rfl g0))))))) rfl)) ?_
          refine p_step (by exact rfl) (y_nil (et g0 rfl)) ?_
          refine p_step (by exact rfl) (y_fld fld_41_10 (et g0 rfl)) ?_
          refine p_step (by exact rfl) (y_loadR agg_28 sz_28 (et g0 rfl) (by rw [length_bL, length_be]) (atCR (kT.row rT8) (by omega))) ?_
          refine p_effN (by exact rfl) (e_store sz_28 (et (gS rfl (gS rfl (gS rfl (gS rfl (gS rfl (gS rfl (gS rfl (gS rfl (gS rfl (gS rfl g0)))))))))) rfl) (cellsV (et (gS rfl (gS rfl (gS rfl (gS rfl g0)))) rfl) rfl) (by rw [length_bL, length_be]) (by exact one_bL _) k2 (by exact Nat.le_of_ble_eq_true rfl)) (fun v9 w9 h9 => ?_)
          obtain ⟨rfl, x9⟩ := h9
          replace k3 := k3.ch x9.ch (by omega)
          replace kT := kT.ch x9.ch (by first | omega | (omega))
          replace k2 := x9.blk.full (by rw [length_bL, length_be]; rfl)
          replace G := G.wr x9 (by first | exact .inr f2 | omega | (simp; omega)) nb2
          replace hF := G.fz
          replace U := U.st x9 f2
          refine ⟨.inr (SU.st x9 (by omega)), ?_⟩
          replace SU := SU.st x9 (by omega)
          refine p_effN (by exact rfl) (e_store sz_28 (et (gS rfl (gS rfl (gS rfl (gS rfl (gS rfl (gS rfl (gS rfl (gS rfl (gS rfl g0))))))))) rfl) (cellsV (et g0 rfl) rfl) (by rw [length_bL, length_be]) (by exact one_bL _) k3 (by exact Nat.le_of_ble_eq_true rfl)) (fun v10 w10 h10 => ?_)
          obtain ⟨rfl, x10⟩ := h10
          replace k2 := k2.ch x10.ch (by omega)
          replace kT := kT.ch x10.ch (by first | omega | (omega))
          replace k3 := x10.blk.full (by rw [length_bL, length_be]; rfl)
          replace G := G.wr x10 (by first | exact .inr f3 | omega | (simp; omega)) nb3
          replace hF := G.fz
          replace U := U.st x10 f3
          refine ⟨.inl rfl, ?_⟩
          refine p_nil ?_
          refine hK7 _ _ ?_
          refine fg2 2 3 (gS rfl (gS rfl (gS rfl (gS rfl (gS rfl (gS rfl (gS rfl (gS rfl (gS rfl (gS rfl g0)))))))))) (gS rfl (gS rfl (gS rfl (gS rfl (gS rfl (gS rfl (gS rfl (gS rfl (gS rfl g0))))))))) (fun g => ?_)
          refine c_ret ?_
          repeat with_reducible refine then_ret ?_
          refine ret2 rfl (res_blk agg_28 sz_28 (et (gS rfl g0) rfl) (by rw [List.size_toArray, length_bL, length_be]) k2) (res_blk agg_28 sz_28 (et g0 rfl) (by rw [List.size_toArray, length_bL, length_be]) k3) ?_
          exact ⟨by rw [feeM, feeT, if_pos cB1, if_pos cB1]; rfl, U⟩)
      · skip
        
        refine c_skip ?_
        refine hK4 _ _ ?_
        refine fg3 0 2 3 (gS rfl (gS rfl (gS rfl g0))) (gS rfl (gS rfl g0)) (gS rfl g0) (fun g => ?_)
        refine c_seq (fun K11 hK11 => ?_)
        exact (by
          refine c_draw (Ch (fun k => k = b2)) 9 [(0, true), (1, true), (2, true), (3, true), (4, true), (5, true), (6, true), (7, true), (8, false), (9, false)] (by kernel_rfl) (fun w12 hu => ⟨Ch.refl _ _, ?_⟩)
          replace G := G.tr (Go.ofUp hF hu)
          replace hF := hF.up hu
          replace k2 := k2.up hu
          replace k3 := k3.up hu
          replace kT := kT.up hu
          replace U := U.tr hu
          have SU : (Ch (fun k => k = b2)) w12 w12 := Ch.refl _ _
          refine p_step (by exact rfl) (y_moveV (et (gS rfl (gS rfl g0)) rfl)) ?_
          refine p_step (by exact rfl) (y_nil (et g0 rfl)) ?_
          refine p_step (by exact rfl) (y_fld fld_41_5 (et g0 rfl)) ?_
          refine p_step (by exact rfl) (y_loadR agg_28 sz_28 (et g0 rfl) (by rw [length_bL, length_be]) (atCR (kT.row rT4) (by omega))) ?_
          refine p_step (by exact rfl) (y_moveV (et (gS rfl (gS rfl (gS rfl (gS rfl (gS rfl (gS rfl g0)))))) rfl)) ?_
          refine p_step (by exact rfl) (y_nil (et g0 rfl)) ?_
          refine p_step (by exact rfl) (y_fld fld_41_5 (et g0 rfl)) ?_
          refine p_step (by exact rfl) (y_loadR agg_28 sz_28 (et g0 rfl) (by rw [length_bL, length_be]) (atCR (kT.row rT4) (by omega))) ?_
          refine p_effN (by exact rfl) (e_store sz_28 (et (gS rfl (gS rfl (gS rfl (gS rfl (gS rfl (gS rfl (gS rfl (gS rfl (gS rfl g0))))))))) rfl) (cellsV (et (gS rfl (gS rfl (gS rfl (gS rfl g0)))) rfl) rfl) (by rw [length_bL, length_be]) (by exact one_bL _) k2 (by exact Nat.le_of_ble_eq_true rfl)) (fun v13 w13 h13 => ?_)
          obtain ⟨rfl, x13⟩ := h13
          replace k3 := k3.ch x13.ch (by omega)
          replace kT := kT.ch x13.ch (by first | omega | (omega))
          replace k2 := x13.blk.full (by rw [length_bL, length_be]; rfl)
          replace G := G.wr x13 (by first | exact .inr f2 | omega | (simp; omega)) nb2
          replace hF := G.fz
          replace U := U.st x13 f2
          refine ⟨.inr (SU.st x13 (by omega)), ?_⟩
          replace SU := SU.st x13 (by omega)
          refine p_effN (by exact rfl) (e_store sz_28 (et (gS rfl (gS rfl (gS rfl (gS rfl (gS rfl (gS rfl (gS rfl (gS rfl g0)))))))) rfl) (cellsV (et g0 rfl) rfl) (by rw [length_bL, length_be]) (by exact one_bL _) k3 (by exact Nat.le_of_ble_eq_true rfl)) (fun v14 w14 h14 => ?_)
          obtain ⟨rfl, x14⟩ := h14
          replace k2 := k2.ch x14.ch (by omega)
          replace kT := kT.ch x14.ch (by first | omega | (omega))
          replace k3 := x14.blk.full (by rw [length_bL, length_be]; rfl)
          replace G := G.wr x14 (by first | exact .inr f3 | omega | (simp; omega)) nb3
          replace hF := G.fz
          replace U := U.st x14 f3
          refine ⟨.inl rfl, ?_⟩
          refine p_nil ?_
          refine hK11 _ _ ?_
          refine fg2 2 3 (gS rfl (gS rfl (gS rfl (gS rfl (gS rfl (gS rfl (gS rfl (gS rfl (gS rfl g0))))))))) (gS rfl (gS rfl (gS rfl (gS rfl (gS rfl (gS rfl (gS rfl (gS rfl g0)))))))) (fun g => ?_)
          refine c_ret ?_
          repeat with_reducible refine then_ret ?_
          refine ret2 rfl (res_blk agg_28 sz_28 (et (gS rfl g0) rfl) (by rw [List.size_toArray, length_bL, length_be]) k2) (res_blk agg_28 sz_28 (et g0 rfl) (by rw [List.size_toArray, length_bL, length_be]) k3) ?_
          exact ⟨by rw [feeM, feeT, if_neg (by rw [cB1]; decide), if_neg (by rw [cB1]; decide)]; rfl, U⟩)))
theorem obs_listOK {w : World} {H : Store} (hF : Fz w H) (bt : Nat) (ts : Array Value) (T : YTx) (kT : Blk w bt ts) (ht : TC H ts T) :
    Ret 122 [.pointer (some ⟨bt, 0, none⟩)] w (fun v w' => v = .bool (lsOk T.access) ∧ Up w w') := by
  obtain ⟨tda, tdc, taa, tac, rT1, rT2, rT3, rT4, rT5, rT6, rT7, rT8, rT9, hTd, hTa⟩ := ht.ex
  have tok := ht.ok
  have to1 := tok.data
  have to2 := tok.access
  have lT := kT.lt
  refine enter (n := 33) Hvaa.func122 rfl rfl (Nat.le_of_ble_eq_true rfl) ?_
  have U := Up.refl w
  have G : Go (No) w H w H := Go.refl hF
  have hL0 : Le H H := Le.refl H
  refine c_seq (fun K1 hK1 => ?_)
  exact (by
    refine c_region ?_
    refine l_step y_assignC ?_
    refine l_nil ?_
    refine hK1 _ _ ?_
    refine fg1 0 (gS rfl g0) (fun g => ?_)
    refine c_seq (fun K2 hK2 => ?_)
    refine c_seq (fun K3 hK3 => ?_)
    exact (by
      refine c_region ?_
      refine l_step (y_moveV (et g0 rfl)) ?_
      refine l_step (y_nil (et g0 rfl)) ?_
      refine l_step (y_fld fld_41_11 (et g0 rfl)) ?_
      refine l_step (y_load1 one_39 (et g0 rfl) (at1 (kT.cell (rT9 0 _ rfl)))) ?_
      refine l_step (y_len Hvaa.underlying39 (et g0 rfl)) ?_
      refine l_step (y_gtr (et g0 rfl) rfl) ?_
      refine l_nil ?_
      refine hK3 _ _ ?_
      refine fg2 0 11 (gS rfl (gS rfl (gS rfl (gS rfl (gS rfl (gS rfl g0)))))) g0 (fun g => ?_)
      refine c_cond (et g0 rfl) (fun cB1 => ?_) (fun cB1 => ?_)
      · skip
        
        have h16 : 16 < T.access.length := by have := of_decide_eq_true cB1; omega
        refine c_seq (fun K5 hK5 => ?_)
        exact (by
          refine c_region ?_
          refine l_step y_assignC ?_
          refine l_nil ?_
          refine hK5 _ _ ?_
          refine fg1 2 g0 (fun g => ?_)
          refine c_ret ?_
          repeat with_reducible refine then_ret ?_
          refine ret1 rfl (res_tmp (et g0 rfl)) ?_
          exact ⟨by rw [lsOk, decide_eq_false (by omega)]; rfl, U⟩)
      · skip
        
        have h16 : ¬ 16 < T.access.length := by have := of_decide_eq_false cB1; omega
        refine c_skip ?_
        refine hK2 _ _ ?_
        refine fg1 0 (gS rfl g0) (fun g => ?_)
        refine c_seq (fun K6 hK6 => ?_)
        exact (by
          refine c_region ?_
          refine l_step y_assignC ?_
          refine l_nil ?_
          refine hK6 _ _ ?_
          refine c_seq (fun K7 hK7 => ?_)
          refine c_seq (fun K8 hK8 => ?_)
          exact (by
            refine c_region ?_
            refine l_step (y_moveV (et (gS rfl g0) rfl)) ?_
            refine l_step (y_nil (et g0 rfl)) ?_
            refine l_step (y_fld fld_41_11 (et g0 rfl)) ?_
            refine l_step (y_load1 one_39 (et g0 rfl) (at1 (kT.cell (rT9 0 _ rfl)))) ?_
            refine l_step (y_len Hvaa.underlying39 (et g0 rfl)) ?_
            refine l_step y_moveC ?_
            refine l_nil ?_
            refine hK8 _ _ ?_
            refine fg4 3 15 16 17 (gS rfl (gS rfl (gS rfl (gS rfl (gS rfl (gS rfl g0)))))) (gS rfl (gS rfl g0)) (gS rfl g0) g0 (fun g => ?_)
            refine c_block (fun Q9 hQ9 => ?_)
            refine fg4 3 15 16 17 (gS rfl (gS rfl (gS rfl g0))) (gS rfl (gS rfl g0)) (gS rfl g0) g0 (fun g => ?_)
            refine c_loop (fun k_ s_ W10 => ∃ (g : Nat → Value) (Hk10 : Store) (kN i : Nat), s_ = (upd (upd (upd (upd g 3 (.int .i64 (kN : Nat))) 15 (.slice taa T.access.length tac)) 16 (.int .i64 (T.access.length : Nat))) 17 (.int .i64 (i : Nat))) ∧ T.access.length - i = k_ ∧ (i ≤ T.access.length) ∧ (kN = keysN (T.access.take i)) ∧ (kN ≤ 64) ∧ Go (fun k => False) w H W10 Hk10) (T.access.length - (0)) ?_ ?_
            · exact ⟨g, _, 0, 0, rfl, rfl, Nat.zero_le _, rfl, by omega, Go.refl hF⟩
            · skip
              intro k_ s_ W10 hI K10 hK10
              obtain ⟨g, Hk10, kN, i, rfl, rfl, hi, hkN, hk, V10⟩ := hI
              have hle10 := V10.le
              replace hL0 := hL0.trans hle10
              replace G := G.trans V10 (by intro b hb; first | exact hb.elim | omega | (simp at hb ⊢; omega))
              replace hF := V10.fz
              replace kT := kT.ch V10.ch (by first | exact fun h => h | exact fun _ h => h.elim | exact fun _ _ h => h)
              replace U := U.cc V10.ch (by intro b hb; first | exact hb.elim | omega | (simp at hb ⊢; omega))
              refine c_seq (fun K11 hK11 => ?_)
              exact (by
                refine c_region ?_
                refine l_step (y_lss (et g0 rfl) (et (gS rfl g0) rfl)) ?_
                refine l_nil ?_
                refine hK11 _ _ ?_
                refine c_seq (fun K12 hK12 => ?_)
                refine c_cond (et g0 rfl) (fun cB2 => ?_) (fun cB2 => ?_)
                · skip
                  
                  have hil : i < T.access.length := by have := of_decide_eq_true cB2; omega
                  refine c_skip ?_
                  refine hK12 _ _ ?_
                  refine fg4 3 15 16 17 (gS rfl (gS rfl (gS rfl (gS rfl g0)))) (gS rfl (gS rfl (gS rfl g0))) (gS rfl (gS rfl g0)) (gS rfl g0) (fun g => ?_)
                  refine c_seq (fun K14 hK14 => ?_)
                  refine c_block (fun Q15 hQ15 => ?_)
                  refine c_seq (fun K16 hK16 => ?_)
                  exact (by
                    refine c_region ?_
                    obtain ⟨bq, oq, r, ha0, hrow, hrl, vk, hr1, hal, hvk⟩ := (hTa.mono hL0).row hF (i := i) hil
                    rw [hr1] at hrow hrl
                    obtain ⟨ka9, kc9, rfl, hkl, hkc⟩ := hvk.val
                    refine l_step (y_idxSa ha0 Hvaa.underlying39 sz_143 (et (gS rfl (gS rfl g0)) rfl) (et g0 rfl) ?_) ?_
                    omega
                    refine l_step (y_loadR agg_143 sz_143 (et g0 rfl) len21 (at1R hrow)) ?_
                    refine l_eff (e_alloc zr_143) (fun v17 w17 h17 => ?_)
                    obtain ⟨b17, rfl, n17⟩ := h17
                    have f17 : w.heap.size ≤ b17 := Nat.le_trans U.size n17.fresh
                    have nb17 := hF.nb n17.fresh
                    have fV10_17 := Nat.le_trans V10.ch.size n17.fresh
                    replace G := G.tr (Go.ofUp hF n17.up)
                    replace V10 := V10.tr (Go.ofUp hF n17.up)
                    replace hF := hF.up n17.up
                    replace kT := kT.up n17.up
                    replace U := U.tr n17.up
                    have k17 := n17.blk
                    refine l_effN (e_store sz_143 (et g0 rfl) (cellsV (et (gS rfl g0) rfl) rfl) len21 (by exact one_app (one_sgl rfl)) k17 (by exact Nat.le_of_ble_eq_true rfl)) (fun v18 w18 h18 => ?_)
                    obtain ⟨rfl, x18⟩ := h18
                    replace kT := kT.ch x18.ch (by first | omega | (omega))
                    replace k17 := x18.blk.full (by rw [len21]; rfl)
                    replace G := G.wr x18 (by first | exact .inr f17 | omega | (simp; omega)) nb17
                    replace V10 := V10.wr x18 (by first | exact .inr f17 | omega | (simp; omega)) nb17
                    replace hF := G.fz
                    replace U := U.st x18 f17
                    refine l_nil ?_
                    refine hK16 _ _ ?_
                    refine fg5 3 15 16 17 5 (gS rfl (gS rfl (gS rfl (gS rfl (gS rfl (gS rfl g0)))))) (gS rfl (gS rfl (gS rfl (gS rfl (gS rfl g0))))) (gS rfl (gS rfl (gS rfl (gS rfl g0)))) (gS rfl (gS rfl (gS rfl g0))) g0 (fun g => ?_)
                    refine c_seq (fun K19 hK19 => ?_)
                    refine c_seq (fun K20 hK20 => ?_)
                    exact (by
                      refine c_region ?_
                      refine l_step (y_fld fld_143_1 (et g0 rfl)) ?_
                      refine l_step (y_load1 one_29 (et g0 rfl) (at1 (k17.cell ((app20 (i := 0) rfl).trans rfl)))) ?_
                      refine l_step (y_len Hvaa.underlying29 (et g0 rfl)) ?_
                      refine l_step (y_moveV (et (gS rfl (gS rfl (gS rfl (gS rfl (gS rfl (gS rfl (gS rfl g0))))))) rfl)) ?_
                      refine l_step (y_sub rfl (et g0 rfl) (subIN (x := 64) ?_ ?_)) ?_
                      omega
                      omega
                      refine l_step (y_gtr (et (gS rfl (gS rfl g0)) rfl) (et g0 rfl)) ?_
                      refine l_nil ?_
                      refine hK20 _ _ ?_
                      refine fg6 3 15 16 17 5 26 (gS rfl (gS rfl (gS rfl (gS rfl (gS rfl (gS rfl (gS rfl (gS rfl (gS rfl (gS rfl g0)))))))))) (gS rfl (gS rfl (gS rfl (gS rfl (gS rfl (gS rfl (gS rfl (gS rfl (gS rfl g0))))))))) (gS rfl (gS rfl (gS rfl (gS rfl (gS rfl (gS rfl (gS rfl (gS rfl g0)))))))) (gS rfl (gS rfl (gS rfl (gS rfl (gS rfl (gS rfl (gS rfl g0))))))) (gS rfl (gS rfl (gS rfl (gS rfl (gS rfl (gS rfl g0)))))) g0 (fun g => ?_)
                      refine c_cond (et g0 rfl) (fun cB3 => ?_) (fun cB3 => ?_)
                      · skip
                        
                        have hgt : 64 < kN + T.access[i].2.length := by have := of_decide_eq_true cB3; omega
                        refine c_seq (fun K22 hK22 => ?_)
                        exact (by
                          refine c_region ?_
                          refine l_step y_assignC ?_
                          refine l_nil ?_
                          refine hK22 _ _ ?_
                          refine fg1 2 g0 (fun g => ?_)
                          refine c_ret ?_
                          refine hQ15 _ _ _ (in_ret ?_)
                          refine hQ9 _ _ _ (in_ret ?_)
                          repeat with_reducible refine then_ret ?_
                          refine ret1 rfl (res_tmp (et g0 rfl)) ?_
                          have h9 := keys_le T.access (i + 1)
                          rw [keys_take hil, ← hkN] at h9
                          exact ⟨by rw [lsOk, decide_eq_false (show ¬ keysN T.access ≤ 64 by omega), Bool.and_false], U⟩)
                      · skip
                        
                        have hgt : kN + T.access[i].2.length ≤ 64 := by have := of_decide_eq_false cB3; omega
                        refine c_skip ?_
                        refine hK19 _ _ ?_
                        refine fg5 3 15 16 17 5 (gS rfl (gS rfl (gS rfl (gS rfl (gS rfl g0))))) (gS rfl (gS rfl (gS rfl (gS rfl g0)))) (gS rfl (gS rfl (gS rfl g0))) (gS rfl (gS rfl g0)) (gS rfl g0) (fun g => ?_)
                        refine c_region ?_
                        refine l_step (y_moveV (et (gS rfl (gS rfl (gS rfl (gS rfl g0)))) rfl)) ?_
                        refine l_step (y_fld fld_143_1 (et (gS rfl g0) rfl)) ?_
                        refine l_step (y_load1 one_29 (et g0 rfl) (at1 (k17.cell ((app20 (i := 0) rfl).trans rfl)))) ?_
                        refine l_step (y_len Hvaa.underlying29 (et g0 rfl)) ?_
                        refine l_step (y_add (et (gS rfl (gS rfl (gS rfl g0))) rfl) (et g0 rfl) (addIN ?_)) ?_
                        omega
                        refine l_step (y_assignV (et g0 rfl)) ?_
                        refine l_nil ?_
                        refine hQ15 _ _ _ (in_normal ?_)
                        refine hK14 _ _ ?_
                        refine fg4 3 15 16 17 g0 (gS rfl (gS rfl (gS rfl (gS rfl (gS rfl (gS rfl (gS rfl (gS rfl (gS rfl g0))))))))) (gS rfl (gS rfl (gS rfl (gS rfl (gS rfl (gS rfl (gS rfl (gS rfl g0)))))))) (gS rfl (gS rfl (gS rfl (gS rfl (gS rfl (gS rfl (gS rfl g0))))))) (fun g => ?_)
                        refine c_region ?_
                        refine l_step (y_add (et g0 rfl) rfl (addIN (y := 1) ?_)) ?_
                        omega
                        refine l_step (y_moveV (et g0 rfl)) ?_
                        refine l_nil ?_
                        refine fK4 3 15 16 17 (gS rfl (gS rfl (gS rfl (gS rfl (gS rfl g0))))) (gS rfl (gS rfl (gS rfl (gS rfl g0)))) (gS rfl (gS rfl (gS rfl g0))) g0 (fun g => ?_)
                        exact hK10 (T.access.length - ((i + 1))) _ _ (by omega) ⟨g, _, _, (i + 1), rfl, rfl, by omega, by rw [keys_take hil, hkN], by omega, V10⟩))
                · skip
                  
                  have hil : i = T.access.length := by have := of_decide_eq_false cB2; omega
                  refine c_exit ?_
                  refine hQ9 _ _ _ (in_exit ?_)
                  refine hK7 _ _ ?_
                  refine fg0 (fun g => ?_)
                  refine c_seq (fun K23 hK23 => ?_)
                  exact (by
                    refine c_region ?_
                    refine l_step y_assignC ?_
                    refine l_nil ?_
                    refine hK23 _ _ ?_
                    refine c_ret ?_
                    repeat with_reducible refine then_ret ?_
                    refine ret1 rfl (res_tmp (et g0 rfl)) ?_
                    subst hil
                    rw [List.take_length] at hkN
                    exact ⟨by rw [lsOk, decide_eq_true (show T.access.length ≤ 16 by omega), decide_eq_true (show keysN T.access ≤ 64 by omega)]; rfl, U⟩))))))
end Go.Proofs.YgvaawGreat
