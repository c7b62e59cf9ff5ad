import Derived.Test.YgvaawGreatX2
set_option maxRecDepth 100000
set_option maxHeartbeats 4000000
set_option linter.unusedSimpArgs false
set_option linter.unusedVariables false
namespace Go.Proofs.YgvaawGreat
open Go
def priceN (s : YSt) (T : YTx) : Nat := s.env.baseFee + min (feeT T) (feeM T - s.env.baseFee)
theorem feeM_lt {T : YTx} (h : TOk T) : feeM T < W256 := by unfold feeM; split; exact h.maxFee; exact h.price
theorem feeT_lt {T : YTx} (h : TOk T) : feeT T < W256 := by unfold feeT; split; exact h.tip; exact h.price
theorem cmp_ne0 (x y : Nat) : decide (cmpN x y ≠ 0) = decide (x ≠ y) := by
  have := cmp_eq0 x y
  by_cases h : x = y
  · simp [h, cmp_eq]
  · have h2 : ¬ cmpN x y = 0 := fun e => by rw [decide_eq_true e] at this; exact h (of_decide_eq_true this.symm)
    simp [h, h2]
theorem yp_price {w : World} {H : Store} (hF : Fz w H) (bs : Nat) (cs : Array Value) (s : YSt) (vf : Value) (kS : Blk w bs cs) (hs : SC H cs s vf) {txc : List Value} {T : YTx} (ht : TC H txc.toArray T) :
    Ret 47 [.pointer (some ⟨bs, 0, none⟩), .agg txc.toArray] w (fun v w' => ∃ H', Go No w H w' H' ∧ NV H' v (priceN s T) ∧ priceN s T < 256 ^ 33) := by
  obtain ⟨aa, ac, wa, wc, sa, sc, vr, la, lc, ta, tc, ma, mc, ga, gc, oa, oc, ra, rc, vlim, vtx, vleft, vpr, vtot, rS, rOr, rMd, hAc, hWA, hWS, hRf, hTm, hMd, hGn, hSr, hRt, hLm, hTx, hLf, hPr, hTt⟩ := hs.ex
  have so := hs.ok
  have so1 := so.accts
  have so2 := so.warmA
  have so3 := so.warmS
  have so4 := so.temps
  have so5 := so.start
  have so6 := so.logs
  have so7 := so.made
  have so8 := so.gone
  have so9 := so.ret
  have eC := hs.env
  obtain ⟨eha, ehc, rE1, rE2, rE3, rE4, rE5, rE6, hHs⟩ := hs.env.ex
  have eo := hs.env.ok
  have eo1 := eo.hashes
  obtain ⟨tda, tdc, taa, tac, rT1, rT2, rT3, rT4, rT5, rT6, rT7, rT8, rT9, hTd, hTa⟩ := ht.ex
  have tok := ht.ok
  have to1 := tok.data
  have to2 := tok.access
  have lS := kS.lt
  refine enter (n := 24) Hvaa.func47 rfl rfl (Nat.le_of_ble_eq_true rfl) ?_
  have U := Up.refl w
  have G : Go (No) w H w H := Go.refl hF
  have hL0 : Le H H := Le.refl H
  refine c_seq (fun K1 hK1 => ?_)
  exact (by
    refine c_region ?_
    refine l_eff (e_boxV (et (gS rfl g0) rfl)) (fun v2 w2 h2 => ?_)
    obtain ⟨b2, rfl, n2⟩ := h2
    have f2 : w.heap.size ≤ b2 := Nat.le_trans U.size n2.fresh
    have nb2 := hF.nb n2.fresh
    replace G := G.tr (Go.ofUp hF n2.up)
    replace hF := hF.up n2.up
    replace kS := kS.up n2.up
    replace U := U.tr n2.up
    have k2 := n2.blk
    replace k2 : Blk w2 b2 txc.toArray := k2
    refine l_step y_assignC ?_
    refine l_nil ?_
    refine hK1 _ _ ?_
    refine fg2 0 3 (gS rfl (gS rfl g0)) (gS rfl g0) (fun g => ?_)
    refine c_seq (fun K3 hK3 => ?_)
    exact (by
      refine c_region ?_
      refine l_eff (e_callV cal_120 (aC (et g0 rfl) aN) (obs_fees hF _ _ _ k2 (ht.mono hL0))) (fun v4 w4 h4 => ?_)
      obtain ⟨rfl, u4⟩ := h4
      replace G := G.tr (Go.ofUp hF u4)
      replace hF := hF.up u4
      replace k2 := k2.up u4
      replace kS := kS.up u4
      replace U := U.tr u4
      refine l_step (y_moveV (et g0 rfl)) ?_
      refine l_step (y_ext (et g0 rfl) rfl) ?_
      refine l_step (y_ext (et (gS rfl g0) rfl) rfl) ?_
      refine l_eff (e_alloc zr_28) (fun v5 w5 h5 => ?_)
      obtain ⟨b5, rfl, n5⟩ := h5
      have d2_5 : b2 < b5 := Nat.lt_of_lt_of_le k2.lt n5.fresh
      have f5 : w.heap.size ≤ b5 := Nat.le_trans U.size n5.fresh
      have nb5 := hF.nb n5.fresh
      replace G := G.tr (Go.ofUp hF n5.up)
      replace hF := hF.up n5.up
      replace k2 := k2.up n5.up
      replace kS := kS.up n5.up
      replace U := U.tr n5.up
      have k5 := n5.blk
      refine l_eff (e_alloc zr_28) (fun v6 w6 h6 => ?_)
      obtain ⟨b6, rfl, n6⟩ := h6
      have d2_6 : b2 < b6 := Nat.lt_of_lt_of_le k2.lt n6.fresh
      have d5_6 : b5 < b6 := Nat.lt_of_lt_of_le k5.lt n6.fresh
      have f6 : w.heap.size ≤ b6 := Nat.le_trans U.size n6.fresh
      have nb6 := hF.nb n6.fresh
      replace G := G.tr (Go.ofUp hF n6.up)
      replace hF := hF.up n6.up
      replace k2 := k2.up n6.up
      replace k5 := k5.up n6.up
      replace kS := kS.up n6.up
      replace U := U.tr n6.up
      have k6 := n6.blk
      exact (by
        refine l_effN (e_store sz_28 (et (gS rfl g0) rfl) (cellsV (et (gS rfl (gS rfl (gS rfl g0))) rfl) rfl) (by rw [length_bL, length_be]) (by exact one_bL _) k5 (by exact Nat.le_of_ble_eq_true rfl)) (fun v7 w7 h7 => ?_)
        obtain ⟨rfl, x7⟩ := h7
        replace k2 := k2.ch x7.ch (by omega)
        replace k6 := k6.ch x7.ch (by omega)
        replace kS := kS.ch x7.ch (by first | omega | (omega))
        replace k5 := x7.blk.full (by rw [length_bL, length_be]; rfl)
        replace G := G.wr x7 (by first | exact .inr f5 | omega | (simp; omega)) nb5
        replace hF := G.fz
        replace U := U.st x7 f5
        refine l_effN (e_store sz_28 (et g0 rfl) (cellsV (et (gS rfl (gS rfl g0)) rfl) rfl) (by rw [length_bL, length_be]) (by exact one_bL _) k6 (by exact Nat.le_of_ble_eq_true rfl)) (fun v8 w8 h8 => ?_)
        obtain ⟨rfl, x8⟩ := h8
        replace k2 := k2.ch x8.ch (by omega)
        replace k5 := k5.ch x8.ch (by omega)
        replace kS := kS.ch x8.ch (by first | omega | (omega))
        replace k6 := x8.blk.full (by rw [length_bL, length_be]; rfl)
        replace G := G.wr x8 (by first | exact .inr f6 | omega | (simp; omega)) nb6
        replace hF := G.fz
        replace U := U.st x8 f6
        refine l_nil ?_
        refine hK3 _ _ ?_
        refine fg3 0 5 6 (gS rfl (gS rfl (gS rfl (gS rfl (gS rfl (gS rfl (gS rfl g0))))))) (gS rfl g0) g0 (fun g => ?_)
        refine c_seq (fun K9 hK9 => ?_)
        exact (by
          refine c_region ?_
          refine l_step (y_slA000 Hvaa.underlying28 sz_5 (et (gS rfl g0) rfl) ) ?_
          refine l_eff (e_callV cal_33 (aC (et g0 rfl) aN) (nat_fromRow hF (k5.row (RowIn.self _)) k5.lt (bd_W (feeM_lt tok)) (by decide))) (fun v10 w10 h10 => ?_)
          obtain ⟨H10, g10, n10⟩ := h10
          have hlew10 := g10.le
          replace nb2 := g10.nb nb2 k2.lt
          replace nb5 := g10.nb nb5 k5.lt
          replace nb6 := g10.nb nb6 k6.lt
          replace hL0 := hL0.trans hlew10
          replace k2 := k2.up g10.up
          replace k5 := k5.up g10.up
          replace k6 := k6.up g10.up
          replace kS := kS.up g10.up
          replace U := U.tr g10.up
          replace G := G.tr g10
          replace hF := g10.fz
          refine l_step (y_moveV (et (gS rfl (gS rfl (gS rfl (gS rfl g0)))) rfl)) ?_
          refine l_eff (e_callV cal_70 (aC (et g0 rfl) aN) (yp_baseFee hF _ _ _ _ kS (hs.mono hL0))) (fun v11 w11 h11 => ?_)
          obtain ⟨H11, g11, n11, q11⟩ := h11
          have hlew11 := g11.le
          replace nb2 := g11.nb nb2 k2.lt
          replace nb5 := g11.nb nb5 k5.lt
          replace nb6 := g11.nb nb6 k6.lt
          replace n10 := n10.mono hlew11
          replace hL0 := hL0.trans hlew11
          replace k2 := k2.up g11.up
          replace k5 := k5.up g11.up
          replace k6 := k6.up g11.up
          replace kS := kS.up g11.up
          replace U := U.tr g11.up
          replace G := G.tr g11
          replace hF := g11.fz
          exact (by
            refine l_eff (e_callV cal_45 (aC (et (gS rfl (gS rfl g0)) rfl) (aC (et g0 rfl) aN)) (yp_less hF n10 n11 (bd_sm (bd_W (feeM_lt tok)) (by decide)) (bd_sm q11 (by decide)))) (fun v12 w12 h12 => ?_)
            obtain ⟨H12, g12, n12⟩ := h12
            have hlew12 := g12.le
            replace nb2 := g12.nb nb2 k2.lt
            replace nb5 := g12.nb nb5 k5.lt
            replace nb6 := g12.nb nb6 k6.lt
            replace n10 := n10.mono hlew12
            replace n11 := n11.mono hlew12
            replace hL0 := hL0.trans hlew12
            replace k2 := k2.up g12.up
            replace k5 := k5.up g12.up
            replace k6 := k6.up g12.up
            replace kS := kS.up g12.up
            replace U := U.tr g12.up
            replace G := G.tr g12
            replace hF := g12.fz
            have q12 := bd_sub' n12 (bd_W (feeM_lt tok))
            refine l_step (y_assignV (et g0 rfl)) ?_
            refine l_nil ?_
            refine hK9 _ _ ?_
            refine fg3 0 6 7 (gS rfl (gS rfl (gS rfl (gS rfl (gS rfl (gS rfl (gS rfl (gS rfl g0)))))))) (gS rfl (gS rfl (gS rfl (gS rfl (gS rfl (gS rfl g0)))))) g0 (fun g => ?_)
            refine c_seq (fun K13 hK13 => ?_)
            exact (by
              refine c_draw Up 8 [(0, true), (2, true), (4, true), (1, false), (3, false), (5, false), (6, false), (7, true)] (by kernel_rfl) (fun w14 hu => ⟨Up.refl _, ?_⟩)
              replace G := G.tr (Go.ofUp hF hu)
              replace hF := hF.up hu
              replace k2 := k2.up hu
              replace k5 := k5.up hu
              replace k6 := k6.up hu
              replace kS := kS.up hu
              replace U := U.tr hu
              have SU := Up.refl w14
              refine p_step (by exact rfl) (y_moveV (et (gS rfl (gS rfl g0)) rfl)) ?_
              refine p_step (by exact rfl) (y_slA000 Hvaa.underlying28 sz_5 (et (gS rfl (gS rfl g0)) rfl) ) ?_
              refine p_step (by exact rfl) (y_moveV (et (gS rfl (gS rfl g0)) rfl)) ?_
              refine p_eff (by exact rfl) (e_callV cal_70 (aC (et (gS rfl (gS rfl g0)) rfl) aN) (yp_baseFee hF _ _ _ _ kS (hs.mono hL0))) (fun v15 w15 h15 => ?_)
              obtain ⟨H15, g15, n15, q15⟩ := h15
              have hlew15 := g15.le
              replace nb2 := g15.nb nb2 k2.lt
              replace nb5 := g15.nb nb5 k5.lt
              replace nb6 := g15.nb nb6 k6.lt
              replace n10 := n10.mono hlew15
              replace n11 := n11.mono hlew15
              replace n12 := n12.mono hlew15
              replace hL0 := hL0.trans hlew15
              replace k2 := k2.up g15.up
              replace k5 := k5.up g15.up
              replace k6 := k6.up g15.up
              replace kS := kS.up g15.up
              replace U := U.tr g15.up
              replace G := G.tr g15
              replace hF := g15.fz
              refine ⟨.inr (SU.tr g15.up), ?_⟩
              replace SU := SU.tr g15.up
              exact (by
                refine p_eff (by exact rfl) (e_callV cal_33 (aC (et (gS rfl (gS rfl g0)) rfl) aN) (nat_fromRow hF (k6.row (RowIn.self _)) k6.lt (bd_W (feeT_lt tok)) (by decide))) (fun v16 w16 h16 => ?_)
                obtain ⟨H16, g16, n16⟩ := h16
                have hlew16 := g16.le
                replace nb2 := g16.nb nb2 k2.lt
                replace nb5 := g16.nb nb5 k5.lt
                replace nb6 := g16.nb nb6 k6.lt
                replace n10 := n10.mono hlew16
                replace n11 := n11.mono hlew16
                replace n12 := n12.mono hlew16
                replace n15 := n15.mono hlew16
                replace hL0 := hL0.trans hlew16
                replace k2 := k2.up g16.up
                replace k5 := k5.up g16.up
                replace k6 := k6.up g16.up
                replace kS := kS.up g16.up
                replace U := U.tr g16.up
                replace G := G.tr g16
                replace hF := g16.fz
                refine ⟨.inr (SU.tr g16.up), ?_⟩
                replace SU := SU.tr g16.up
                refine p_eff (by exact rfl) (e_callV cal_68 (aC (et g0 rfl) (aC (et (gS rfl (gS rfl g0)) rfl) aN)) (yp_min hF n16 n12 (bd_sm (bd_W (feeT_lt tok)) (by decide)) (bd_sm q12 (by decide)))) (fun v17 w17 h17 => ?_)
                obtain ⟨H17, g17, n17⟩ := h17
                have hlew17 := g17.le
                replace nb2 := g17.nb nb2 k2.lt
                replace nb5 := g17.nb nb5 k5.lt
                replace nb6 := g17.nb nb6 k6.lt
                replace n10 := n10.mono hlew17
                replace n11 := n11.mono hlew17
                replace n12 := n12.mono hlew17
                replace n15 := n15.mono hlew17
                replace n16 := n16.mono hlew17
                replace hL0 := hL0.trans hlew17
                replace k2 := k2.up g17.up
                replace k5 := k5.up g17.up
                replace k6 := k6.up g17.up
                replace kS := kS.up g17.up
                replace U := U.tr g17.up
                replace G := G.tr g17
                replace hF := g17.fz
                have q17 := bd_min' n17 q12
                refine ⟨.inr (SU.tr g17.up), ?_⟩
                replace SU := SU.tr g17.up
                exact (by
                  refine p_eff (by exact rfl) (e_callV cal_34 (aC (et (gS rfl (gS rfl g0)) rfl) (aC (et g0 rfl) aN)) (nat_add hF n15 n17 (bd_sm q15 (by decide)) (bd_sm q17 (by decide)))) (fun v18 w18 h18 => ?_)
                  obtain ⟨H18, g18, n18⟩ := h18
                  have hlew18 := g18.le
                  replace nb2 := g18.nb nb2 k2.lt
                  replace nb5 := g18.nb nb5 k5.lt
                  replace nb6 := g18.nb nb6 k6.lt
                  replace n10 := n10.mono hlew18
                  replace n11 := n11.mono hlew18
                  replace n12 := n12.mono hlew18
                  replace n15 := n15.mono hlew18
                  replace n16 := n16.mono hlew18
                  replace n17 := n17.mono hlew18
                  replace hL0 := hL0.trans hlew18
                  replace k2 := k2.up g18.up
                  replace k5 := k5.up g18.up
                  replace k6 := k6.up g18.up
                  replace kS := kS.up g18.up
                  replace U := U.tr g18.up
                  replace G := G.tr g18
                  replace hF := g18.fz
                  have q18 := bd_add (c := 33) q15 q17 (by decide)
                  refine ⟨.inr (SU.tr g18.up), ?_⟩
                  replace SU := SU.tr g18.up
                  refine p_step (by exact rfl) (y_assignV (et g0 rfl)) ?_
                  refine p_nil ?_
                  refine hK13 _ _ ?_
                  refine fg1 4 g0 (fun g => ?_)
                  refine c_ret ?_
                  repeat with_reducible refine then_ret ?_
                  refine ret1 rfl (res_tmp (et g0 rfl)) ?_
                  exact ⟨_, G, nvb (n := 33) n18 q18 (by decide) (by rfl)⟩))))))))
def vdA (s : YSt) (T : YTx) : YAcct := acctAt s.now.accts T.frm
def verdN (s : YSt) (T : YTx) : Nat :=
  if s.phase ≠ 0 then 1
  else if 4 ≤ s.applied then 2
  else if 1048576 < T.gas ∨ 1024 < T.data.length ∨ lsOk T.access = false then 3
  else if T.nonce ≠ (vdA s T).nonce then 4
  else if (vdA s T).nonce = 18446744073709551615 then 5
  else if 0 < (vdA s T).code.length then 6
  else if T.create = true ∧ 512 < T.data.length then 7
  else if T.gas < intrN T then 8
  else if s.env.gasLimit < T.gas then 9
  else if (vdA s T).bal < T.gas * feeM T + T.value then 10
  else if feeM T < feeT T then 11
  else if feeM T < s.env.baseFee then 12
  else 0
theorem yp_verdict {w : World} {H : Store} (hF : Fz w H) (bs : Nat) (cs : Array Value) (s : YSt) (vf : Value) (kS : Blk w bs cs) (hs : SC H cs s vf) {txc : List Value} {T : YTx} (ht : TC H txc.toArray T) (htl : txc.length = 174) :
    Ret 42 [.pointer (some ⟨bs, 0, none⟩), .agg txc.toArray] w (fun v w' => ∃ H', v = .int .u8 (verdN s T : Nat) ∧ Go No w H w' H') := by
  obtain ⟨aa, ac, wa, wc, sa, sc, vr, la, lc, ta, tc, ma, mc, ga, gc, oa, oc, ra, rc, vlim, vtx, vleft, vpr, vtot, rS, rOr, rMd, hAc, hWA, hWS, hRf, hTm, hMd, hGn, hSr, hRt, hLm, hTx, hLf, hPr, hTt⟩ := hs.ex
  have so := hs.ok
  have so1 := so.accts
  have so2 := so.warmA
  have so3 := so.warmS
  have so4 := so.temps
  have so5 := so.start
  have so6 := so.logs
  have so7 := so.made
  have so8 := so.gone
  have so9 := so.ret
  have eC := hs.env
  obtain ⟨eha, ehc, rE1, rE2, rE3, rE4, rE5, rE6, hHs⟩ := hs.env.ex
  have eo := hs.env.ok
  have eo1 := eo.hashes
  obtain ⟨tda, tdc, taa, tac, rT1, rT2, rT3, rT4, rT5, rT6, rT7, rT8, rT9, hTd, hTa⟩ := ht.ex
  have tok := ht.ok
  have to1 := tok.data
  have to2 := tok.access
  have lS := kS.lt
  refine enter (n := 122) Hvaa.func42 rfl rfl (Nat.le_of_ble_eq_true rfl) ?_
  have U := Up.refl w
  have G : Go (No) w H w H := Go.refl hF
  have hL0 : Le H H := Le.refl H
  refine c_seq (fun K1 hK1 => ?_)
  exact (by
    refine c_region ?_
    refine l_eff (e_boxV (et (gS rfl g0) rfl)) (fun v2 w2 h2 => ?_)
    obtain ⟨b2, rfl, n2⟩ := h2
    have f2 : w.heap.size ≤ b2 := Nat.le_trans U.size n2.fresh
    have nb2 := hF.nb n2.fresh
    replace G := G.tr (Go.ofUp hF n2.up)
    replace hF := hF.up n2.up
    replace kS := kS.up n2.up
    replace U := U.tr n2.up
    have k2 := n2.blk
    replace k2 : Blk w2 b2 txc.toArray := k2
    refine l_step y_assignC ?_
    refine l_nil ?_
    refine hK1 _ _ ?_
    refine fg2 0 3 (gS rfl (gS rfl g0)) (gS rfl g0) (fun g => ?_)
    refine c_seq (fun K3 hK3 => ?_)
    exact (by
      refine fgv2 0 3 (gS rfl g0) g0 (fun g z0 z3 e0 e3 => ?_)
      refine c_drawJ (fun s_ w_ => ∃ (g : Nat → Value) (b6 : Nat) (ca4 : List Value), s_ = (upd (upd (upd g 0 z0) 3 z3) 5 (.pointer (some ⟨b6, 0, none⟩))) ∧ Ch (fun _ => False) w2 w_ ∧ w2.heap.size ≤ b6 ∧ Blk w_ b6 (ca4.toArray) ∧ (PA H ca4 (vdA s T))) Up 7 (.pure 0 (.pure 1 (.pure 2 (.pure 3 (.pure 4 (.two 5 (.eff 6 (.eff 7 .fin)) 6 (.eff 5 (.eff 7 .fin)))))))) (by kernel_rfl) (fun w7 hu => ⟨Up.refl _, ?_⟩) ?_
      · skip
        subst e0 e3
        replace G := G.tr (Go.ofUp hF hu)
        replace hF := hF.up hu
        replace k2 := k2.up hu
        replace kS := kS.up hu
        replace U := U.tr hu
        have SU := Up.refl w7
        have V5 : Ch (fun _ => False) w2 w7 := hu
        refine t_step (by exact rfl) (y_moveV (et (gS rfl g0) rfl)) ?_
        refine t_step (by exact rfl) (y_nil (et g0 rfl)) ?_
        refine t_step (by exact rfl) (y_fld fld_102_0 (et g0 rfl)) ?_
        refine t_step (by exact rfl) (y_fld fld_41_0 (et (gS rfl (gS rfl (gS rfl g0))) rfl)) ?_
        refine t_step (by exact rfl) (y_loadR agg_25 sz_25 (et g0 rfl) (by rw [length_bL, length_be]) (atSR (k2.row rT1))) ?_
        refine t_two ?_ ?_
        · skip
          refine t_eff (by exact rfl) (e_callV cal_43 (aC (et (gS rfl (gS rfl g0)) rfl) (aC (et g0 rfl) aN)) (yp_account _ _ _ _ _ _ _ _ _ hF kS (rS 0 _ rfl) (hAc.mono hL0) tok.frm (by omega))) (fun v8 w8 h8 => ?_)
          obtain ⟨c8, rfl, p8, u8⟩ := h8
          replace G := G.tr (Go.ofUp hF u8)
          replace hF := hF.up u8
          replace k2 := k2.up u8
          replace kS := kS.up u8
          replace U := U.tr u8
          replace V5 := V5.tr u8
          replace p8 : PA _ _ _ := ⟨p8⟩
          refine ⟨.inr (SU.tr u8), ?_⟩
          replace SU := SU.tr u8
          refine t_one ?_
          refine t_eff (by exact rfl) (e_alloc zr_107) (fun v9 w9 h9 => ?_)
          obtain ⟨b9, rfl, n9⟩ := h9
          have d2_9 : b2 < b9 := Nat.lt_of_lt_of_le k2.lt n9.fresh
          have f9 : w.heap.size ≤ b9 := Nat.le_trans U.size n9.fresh
          have nb9 := hF.nb n9.fresh
          have fS9 := Nat.le_trans SU.size n9.fresh
          have fV5_9 := Nat.le_trans V5.size n9.fresh
          replace G := G.tr (Go.ofUp hF n9.up)
          replace hF := hF.up n9.up
          replace k2 := k2.up n9.up
          replace kS := kS.up n9.up
          replace U := U.tr n9.up
          replace V5 := V5.tr n9.up
          have k9 := n9.blk
          refine ⟨.inr (SU.tr n9.up), ?_⟩
          replace SU := SU.tr n9.up
          refine t_one ?_
          refine t_effN (by exact rfl) (e_store sz_107 (et g0 rfl) (cellsV (et (gS rfl g0) rfl) rfl) (acct_len p8.p) (by exact acct_one p8.p) k9 (by exact Nat.le_of_ble_eq_true rfl)) (fun v10 w10 h10 => ?_)
          obtain ⟨rfl, x10⟩ := h10
          replace k2 := k2.ch x10.ch (by omega)
          replace kS := kS.ch x10.ch (by first | omega | (omega))
          replace k9 := x10.blk.full (by rw [acct_len p8.p]; rfl)
          replace G := G.wr x10 (by first | exact .inr f9 | omega | (simp; omega)) nb9
          replace hF := G.fz
          replace U := U.st x10 f9
          replace V5 := V5.st x10 (by omega)
          refine ⟨.inl rfl, ?_⟩
          refine tl3 0 3 5 (gS rfl (gS rfl (gS rfl (gS rfl (gS rfl (gS rfl (gS rfl (gS rfl g0)))))))) (gS rfl (gS rfl (gS rfl (gS rfl (gS rfl (gS rfl (gS rfl g0))))))) g0 (fun g => ?_)
          exact ⟨g, _, _, rfl, V5, Nat.le_trans hu.size fS9, k9, p8⟩
        · skip
          refine t_eff (by exact rfl) (e_alloc zr_107) (fun v11 w11 h11 => ?_)
          obtain ⟨b11, rfl, n11⟩ := h11
          have d2_11 : b2 < b11 := Nat.lt_of_lt_of_le k2.lt n11.fresh
          have f11 : w.heap.size ≤ b11 := Nat.le_trans U.size n11.fresh
          have nb11 := hF.nb n11.fresh
          have fS11 := Nat.le_trans SU.size n11.fresh
          have fV5_11 := Nat.le_trans V5.size n11.fresh
          replace G := G.tr (Go.ofUp hF n11.up)
          replace hF := hF.up n11.up
          replace k2 := k2.up n11.up
          replace kS := kS.up n11.up
          replace U := U.tr n11.up
          replace V5 := V5.tr n11.up
          have k11 := n11.blk
          refine ⟨.inr (SU.tr n11.up), ?_⟩
          replace SU := SU.tr n11.up
          refine t_one ?_
          refine t_eff (by exact rfl) (e_callV cal_43 (aC (et (gS rfl (gS rfl (gS rfl g0))) rfl) (aC (et (gS rfl g0) rfl) aN)) (yp_account _ _ _ _ _ _ _ _ _ hF kS (rS 0 _ rfl) (hAc.mono hL0) tok.frm (by omega))) (fun v12 w12 h12 => ?_)
          obtain ⟨c12, rfl, p12, u12⟩ := h12
          replace G := G.tr (Go.ofUp hF u12)
          replace hF := hF.up u12
          replace k2 := k2.up u12
          replace k11 := k11.up u12
          replace kS := kS.up u12
          replace U := U.tr u12
          replace V5 := V5.tr u12
          replace p12 : PA _ _ _ := ⟨p12⟩
          refine ⟨.inr (SU.tr u12), ?_⟩
          replace SU := SU.tr u12
          refine t_one ?_
          refine t_effN (by exact rfl) (e_store sz_107 (et (gS rfl g0) rfl) (cellsV (et g0 rfl) rfl) (acct_len p12.p) (by exact acct_one p12.p) k11 (by exact Nat.le_of_ble_eq_true rfl)) (fun v13 w13 h13 => ?_)
          obtain ⟨rfl, x13⟩ := h13
          replace k2 := k2.ch x13.ch (by omega)
          replace kS := kS.ch x13.ch (by first | omega | (omega))
          replace k11 := x13.blk.full (by rw [acct_len p12.p]; rfl)
          replace G := G.wr x13 (by first | exact .inr f11 | omega | (simp; omega)) nb11
          replace hF := G.fz
          replace U := U.st x13 f11
          replace V5 := V5.st x13 (by omega)
          refine ⟨.inl rfl, ?_⟩
          refine tl3 0 3 5 (gS rfl (gS rfl (gS rfl (gS rfl (gS rfl (gS rfl (gS rfl (gS rfl g0)))))))) (gS rfl (gS rfl (gS rfl (gS rfl (gS rfl (gS rfl (gS rfl g0))))))) (gS rfl g0) (fun g => ?_)
          exact ⟨g, _, _, rfl, V5, Nat.le_trans hu.size fS11, k11, p12⟩
      intro s_ w14 hJ
      obtain ⟨g, b6, ca4, rfl, V5, fn6, kn6, pa4⟩ := hJ
      subst e0 e3
      have d2_6 : b2 < b6 := Nat.lt_of_lt_of_le k2.lt fn6
      have f6 : w.heap.size ≤ b6 := Nat.le_trans U.size fn6
      have nb6 := hF.nb fn6
      replace G := G.tr (Go.ofUp hF V5)
      replace hF := hF.up V5
      replace k2 := k2.up V5
      replace kS := kS.up V5
      replace U := U.tr V5
      have k6 := kn6
      refine hK3 _ _ ?_
      refine c_seq (fun K15 hK15 => ?_)
      exact (by
        refine c_region ?_
        refine l_step (y_fld fld_41_4 (et (gS rfl g0) rfl)) ?_
        refine l_step (y_load1 one_26 (et g0 rfl) (at1 (k2.cell (rT3 2 _ rfl)))) ?_
        refine l_eff (e_callV cal_32 (aC (et g0 rfl) aN) (yp_num hF (tok.gas))) (fun v16 w16 h16 => ?_)
        obtain ⟨H16, g16, n16⟩ := h16
        have hlew16 := g16.le
        replace nb2 := g16.nb nb2 k2.lt
        replace nb6 := g16.nb nb6 k6.lt
        replace pa4 := pa4.mono hlew16
        replace hL0 := hL0.trans hlew16
        replace k2 := k2.up g16.up
        replace k6 := k6.up g16.up
        replace kS := kS.up g16.up
        replace U := U.tr g16.up
        replace G := G.tr g16
        replace hF := g16.fz
        have q16 := bd_64 (tok.gas)
        refine l_step (y_assignV (et g0 rfl)) ?_
        refine l_nil ?_
        refine hK15 _ _ ?_
        refine fg4 0 3 5 6 (gS rfl (gS rfl (gS rfl (gS rfl (gS rfl (gS rfl g0)))))) (gS rfl (gS rfl (gS rfl (gS rfl (gS rfl g0))))) (gS rfl (gS rfl (gS rfl (gS rfl g0)))) g0 (fun g => ?_)
        refine c_seq (fun K17 hK17 => ?_)
        exact (by
          refine c_region ?_
          refine l_eff (e_callV cal_120 (aC (et (gS rfl (gS rfl g0)) rfl) aN) (obs_fees hF _ _ _ k2 (ht.mono hL0))) (fun v18 w18 h18 => ?_)
          obtain ⟨rfl, u18⟩ := h18
          replace G := G.tr (Go.ofUp hF u18)
          replace hF := hF.up u18
          replace k2 := k2.up u18
          replace k6 := k6.up u18
          replace kS := kS.up u18
          replace U := U.tr u18
          refine l_step (y_moveV (et g0 rfl)) ?_
          refine l_step (y_ext (et g0 rfl) rfl) ?_
          refine l_step (y_ext (et (gS rfl g0) rfl) rfl) ?_
          refine l_eff (e_alloc zr_28) (fun v19 w19 h19 => ?_)
          obtain ⟨b19, rfl, n19⟩ := h19
          have d2_19 : b2 < b19 := Nat.lt_of_lt_of_le k2.lt n19.fresh
          have d6_19 : b6 < b19 := Nat.lt_of_lt_of_le k6.lt n19.fresh
          have f19 : w.heap.size ≤ b19 := Nat.le_trans U.size n19.fresh
          have nb19 := hF.nb n19.fresh
          replace G := G.tr (Go.ofUp hF n19.up)
          replace hF := hF.up n19.up
          replace k2 := k2.up n19.up
          replace k6 := k6.up n19.up
          replace kS := kS.up n19.up
          replace U := U.tr n19.up
          have k19 := n19.blk
          refine l_eff (e_alloc zr_28) (fun v20 w20 h20 => ?_)
          obtain ⟨b20, rfl, n20⟩ := h20
          have d2_20 : b2 < b20 := Nat.lt_of_lt_of_le k2.lt n20.fresh
          have d6_20 : b6 < b20 := Nat.lt_of_lt_of_le k6.lt n20.fresh
          have d19_20 : b19 < b20 := Nat.lt_of_lt_of_le k19.lt n20.fresh
          have f20 : w.heap.size ≤ b20 := Nat.le_trans U.size n20.fresh
          have nb20 := hF.nb n20.fresh
          replace G := G.tr (Go.ofUp hF n20.up)
          replace hF := hF.up n20.up
          replace k2 := k2.up n20.up
          replace k6 := k6.up n20.up
          replace k19 := k19.up n20.up
          replace kS := kS.up n20.up
          replace U := U.tr n20.up
          have k20 := n20.blk
          exact (by
            refine l_effN (e_store sz_28 (et (gS rfl g0) rfl) (cellsV (et (gS rfl (gS rfl (gS rfl g0))) rfl) rfl) (by rw [length_bL, length_be]) (by exact one_bL _) k19 (by exact Nat.le_of_ble_eq_true rfl)) (fun v21 w21 h21 => ?_)
            obtain ⟨rfl, x21⟩ := h21
            replace k2 := k2.ch x21.ch (by omega)
            replace k6 := k6.ch x21.ch (by omega)
            replace k20 := k20.ch x21.ch (by omega)
            replace kS := kS.ch x21.ch (by first | omega | (omega))
            replace k19 := x21.blk.full (by rw [length_bL, length_be]; rfl)
            replace G := G.wr x21 (by first | exact .inr f19 | omega | (simp; omega)) nb19
            replace hF := G.fz
            replace U := U.st x21 f19
            refine l_effN (e_store sz_28 (et g0 rfl) (cellsV (et (gS rfl (gS rfl g0)) rfl) rfl) (by rw [length_bL, length_be]) (by exact one_bL _) k20 (by exact Nat.le_of_ble_eq_true rfl)) (fun v22 w22 h22 => ?_)
            obtain ⟨rfl, x22⟩ := h22
            replace k2 := k2.ch x22.ch (by omega)
            replace k6 := k6.ch x22.ch (by omega)
            replace k19 := k19.ch x22.ch (by omega)
            replace kS := kS.ch x22.ch (by first | omega | (omega))
            replace k20 := x22.blk.full (by rw [length_bL, length_be]; rfl)
            replace G := G.wr x22 (by first | exact .inr f20 | omega | (simp; omega)) nb20
            replace hF := G.fz
            replace U := U.st x22 f20
            refine l_nil ?_
            refine hK17 _ _ ?_
            refine fg6 0 3 5 6 7 8 (gS rfl (gS rfl (gS rfl (gS rfl (gS rfl (gS rfl (gS rfl (gS rfl (gS rfl g0))))))))) (gS rfl (gS rfl (gS rfl (gS rfl (gS rfl (gS rfl (gS rfl (gS rfl g0)))))))) (gS rfl (gS rfl (gS rfl (gS rfl (gS rfl (gS rfl (gS rfl g0))))))) (gS rfl (gS rfl (gS rfl (gS rfl (gS rfl (gS rfl g0)))))) (gS rfl g0) g0 (fun g => ?_)
            refine c_seq (fun K23 hK23 => ?_)
            exact (by
              refine c_region ?_
              refine l_step (y_slA000 Hvaa.underlying28 sz_5 (et (gS rfl g0) rfl) ) ?_
              refine l_eff (e_callV cal_33 (aC (et g0 rfl) aN) (nat_fromRow hF (k19.row (RowIn.self _)) k19.lt (bd_W (feeM_lt tok)) (by decide))) (fun v24 w24 h24 => ?_)
              obtain ⟨H24, g24, n24⟩ := h24
              have hlew24 := g24.le
              replace nb2 := g24.nb nb2 k2.lt
              replace nb6 := g24.nb nb6 k6.lt
              replace nb19 := g24.nb nb19 k19.lt
              replace nb20 := g24.nb nb20 k20.lt
              replace pa4 := pa4.mono hlew24
              replace n16 := n16.mono hlew24
              replace hL0 := hL0.trans hlew24
              replace k2 := k2.up g24.up
              replace k6 := k6.up g24.up
              replace k19 := k19.up g24.up
              replace k20 := k20.up g24.up
              replace kS := kS.up g24.up
              replace U := U.tr g24.up
              replace G := G.tr g24
              replace hF := g24.fz
              refine l_step (y_assignV (et g0 rfl)) ?_
              refine l_nil ?_
              refine hK23 _ _ ?_
              refine fg6 0 3 5 6 8 9 (gS rfl (gS rfl (gS rfl (gS rfl (gS rfl (gS rfl (gS rfl (gS rfl g0)))))))) (gS rfl (gS rfl (gS rfl (gS rfl (gS rfl (gS rfl (gS rfl g0))))))) (gS rfl (gS rfl (gS rfl (gS rfl (gS rfl (gS rfl g0)))))) (gS rfl (gS rfl (gS rfl (gS rfl (gS rfl g0))))) (gS rfl (gS rfl (gS rfl g0))) g0 (fun g => ?_)
              refine c_seq (fun K25 hK25 => ?_)
              exact (by
                refine c_draw Up 8 [(0, true), (1, true), (3, true), (4, true), (2, false), (5, false), (6, false), (7, true)] (by kernel_rfl) (fun w26 hu => ⟨Up.refl _, ?_⟩)
                replace G := G.tr (Go.ofUp hF hu)
                replace hF := hF.up hu
                replace k2 := k2.up hu
                replace k6 := k6.up hu
                replace k19 := k19.up hu
                replace k20 := k20.up hu
                replace kS := kS.up hu
                replace U := U.tr hu
                have SU := Up.refl w26
                refine p_step (by exact rfl) (y_moveV (et (gS rfl (gS rfl g0)) rfl)) ?_
                refine p_step (by exact rfl) (y_moveV (et (gS rfl g0) rfl)) ?_
                refine p_step (by exact rfl) (y_fld fld_41_6 (et (gS rfl (gS rfl (gS rfl (gS rfl (gS rfl (gS rfl g0)))))) rfl)) ?_
                refine p_step (by exact rfl) (y_slA000 Hvaa.underlying28 sz_5 (et g0 rfl) ) ?_
                refine p_eff (by exact rfl) (e_callV cal_50 (aC (et (gS rfl (gS rfl (gS rfl g0))) rfl) (aC (et (gS rfl (gS rfl g0)) rfl) aN)) (nat_mul hF n16 n24 (bd_sm q16 (by decide)) (bd_sm (bd_W (feeM_lt tok)) (by decide)))) (fun v27 w27 h27 => ?_)
                obtain ⟨H27, g27, n27⟩ := h27
                have hlew27 := g27.le
                replace nb2 := g27.nb nb2 k2.lt
                replace nb6 := g27.nb nb6 k6.lt
                replace nb19 := g27.nb nb19 k19.lt
                replace nb20 := g27.nb nb20 k20.lt
                replace pa4 := pa4.mono hlew27
                replace n16 := n16.mono hlew27
                replace n24 := n24.mono hlew27
                replace hL0 := hL0.trans hlew27
                replace k2 := k2.up g27.up
                replace k6 := k6.up g27.up
                replace k19 := k19.up g27.up
                replace k20 := k20.up g27.up
                replace kS := kS.up g27.up
                replace U := U.tr g27.up
                replace G := G.tr g27
                replace hF := g27.fz
                have q27 := bd_mul (c := 40) q16 (bd_W (feeM_lt tok)) (by decide)
                refine ⟨.inr (SU.tr g27.up), ?_⟩
                replace SU := SU.tr g27.up
                exact (by
                  refine p_eff (by exact rfl) (e_callV cal_33 (aC (et (gS rfl g0) rfl) aN) (nat_fromRow hF (k2.row rT5) k2.lt (bd_W tok.value) (by decide))) (fun v28 w28 h28 => ?_)
                  obtain ⟨H28, g28, n28⟩ := h28
                  have hlew28 := g28.le
                  replace nb2 := g28.nb nb2 k2.lt
                  replace nb6 := g28.nb nb6 k6.lt
                  replace nb19 := g28.nb nb19 k19.lt
                  replace nb20 := g28.nb nb20 k20.lt
                  replace pa4 := pa4.mono hlew28
                  replace n16 := n16.mono hlew28
                  replace n24 := n24.mono hlew28
                  replace n27 := n27.mono hlew28
                  replace hL0 := hL0.trans hlew28
                  replace k2 := k2.up g28.up
                  replace k6 := k6.up g28.up
                  replace k19 := k19.up g28.up
                  replace k20 := k20.up g28.up
                  replace kS := kS.up g28.up
                  replace U := U.tr g28.up
                  replace G := G.tr g28
                  replace hF := g28.fz
                  refine ⟨.inr (SU.tr g28.up), ?_⟩
                  replace SU := SU.tr g28.up
                  refine p_eff (by exact rfl) (e_callV cal_34 (aC (et (gS rfl g0) rfl) (aC (et g0 rfl) aN)) (nat_add hF n27 n28 (bd_sm q27 (by decide)) (bd_sm (bd_W tok.value) (by decide)))) (fun v29 w29 h29 => ?_)
                  obtain ⟨H29, g29, n29⟩ := h29
                  have hlew29 := g29.le
                  replace nb2 := g29.nb nb2 k2.lt
                  replace nb6 := g29.nb nb6 k6.lt
                  replace nb19 := g29.nb nb19 k19.lt
                  replace nb20 := g29.nb nb20 k20.lt
                  replace pa4 := pa4.mono hlew29
                  replace n16 := n16.mono hlew29
                  replace n24 := n24.mono hlew29
                  replace n27 := n27.mono hlew29
                  replace n28 := n28.mono hlew29
                  replace hL0 := hL0.trans hlew29
                  replace k2 := k2.up g29.up
                  replace k6 := k6.up g29.up
                  replace k19 := k19.up g29.up
                  replace k20 := k20.up g29.up
                  replace kS := kS.up g29.up
                  replace U := U.tr g29.up
                  replace G := G.tr g29
                  replace hF := g29.fz
                  have q29 := bd_add (c := 41) q27 (bd_W tok.value) (by decide)
                  refine ⟨.inr (SU.tr g29.up), ?_⟩
                  replace SU := SU.tr g29.up
                  exact (by
                    refine p_step (by exact rfl) (y_assignV (et g0 rfl)) ?_
                    refine p_nil ?_
                    refine hK25 _ _ ?_
                    refine fg7 0 3 5 6 8 9 10 (gS rfl (gS rfl (gS rfl (gS rfl (gS rfl (gS rfl (gS rfl (gS rfl (gS rfl (gS rfl (gS rfl (gS rfl (gS rfl g0))))))))))))) (gS rfl (gS rfl (gS rfl (gS rfl (gS rfl (gS rfl (gS rfl (gS rfl (gS rfl (gS rfl (gS rfl (gS rfl g0)))))))))))) (gS rfl (gS rfl (gS rfl (gS rfl (gS rfl (gS rfl (gS rfl (gS rfl (gS rfl (gS rfl (gS rfl g0))))))))))) (gS rfl (gS rfl (gS rfl (gS rfl (gS rfl (gS rfl (gS rfl (gS rfl (gS rfl (gS rfl g0)))))))))) (gS rfl (gS rfl (gS rfl (gS rfl (gS rfl (gS rfl (gS rfl (gS rfl (gS rfl g0))))))))) (gS rfl (gS rfl (gS rfl (gS rfl (gS rfl (gS rfl (gS rfl (gS rfl g0)))))))) g0 (fun g => ?_)
                    refine c_seq (fun K30 hK30 => ?_)
                    refine c_block (fun Q31 hQ31 => ?_)
                    refine c_seq (fun K32 hK32 => ?_)
                    exact (by
                      refine c_region ?_
                      refine l_step (y_moveV (et (gS rfl (gS rfl (gS rfl (gS rfl (gS rfl (gS rfl g0)))))) rfl)) ?_
                      refine l_step (y_nil (et g0 rfl)) ?_
                      refine l_step (y_fld fld_102_4 (et g0 rfl)) ?_
                      refine l_step (y_load1 one_5 (et g0 rfl) (at1 (kS.cell (rS 11 _ rfl)))) ?_
                      refine l_step (y_neq (et g0 rfl) rfl) ?_
                      refine l_step (y_assignV (et g0 rfl)) ?_
                      refine l_nil ?_
                      refine hK32 _ _ ?_
                      refine fg8 0 3 5 6 8 9 10 33 (gS rfl (gS rfl (gS rfl (gS rfl (gS rfl (gS rfl (gS rfl (gS rfl (gS rfl (gS rfl (gS rfl (gS rfl g0)))))))))))) (gS rfl (gS rfl (gS rfl (gS rfl (gS rfl (gS rfl (gS rfl (gS rfl (gS rfl (gS rfl (gS rfl g0))))))))))) (gS rfl (gS rfl (gS rfl (gS rfl (gS rfl (gS rfl (gS rfl (gS rfl (gS rfl (gS rfl g0)))))))))) (gS rfl (gS rfl (gS rfl (gS rfl (gS rfl (gS rfl (gS rfl (gS rfl (gS rfl g0))))))))) (gS rfl (gS rfl (gS rfl (gS rfl (gS rfl (gS rfl (gS rfl (gS rfl g0)))))))) (gS rfl (gS rfl (gS rfl (gS rfl (gS rfl (gS rfl (gS rfl g0))))))) (gS rfl (gS rfl (gS rfl (gS rfl (gS rfl (gS rfl g0)))))) g0 (fun g => ?_)
                      refine c_condV (i := 33) g0 rfl (fun cB1 => ?_) (fun cB1 => ?_)
                      · skip
                        
                        have e1 : s.phase ≠ 0 := by have h9 := of_decide_eq_true cB1; omega
                        refine c_seq (fun K34 hK34 => ?_)
                        exact (by
                          refine c_region ?_
                          refine l_step y_assignC ?_
                          refine l_nil ?_
                          refine hK34 _ _ ?_
                          refine fg1 4 g0 (fun g => ?_)
                          refine c_ret ?_
                          refine hQ31 _ _ _ (in_ret ?_)
                          repeat with_reducible refine then_ret ?_
                          refine ret1 rfl (res_tmp (et g0 rfl)) ?_
                          exact ⟨_, by rw [verdN, if_pos e1]; rfl, G⟩)
                      · skip
                        
                        have e1 : ¬ (s.phase ≠ 0) := by have h9 := of_decide_eq_false cB1; omega
                        refine c_seq (fun K35 hK35 => ?_)
                        exact (by
                          refine c_region ?_
                          refine l_step (y_moveV (et (gS rfl (gS rfl (gS rfl (gS rfl (gS rfl (gS rfl (gS rfl (gS rfl g0)))))))) rfl)) ?_
                          refine l_step (y_nil (et g0 rfl)) ?_
                          refine l_step (y_fld fld_102_6 (et g0 rfl)) ?_
                          refine l_step (y_load1 one_5 (et g0 rfl) (at1 (kS.cell (rS 13 _ rfl)))) ?_
                          refine l_step (y_geq (et g0 rfl) rfl) ?_
                          refine l_step (y_assignV (et g0 rfl)) ?_
                          refine l_nil ?_
                          refine hK35 _ _ ?_
                          refine fg8 0 3 5 6 8 9 10 39 (gS rfl (gS rfl (gS rfl (gS rfl (gS rfl (gS rfl (gS rfl (gS rfl (gS rfl (gS rfl (gS rfl (gS rfl (gS rfl (gS rfl g0)))))))))))))) (gS rfl (gS rfl (gS rfl (gS rfl (gS rfl (gS rfl (gS rfl (gS rfl (gS rfl (gS rfl (gS rfl (gS rfl (gS rfl g0))))))))))))) (gS rfl (gS rfl (gS rfl (gS rfl (gS rfl (gS rfl (gS rfl (gS rfl (gS rfl (gS rfl (gS rfl (gS rfl g0)))))))))))) (gS rfl (gS rfl (gS rfl (gS rfl (gS rfl (gS rfl (gS rfl (gS rfl (gS rfl (gS rfl (gS rfl g0))))))))))) (gS rfl (gS rfl (gS rfl (gS rfl (gS rfl (gS rfl (gS rfl (gS rfl (gS rfl (gS rfl g0)))))))))) (gS rfl (gS rfl (gS rfl (gS rfl (gS rfl (gS rfl (gS rfl (gS rfl (gS rfl g0))))))))) (gS rfl (gS rfl (gS rfl (gS rfl (gS rfl (gS rfl (gS rfl (gS rfl g0)))))))) g0 (fun g => ?_)
                          refine c_condV (i := 39) g0 rfl (fun cB2 => ?_) (fun cB2 => ?_)
                          · skip
                            
                            have e2 : 4 ≤ s.applied := by have h9 := of_decide_eq_true cB2; omega
                            refine c_seq (fun K37 hK37 => ?_)
                            exact (by
                              refine c_region ?_
                              refine l_step y_assignC ?_
                              refine l_nil ?_
                              refine hK37 _ _ ?_
                              refine fg1 4 g0 (fun g => ?_)
                              refine c_ret ?_
                              refine hQ31 _ _ _ (in_ret ?_)
                              repeat with_reducible refine then_ret ?_
                              refine ret1 rfl (res_tmp (et g0 rfl)) ?_
                              exact ⟨_, by rw [verdN, if_neg e1, if_pos e2]; rfl, G⟩)
                          · skip
                            
                            have e2 : ¬ (4 ≤ s.applied) := by have h9 := of_decide_eq_false cB2; omega
                            refine c_seq (fun K38 hK38 => ?_)
                            exact (by
                              refine c_region ?_
                              refine l_step (y_moveV (et (gS rfl (gS rfl (gS rfl (gS rfl (gS rfl g0))))) rfl)) ?_
                              refine l_eff (e_callV cal_32 (aC (v := .int .u64 ((1048576 : Nat) : Int)) rfl aN) (yp_num (x := 1048576) hF (by decide))) (fun v39 w39 h39 => ?_)
                              obtain ⟨H39, g39, n39⟩ := h39
                              have hlew39 := g39.le
                              replace nb2 := g39.nb nb2 k2.lt
                              replace nb6 := g39.nb nb6 k6.lt
                              replace nb19 := g39.nb nb19 k19.lt
                              replace nb20 := g39.nb nb20 k20.lt
                              replace pa4 := pa4.mono hlew39
                              replace n16 := n16.mono hlew39
                              replace n24 := n24.mono hlew39
                              replace n27 := n27.mono hlew39
                              replace n28 := n28.mono hlew39
                              replace n29 := n29.mono hlew39
                              replace hL0 := hL0.trans hlew39
                              replace k2 := k2.up g39.up
                              replace k6 := k6.up g39.up
                              replace k19 := k19.up g39.up
                              replace k20 := k20.up g39.up
                              replace kS := kS.up g39.up
                              replace U := U.tr g39.up
                              replace G := G.tr g39
                              replace hF := g39.fz
                              have q39 : 1048576 < 256 ^ 3 := by decide
                              refine l_eff (e_callV cal_121 (aC (et (gS rfl g0) rfl) (aC (et g0 rfl) aN)) (nat_cmp hF n16 n39 (bd_sm q16 (by decide)) (bd_sm q39 (by decide)))) (fun v40 w40 h40 => ?_)
                              obtain ⟨rfl, u40⟩ := h40
                              replace G := G.tr (Go.ofUp hF u40)
                              replace hF := hF.up u40
                              replace k2 := k2.up u40
                              replace k6 := k6.up u40
                              replace k19 := k19.up u40
                              replace k20 := k20.up u40
                              replace kS := kS.up u40
                              replace U := U.tr u40
                              exact (by
                                refine l_step ((y_gtr (et g0 rfl) rfl).to (congrArg Value.bool (cmp_gt0 _ _))) ?_
                                refine l_step (y_moveV (et g0 rfl)) ?_
                                refine gsplitL (i := 50) g0 (fun q41 => ?_) (fun q41 => ?_)
                                · skip
                                  have g1 : 1048576 < T.gas := of_decide_eq_true q41
                                  refine l_gskip (j := 4) (t := 50) (by exact rfl) (by exact rfl) (et g0 rfl) (by decide) (by decide) ?_
                                  refine l_gskip (j := 4) (t := 50) (by exact rfl) (by exact rfl) (et (gS rfl g0) rfl) (by decide) (by decide) ?_
                                  refine l_gskip (j := 4) (t := 50) (by exact rfl) (by exact rfl) (et (gS rfl (gS rfl g0)) rfl) (by decide) (by decide) ?_
                                  refine l_gskip (j := 4) (t := 50) (by exact rfl) (by exact rfl) (et (gS rfl (gS rfl (gS rfl g0))) rfl) (by decide) (by decide) ?_
                                  refine l_step (y_pickT (et (gS rfl (gS rfl (gS rfl (gS rfl g0)))) rfl) rfl) ?_
                                  refine l_step (y_moveV (et g0 rfl)) ?_
                                  refine l_gskip (j := 10) (t := 56) (by exact rfl) (by exact rfl) (et g0 rfl) (by decide) (by decide) ?_
                                  refine l_gskip (j := 10) (t := 56) (by exact rfl) (by exact rfl) (et (gS rfl g0) rfl) (by decide) (by decide) ?_
                                  refine l_step (y_pickT (et (gS rfl (gS rfl g0)) rfl) rfl) ?_
                                  refine l_step (y_assignV (et g0 rfl)) ?_
                                  refine l_nil ?_
                                  refine hK38 _ _ ?_
                                  refine fg8 0 3 5 6 8 9 10 45 (gS rfl (gS rfl (gS rfl (gS rfl (gS rfl (gS rfl (gS rfl (gS rfl (gS rfl (gS rfl (gS rfl (gS rfl (gS rfl (gS rfl (gS rfl (gS rfl (gS rfl (gS rfl (gS rfl (gS rfl (gS rfl (gS rfl (gS rfl (gS rfl g0)))))))))))))))))))))))) (gS rfl (gS rfl (gS rfl (gS rfl (gS rfl (gS rfl (gS rfl (gS rfl (gS rfl (gS rfl (gS rfl (gS rfl (gS rfl (gS rfl (gS rfl (gS rfl (gS rfl (gS rfl (gS rfl (gS rfl (gS rfl (gS rfl (gS rfl g0))))))))))))))))))))))) (gS rfl (gS rfl (gS rfl (gS rfl (gS rfl (gS rfl (gS rfl (gS rfl (gS rfl (gS rfl (gS rfl (gS rfl (gS rfl (gS rfl (gS rfl (gS rfl (gS rfl (gS rfl (gS rfl (gS rfl (gS rfl (gS rfl g0)))))))))))))))))))))) (gS rfl (gS rfl (gS rfl (gS rfl (gS rfl (gS rfl (gS rfl (gS rfl (gS rfl (gS rfl (gS rfl (gS rfl (gS rfl (gS rfl (gS rfl (gS rfl (gS rfl (gS rfl (gS rfl (gS rfl (gS rfl g0))))))))))))))))))))) (gS rfl (gS rfl (gS rfl (gS rfl (gS rfl (gS rfl (gS rfl (gS rfl (gS rfl (gS rfl (gS rfl (gS rfl (gS rfl (gS rfl (gS rfl (gS rfl (gS rfl (gS rfl (gS rfl (gS rfl g0)))))))))))))))))))) (gS rfl (gS rfl (gS rfl (gS rfl (gS rfl (gS rfl (gS rfl (gS rfl (gS rfl (gS rfl (gS rfl (gS rfl (gS rfl (gS rfl (gS rfl (gS rfl (gS rfl (gS rfl (gS rfl g0))))))))))))))))))) (gS rfl (gS rfl (gS rfl (gS rfl (gS rfl (gS rfl (gS rfl (gS rfl (gS rfl (gS rfl (gS rfl (gS rfl (gS rfl (gS rfl (gS rfl (gS rfl (gS rfl (gS rfl g0)))))))))))))))))) g0 (fun g => ?_)
                                  have e3 : 1048576 < T.gas ∨ 1024 < T.data.length ∨ lsOk T.access = false := by first | exact .inl g1 | exact .inr (.inl g2)
                                  refine c_true (et g0 rfl) rfl ?_
                                  refine c_seq (fun K43 hK43 => ?_)
                                  exact (by
                                    refine c_region ?_
                                    refine l_step y_assignC ?_
                                    refine l_nil ?_
                                    refine hK43 _ _ ?_
                                    refine fg1 4 g0 (fun g => ?_)
                                    refine c_ret ?_
                                    refine hQ31 _ _ _ (in_ret ?_)
                                    repeat with_reducible refine then_ret ?_
                                    refine ret1 rfl (res_tmp (et g0 rfl)) ?_
                                    exact ⟨_, by rw [verdN, if_neg e1, if_neg e2, if_pos e3]; rfl, G⟩)
                                · skip
                                  have g1 : ¬ 1048576 < T.gas := of_decide_eq_false q41
                                  refine l_gstep (j := 4) (t := 50) (by exact rfl) (by exact rfl) (et g0 rfl) (by decide) (y_fld fld_41_7 (et (gS rfl (gS rfl (gS rfl (gS rfl (gS rfl (gS rfl (gS rfl (gS rfl (gS rfl (gS rfl (gS rfl (gS rfl (gS rfl g0))))))))))))) rfl)) ?_
                                  refine l_gstep (j := 4) (t := 50) (by exact rfl) (by exact rfl) (et (gS rfl g0) rfl) (by decide) (y_load1 one_38 (et g0 rfl) (at1 (k2.cell (rT6 0 _ rfl)))) ?_
                                  refine l_gstep (j := 4) (t := 50) (by exact rfl) (by exact rfl) (et (gS rfl (gS rfl g0)) rfl) (by decide) (y_len Hvaa.underlying38 (et g0 rfl)) ?_
                                  refine l_gstep (j := 4) (t := 50) (by exact rfl) (by exact rfl) (et (gS rfl (gS rfl (gS rfl g0))) rfl) (by decide) (y_gtr (et g0 rfl) rfl) ?_
                                  refine l_step (y_pickF (et (gS rfl (gS rfl (gS rfl (gS rfl g0)))) rfl) (et g0 rfl)) ?_
                                  refine l_step (y_moveV (et g0 rfl)) ?_
                                  refine gsplitL (i := 56) g0 (fun q44 => ?_) (fun q44 => ?_)
                                  · skip
                                    have g2 : 1024 < T.data.length := by have h9 := of_decide_eq_true q44; omega
                                    refine l_gskip (j := 10) (t := 56) (by exact rfl) (by exact rfl) (et g0 rfl) (by decide) (by decide) ?_
                                    refine l_gskip (j := 10) (t := 56) (by exact rfl) (by exact rfl) (et (gS rfl g0) rfl) (by decide) (by decide) ?_
                                    refine l_step (y_pickT (et (gS rfl (gS rfl g0)) rfl) rfl) ?_
                                    refine l_step (y_assignV (et g0 rfl)) ?_
                                    refine l_nil ?_
                                    refine hK38 _ _ ?_
                                    refine fg8 0 3 5 6 8 9 10 45 (gS rfl (gS rfl (gS rfl (gS rfl (gS rfl (gS rfl (gS rfl (gS rfl (gS rfl (gS rfl (gS rfl (gS rfl (gS rfl (gS rfl (gS rfl (gS rfl (gS rfl (gS rfl (gS rfl (gS rfl (gS rfl (gS rfl (gS rfl (gS rfl (gS rfl g0))))))))))))))))))))))))) (gS rfl (gS rfl (gS rfl (gS rfl (gS rfl (gS rfl (gS rfl (gS rfl (gS rfl (gS rfl (gS rfl (gS rfl (gS rfl (gS rfl (gS rfl (gS rfl (gS rfl (gS rfl (gS rfl (gS rfl (gS rfl (gS rfl (gS rfl (gS rfl g0)))))))))))))))))))))))) (gS rfl (gS rfl (gS rfl (gS rfl (gS rfl (gS rfl (gS rfl (gS rfl (gS rfl (gS rfl (gS rfl (gS rfl (gS rfl (gS rfl (gS rfl (gS rfl (gS rfl (gS rfl (gS rfl (gS rfl (gS rfl (gS rfl (gS rfl g0))))))))))))))))))))))) (gS rfl (gS rfl (gS rfl (gS rfl (gS rfl (gS rfl (gS rfl (gS rfl (gS rfl (gS rfl (gS rfl (gS rfl (gS rfl (gS rfl (gS rfl (gS rfl (gS rfl (gS rfl (gS rfl (gS rfl (gS rfl (gS rfl g0)))))))))))))))))))))) (gS rfl (gS rfl (gS rfl (gS rfl (gS rfl (gS rfl (gS rfl (gS rfl (gS rfl (gS rfl (gS rfl (gS rfl (gS rfl (gS rfl (gS rfl (gS rfl (gS rfl (gS rfl (gS rfl (gS rfl (gS rfl g0))))))))))))))))))))) (gS rfl (gS rfl (gS rfl (gS rfl (gS rfl (gS rfl (gS rfl (gS rfl (gS rfl (gS rfl (gS rfl (gS rfl (gS rfl (gS rfl (gS rfl (gS rfl (gS rfl (gS rfl (gS rfl (gS rfl g0)))))))))))))))))))) (gS rfl (gS rfl (gS rfl (gS rfl (gS rfl (gS rfl (gS rfl (gS rfl (gS rfl (gS rfl (gS rfl (gS rfl (gS rfl (gS rfl (gS rfl (gS rfl (gS rfl (gS rfl (gS rfl g0))))))))))))))))))) g0 (fun g => ?_)
                                    have e3 : 1048576 < T.gas ∨ 1024 < T.data.length ∨ lsOk T.access = false := by first | exact .inl g1 | exact .inr (.inl g2)
                                    refine c_true (et g0 rfl) rfl ?_
                                    refine c_seq (fun K46 hK46 => ?_)
                                    exact (by
                                      refine c_region ?_
                                      refine l_step y_assignC ?_
                                      refine l_nil ?_
                                      refine hK46 _ _ ?_
                                      refine fg1 4 g0 (fun g => ?_)
                                      refine c_ret ?_
                                      refine hQ31 _ _ _ (in_ret ?_)
                                      repeat with_reducible refine then_ret ?_
                                      refine ret1 rfl (res_tmp (et g0 rfl)) ?_
                                      exact ⟨_, by rw [verdN, if_neg e1, if_neg e2, if_pos e3]; rfl, G⟩)
                                  · skip
                                    have g2 : ¬ 1024 < T.data.length := by have h9 := of_decide_eq_false q44; omega
                                    refine l_geff (j := 10) (t := 56) (by exact rfl) (by exact rfl) (et g0 rfl) rfl (e_callV cal_122 (aC (et (gS rfl (gS rfl (gS rfl (gS rfl (gS rfl (gS rfl (gS rfl (gS rfl (gS rfl (gS rfl (gS rfl (gS rfl (gS rfl (gS rfl (gS rfl (gS rfl (gS rfl (gS rfl (gS rfl (gS rfl g0)))))))))))))))))))) rfl) aN) (obs_listOK hF _ _ _ k2 (ht.mono hL0))) (fun v47 w47 h47 => ?_)
                                    obtain ⟨rfl, u47⟩ := h47
                                    replace G := G.tr (Go.ofUp hF u47)
                                    replace hF := hF.up u47
                                    replace k2 := k2.up u47
                                    replace k6 := k6.up u47
                                    replace k19 := k19.up u47
                                    replace k20 := k20.up u47
                                    replace kS := kS.up u47
                                    replace U := U.tr u47
                                    refine l_gstep (j := 10) (t := 56) (by exact rfl) (by exact rfl) (et (gS rfl g0) rfl) (by decide) (y_not (et g0 rfl)) ?_
                                    refine l_step (y_pickF (et (gS rfl (gS rfl g0)) rfl) (et g0 rfl)) ?_
                                    refine l_step (y_assignV (et g0 rfl)) ?_
                                    refine l_nil ?_
                                    refine hK38 _ _ ?_
                                    refine fg8 0 3 5 6 8 9 10 45 (gS rfl (gS rfl (gS rfl (gS rfl (gS rfl (gS rfl (gS rfl (gS rfl (gS rfl (gS rfl (gS rfl (gS rfl (gS rfl (gS rfl (gS rfl (gS rfl (gS rfl (gS rfl (gS rfl (gS rfl (gS rfl (gS rfl (gS rfl (gS rfl (gS rfl g0))))))))))))))))))))))))) (gS rfl (gS rfl (gS rfl (gS rfl (gS rfl (gS rfl (gS rfl (gS rfl (gS rfl (gS rfl (gS rfl (gS rfl (gS rfl (gS rfl (gS rfl (gS rfl (gS rfl (gS rfl (gS rfl (gS rfl (gS rfl (gS rfl (gS rfl (gS rfl g0)))))))))))))))))))))))) (gS rfl (gS rfl (gS rfl (gS rfl (gS rfl (gS rfl (gS rfl (gS rfl (gS rfl (gS rfl (gS rfl (gS rfl (gS rfl (gS rfl (gS rfl (gS rfl (gS rfl (gS rfl (gS rfl (gS rfl (gS rfl (gS rfl (gS rfl g0))))))))))))))))))))))) (gS rfl (gS rfl (gS rfl (gS rfl (gS rfl (gS rfl (gS rfl (gS rfl (gS rfl (gS rfl (gS rfl (gS rfl (gS rfl (gS rfl (gS rfl (gS rfl (gS rfl (gS rfl (gS rfl (gS rfl (gS rfl (gS rfl g0)))))))))))))))))))))) (gS rfl (gS rfl (gS rfl (gS rfl (gS rfl (gS rfl (gS rfl (gS rfl (gS rfl (gS rfl (gS rfl (gS rfl (gS rfl (gS rfl (gS rfl (gS rfl (gS rfl (gS rfl (gS rfl (gS rfl (gS rfl g0))))))))))))))))))))) (gS rfl (gS rfl (gS rfl (gS rfl (gS rfl (gS rfl (gS rfl (gS rfl (gS rfl (gS rfl (gS rfl (gS rfl (gS rfl (gS rfl (gS rfl (gS rfl (gS rfl (gS rfl (gS rfl (gS rfl g0)))))))))))))))))))) (gS rfl (gS rfl (gS rfl (gS rfl (gS rfl (gS rfl (gS rfl (gS rfl (gS rfl (gS rfl (gS rfl (gS rfl (gS rfl (gS rfl (gS rfl (gS rfl (gS rfl (gS rfl (gS rfl g0))))))))))))))))))) g0 (fun g => ?_)
                                    refine c_condV (i := 45) g0 rfl (fun cB3 => ?_) (fun cB3 => ?_)
                                    · skip
                                      
                                      have e3 : 1048576 < T.gas ∨ 1024 < T.data.length ∨ lsOk T.access = false := .inr (.inr (by simpa using cB3))
                                      refine c_seq (fun K49 hK49 => ?_)
                                      exact (by
                                        refine c_region ?_
                                        refine l_step y_assignC ?_
                                        refine l_nil ?_
                                        refine hK49 _ _ ?_
                                        refine fg1 4 g0 (fun g => ?_)
                                        refine c_ret ?_
                                        refine hQ31 _ _ _ (in_ret ?_)
                                        repeat with_reducible refine then_ret ?_
                                        refine ret1 rfl (res_tmp (et g0 rfl)) ?_
                                        exact ⟨_, by rw [verdN, if_neg e1, if_neg e2, if_pos e3]; rfl, G⟩)
                                    · skip
                                      
                                      have hls9 : lsOk T.access = true := by simpa using cB3
                                      have e3 : ¬ (1048576 < T.gas ∨ 1024 < T.data.length ∨ lsOk T.access = false) := fun h9 => h9.elim g1 (fun h9 => h9.elim g2 (fun h9 => by rw [h9] at hls9; cases hls9))
                                      have hd9 : T.data.length ≤ 1024 := by omega
                                      refine c_seq (fun K50 hK50 => ?_)
                                      exact (by
                                        refine c_draw Up 8 [(0, true), (1, true), (3, true), (4, true), (2, false), (5, false), (6, true), (7, true)] (by kernel_rfl) (fun w51 hu => ⟨Up.refl _, ?_⟩)
                                        replace G := G.tr (Go.ofUp hF hu)
                                        replace hF := hF.up hu
                                        replace k2 := k2.up hu
                                        replace k6 := k6.up hu
                                        replace k19 := k19.up hu
                                        replace k20 := k20.up hu
                                        replace kS := kS.up hu
                                        replace U := U.tr hu
                                        have SU := Up.refl w51
                                        refine p_step (by exact rfl) (y_fld fld_41_3 (et (gS rfl (gS rfl (gS rfl (gS rfl (gS rfl (gS rfl (gS rfl g0))))))) rfl)) ?_
                                        refine p_step (by exact rfl) (y_load1 one_26 (et g0 rfl) (atS (k2.cell (rT3 1 _ rfl)))) ?_
                                        refine p_step (by exact rfl) (y_fld fld_107_1 (et (gS rfl (gS rfl (gS rfl (gS rfl (gS rfl (gS rfl (gS rfl (gS rfl g0)))))))) rfl)) ?_
                                        obtain ⟨vn52, vb52, vc52, vs52, hca52, hnn52, hbb52, hcd52, hss52, hb152, hb252, hb352⟩ := acct_form9 pa4.p
                                        obtain ⟨xa52, xc52, rfl, hxl52⟩ := hcd52.sv.val
                                        refine p_step (by exact rfl) (y_load1 one_95 (et g0 rfl) (atS (k6.cell (acct_c20 hca52)))) ?_
                                        refine p_eff (by exact rfl) (e_callV cal_32 (aC (et (gS rfl (gS rfl g0)) rfl) aN) (yp_num hF (tok.nonce))) (fun v53 w53 h53 => ?_)
                                        obtain ⟨H53, g53, n53⟩ := h53
                                        have hlew53 := g53.le
                                        replace nb2 := g53.nb nb2 k2.lt
                                        replace nb6 := g53.nb nb6 k6.lt
                                        replace nb19 := g53.nb nb19 k19.lt
                                        replace nb20 := g53.nb nb20 k20.lt
                                        replace pa4 := pa4.mono hlew53
                                        replace n16 := n16.mono hlew53
                                        replace n24 := n24.mono hlew53
                                        replace n27 := n27.mono hlew53
                                        replace n28 := n28.mono hlew53
                                        replace n29 := n29.mono hlew53
                                        replace n39 := n39.mono hlew53
                                        replace hnn52 := hnn52.mono hlew53
                                        replace hbb52 := hbb52.mono hlew53
                                        replace hcd52 := hcd52.mono hlew53
                                        replace hss52 := hss52.mono hlew53
                                        replace hL0 := hL0.trans hlew53
                                        replace k2 := k2.up g53.up
                                        replace k6 := k6.up g53.up
                                        replace k19 := k19.up g53.up
                                        replace k20 := k20.up g53.up
                                        replace kS := kS.up g53.up
                                        replace U := U.tr g53.up
                                        replace G := G.tr g53
                                        replace hF := g53.fz
                                        have q53 := bd_64 (tok.nonce)
                                        refine ⟨.inr (SU.tr g53.up), ?_⟩
                                        replace SU := SU.tr g53.up
                                        exact (by
                                          refine p_eff (by exact rfl) (e_callV cal_121 (aC (et g0 rfl) (aC (et (gS rfl g0) rfl) aN)) (nat_cmp hF n53 hnn52 (bd_sm q53 (by decide)) (bd_sm (bd_64 hb152) (by decide)))) (fun v54 w54 h54 => ?_)
                                          obtain ⟨rfl, u54⟩ := h54
                                          replace G := G.tr (Go.ofUp hF u54)
                                          replace hF := hF.up u54
                                          replace k2 := k2.up u54
                                          replace k6 := k6.up u54
                                          replace k19 := k19.up u54
                                          replace k20 := k20.up u54
                                          replace kS := kS.up u54
                                          replace U := U.tr u54
                                          refine ⟨.inr (SU.tr u54), ?_⟩
                                          replace SU := SU.tr u54
                                          refine p_step (by exact rfl) ((y_neq (et g0 rfl) rfl).to (congrArg Value.bool (cmp_ne0 _ _))) ?_
                                          refine p_step (by exact rfl) (y_assignV (et g0 rfl)) ?_
                                          refine p_nil ?_
                                          refine hK50 _ _ ?_
                                          refine fg8 0 3 5 6 8 9 10 60 (gS rfl (gS rfl (gS rfl (gS rfl (gS rfl (gS rfl (gS rfl (gS rfl (gS rfl (gS rfl (gS rfl (gS rfl (gS rfl (gS rfl (gS rfl (gS rfl g0)))))))))))))))) (gS rfl (gS rfl (gS rfl (gS rfl (gS rfl (gS rfl (gS rfl (gS rfl (gS rfl (gS rfl (gS rfl (gS rfl (gS rfl (gS rfl (gS rfl g0))))))))))))))) (gS rfl (gS rfl (gS rfl (gS rfl (gS rfl (gS rfl (gS rfl (gS rfl (gS rfl (gS rfl (gS rfl (gS rfl (gS rfl (gS rfl g0)))))))))))))) (gS rfl (gS rfl (gS rfl (gS rfl (gS rfl (gS rfl (gS rfl (gS rfl (gS rfl (gS rfl (gS rfl (gS rfl (gS rfl g0))))))))))))) (gS rfl (gS rfl (gS rfl (gS rfl (gS rfl (gS rfl (gS rfl (gS rfl (gS rfl (gS rfl (gS rfl (gS rfl g0)))))))))))) (gS rfl (gS rfl (gS rfl (gS rfl (gS rfl (gS rfl (gS rfl (gS rfl (gS rfl (gS rfl (gS rfl g0))))))))))) (gS rfl (gS rfl (gS rfl (gS rfl (gS rfl (gS rfl (gS rfl (gS rfl (gS rfl (gS rfl g0)))))))))) g0 (fun g => ?_)
                                          refine c_condV (i := 60) g0 rfl (fun cB4 => ?_) (fun cB4 => ?_)
                                          · skip
                                            
                                            have e4 : T.nonce ≠ (vdA s T).nonce := of_decide_eq_true cB4
                                            refine c_seq (fun K56 hK56 => ?_)
                                            exact (by
                                              refine c_region ?_
                                              refine l_step y_assignC ?_
                                              refine l_nil ?_
                                              refine hK56 _ _ ?_
                                              refine fg1 4 g0 (fun g => ?_)
                                              refine c_ret ?_
                                              refine hQ31 _ _ _ (in_ret ?_)
                                              repeat with_reducible refine then_ret ?_
                                              refine ret1 rfl (res_tmp (et g0 rfl)) ?_
                                              exact ⟨_, by rw [verdN, if_neg e1, if_neg e2, if_neg e3, if_pos e4]; rfl, G⟩)
                                          · skip
                                            
                                            have e4 : ¬ (T.nonce ≠ (vdA s T).nonce) := of_decide_eq_false cB4
                                            refine c_seq (fun K57 hK57 => ?_)
                                            exact (by
                                              refine c_draw Up 6 [(0, true), (1, true), (2, false), (3, false), (4, true), (5, true)] (by kernel_rfl) (fun w58 hu => ⟨Up.refl _, ?_⟩)
                                              replace G := G.tr (Go.ofUp hF hu)
                                              replace hF := hF.up hu
                                              replace k2 := k2.up hu
                                              replace k6 := k6.up hu
                                              replace k19 := k19.up hu
                                              replace k20 := k20.up hu
                                              replace kS := kS.up hu
                                              replace U := U.tr hu
                                              have SU := Up.refl w58
                                              refine p_step (by exact rfl) (y_fld fld_107_1 (et (gS rfl (gS rfl (gS rfl (gS rfl (gS rfl (gS rfl g0)))))) rfl)) ?_
                                              refine p_step (by exact rfl) (y_load1 one_95 (et g0 rfl) (atS (k6.cell (acct_c20 hca52)))) ?_
                                              refine p_eff (by exact rfl) (e_callV cal_32 (aC (v := .int .u64 ((18446744073709551615 : Nat) : Int)) rfl aN) (yp_num (x := 18446744073709551615) hF (by decide))) (fun v59 w59 h59 => ?_)
                                              obtain ⟨H59, g59, n59⟩ := h59
                                              have hlew59 := g59.le
                                              replace nb2 := g59.nb nb2 k2.lt
                                              replace nb6 := g59.nb nb6 k6.lt
                                              replace nb19 := g59.nb nb19 k19.lt
                                              replace nb20 := g59.nb nb20 k20.lt
                                              replace pa4 := pa4.mono hlew59
                                              replace n16 := n16.mono hlew59
                                              replace n24 := n24.mono hlew59
                                              replace n27 := n27.mono hlew59
                                              replace n28 := n28.mono hlew59
                                              replace n29 := n29.mono hlew59
                                              replace n39 := n39.mono hlew59
                                              replace hnn52 := hnn52.mono hlew59
                                              replace hbb52 := hbb52.mono hlew59
                                              replace hcd52 := hcd52.mono hlew59
                                              replace hss52 := hss52.mono hlew59
                                              replace n53 := n53.mono hlew59
                                              replace hL0 := hL0.trans hlew59
                                              replace k2 := k2.up g59.up
                                              replace k6 := k6.up g59.up
                                              replace k19 := k19.up g59.up
                                              replace k20 := k20.up g59.up
                                              replace kS := kS.up g59.up
                                              replace U := U.tr g59.up
                                              replace G := G.tr g59
                                              replace hF := g59.fz
                                              have q59 : 18446744073709551615 < 256 ^ 8 := by decide
                                              refine ⟨.inr (SU.tr g59.up), ?_⟩
                                              replace SU := SU.tr g59.up
                                              exact (by
                                                refine p_eff (by exact rfl) (e_callV cal_121 (aC (et (gS rfl g0) rfl) (aC (et g0 rfl) aN)) (nat_cmp hF hnn52 n59 (bd_sm (bd_64 hb152) (by decide)) (bd_sm q59 (by decide)))) (fun v60 w60 h60 => ?_)
                                                obtain ⟨rfl, u60⟩ := h60
                                                replace G := G.tr (Go.ofUp hF u60)
                                                replace hF := hF.up u60
                                                replace k2 := k2.up u60
                                                replace k6 := k6.up u60
                                                replace k19 := k19.up u60
                                                replace k20 := k20.up u60
                                                replace kS := kS.up u60
                                                replace U := U.tr u60
                                                refine ⟨.inr (SU.tr u60), ?_⟩
                                                replace SU := SU.tr u60
                                                refine p_step (by exact rfl) ((y_eql (et g0 rfl) rfl).to (congrArg Value.bool (cmp_eq0 _ _))) ?_
                                                refine p_step (by exact rfl) (y_assignV (et g0 rfl)) ?_
                                                refine p_nil ?_
                                                refine hK57 _ _ ?_
                                                refine fg8 0 3 5 6 8 9 10 68 (gS rfl (gS rfl (gS rfl (gS rfl (gS rfl (gS rfl (gS rfl (gS rfl (gS rfl (gS rfl (gS rfl (gS rfl (gS rfl (gS rfl g0)))))))))))))) (gS rfl (gS rfl (gS rfl (gS rfl (gS rfl (gS rfl (gS rfl (gS rfl (gS rfl (gS rfl (gS rfl (gS rfl (gS rfl g0))))))))))))) (gS rfl (gS rfl (gS rfl (gS rfl (gS rfl (gS rfl (gS rfl (gS rfl (gS rfl (gS rfl (gS rfl (gS rfl g0)))))))))))) (gS rfl (gS rfl (gS rfl (gS rfl (gS rfl (gS rfl (gS rfl (gS rfl (gS rfl (gS rfl (gS rfl g0))))))))))) (gS rfl (gS rfl (gS rfl (gS rfl (gS rfl (gS rfl (gS rfl (gS rfl (gS rfl (gS rfl g0)))))))))) (gS rfl (gS rfl (gS rfl (gS rfl (gS rfl (gS rfl (gS rfl (gS rfl (gS rfl g0))))))))) (gS rfl (gS rfl (gS rfl (gS rfl (gS rfl (gS rfl (gS rfl (gS rfl g0)))))))) g0 (fun g => ?_)
                                                refine c_condV (i := 68) g0 rfl (fun cB5 => ?_) (fun cB5 => ?_)
                                                · skip
                                                  
                                                  have e5 : (vdA s T).nonce = 18446744073709551615 := of_decide_eq_true cB5
                                                  refine c_seq (fun K62 hK62 => ?_)
                                                  exact (by
                                                    refine c_region ?_
                                                    refine l_step y_assignC ?_
                                                    refine l_nil ?_
                                                    refine hK62 _ _ ?_
                                                    refine fg1 4 g0 (fun g => ?_)
                                                    refine c_ret ?_
                                                    refine hQ31 _ _ _ (in_ret ?_)
                                                    repeat with_reducible refine then_ret ?_
                                                    refine ret1 rfl (res_tmp (et g0 rfl)) ?_
                                                    exact ⟨_, by rw [verdN, if_neg e1, if_neg e2, if_neg e3, if_neg e4, if_pos e5]; rfl, G⟩)
                                                · skip
                                                  
                                                  have e5 : ¬ ((vdA s T).nonce = 18446744073709551615) := of_decide_eq_false cB5
                                                  refine c_seq (fun K63 hK63 => ?_)
                                                  exact (by
                                                    refine c_region ?_
                                                    refine l_step (y_fld fld_107_3 (et (gS rfl (gS rfl (gS rfl (gS rfl (gS rfl (gS rfl g0)))))) rfl)) ?_
                                                    refine l_step (y_load1 one_38 (et g0 rfl) (at1 (k6.cell (acct_c22 hca52)))) ?_
                                                    refine l_step (y_len Hvaa.underlying38 (et g0 rfl)) ?_
                                                    refine l_step (y_gtr (et g0 rfl) rfl) ?_
                                                    refine l_step (y_assignV (et g0 rfl)) ?_
                                                    refine l_nil ?_
                                                    refine hK63 _ _ ?_
                                                    refine fg8 0 3 5 6 8 9 10 74 (gS rfl (gS rfl (gS rfl (gS rfl (gS rfl (gS rfl (gS rfl (gS rfl (gS rfl (gS rfl (gS rfl (gS rfl (gS rfl g0))))))))))))) (gS rfl (gS rfl (gS rfl (gS rfl (gS rfl (gS rfl (gS rfl (gS rfl (gS rfl (gS rfl (gS rfl (gS rfl g0)))))))))))) (gS rfl (gS rfl (gS rfl (gS rfl (gS rfl (gS rfl (gS rfl (gS rfl (gS rfl (gS rfl (gS rfl g0))))))))))) (gS rfl (gS rfl (gS rfl (gS rfl (gS rfl (gS rfl (gS rfl (gS rfl (gS rfl (gS rfl g0)))))))))) (gS rfl (gS rfl (gS rfl (gS rfl (gS rfl (gS rfl (gS rfl (gS rfl (gS rfl g0))))))))) (gS rfl (gS rfl (gS rfl (gS rfl (gS rfl (gS rfl (gS rfl (gS rfl g0)))))))) (gS rfl (gS rfl (gS rfl (gS rfl (gS rfl (gS rfl (gS rfl g0))))))) g0 (fun g => ?_)
                                                    refine c_condV (i := 74) g0 rfl (fun cB6 => ?_) (fun cB6 => ?_)
                                                    · skip
                                                      
                                                      have e6 : 0 < (vdA s T).code.length := by have h9 := of_decide_eq_true cB6; omega
                                                      refine c_seq (fun K65 hK65 => ?_)
                                                      exact (by
                                                        refine c_region ?_
                                                        refine l_step y_assignC ?_
                                                        refine l_nil ?_
                                                        refine hK65 _ _ ?_
                                                        refine fg1 4 g0 (fun g => ?_)
                                                        refine c_ret ?_
                                                        refine hQ31 _ _ _ (in_ret ?_)
                                                        repeat with_reducible refine then_ret ?_
                                                        refine ret1 rfl (res_tmp (et g0 rfl)) ?_
                                                        exact ⟨_, by rw [verdN, if_neg e1, if_neg e2, if_neg e3, if_neg e4, if_neg e5, if_pos e6]; rfl, G⟩)
                                                    · skip
                                                      
                                                      have e6 : ¬ (0 < (vdA s T).code.length) := by have h9 := of_decide_eq_false cB6; omega
                                                      refine c_seq (fun K66 hK66 => ?_)
                                                      exact (by
                                                        refine c_region ?_
                                                        refine l_step (y_fld fld_41_2 (et (gS rfl (gS rfl (gS rfl (gS rfl (gS rfl (gS rfl (gS rfl g0))))))) rfl)) ?_
                                                        refine l_step (y_load1 one_4 (et g0 rfl) (at1 (k2.cell (rT3 0 _ rfl)))) ?_
                                                        refine l_step (y_moveV (et g0 rfl)) ?_
                                                        refine gsplitL (i := 82) g0 (fun q67 => ?_) (fun q67 => ?_)
                                                        · skip
                                                          have hcr := q67
                                                          refine l_gstep (j := 2) (t := 82) (by exact rfl) (by exact rfl) (et g0 rfl) (by decide) (y_fld fld_41_7 (et (gS rfl (gS rfl (gS rfl (gS rfl (gS rfl (gS rfl (gS rfl (gS rfl (gS rfl (gS rfl (gS rfl g0))))))))))) rfl)) ?_
                                                          refine l_gstep (j := 2) (t := 82) (by exact rfl) (by exact rfl) (et (gS rfl g0) rfl) (by decide) (y_load1 one_38 (et g0 rfl) (at1 (k2.cell (rT6 0 _ rfl)))) ?_
                                                          refine l_gstep (j := 2) (t := 82) (by exact rfl) (by exact rfl) (et (gS rfl (gS rfl g0)) rfl) (by decide) (y_len Hvaa.underlying38 (et g0 rfl)) ?_
                                                          refine l_gstep (j := 2) (t := 82) (by exact rfl) (by exact rfl) (et (gS rfl (gS rfl (gS rfl g0))) rfl) (by decide) (y_gtr (et g0 rfl) rfl) ?_
                                                          refine l_step (y_pickT (et (gS rfl (gS rfl (gS rfl (gS rfl g0)))) rfl) (et g0 rfl)) ?_
                                                          refine l_step (y_assignV (et g0 rfl)) ?_
                                                          refine l_nil ?_
                                                          refine hK66 _ _ ?_
                                                          refine fg8 0 3 5 6 8 9 10 79 (gS rfl (gS rfl (gS rfl (gS rfl (gS rfl (gS rfl (gS rfl (gS rfl (gS rfl (gS rfl (gS rfl (gS rfl (gS rfl (gS rfl (gS rfl (gS rfl (gS rfl (gS rfl g0)))))))))))))))))) (gS rfl (gS rfl (gS rfl (gS rfl (gS rfl (gS rfl (gS rfl (gS rfl (gS rfl (gS rfl (gS rfl (gS rfl (gS rfl (gS rfl (gS rfl (gS rfl (gS rfl g0))))))))))))))))) (gS rfl (gS rfl (gS rfl (gS rfl (gS rfl (gS rfl (gS rfl (gS rfl (gS rfl (gS rfl (gS rfl (gS rfl (gS rfl (gS rfl (gS rfl (gS rfl g0)))))))))))))))) (gS rfl (gS rfl (gS rfl (gS rfl (gS rfl (gS rfl (gS rfl (gS rfl (gS rfl (gS rfl (gS rfl (gS rfl (gS rfl (gS rfl (gS rfl g0))))))))))))))) (gS rfl (gS rfl (gS rfl (gS rfl (gS rfl (gS rfl (gS rfl (gS rfl (gS rfl (gS rfl (gS rfl (gS rfl (gS rfl (gS rfl g0)))))))))))))) (gS rfl (gS rfl (gS rfl (gS rfl (gS rfl (gS rfl (gS rfl (gS rfl (gS rfl (gS rfl (gS rfl (gS rfl (gS rfl g0))))))))))))) (gS rfl (gS rfl (gS rfl (gS rfl (gS rfl (gS rfl (gS rfl (gS rfl (gS rfl (gS rfl (gS rfl (gS rfl g0)))))))))))) g0 (fun g => ?_)
                                                          refine c_condV (i := 79) g0 rfl (fun cB7 => ?_) (fun cB7 => ?_)
                                                          · skip
                                                            
                                                            have e7 : T.create = true ∧ 512 < T.data.length := ⟨hcr, by have h9 := of_decide_eq_true cB7; omega⟩
                                                            refine c_seq (fun K69 hK69 => ?_)
                                                            exact (by
                                                              refine c_region ?_
                                                              refine l_step y_assignC ?_
                                                              refine l_nil ?_
                                                              refine hK69 _ _ ?_
                                                              refine fg1 4 g0 (fun g => ?_)
                                                              refine c_ret ?_
                                                              refine hQ31 _ _ _ (in_ret ?_)
                                                              repeat with_reducible refine then_ret ?_
                                                              refine ret1 rfl (res_tmp (et g0 rfl)) ?_
                                                              exact ⟨_, by rw [verdN, if_neg e1, if_neg e2, if_neg e3, if_neg e4, if_neg e5, if_neg e6, if_pos e7]; rfl, G⟩)
                                                          · skip
                                                            
                                                            have e7 : ¬ (T.create = true ∧ 512 < T.data.length) := fun h9 => by have h8 := of_decide_eq_false cB7; omega
                                                            refine c_seq (fun K70 hK70 => ?_)
                                                            exact (by
                                                              refine c_region ?_
                                                              refine l_step (y_moveV (et (gS rfl (gS rfl (gS rfl (gS rfl (gS rfl g0))))) rfl)) ?_
                                                              refine l_step (y_loadB agg_41 sz_41 (et (gS rfl (gS rfl (gS rfl (gS rfl (gS rfl (gS rfl (gS rfl (gS rfl g0)))))))) rfl) (by rw [List.size_toArray]; exact htl) (at1B k2)) ?_
                                                              refine l_eff (e_callV cal_46 (aC (et g0 rfl) aN) (yp_intrinsic hF (ht.mono hL0) hd9 hls9)) (fun v71 w71 h71 => ?_)
                                                              obtain ⟨H71, g71, n71, q71⟩ := h71
                                                              have hlew71 := g71.le
                                                              replace nb2 := g71.nb nb2 k2.lt
                                                              replace nb6 := g71.nb nb6 k6.lt
                                                              replace nb19 := g71.nb nb19 k19.lt
                                                              replace nb20 := g71.nb nb20 k20.lt
                                                              replace pa4 := pa4.mono hlew71
                                                              replace n16 := n16.mono hlew71
                                                              replace n24 := n24.mono hlew71
                                                              replace n27 := n27.mono hlew71
                                                              replace n28 := n28.mono hlew71
                                                              replace n29 := n29.mono hlew71
                                                              replace n39 := n39.mono hlew71
                                                              replace hnn52 := hnn52.mono hlew71
                                                              replace hbb52 := hbb52.mono hlew71
                                                              replace hcd52 := hcd52.mono hlew71
                                                              replace hss52 := hss52.mono hlew71
                                                              replace n53 := n53.mono hlew71
                                                              replace n59 := n59.mono hlew71
                                                              replace hL0 := hL0.trans hlew71
                                                              replace k2 := k2.up g71.up
                                                              replace k6 := k6.up g71.up
                                                              replace k19 := k19.up g71.up
                                                              replace k20 := k20.up g71.up
                                                              replace kS := kS.up g71.up
                                                              replace U := U.tr g71.up
                                                              replace G := G.tr g71
                                                              replace hF := g71.fz
                                                              exact (by
                                                                refine l_eff (e_callV cal_121 (aC (et (gS rfl (gS rfl g0)) rfl) (aC (et g0 rfl) aN)) (nat_cmp hF n16 n71 (bd_sm q16 (by decide)) (bd_sm q71 (by decide)))) (fun v72 w72 h72 => ?_)
                                                                obtain ⟨rfl, u72⟩ := h72
                                                                replace G := G.tr (Go.ofUp hF u72)
                                                                replace hF := hF.up u72
                                                                replace k2 := k2.up u72
                                                                replace k6 := k6.up u72
                                                                replace k19 := k19.up u72
                                                                replace k20 := k20.up u72
                                                                replace kS := kS.up u72
                                                                replace U := U.tr u72
                                                                refine l_step ((y_lss (et g0 rfl) rfl).to (congrArg Value.bool (cmp_lt0 _ _))) ?_
                                                                refine l_step (y_assignV (et g0 rfl)) ?_
                                                                refine l_nil ?_
                                                                refine hK70 _ _ ?_
                                                                refine fg7 0 5 6 8 9 10 88 (gS rfl (gS rfl (gS rfl (gS rfl (gS rfl (gS rfl (gS rfl (gS rfl (gS rfl (gS rfl (gS rfl (gS rfl (gS rfl (gS rfl g0)))))))))))))) (gS rfl (gS rfl (gS rfl (gS rfl (gS rfl (gS rfl (gS rfl (gS rfl (gS rfl (gS rfl (gS rfl (gS rfl g0)))))))))))) (gS rfl (gS rfl (gS rfl (gS rfl (gS rfl (gS rfl (gS rfl (gS rfl (gS rfl (gS rfl (gS rfl g0))))))))))) (gS rfl (gS rfl (gS rfl (gS rfl (gS rfl (gS rfl (gS rfl (gS rfl (gS rfl (gS rfl g0)))))))))) (gS rfl (gS rfl (gS rfl (gS rfl (gS rfl (gS rfl (gS rfl (gS rfl (gS rfl g0))))))))) (gS rfl (gS rfl (gS rfl (gS rfl (gS rfl (gS rfl (gS rfl (gS rfl g0)))))))) g0 (fun g => ?_)
                                                                refine c_condV (i := 88) g0 rfl (fun cB8 => ?_) (fun cB8 => ?_)
                                                                · skip
                                                                  
                                                                  have e8 : T.gas < intrN T := of_decide_eq_true cB8
                                                                  refine c_seq (fun K74 hK74 => ?_)
                                                                  exact (by
                                                                    refine c_region ?_
                                                                    refine l_step y_assignC ?_
                                                                    refine l_nil ?_
                                                                    refine hK74 _ _ ?_
                                                                    refine fg1 4 g0 (fun g => ?_)
                                                                    refine c_ret ?_
                                                                    refine hQ31 _ _ _ (in_ret ?_)
                                                                    repeat with_reducible refine then_ret ?_
                                                                    refine ret1 rfl (res_tmp (et g0 rfl)) ?_
                                                                    exact ⟨_, by rw [verdN, if_neg e1, if_neg e2, if_neg e3, if_neg e4, if_neg e5, if_neg e6, if_neg e7, if_pos e8]; rfl, G⟩)
                                                                · skip
                                                                  
                                                                  have e8 : ¬ (T.gas < intrN T) := of_decide_eq_false cB8
                                                                  refine c_seq (fun K75 hK75 => ?_)
                                                                  exact (by
                                                                    refine c_region ?_
                                                                    refine l_step (y_moveV (et (gS rfl (gS rfl (gS rfl (gS rfl (gS rfl g0))))) rfl)) ?_
                                                                    refine l_step (y_moveV (et (gS rfl (gS rfl (gS rfl (gS rfl (gS rfl (gS rfl (gS rfl (gS rfl g0)))))))) rfl)) ?_
                                                                    refine l_step (y_nil (et g0 rfl)) ?_
                                                                    refine l_step (y_fld fld_102_14 (et g0 rfl)) ?_
                                                                    refine l_step (y_fld fld_31_3 (et g0 rfl)) ?_
                                                                    refine l_step (y_load1 one_26 (et g0 rfl) (at1 (kS.cell (rE2 2 _ rfl)))) ?_
                                                                    refine l_eff (e_callV cal_32 (aC (et g0 rfl) aN) (yp_num hF (eo.gasLimit))) (fun v76 w76 h76 => ?_)
                                                                    obtain ⟨H76, g76, n76⟩ := h76
                                                                    have hlew76 := g76.le
                                                                    replace nb2 := g76.nb nb2 k2.lt
                                                                    replace nb6 := g76.nb nb6 k6.lt
                                                                    replace nb19 := g76.nb nb19 k19.lt
                                                                    replace nb20 := g76.nb nb20 k20.lt
                                                                    replace pa4 := pa4.mono hlew76
                                                                    replace n16 := n16.mono hlew76
                                                                    replace n24 := n24.mono hlew76
                                                                    replace n27 := n27.mono hlew76
                                                                    replace n28 := n28.mono hlew76
                                                                    replace n29 := n29.mono hlew76
                                                                    replace n39 := n39.mono hlew76
                                                                    replace hnn52 := hnn52.mono hlew76
                                                                    replace hbb52 := hbb52.mono hlew76
                                                                    replace hcd52 := hcd52.mono hlew76
                                                                    replace hss52 := hss52.mono hlew76
                                                                    replace n53 := n53.mono hlew76
                                                                    replace n59 := n59.mono hlew76
                                                                    replace n71 := n71.mono hlew76
                                                                    replace hL0 := hL0.trans hlew76
                                                                    replace k2 := k2.up g76.up
                                                                    replace k6 := k6.up g76.up
                                                                    replace k19 := k19.up g76.up
                                                                    replace k20 := k20.up g76.up
                                                                    replace kS := kS.up g76.up
                                                                    replace U := U.tr g76.up
                                                                    replace G := G.tr g76
                                                                    replace hF := g76.fz
                                                                    have q76 := bd_64 (eo.gasLimit)
                                                                    exact (by
                                                                      refine l_eff (e_callV cal_121 (aC (et (gS rfl (gS rfl (gS rfl (gS rfl (gS rfl (gS rfl g0)))))) rfl) (aC (et g0 rfl) aN)) (nat_cmp hF n16 n76 (bd_sm q16 (by decide)) (bd_sm q76 (by decide)))) (fun v77 w77 h77 => ?_)
                                                                      obtain ⟨rfl, u77⟩ := h77
                                                                      replace G := G.tr (Go.ofUp hF u77)
                                                                      replace hF := hF.up u77
                                                                      replace k2 := k2.up u77
                                                                      replace k6 := k6.up u77
                                                                      replace k19 := k19.up u77
                                                                      replace k20 := k20.up u77
                                                                      replace kS := kS.up u77
                                                                      replace U := U.tr u77
                                                                      refine l_step ((y_gtr (et g0 rfl) rfl).to (congrArg Value.bool (cmp_gt0 _ _))) ?_
                                                                      refine l_step (y_assignV (et g0 rfl)) ?_
                                                                      refine l_nil ?_
                                                                      refine hK75 _ _ ?_
                                                                      refine fg6 0 5 8 9 10 94 (gS rfl (gS rfl (gS rfl (gS rfl (gS rfl (gS rfl (gS rfl (gS rfl (gS rfl (gS rfl (gS rfl (gS rfl (gS rfl (gS rfl (gS rfl (gS rfl (gS rfl g0))))))))))))))))) (gS rfl (gS rfl (gS rfl (gS rfl (gS rfl (gS rfl (gS rfl (gS rfl (gS rfl (gS rfl (gS rfl (gS rfl (gS rfl (gS rfl (gS rfl (gS rfl g0)))))))))))))))) (gS rfl (gS rfl (gS rfl (gS rfl (gS rfl (gS rfl (gS rfl (gS rfl (gS rfl (gS rfl (gS rfl (gS rfl (gS rfl (gS rfl g0)))))))))))))) (gS rfl (gS rfl (gS rfl (gS rfl (gS rfl (gS rfl (gS rfl (gS rfl (gS rfl (gS rfl (gS rfl (gS rfl (gS rfl g0))))))))))))) (gS rfl (gS rfl (gS rfl (gS rfl (gS rfl (gS rfl (gS rfl (gS rfl (gS rfl (gS rfl (gS rfl (gS rfl g0)))))))))))) g0 (fun g => ?_)
                                                                      refine c_condV (i := 94) g0 rfl (fun cB9 => ?_) (fun cB9 => ?_)
                                                                      · skip
                                                                        
                                                                        have e9 : s.env.gasLimit < T.gas := of_decide_eq_true cB9
                                                                        refine c_seq (fun K79 hK79 => ?_)
                                                                        exact (by
                                                                          refine c_region ?_
                                                                          refine l_step y_assignC ?_
                                                                          refine l_nil ?_
                                                                          refine hK79 _ _ ?_
                                                                          refine fg1 4 g0 (fun g => ?_)
                                                                          refine c_ret ?_
                                                                          refine hQ31 _ _ _ (in_ret ?_)
                                                                          repeat with_reducible refine then_ret ?_
                                                                          refine ret1 rfl (res_tmp (et g0 rfl)) ?_
                                                                          exact ⟨_, by rw [verdN, if_neg e1, if_neg e2, if_neg e3, if_neg e4, if_neg e5, if_neg e6, if_neg e7, if_neg e8, if_pos e9]; rfl, G⟩)
                                                                      · skip
                                                                        
                                                                        have e9 : ¬ (s.env.gasLimit < T.gas) := of_decide_eq_false cB9
                                                                        refine c_seq (fun K80 hK80 => ?_)
                                                                        exact (by
                                                                          refine c_region ?_
                                                                          refine l_step (y_fld fld_107_2 (et (gS rfl (gS rfl (gS rfl (gS rfl (gS rfl g0))))) rfl)) ?_
                                                                          refine l_step (y_load1 one_95 (et g0 rfl) (at1 (k6.cell (acct_c21 hca52)))) ?_
                                                                          refine l_step (y_moveV (et (gS rfl (gS rfl (gS rfl (gS rfl g0)))) rfl)) ?_
                                                                          refine l_eff (e_callV cal_121 (aC (et (gS rfl g0) rfl) (aC (et g0 rfl) aN)) (nat_cmp hF hbb52 n29 (bd_sm (bd_W hb252) (by decide)) (bd_sm q29 (by decide)))) (fun v81 w81 h81 => ?_)
                                                                          obtain ⟨rfl, u81⟩ := h81
                                                                          replace G := G.tr (Go.ofUp hF u81)
                                                                          replace hF := hF.up u81
                                                                          replace k2 := k2.up u81
                                                                          replace k6 := k6.up u81
                                                                          replace k19 := k19.up u81
                                                                          replace k20 := k20.up u81
                                                                          replace kS := kS.up u81
                                                                          replace U := U.tr u81
                                                                          refine l_step ((y_lss (et g0 rfl) rfl).to (congrArg Value.bool (cmp_lt0 _ _))) ?_
                                                                          refine l_step (y_assignV (et g0 rfl)) ?_
                                                                          refine l_nil ?_
                                                                          refine hK80 _ _ ?_
                                                                          refine fg4 0 8 9 104 (gS rfl (gS rfl (gS rfl (gS rfl (gS rfl (gS rfl (gS rfl (gS rfl (gS rfl (gS rfl (gS rfl (gS rfl g0)))))))))))) (gS rfl (gS rfl (gS rfl (gS rfl (gS rfl (gS rfl (gS rfl (gS rfl (gS rfl (gS rfl g0)))))))))) (gS rfl (gS rfl (gS rfl (gS rfl (gS rfl (gS rfl (gS rfl (gS rfl (gS rfl g0))))))))) g0 (fun g => ?_)
                                                                          refine c_condV (i := 104) g0 rfl (fun cB10 => ?_) (fun cB10 => ?_)
                                                                          · skip
                                                                            
                                                                            have e10 : (vdA s T).bal < T.gas * feeM T + T.value := of_decide_eq_true cB10
                                                                            refine c_seq (fun K83 hK83 => ?_)
                                                                            exact (by
                                                                              refine c_region ?_
                                                                              refine l_step y_assignC ?_
                                                                              refine l_nil ?_
                                                                              refine hK83 _ _ ?_
                                                                              refine fg1 4 g0 (fun g => ?_)
                                                                              refine c_ret ?_
                                                                              refine hQ31 _ _ _ (in_ret ?_)
                                                                              repeat with_reducible refine then_ret ?_
                                                                              refine ret1 rfl (res_tmp (et g0 rfl)) ?_
                                                                              exact ⟨_, by rw [verdN, if_neg e1, if_neg e2, if_neg e3, if_neg e4, if_neg e5, if_neg e6, if_neg e7, if_neg e8, if_neg e9, if_pos e10]; rfl, G⟩)
                                                                          · skip
                                                                            
                                                                            have e10 : ¬ ((vdA s T).bal < T.gas * feeM T + T.value) := of_decide_eq_false cB10
                                                                            refine c_seq (fun K84 hK84 => ?_)
                                                                            exact (by
                                                                              refine c_region ?_
                                                                              refine l_step (y_slA000 Hvaa.underlying28 sz_5 (et (gS rfl (gS rfl (gS rfl g0))) rfl) ) ?_
                                                                              refine l_eff (e_callV cal_33 (aC (et g0 rfl) aN) (nat_fromRow hF (k20.row (RowIn.self _)) k20.lt (bd_W (feeT_lt tok)) (by decide))) (fun v85 w85 h85 => ?_)
                                                                              obtain ⟨H85, g85, n85⟩ := h85
                                                                              have hlew85 := g85.le
                                                                              replace nb2 := g85.nb nb2 k2.lt
                                                                              replace nb6 := g85.nb nb6 k6.lt
                                                                              replace nb19 := g85.nb nb19 k19.lt
                                                                              replace nb20 := g85.nb nb20 k20.lt
                                                                              replace pa4 := pa4.mono hlew85
                                                                              replace n16 := n16.mono hlew85
                                                                              replace n24 := n24.mono hlew85
                                                                              replace n27 := n27.mono hlew85
                                                                              replace n28 := n28.mono hlew85
                                                                              replace n29 := n29.mono hlew85
                                                                              replace n39 := n39.mono hlew85
                                                                              replace hnn52 := hnn52.mono hlew85
                                                                              replace hbb52 := hbb52.mono hlew85
                                                                              replace hcd52 := hcd52.mono hlew85
                                                                              replace hss52 := hss52.mono hlew85
                                                                              replace n53 := n53.mono hlew85
                                                                              replace n59 := n59.mono hlew85
                                                                              replace n71 := n71.mono hlew85
                                                                              replace n76 := n76.mono hlew85
                                                                              replace hL0 := hL0.trans hlew85
                                                                              replace k2 := k2.up g85.up
                                                                              replace k6 := k6.up g85.up
                                                                              replace k19 := k19.up g85.up
                                                                              replace k20 := k20.up g85.up
                                                                              replace kS := kS.up g85.up
                                                                              replace U := U.tr g85.up
                                                                              replace G := G.tr g85
                                                                              replace hF := g85.fz
                                                                              exact (by
                                                                                refine l_step (y_moveV (et (gS rfl (gS rfl (gS rfl (gS rfl g0)))) rfl)) ?_
                                                                                refine l_eff (e_callV cal_121 (aC (et (gS rfl g0) rfl) (aC (et g0 rfl) aN)) (nat_cmp hF n85 n24 (bd_sm (bd_W (feeT_lt tok)) (by decide)) (bd_sm (bd_W (feeM_lt tok)) (by decide)))) (fun v86 w86 h86 => ?_)
                                                                                obtain ⟨rfl, u86⟩ := h86
                                                                                replace G := G.tr (Go.ofUp hF u86)
                                                                                replace hF := hF.up u86
                                                                                replace k2 := k2.up u86
                                                                                replace k6 := k6.up u86
                                                                                replace k19 := k19.up u86
                                                                                replace k20 := k20.up u86
                                                                                replace kS := kS.up u86
                                                                                replace U := U.tr u86
                                                                                refine l_step ((y_gtr (et g0 rfl) rfl).to (congrArg Value.bool (cmp_gt0 _ _))) ?_
                                                                                refine l_step (y_assignV (et g0 rfl)) ?_
                                                                                refine l_nil ?_
                                                                                refine hK84 _ _ ?_
                                                                                refine fg3 0 9 110 (gS rfl (gS rfl (gS rfl (gS rfl (gS rfl (gS rfl (gS rfl (gS rfl (gS rfl (gS rfl g0)))))))))) (gS rfl (gS rfl (gS rfl (gS rfl (gS rfl (gS rfl (gS rfl (gS rfl g0)))))))) g0 (fun g => ?_)
                                                                                refine c_condV (i := 110) g0 rfl (fun cB11 => ?_) (fun cB11 => ?_)
                                                                                · skip
                                                                                  
                                                                                  have e11 : feeM T < feeT T := of_decide_eq_true cB11
                                                                                  refine c_seq (fun K88 hK88 => ?_)
                                                                                  exact (by
                                                                                    refine c_region ?_
                                                                                    refine l_step y_assignC ?_
                                                                                    refine l_nil ?_
                                                                                    refine hK88 _ _ ?_
                                                                                    refine fg1 4 g0 (fun g => ?_)
                                                                                    refine c_ret ?_
                                                                                    refine hQ31 _ _ _ (in_ret ?_)
                                                                                    repeat with_reducible refine then_ret ?_
                                                                                    refine ret1 rfl (res_tmp (et g0 rfl)) ?_
                                                                                    exact ⟨_, by rw [verdN, if_neg e1, if_neg e2, if_neg e3, if_neg e4, if_neg e5, if_neg e6, if_neg e7, if_neg e8, if_neg e9, if_neg e10, if_pos e11]; rfl, G⟩)
                                                                                · skip
                                                                                  
                                                                                  have e11 : ¬ (feeM T < feeT T) := of_decide_eq_false cB11
                                                                                  refine c_seq (fun K89 hK89 => ?_)
                                                                                  exact (by
                                                                                    refine c_region ?_
                                                                                    refine l_step (y_moveV (et (gS rfl (gS rfl g0)) rfl)) ?_
                                                                                    refine l_step (y_moveV (et (gS rfl (gS rfl (gS rfl (gS rfl g0)))) rfl)) ?_
                                                                                    refine l_eff (e_callV cal_70 (aC (et g0 rfl) aN) (yp_baseFee hF _ _ _ _ kS (hs.mono hL0))) (fun v90 w90 h90 => ?_)
                                                                                    obtain ⟨H90, g90, n90, q90⟩ := h90
                                                                                    have hlew90 := g90.le
                                                                                    replace nb2 := g90.nb nb2 k2.lt
                                                                                    replace nb6 := g90.nb nb6 k6.lt
                                                                                    replace nb19 := g90.nb nb19 k19.lt
                                                                                    replace nb20 := g90.nb nb20 k20.lt
                                                                                    replace pa4 := pa4.mono hlew90
                                                                                    replace n16 := n16.mono hlew90
                                                                                    replace n24 := n24.mono hlew90
                                                                                    replace n27 := n27.mono hlew90
                                                                                    replace n28 := n28.mono hlew90
                                                                                    replace n29 := n29.mono hlew90
                                                                                    replace n39 := n39.mono hlew90
                                                                                    replace hnn52 := hnn52.mono hlew90
                                                                                    replace hbb52 := hbb52.mono hlew90
                                                                                    replace hcd52 := hcd52.mono hlew90
                                                                                    replace hss52 := hss52.mono hlew90
                                                                                    replace n53 := n53.mono hlew90
                                                                                    replace n59 := n59.mono hlew90
                                                                                    replace n71 := n71.mono hlew90
                                                                                    replace n76 := n76.mono hlew90
                                                                                    replace n85 := n85.mono hlew90
                                                                                    replace hL0 := hL0.trans hlew90
                                                                                    replace k2 := k2.up g90.up
                                                                                    replace k6 := k6.up g90.up
                                                                                    replace k19 := k19.up g90.up
                                                                                    replace k20 := k20.up g90.up
                                                                                    replace kS := kS.up g90.up
                                                                                    replace U := U.tr g90.up
                                                                                    replace G := G.tr g90
                                                                                    replace hF := g90.fz
                                                                                    exact (by
                                                                                      refine l_eff (e_callV cal_121 (aC (et (gS rfl (gS rfl g0)) rfl) (aC (et g0 rfl) aN)) (nat_cmp hF n24 n90 (bd_sm (bd_W (feeM_lt tok)) (by decide)) (bd_sm q90 (by decide)))) (fun v91 w91 h91 => ?_)
                                                                                      obtain ⟨rfl, u91⟩ := h91
                                                                                      replace G := G.tr (Go.ofUp hF u91)
                                                                                      replace hF := hF.up u91
                                                                                      replace k2 := k2.up u91
                                                                                      replace k6 := k6.up u91
                                                                                      replace k19 := k19.up u91
                                                                                      replace k20 := k20.up u91
                                                                                      replace kS := kS.up u91
                                                                                      replace U := U.tr u91
                                                                                      refine l_step ((y_lss (et g0 rfl) rfl).to (congrArg Value.bool (cmp_lt0 _ _))) ?_
                                                                                      refine l_step (y_assignV (et g0 rfl)) ?_
                                                                                      refine l_nil ?_
                                                                                      refine hK89 _ _ ?_
                                                                                      refine fg1 116 g0 (fun g => ?_)
                                                                                      refine c_condV (i := 116) g0 rfl (fun cB12 => ?_) (fun cB12 => ?_)
                                                                                      · skip
                                                                                        
                                                                                        have e12 : feeM T < s.env.baseFee := of_decide_eq_true cB12
                                                                                        refine c_seq (fun K93 hK93 => ?_)
                                                                                        exact (by
                                                                                          refine c_region ?_
                                                                                          refine l_step y_assignC ?_
                                                                                          refine l_nil ?_
                                                                                          refine hK93 _ _ ?_
                                                                                          refine fg1 4 g0 (fun g => ?_)
                                                                                          refine c_ret ?_
                                                                                          refine hQ31 _ _ _ (in_ret ?_)
                                                                                          repeat with_reducible refine then_ret ?_
                                                                                          refine ret1 rfl (res_tmp (et g0 rfl)) ?_
                                                                                          exact ⟨_, by rw [verdN, if_neg e1, if_neg e2, if_neg e3, if_neg e4, if_neg e5, if_neg e6, if_neg e7, if_neg e8, if_neg e9, if_neg e10, if_neg e11, if_pos e12]; rfl, G⟩)
                                                                                      · skip
                                                                                        
                                                                                        have e12 : ¬ (feeM T < s.env.baseFee) := of_decide_eq_false cB12
                                                                                        refine c_skip ?_
                                                                                        refine hQ31 _ _ _ (in_normal ?_)
                                                                                        refine hK30 _ _ ?_
                                                                                        refine fg0 (fun g => ?_)
                                                                                        refine c_seq (fun K94 hK94 => ?_)
                                                                                        exact (by
                                                                                          refine c_region ?_
                                                                                          refine l_step y_assignC ?_
                                                                                          refine l_nil ?_
                                                                                          refine hK94 _ _ ?_
                                                                                          refine c_ret ?_
                                                                                          repeat with_reducible refine then_ret ?_
                                                                                          refine ret1 rfl (res_tmp (et g0 rfl)) ?_
                                                                                          exact ⟨_, by rw [verdN, if_neg e1, if_neg e2, if_neg e3, if_neg e4, if_neg e5, if_neg e6, if_neg e7, if_neg e8, if_neg e9, if_neg e10, if_neg e11, if_neg e12]; rfl, G⟩))))))))))
                                                        · skip
                                                          have e7 : ¬ (T.create = true ∧ 512 < T.data.length) := fun h9 => by rw [h9.1] at q67; cases q67
                                                          refine l_gskip (j := 2) (t := 82) (by exact rfl) (by exact rfl) (et g0 rfl) (by decide) (by decide) ?_
                                                          refine l_gskip (j := 2) (t := 82) (by exact rfl) (by exact rfl) (et (gS rfl g0) rfl) (by decide) (by decide) ?_
                                                          refine l_gskip (j := 2) (t := 82) (by exact rfl) (by exact rfl) (et (gS rfl (gS rfl g0)) rfl) (by decide) (by decide) ?_
                                                          refine l_gskip (j := 2) (t := 82) (by exact rfl) (by exact rfl) (et (gS rfl (gS rfl (gS rfl g0))) rfl) (by decide) (by decide) ?_
                                                          refine l_step (y_pickF (et (gS rfl (gS rfl (gS rfl (gS rfl g0)))) rfl) rfl) ?_
                                                          refine l_step (y_assignV (et g0 rfl)) ?_
                                                          refine l_nil ?_
                                                          refine hK66 _ _ ?_
                                                          refine fg8 0 3 5 6 8 9 10 79 (gS rfl (gS rfl (gS rfl (gS rfl (gS rfl (gS rfl (gS rfl (gS rfl (gS rfl (gS rfl (gS rfl (gS rfl (gS rfl (gS rfl (gS rfl (gS rfl (gS rfl (gS rfl g0)))))))))))))))))) (gS rfl (gS rfl (gS rfl (gS rfl (gS rfl (gS rfl (gS rfl (gS rfl (gS rfl (gS rfl (gS rfl (gS rfl (gS rfl (gS rfl (gS rfl (gS rfl (gS rfl g0))))))))))))))))) (gS rfl (gS rfl (gS rfl (gS rfl (gS rfl (gS rfl (gS rfl (gS rfl (gS rfl (gS rfl (gS rfl (gS rfl (gS rfl (gS rfl (gS rfl (gS rfl g0)))))))))))))))) (gS rfl (gS rfl (gS rfl (gS rfl (gS rfl (gS rfl (gS rfl (gS rfl (gS rfl (gS rfl (gS rfl (gS rfl (gS rfl (gS rfl (gS rfl g0))))))))))))))) (gS rfl (gS rfl (gS rfl (gS rfl (gS rfl (gS rfl (gS rfl (gS rfl (gS rfl (gS rfl (gS rfl (gS rfl (gS rfl (gS rfl g0)))))))))))))) (gS rfl (gS rfl (gS rfl (gS rfl (gS rfl (gS rfl (gS rfl (gS rfl (gS rfl (gS rfl (gS rfl (gS rfl (gS rfl g0))))))))))))) (gS rfl (gS rfl (gS rfl (gS rfl (gS rfl (gS rfl (gS rfl (gS rfl (gS rfl (gS rfl (gS rfl (gS rfl g0)))))))))))) g0 (fun g => ?_)
                                                          refine c_false (et g0 rfl) rfl ?_
                                                          refine c_seq (fun K96 hK96 => ?_)
                                                          exact (by
                                                            refine c_region ?_
                                                            refine l_step (y_moveV (et (gS rfl (gS rfl (gS rfl (gS rfl g0)))) rfl)) ?_
                                                            refine l_step (y_loadB agg_41 sz_41 (et (gS rfl (gS rfl (gS rfl (gS rfl (gS rfl (gS rfl (gS rfl g0))))))) rfl) (by rw [List.size_toArray]; exact htl) (at1B k2)) ?_
                                                            refine l_eff (e_callV cal_46 (aC (et g0 rfl) aN) (yp_intrinsic hF (ht.mono hL0) hd9 hls9)) (fun v97 w97 h97 => ?_)
                                                            obtain ⟨H97, g97, n97, q97⟩ := h97
                                                            have hlew97 := g97.le
                                                            replace nb2 := g97.nb nb2 k2.lt
                                                            replace nb6 := g97.nb nb6 k6.lt
                                                            replace nb19 := g97.nb nb19 k19.lt
                                                            replace nb20 := g97.nb nb20 k20.lt
                                                            replace pa4 := pa4.mono hlew97
                                                            replace n16 := n16.mono hlew97
                                                            replace n24 := n24.mono hlew97
                                                            replace n27 := n27.mono hlew97
                                                            replace n28 := n28.mono hlew97
                                                            replace n29 := n29.mono hlew97
                                                            replace n39 := n39.mono hlew97
                                                            replace hnn52 := hnn52.mono hlew97
                                                            replace hbb52 := hbb52.mono hlew97
                                                            replace hcd52 := hcd52.mono hlew97
                                                            replace hss52 := hss52.mono hlew97
                                                            replace n53 := n53.mono hlew97
                                                            replace n59 := n59.mono hlew97
                                                            replace hL0 := hL0.trans hlew97
                                                            replace k2 := k2.up g97.up
                                                            replace k6 := k6.up g97.up
                                                            replace k19 := k19.up g97.up
                                                            replace k20 := k20.up g97.up
                                                            replace kS := kS.up g97.up
                                                            replace U := U.tr g97.up
                                                            replace G := G.tr g97
                                                            replace hF := g97.fz
                                                            exact (by
                                                              refine l_eff (e_callV cal_121 (aC (et (gS rfl (gS rfl g0)) rfl) (aC (et g0 rfl) aN)) (nat_cmp hF n16 n97 (bd_sm q16 (by decide)) (bd_sm q97 (by decide)))) (fun v98 w98 h98 => ?_)
                                                              obtain ⟨rfl, u98⟩ := h98
                                                              replace G := G.tr (Go.ofUp hF u98)
                                                              replace hF := hF.up u98
                                                              replace k2 := k2.up u98
                                                              replace k6 := k6.up u98
                                                              replace k19 := k19.up u98
                                                              replace k20 := k20.up u98
                                                              replace kS := kS.up u98
                                                              replace U := U.tr u98
                                                              refine l_step ((y_lss (et g0 rfl) rfl).to (congrArg Value.bool (cmp_lt0 _ _))) ?_
                                                              refine l_step (y_assignV (et g0 rfl)) ?_
                                                              refine l_nil ?_
                                                              refine hK96 _ _ ?_
                                                              refine fg7 0 5 6 8 9 10 88 (gS rfl (gS rfl (gS rfl (gS rfl (gS rfl (gS rfl (gS rfl (gS rfl (gS rfl (gS rfl (gS rfl (gS rfl (gS rfl g0))))))))))))) (gS rfl (gS rfl (gS rfl (gS rfl (gS rfl (gS rfl (gS rfl (gS rfl (gS rfl (gS rfl (gS rfl g0))))))))))) (gS rfl (gS rfl (gS rfl (gS rfl (gS rfl (gS rfl (gS rfl (gS rfl (gS rfl (gS rfl g0)))))))))) (gS rfl (gS rfl (gS rfl (gS rfl (gS rfl (gS rfl (gS rfl (gS rfl (gS rfl g0))))))))) (gS rfl (gS rfl (gS rfl (gS rfl (gS rfl (gS rfl (gS rfl (gS rfl g0)))))))) (gS rfl (gS rfl (gS rfl (gS rfl (gS rfl (gS rfl (gS rfl g0))))))) g0 (fun g => ?_)
                                                              refine c_condV (i := 88) g0 rfl (fun cB8 => ?_) (fun cB8 => ?_)
                                                              · skip
                                                                
                                                                have e8 : T.gas < intrN T := of_decide_eq_true cB8
                                                                refine c_seq (fun K100 hK100 => ?_)
                                                                exact (by
                                                                  refine c_region ?_
                                                                  refine l_step y_assignC ?_
                                                                  refine l_nil ?_
                                                                  refine hK100 _ _ ?_
                                                                  refine fg1 4 g0 (fun g => ?_)
                                                                  refine c_ret ?_
                                                                  refine hQ31 _ _ _ (in_ret ?_)
                                                                  repeat with_reducible refine then_ret ?_
                                                                  refine ret1 rfl (res_tmp (et g0 rfl)) ?_
                                                                  exact ⟨_, by rw [verdN, if_neg e1, if_neg e2, if_neg e3, if_neg e4, if_neg e5, if_neg e6, if_neg e7, if_pos e8]; rfl, G⟩)
                                                              · skip
                                                                
                                                                have e8 : ¬ (T.gas < intrN T) := of_decide_eq_false cB8
                                                                refine c_seq (fun K101 hK101 => ?_)
                                                                exact (by
                                                                  refine c_region ?_
                                                                  refine l_step (y_moveV (et (gS rfl (gS rfl (gS rfl (gS rfl (gS rfl g0))))) rfl)) ?_
                                                                  refine l_step (y_moveV (et (gS rfl (gS rfl (gS rfl (gS rfl (gS rfl (gS rfl (gS rfl (gS rfl g0)))))))) rfl)) ?_
                                                                  refine l_step (y_nil (et g0 rfl)) ?_
                                                                  refine l_step (y_fld fld_102_14 (et g0 rfl)) ?_
                                                                  refine l_step (y_fld fld_31_3 (et g0 rfl)) ?_
                                                                  refine l_step (y_load1 one_26 (et g0 rfl) (at1 (kS.cell (rE2 2 _ rfl)))) ?_
                                                                  refine l_eff (e_callV cal_32 (aC (et g0 rfl) aN) (yp_num hF (eo.gasLimit))) (fun v102 w102 h102 => ?_)
                                                                  obtain ⟨H102, g102, n102⟩ := h102
                                                                  have hlew102 := g102.le
                                                                  replace nb2 := g102.nb nb2 k2.lt
                                                                  replace nb6 := g102.nb nb6 k6.lt
                                                                  replace nb19 := g102.nb nb19 k19.lt
                                                                  replace nb20 := g102.nb nb20 k20.lt
                                                                  replace pa4 := pa4.mono hlew102
                                                                  replace n16 := n16.mono hlew102
                                                                  replace n24 := n24.mono hlew102
                                                                  replace n27 := n27.mono hlew102
                                                                  replace n28 := n28.mono hlew102
                                                                  replace n29 := n29.mono hlew102
                                                                  replace n39 := n39.mono hlew102
                                                                  replace hnn52 := hnn52.mono hlew102
                                                                  replace hbb52 := hbb52.mono hlew102
                                                                  replace hcd52 := hcd52.mono hlew102
                                                                  replace hss52 := hss52.mono hlew102
                                                                  replace n53 := n53.mono hlew102
                                                                  replace n59 := n59.mono hlew102
                                                                  replace n97 := n97.mono hlew102
                                                                  replace hL0 := hL0.trans hlew102
                                                                  replace k2 := k2.up g102.up
                                                                  replace k6 := k6.up g102.up
                                                                  replace k19 := k19.up g102.up
                                                                  replace k20 := k20.up g102.up
                                                                  replace kS := kS.up g102.up
                                                                  replace U := U.tr g102.up
                                                                  replace G := G.tr g102
                                                                  replace hF := g102.fz
                                                                  have q102 := bd_64 (eo.gasLimit)
                                                                  exact (by
                                                                    refine l_eff (e_callV cal_121 (aC (et (gS rfl (gS rfl (gS rfl (gS rfl (gS rfl (gS rfl g0)))))) rfl) (aC (et g0 rfl) aN)) (nat_cmp hF n16 n102 (bd_sm q16 (by decide)) (bd_sm q102 (by decide)))) (fun v103 w103 h103 => ?_)
                                                                    obtain ⟨rfl, u103⟩ := h103
                                                                    replace G := G.tr (Go.ofUp hF u103)
                                                                    replace hF := hF.up u103
                                                                    replace k2 := k2.up u103
                                                                    replace k6 := k6.up u103
                                                                    replace k19 := k19.up u103
                                                                    replace k20 := k20.up u103
                                                                    replace kS := kS.up u103
                                                                    replace U := U.tr u103
                                                                    refine l_step ((y_gtr (et g0 rfl) rfl).to (congrArg Value.bool (cmp_gt0 _ _))) ?_
                                                                    refine l_step (y_assignV (et g0 rfl)) ?_
                                                                    refine l_nil ?_
                                                                    refine hK101 _ _ ?_
                                                                    refine fg6 0 5 8 9 10 94 (gS rfl (gS rfl (gS rfl (gS rfl (gS rfl (gS rfl (gS rfl (gS rfl (gS rfl (gS rfl (gS rfl (gS rfl (gS rfl (gS rfl (gS rfl (gS rfl (gS rfl g0))))))))))))))))) (gS rfl (gS rfl (gS rfl (gS rfl (gS rfl (gS rfl (gS rfl (gS rfl (gS rfl (gS rfl (gS rfl (gS rfl (gS rfl (gS rfl (gS rfl (gS rfl g0)))))))))))))))) (gS rfl (gS rfl (gS rfl (gS rfl (gS rfl (gS rfl (gS rfl (gS rfl (gS rfl (gS rfl (gS rfl (gS rfl (gS rfl (gS rfl g0)))))))))))))) (gS rfl (gS rfl (gS rfl (gS rfl (gS rfl (gS rfl (gS rfl (gS rfl (gS rfl (gS rfl (gS rfl (gS rfl (gS rfl g0))))))))))))) (gS rfl (gS rfl (gS rfl (gS rfl (gS rfl (gS rfl (gS rfl (gS rfl (gS rfl (gS rfl (gS rfl (gS rfl g0)))))))))))) g0 (fun g => ?_)
                                                                    refine c_condV (i := 94) g0 rfl (fun cB9 => ?_) (fun cB9 => ?_)
                                                                    · skip
                                                                      
                                                                      have e9 : s.env.gasLimit < T.gas := of_decide_eq_true cB9
                                                                      refine c_seq (fun K105 hK105 => ?_)
                                                                      exact (by
                                                                        refine c_region ?_
                                                                        refine l_step y_assignC ?_
                                                                        refine l_nil ?_
                                                                        refine hK105 _ _ ?_
                                                                        refine fg1 4 g0 (fun g => ?_)
                                                                        refine c_ret ?_
                                                                        refine hQ31 _ _ _ (in_ret ?_)
                                                                        repeat with_reducible refine then_ret ?_
                                                                        refine ret1 rfl (res_tmp (et g0 rfl)) ?_
                                                                        exact ⟨_, by rw [verdN, if_neg e1, if_neg e2, if_neg e3, if_neg e4, if_neg e5, if_neg e6, if_neg e7, if_neg e8, if_pos e9]; rfl, G⟩)
                                                                    · skip
                                                                      
                                                                      have e9 : ¬ (s.env.gasLimit < T.gas) := of_decide_eq_false cB9
                                                                      refine c_seq (fun K106 hK106 => ?_)
                                                                      exact (by
                                                                        refine c_region ?_
                                                                        refine l_step (y_fld fld_107_2 (et (gS rfl (gS rfl (gS rfl (gS rfl (gS rfl g0))))) rfl)) ?_
                                                                        refine l_step (y_load1 one_95 (et g0 rfl) (at1 (k6.cell (acct_c21 hca52)))) ?_
                                                                        refine l_step (y_moveV (et (gS rfl (gS rfl (gS rfl (gS rfl g0)))) rfl)) ?_
                                                                        refine l_eff (e_callV cal_121 (aC (et (gS rfl g0) rfl) (aC (et g0 rfl) aN)) (nat_cmp hF hbb52 n29 (bd_sm (bd_W hb252) (by decide)) (bd_sm q29 (by decide)))) (fun v107 w107 h107 => ?_)
                                                                        obtain ⟨rfl, u107⟩ := h107
                                                                        replace G := G.tr (Go.ofUp hF u107)
                                                                        replace hF := hF.up u107
                                                                        replace k2 := k2.up u107
                                                                        replace k6 := k6.up u107
                                                                        replace k19 := k19.up u107
                                                                        replace k20 := k20.up u107
                                                                        replace kS := kS.up u107
                                                                        replace U := U.tr u107
                                                                        refine l_step ((y_lss (et g0 rfl) rfl).to (congrArg Value.bool (cmp_lt0 _ _))) ?_
                                                                        refine l_step (y_assignV (et g0 rfl)) ?_
                                                                        refine l_nil ?_
                                                                        refine hK106 _ _ ?_
                                                                        refine fg4 0 8 9 104 (gS rfl (gS rfl (gS rfl (gS rfl (gS rfl (gS rfl (gS rfl (gS rfl (gS rfl (gS rfl (gS rfl (gS rfl g0)))))))))))) (gS rfl (gS rfl (gS rfl (gS rfl (gS rfl (gS rfl (gS rfl (gS rfl (gS rfl (gS rfl g0)))))))))) (gS rfl (gS rfl (gS rfl (gS rfl (gS rfl (gS rfl (gS rfl (gS rfl (gS rfl g0))))))))) g0 (fun g => ?_)
                                                                        refine c_condV (i := 104) g0 rfl (fun cB10 => ?_) (fun cB10 => ?_)
                                                                        · skip
                                                                          
                                                                          have e10 : (vdA s T).bal < T.gas * feeM T + T.value := of_decide_eq_true cB10
                                                                          refine c_seq (fun K109 hK109 => ?_)
                                                                          exact (by
                                                                            refine c_region ?_
                                                                            refine l_step y_assignC ?_
                                                                            refine l_nil ?_
                                                                            refine hK109 _ _ ?_
                                                                            refine fg1 4 g0 (fun g => ?_)
                                                                            refine c_ret ?_
                                                                            refine hQ31 _ _ _ (in_ret ?_)
                                                                            repeat with_reducible refine then_ret ?_
                                                                            refine ret1 rfl (res_tmp (et g0 rfl)) ?_
                                                                            exact ⟨_, by rw [verdN, if_neg e1, if_neg e2, if_neg e3, if_neg e4, if_neg e5, if_neg e6, if_neg e7, if_neg e8, if_neg e9, if_pos e10]; rfl, G⟩)
                                                                        · skip
                                                                          
                                                                          have e10 : ¬ ((vdA s T).bal < T.gas * feeM T + T.value) := of_decide_eq_false cB10
                                                                          refine c_seq (fun K110 hK110 => ?_)
                                                                          exact (by
                                                                            refine c_region ?_
                                                                            refine l_step (y_slA000 Hvaa.underlying28 sz_5 (et (gS rfl (gS rfl (gS rfl g0))) rfl) ) ?_
                                                                            refine l_eff (e_callV cal_33 (aC (et g0 rfl) aN) (nat_fromRow hF (k20.row (RowIn.self _)) k20.lt (bd_W (feeT_lt tok)) (by decide))) (fun v111 w111 h111 => ?_)
                                                                            obtain ⟨H111, g111, n111⟩ := h111
                                                                            have hlew111 := g111.le
                                                                            replace nb2 := g111.nb nb2 k2.lt
                                                                            replace nb6 := g111.nb nb6 k6.lt
                                                                            replace nb19 := g111.nb nb19 k19.lt
                                                                            replace nb20 := g111.nb nb20 k20.lt
                                                                            replace pa4 := pa4.mono hlew111
                                                                            replace n16 := n16.mono hlew111
                                                                            replace n24 := n24.mono hlew111
                                                                            replace n27 := n27.mono hlew111
                                                                            replace n28 := n28.mono hlew111
                                                                            replace n29 := n29.mono hlew111
                                                                            replace n39 := n39.mono hlew111
                                                                            replace hnn52 := hnn52.mono hlew111
                                                                            replace hbb52 := hbb52.mono hlew111
                                                                            replace hcd52 := hcd52.mono hlew111
                                                                            replace hss52 := hss52.mono hlew111
                                                                            replace n53 := n53.mono hlew111
                                                                            replace n59 := n59.mono hlew111
                                                                            replace n97 := n97.mono hlew111
                                                                            replace n102 := n102.mono hlew111
                                                                            replace hL0 := hL0.trans hlew111
                                                                            replace k2 := k2.up g111.up
                                                                            replace k6 := k6.up g111.up
                                                                            replace k19 := k19.up g111.up
                                                                            replace k20 := k20.up g111.up
                                                                            replace kS := kS.up g111.up
                                                                            replace U := U.tr g111.up
                                                                            replace G := G.tr g111
                                                                            replace hF := g111.fz
                                                                            exact (by
                                                                              refine l_step (y_moveV (et (gS rfl (gS rfl (gS rfl (gS rfl g0)))) rfl)) ?_
                                                                              refine l_eff (e_callV cal_121 (aC (et (gS rfl g0) rfl) (aC (et g0 rfl) aN)) (nat_cmp hF n111 n24 (bd_sm (bd_W (feeT_lt tok)) (by decide)) (bd_sm (bd_W (feeM_lt tok)) (by decide)))) (fun v112 w112 h112 => ?_)
                                                                              obtain ⟨rfl, u112⟩ := h112
                                                                              replace G := G.tr (Go.ofUp hF u112)
                                                                              replace hF := hF.up u112
                                                                              replace k2 := k2.up u112
                                                                              replace k6 := k6.up u112
                                                                              replace k19 := k19.up u112
                                                                              replace k20 := k20.up u112
                                                                              replace kS := kS.up u112
                                                                              replace U := U.tr u112
                                                                              refine l_step ((y_gtr (et g0 rfl) rfl).to (congrArg Value.bool (cmp_gt0 _ _))) ?_
                                                                              refine l_step (y_assignV (et g0 rfl)) ?_
                                                                              refine l_nil ?_
                                                                              refine hK110 _ _ ?_
                                                                              refine fg3 0 9 110 (gS rfl (gS rfl (gS rfl (gS rfl (gS rfl (gS rfl (gS rfl (gS rfl (gS rfl (gS rfl g0)))))))))) (gS rfl (gS rfl (gS rfl (gS rfl (gS rfl (gS rfl (gS rfl (gS rfl g0)))))))) g0 (fun g => ?_)
                                                                              refine c_condV (i := 110) g0 rfl (fun cB11 => ?_) (fun cB11 => ?_)
                                                                              · skip
                                                                                
                                                                                have e11 : feeM T < feeT T := of_decide_eq_true cB11
                                                                                refine c_seq (fun K114 hK114 => ?_)
                                                                                exact (by
                                                                                  refine c_region ?_
                                                                                  refine l_step y_assignC ?_
                                                                                  refine l_nil ?_
                                                                                  refine hK114 _ _ ?_
                                                                                  refine fg1 4 g0 (fun g => ?_)
                                                                                  refine c_ret ?_
                                                                                  refine hQ31 _ _ _ (in_ret ?_)
                                                                                  repeat with_reducible refine then_ret ?_
                                                                                  refine ret1 rfl (res_tmp (et g0 rfl)) ?_
                                                                                  exact ⟨_, by rw [verdN, if_neg e1, if_neg e2, if_neg e3, if_neg e4, if_neg e5, if_neg e6, if_neg e7, if_neg e8, if_neg e9, if_neg e10, if_pos e11]; rfl, G⟩)
                                                                              · skip
                                                                                
                                                                                have e11 : ¬ (feeM T < feeT T) := of_decide_eq_false cB11
                                                                                refine c_seq (fun K115 hK115 => ?_)
                                                                                exact (by
                                                                                  refine c_region ?_
                                                                                  refine l_step (y_moveV (et (gS rfl (gS rfl g0)) rfl)) ?_
                                                                                  refine l_step (y_moveV (et (gS rfl (gS rfl (gS rfl (gS rfl g0)))) rfl)) ?_
                                                                                  refine l_eff (e_callV cal_70 (aC (et g0 rfl) aN) (yp_baseFee hF _ _ _ _ kS (hs.mono hL0))) (fun v116 w116 h116 => ?_)
                                                                                  obtain ⟨H116, g116, n116, q116⟩ := h116
                                                                                  have hlew116 := g116.le
                                                                                  replace nb2 := g116.nb nb2 k2.lt
                                                                                  replace nb6 := g116.nb nb6 k6.lt
                                                                                  replace nb19 := g116.nb nb19 k19.lt
                                                                                  replace nb20 := g116.nb nb20 k20.lt
                                                                                  replace pa4 := pa4.mono hlew116
                                                                                  replace n16 := n16.mono hlew116
                                                                                  replace n24 := n24.mono hlew116
                                                                                  replace n27 := n27.mono hlew116
                                                                                  replace n28 := n28.mono hlew116
                                                                                  replace n29 := n29.mono hlew116
                                                                                  replace n39 := n39.mono hlew116
                                                                                  replace hnn52 := hnn52.mono hlew116
                                                                                  replace hbb52 := hbb52.mono hlew116
                                                                                  replace hcd52 := hcd52.mono hlew116
                                                                                  replace hss52 := hss52.mono hlew116
                                                                                  replace n53 := n53.mono hlew116
                                                                                  replace n59 := n59.mono hlew116
                                                                                  replace n97 := n97.mono hlew116
                                                                                  replace n102 := n102.mono hlew116
                                                                                  replace n111 := n111.mono hlew116
                                                                                  replace hL0 := hL0.trans hlew116
                                                                                  replace k2 := k2.up g116.up
                                                                                  replace k6 := k6.up g116.up
                                                                                  replace k19 := k19.up g116.up
                                                                                  replace k20 := k20.up g116.up
                                                                                  replace kS := kS.up g116.up
                                                                                  replace U := U.tr g116.up
                                                                                  replace G := G.tr g116
                                                                                  replace hF := g116.fz
                                                                                  exact (by
                                                                                    refine l_eff (e_callV cal_121 (aC (et (gS rfl (gS rfl g0)) rfl) (aC (et g0 rfl) aN)) (nat_cmp hF n24 n116 (bd_sm (bd_W (feeM_lt tok)) (by decide)) (bd_sm q116 (by decide)))) (fun v117 w117 h117 => ?_)
                                                                                    obtain ⟨rfl, u117⟩ := h117
                                                                                    replace G := G.tr (Go.ofUp hF u117)
                                                                                    replace hF := hF.up u117
                                                                                    replace k2 := k2.up u117
                                                                                    replace k6 := k6.up u117
                                                                                    replace k19 := k19.up u117
                                                                                    replace k20 := k20.up u117
                                                                                    replace kS := kS.up u117
                                                                                    replace U := U.tr u117
                                                                                    refine l_step ((y_lss (et g0 rfl) rfl).to (congrArg Value.bool (cmp_lt0 _ _))) ?_
                                                                                    refine l_step (y_assignV (et g0 rfl)) ?_
                                                                                    refine l_nil ?_
                                                                                    refine hK115 _ _ ?_
                                                                                    refine fg1 116 g0 (fun g => ?_)
                                                                                    refine c_condV (i := 116) g0 rfl (fun cB12 => ?_) (fun cB12 => ?_)
                                                                                    · skip
                                                                                      
                                                                                      have e12 : feeM T < s.env.baseFee := of_decide_eq_true cB12
                                                                                      refine c_seq (fun K119 hK119 => ?_)
                                                                                      exact (by
                                                                                        refine c_region ?_
                                                                                        refine l_step y_assignC ?_
                                                                                        refine l_nil ?_
                                                                                        refine hK119 _ _ ?_
                                                                                        refine fg1 4 g0 (fun g => ?_)
                                                                                        refine c_ret ?_
                                                                                        refine hQ31 _ _ _ (in_ret ?_)
                                                                                        repeat with_reducible refine then_ret ?_
                                                                                        refine ret1 rfl (res_tmp (et g0 rfl)) ?_
                                                                                        exact ⟨_, by rw [verdN, if_neg e1, if_neg e2, if_neg e3, if_neg e4, if_neg e5, if_neg e6, if_neg e7, if_neg e8, if_neg e9, if_neg e10, if_neg e11, if_pos e12]; rfl, G⟩)
                                                                                    · skip
                                                                                      
                                                                                      have e12 : ¬ (feeM T < s.env.baseFee) := of_decide_eq_false cB12
                                                                                      refine c_skip ?_
                                                                                      refine hQ31 _ _ _ (in_normal ?_)
                                                                                      refine hK30 _ _ ?_
                                                                                      refine fg0 (fun g => ?_)
                                                                                      refine c_seq (fun K120 hK120 => ?_)
                                                                                      exact (by
                                                                                        refine c_region ?_
                                                                                        refine l_step y_assignC ?_
                                                                                        refine l_nil ?_
                                                                                        refine hK120 _ _ ?_
                                                                                        refine c_ret ?_
                                                                                        repeat with_reducible refine then_ret ?_
                                                                                        refine ret1 rfl (res_tmp (et g0 rfl)) ?_
                                                                                        exact ⟨_, by rw [verdN, if_neg e1, if_neg e2, if_neg e3, if_neg e4, if_neg e5, if_neg e6, if_neg e7, if_neg e8, if_neg e9, if_neg e10, if_neg e11, if_neg e12]; rfl, G⟩)))))))))))))))))))))))))))))
end Go.Proofs.YgvaawGreat
