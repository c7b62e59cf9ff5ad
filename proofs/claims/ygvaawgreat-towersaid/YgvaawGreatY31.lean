import Derived.Test.YgvaawGreatY30
set_option maxRecDepth 100000
set_option maxHeartbeats 4000000
set_option linter.unusedSimpArgs false
set_option linter.unusedVariables false
namespace Go.Proofs.YgvaawGreat
open Go
theorem yp_hashedAddr (hKec : KSum) {w : World} {H : Store} (hF : Fz w H) {vb : Value} {l : List Nat} (hB : BV H vb l) (hl : l.length ≤ 1099511627776) :
    Ret 124 [vb] w (fun v w' => v = aV (kecN l % A160) ∧ Up w w') := by
  refine enter (n := 9) Hvaa.func124 rfl rfl (Nat.le_of_ble_eq_true rfl) ?_
  have U := Up.refl w
  have G : Go (No) w H w H := Go.refl hF
  refine c_seq (fun K1 hK1 => ?_)
  exact (by
    refine c_region ?_
    refine l_eff (e_alloc zr_25) (fun v2 w2 h2 => ?_)
    obtain ⟨b2, rfl, n2⟩ := h2
    have f2 : w.heap.size ≤ b2 := Nat.le_trans U.size n2.fresh
    have nb2 := hF.nb n2.fresh
    replace G := G.tr (Go.ofUp hF n2.up)
    replace hF := hF.up n2.up
    replace U := U.tr n2.up
    have k2 := n2.blk
    refine l_nil ?_
    refine hK1 _ _ ?_
    refine c_seq (fun K3 hK3 => ?_)
    exact (by
      refine c_region ?_
      refine l_step (y_moveV (et (gS rfl g0) rfl)) ?_
      refine l_eff (e_callV cal_215 (aC (et g0 rfl) aN) (hKec _ _ _ _ hF hB (hl))) (fun v4 w4 h4 => ?_)
      obtain ⟨rfl, u4⟩ := h4
      replace G := G.tr (Go.ofUp hF u4)
      replace hF := hF.up u4
      replace k2 := k2.up u4
      replace U := U.tr u4
      refine l_eff (e_alloc zr_27) (fun v5 w5 h5 => ?_)
      obtain ⟨b5, rfl, n5⟩ := h5
      have d2_5 : b2 < b5 := Nat.lt_of_lt_of_le k2.lt n5.fresh
      have f5 : w.heap.size ≤ b5 := Nat.le_trans U.size n5.fresh
      have nb5 := hF.nb n5.fresh
      replace G := G.tr (Go.ofUp hF n5.up)
      replace hF := hF.up n5.up
      replace k2 := k2.up n5.up
      replace U := U.tr n5.up
      have k5 := n5.blk
      refine l_effN (e_store sz_27 (et g0 rfl) (cellsV (et (gS rfl g0) rfl) rfl) (by rw [length_bL, length_be]) (by exact one_bL _) k5 (by exact Nat.le_of_ble_eq_true rfl)) (fun v6 w6 h6 => ?_)
      obtain ⟨rfl, x6⟩ := h6
      replace k2 := k2.ch x6.ch (by omega)
      replace k5 := x6.blk.full (by rw [length_bL, length_be]; rfl)
      replace G := G.wr x6 (by first | exact .inr f5 | omega | (simp; omega)) nb5
      replace hF := G.fz
      replace U := U.st x6 f5
      refine l_nil ?_
      refine hK3 _ _ ?_
      refine fg2 2 3 (gS rfl (gS rfl (gS rfl g0))) g0 (fun g => ?_)
      refine c_seq (fun K7 hK7 => ?_)
      exact (by
        refine c_region ?_
        refine l_step (y_slA100 Hvaa.underlying27 sz_5 (et g0 rfl) rfl ?_ ?_ ?_) ?_
        decide
        decide
        decide
        refine l_step (y_s2a Hvaa.underlying25 (et g0 rfl) ?_) ?_
        decide
        refine l_step (y_loadR agg_25 sz_25 (et g0 rfl) (by rw [length_bL, length_be]) (at1R (addr_mid k5))) ?_
        refine l_effN (e_store sz_25 (et (gS rfl (gS rfl (gS rfl (gS rfl g0)))) rfl) (cellsV (et g0 rfl) rfl) (by rw [length_bL, length_be]) (by exact one_bL _) k2 (by exact Nat.le_of_ble_eq_true rfl)) (fun v8 w8 h8 => ?_)
        obtain ⟨rfl, x8⟩ := h8
        replace k5 := k5.ch x8.ch (by omega)
        replace k2 := x8.blk.full (by rw [length_bL, length_be]; rfl)
        replace G := G.wr x8 (by first | exact .inr f2 | omega | (simp; omega)) nb2
        replace hF := G.fz
        replace U := U.st x8 f2
        refine l_nil ?_
        refine hK7 _ _ ?_
        refine fg1 2 (gS rfl (gS rfl (gS rfl (gS rfl g0)))) (fun g => ?_)
        refine c_ret ?_
        repeat with_reducible refine then_ret ?_
        refine ret1 rfl (res_blk agg_25 sz_25 (et g0 rfl) (by rw [List.size_toArray, length_bL, length_be]) k2) ?_
        exact ⟨rfl, U⟩)))
def tknB (s : YSt) (a : Nat) : Bool := !decide ((acctAt s.now.accts a).nonce = 0) || decide (0 < (acctAt s.now.accts a).code.length)
theorem acct_form9 {H : Store} {c : List Value} {A : YAcct} (h : P_acct H c A) : ∃ vn vb vc vs, c = bL (be 20 A.addr) ++ [vn, vb, vc, vs] ∧ NV H vn A.nonce ∧ NV H vb A.bal ∧ BV H vc A.code ∧ LV P_slot 2 H vs A.slots ∧ A.nonce < 18446744073709551616 ∧ A.bal < W256 ∧ A.code.length < 4294967296 := by
  obtain ⟨vn, vb, vc, vs, h1, h2, h3, h4, h5, h6, h7, h8, h9⟩ := h
  exact ⟨vn, vb, vc, vs, h1, h3, h4, h5, h6, h7, h8, h9⟩
theorem acct_c20 {c : List Value} {a : Nat} {vn vb vc vs : Value} (h : c = bL (be 20 a) ++ [vn, vb, vc, vs]) : c.toArray[20]? = some vn := by rw [h]; exact (app20 (i := 0) rfl).trans rfl
theorem acct_c23 {c : List Value} {a : Nat} {vn vb vc vs : Value} (h : c = bL (be 20 a) ++ [vn, vb, vc, vs]) : c.toArray[23]? = some vs := by rw [h]; exact (app20 (i := 3) rfl).trans rfl
theorem yp_taken {w : World} {H : Store} (hF : Fz w H) (bs : Nat) (cs : Array Value) (s : YSt) (vf : Value) (kS : Blk w bs cs) (hs : SC H cs s vf) {a : Nat} (ha : a < A160) :
    Ret 54 [.pointer (some ⟨bs, 0, none⟩), aV a] w (fun v w' => v = .bool (tknB s a) ∧ Up w w') := by
  obtain ⟨aa, ac, wa, wc, sa, sc, vr, la, lc, ta, tc, ma, mc, ga, gc, oa, oc, ra, rc, vlim, vtx, vleft, vpr, vtot, rS, rOr, rMd, hAc, hWA, hWS, hRf, hTm, hMd, hGn, hSr, hRt, hLm, hTx, hLf, hPr, hTt⟩ := hs.ex
  have so := hs.ok
  have so1 := so.accts
  have so2 := so.warmA
  have so3 := so.warmS
  have so4 := so.temps
  have so5 := so.start
  have so6 := so.logs
  have so7 := so.made
  have so8 := so.gone
  have so9 := so.ret
  have eC := hs.env
  obtain ⟨eha, ehc, rE1, rE2, rE3, rE4, rE5, rE6, hHs⟩ := hs.env.ex
  have eo := hs.env.ok
  have eo1 := eo.hashes
  have lS := kS.lt
  refine enter (n := 21) Hvaa.func54 rfl rfl (Nat.le_of_ble_eq_true rfl) ?_
  have U := Up.refl w
  have G : Go (No) w H w H := Go.refl hF
  have hL0 : Le H H := Le.refl H
  refine c_seq (fun K1 hK1 => ?_)
  exact (by
    refine c_region ?_
    refine l_eff (e_boxV (et (gS rfl g0) rfl)) (fun v2 w2 h2 => ?_)
    obtain ⟨b2, rfl, n2⟩ := h2
    have f2 : w.heap.size ≤ b2 := Nat.le_trans U.size n2.fresh
    have nb2 := hF.nb n2.fresh
    replace G := G.tr (Go.ofUp hF n2.up)
    replace hF := hF.up n2.up
    replace kS := kS.up n2.up
    replace U := U.tr n2.up
    have k2 := n2.blk
    replace k2 : Blk w2 b2 (bL (be 20 a)).toArray := k2
    refine l_step y_assignC ?_
    refine l_nil ?_
    refine hK1 _ _ ?_
    refine fg2 0 3 (gS rfl (gS rfl g0)) (gS rfl g0) (fun g => ?_)
    refine c_seq (fun K3 hK3 => ?_)
    exact (by
      refine fgv2 0 3 (gS rfl g0) g0 (fun g z0 z3 e0 e3 => ?_)
      refine c_drawJ (fun s_ w_ => ∃ (g : Nat → Value) (b6 : Nat) (ca4 : List Value), s_ = (upd g 5 (.pointer (some ⟨b6, 0, none⟩))) ∧ Ch (fun _ => False) w2 w_ ∧ w2.heap.size ≤ b6 ∧ Blk w_ b6 (ca4.toArray) ∧ (PA H ca4 (acctAt s.now.accts a))) Up 6 (.pure 0 (.pure 1 (.pure 2 (.pure 3 (.two 4 (.eff 5 (.eff 6 .fin)) 5 (.eff 4 (.eff 6 .fin))))))) (by kernel_rfl) (fun w7 hu => ⟨Up.refl _, ?_⟩) ?_
      · skip
        subst e0 e3
        replace G := G.tr (Go.ofUp hF hu)
        replace hF := hF.up hu
        replace k2 := k2.up hu
        replace kS := kS.up hu
        replace U := U.tr hu
        have SU := Up.refl w7
        have V5 : Ch (fun _ => False) w2 w7 := hu
        refine t_step (by exact rfl) (y_moveV (et (gS rfl g0) rfl)) ?_
        refine t_step (by exact rfl) (y_nil (et g0 rfl)) ?_
        refine t_step (by exact rfl) (y_fld fld_102_0 (et g0 rfl)) ?_
        refine t_step (by exact rfl) (y_loadB agg_25 sz_25 (et (gS rfl (gS rfl (gS rfl g0))) rfl) (by rw [List.size_toArray, length_bL, length_be]) (atSB k2)) ?_
        refine t_two ?_ ?_
        · skip
          refine t_eff (by exact rfl) (e_callV cal_43 (aC (et (gS rfl g0) rfl) (aC (et g0 rfl) aN)) (yp_account _ _ _ _ _ _ _ _ _ hF kS (rS 0 _ rfl) (hAc.mono hL0) ha (by omega))) (fun v8 w8 h8 => ?_)
          obtain ⟨c8, rfl, p8, u8⟩ := h8
          replace G := G.tr (Go.ofUp hF u8)
          replace hF := hF.up u8
          replace k2 := k2.up u8
          replace kS := kS.up u8
          replace U := U.tr u8
          replace V5 := V5.tr u8
          replace p8 : PA _ _ _ := ⟨p8⟩
          refine ⟨.inr (SU.tr u8), ?_⟩
          replace SU := SU.tr u8
          refine t_one ?_
          refine t_eff (by exact rfl) (e_alloc zr_107) (fun v9 w9 h9 => ?_)
          obtain ⟨b9, rfl, n9⟩ := h9
          have d2_9 : b2 < b9 := Nat.lt_of_lt_of_le k2.lt n9.fresh
          have f9 : w.heap.size ≤ b9 := Nat.le_trans U.size n9.fresh
          have nb9 := hF.nb n9.fresh
          have fS9 := Nat.le_trans SU.size n9.fresh
          have fV5_9 := Nat.le_trans V5.size n9.fresh
          replace G := G.tr (Go.ofUp hF n9.up)
          replace hF := hF.up n9.up
          replace k2 := k2.up n9.up
          replace kS := kS.up n9.up
          replace U := U.tr n9.up
          replace V5 := V5.tr n9.up
          have k9 := n9.blk
          refine ⟨.inr (SU.tr n9.up), ?_⟩
          replace SU := SU.tr n9.up
          refine t_one ?_
          refine t_effN (by exact rfl) (e_store sz_107 (et g0 rfl) (cellsV (et (gS rfl g0) rfl) rfl) (acct_len p8.p) (by exact acct_one p8.p) k9 (by exact Nat.le_of_ble_eq_true rfl)) (fun v10 w10 h10 => ?_)
          obtain ⟨rfl, x10⟩ := h10
          replace k2 := k2.ch x10.ch (by omega)
          replace kS := kS.ch x10.ch (by first | omega | (omega))
          replace k9 := x10.blk.full (by rw [acct_len p8.p]; rfl)
          replace G := G.wr x10 (by first | exact .inr f9 | omega | (simp; omega)) nb9
          replace hF := G.fz
          replace U := U.st x10 f9
          replace V5 := V5.st x10 (by omega)
          refine ⟨.inl rfl, ?_⟩
          refine tl1 5 g0 (fun g => ?_)
          exact ⟨g, _, _, rfl, V5, Nat.le_trans hu.size fS9, k9, p8⟩
        · skip
          refine t_eff (by exact rfl) (e_alloc zr_107) (fun v11 w11 h11 => ?_)
          obtain ⟨b11, rfl, n11⟩ := h11
          have d2_11 : b2 < b11 := Nat.lt_of_lt_of_le k2.lt n11.fresh
          have f11 : w.heap.size ≤ b11 := Nat.le_trans U.size n11.fresh
          have nb11 := hF.nb n11.fresh
          have fS11 := Nat.le_trans SU.size n11.fresh
          have fV5_11 := Nat.le_trans V5.size n11.fresh
          replace G := G.tr (Go.ofUp hF n11.up)
          replace hF := hF.up n11.up
          replace k2 := k2.up n11.up
          replace kS := kS.up n11.up
          replace U := U.tr n11.up
          replace V5 := V5.tr n11.up
          have k11 := n11.blk
          refine ⟨.inr (SU.tr n11.up), ?_⟩
          replace SU := SU.tr n11.up
          refine t_one ?_
          refine t_eff (by exact rfl) (e_callV cal_43 (aC (et (gS rfl (gS rfl g0)) rfl) (aC (et (gS rfl g0) rfl) aN)) (yp_account _ _ _ _ _ _ _ _ _ hF kS (rS 0 _ rfl) (hAc.mono hL0) ha (by omega))) (fun v12 w12 h12 => ?_)
          obtain ⟨c12, rfl, p12, u12⟩ := h12
          replace G := G.tr (Go.ofUp hF u12)
          replace hF := hF.up u12
          replace k2 := k2.up u12
          replace k11 := k11.up u12
          replace kS := kS.up u12
          replace U := U.tr u12
          replace V5 := V5.tr u12
          replace p12 : PA _ _ _ := ⟨p12⟩
          refine ⟨.inr (SU.tr u12), ?_⟩
          replace SU := SU.tr u12
          refine t_one ?_
          refine t_effN (by exact rfl) (e_store sz_107 (et (gS rfl g0) rfl) (cellsV (et g0 rfl) rfl) (acct_len p12.p) (by exact acct_one p12.p) k11 (by exact Nat.le_of_ble_eq_true rfl)) (fun v13 w13 h13 => ?_)
          obtain ⟨rfl, x13⟩ := h13
          replace k2 := k2.ch x13.ch (by omega)
          replace kS := kS.ch x13.ch (by first | omega | (omega))
          replace k11 := x13.blk.full (by rw [acct_len p12.p]; rfl)
          replace G := G.wr x13 (by first | exact .inr f11 | omega | (simp; omega)) nb11
          replace hF := G.fz
          replace U := U.st x13 f11
          replace V5 := V5.st x13 (by omega)
          refine ⟨.inl rfl, ?_⟩
          refine tl1 5 (gS rfl g0) (fun g => ?_)
          exact ⟨g, _, _, rfl, V5, Nat.le_trans hu.size fS11, k11, p12⟩
      intro s_ w14 hJ
      obtain ⟨g, b6, ca4, rfl, V5, fn6, kn6, pa4⟩ := hJ
      subst e0 e3
      have d2_6 : b2 < b6 := Nat.lt_of_lt_of_le k2.lt fn6
      have f6 : w.heap.size ≤ b6 := Nat.le_trans U.size fn6
      have nb6 := hF.nb fn6
      replace G := G.tr (Go.ofUp hF V5)
      replace hF := hF.up V5
      replace k2 := k2.up V5
      replace kS := kS.up V5
      replace U := U.tr V5
      have k6 := kn6
      refine hK3 _ _ ?_
      refine c_seq (fun K15 hK15 => ?_)
      exact (by
        refine c_region ?_
        refine l_step (y_fld fld_107_1 (et g0 rfl)) ?_
        obtain ⟨vn16, vb16, vc16, vs16, hca16, hnn16, hbb16, hcd16, hss16, hb116, hb216, hb316⟩ := acct_form9 pa4.p
        obtain ⟨xa16, xc16, rfl, hxl16⟩ := hcd16.sv.val
        refine l_step (y_load1 one_95 (et g0 rfl) (at1 (k6.cell (acct_c20 hca16)))) ?_
        refine l_eff (e_callV cal_79 (aC (et g0 rfl) aN) (yp_isZero hF hnn16 (bd_sm (bd_64 hb116) (by decide)))) (fun v17 w17 h17 => ?_)
        obtain ⟨rfl, u17⟩ := h17
        replace G := G.tr (Go.ofUp hF u17)
        replace hF := hF.up u17
        replace k2 := k2.up u17
        replace k6 := k6.up u17
        replace kS := kS.up u17
        replace U := U.tr u17
        refine l_step (y_not (et g0 rfl)) ?_
        refine l_step (y_moveV (et g0 rfl)) ?_
        refine gsplitL (i := 15) g0 (fun q18 => ?_) (fun q18 => ?_)
        · skip
          have hg := q18
          refine l_gskip (j := 4) (t := 15) (by exact rfl) (by exact rfl) (et g0 rfl) (by decide) (by decide) ?_
          refine l_gskip (j := 4) (t := 15) (by exact rfl) (by exact rfl) (et (gS rfl g0) rfl) (by decide) (by decide) ?_
          refine l_gskip (j := 4) (t := 15) (by exact rfl) (by exact rfl) (et (gS rfl (gS rfl g0)) rfl) (by decide) (by decide) ?_
          refine l_gskip (j := 4) (t := 15) (by exact rfl) (by exact rfl) (et (gS rfl (gS rfl (gS rfl g0))) rfl) (by decide) (by decide) ?_
          refine l_step (y_pickT (et (gS rfl (gS rfl (gS rfl (gS rfl g0)))) rfl) rfl) ?_
          refine l_step (y_assignV (et g0 rfl)) ?_
          refine l_nil ?_
          refine hK15 _ _ ?_
          refine fg1 4 g0 (fun g => ?_)
          refine c_ret ?_
          repeat with_reducible refine then_ret ?_
          refine ret1 rfl (res_tmp (et g0 rfl)) ?_
          exact ⟨by rw [tknB]; exact congrArg Value.bool (by simp at hg; simp [hg]), U⟩
        · skip
          have hg := q18
          refine l_gstep (j := 4) (t := 15) (by exact rfl) (by exact rfl) (et g0 rfl) (by decide) (y_fld fld_107_3 (et (gS rfl (gS rfl (gS rfl (gS rfl (gS rfl (gS rfl g0)))))) rfl)) ?_
          refine l_gstep (j := 4) (t := 15) (by exact rfl) (by exact rfl) (et (gS rfl g0) rfl) (by decide) (y_load1 one_38 (et g0 rfl) (at1 (k6.cell (acct_c22 hca16)))) ?_
          refine l_gstep (j := 4) (t := 15) (by exact rfl) (by exact rfl) (et (gS rfl (gS rfl g0)) rfl) (by decide) (y_len Hvaa.underlying38 (et g0 rfl)) ?_
          refine l_gstep (j := 4) (t := 15) (by exact rfl) (by exact rfl) (et (gS rfl (gS rfl (gS rfl g0))) rfl) (by decide) (y_gtr (et g0 rfl) rfl) ?_
          refine l_step (y_pickF (et (gS rfl (gS rfl (gS rfl (gS rfl g0)))) rfl) (et g0 rfl)) ?_
          refine l_step (y_assignV (et g0 rfl)) ?_
          refine l_nil ?_
          refine hK15 _ _ ?_
          refine fg1 4 g0 (fun g => ?_)
          refine c_ret ?_
          repeat with_reducible refine then_ret ?_
          refine ret1 rfl (res_tmp (et g0 rfl)) ?_
          exact ⟨by rw [tknB]; exact congrArg Value.bool (by simp at hg; simp [hg]), U⟩)))
end Go.Proofs.YgvaawGreat
