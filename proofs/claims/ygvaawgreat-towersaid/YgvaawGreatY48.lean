import Derived.Test.YgvaawGreatY47
import Derived.Test.YgvaawGreatK15
set_option maxRecDepth 100000
set_option maxHeartbeats 4000000
set_option linter.unusedSimpArgs false
set_option linter.unusedVariables false
namespace Go.Proofs.YgvaawGreat
open Go
theorem yp_beginC {w : World} {H : Store} (hF : Fz w H) (bs : Nat) (cs : Array Value) (s : YSt) (vf : Value) (kS : Blk w bs cs) (hs : SC H cs s vf) {txc : List Value} {T : YTx} (ht : TC H txc.toArray T) (htl : txc.length = 174) (nbS : ¬ H.has bs) (hv4 : cs[4]? = some (.slice none 0 0)) (hi : II s) (hsl9 : (startL s.now.accts).length < 1000000) (hac9 : s.now.accts.length < 1000000) (hv0 : verdN s T = 0) (hcr : T.create = true) {tgt : Nat} (hTc : crtN T.frm (acctAt s.now.accts T.frm).nonce = tgt) (htl8 : tgt < A160) (hTg : bTgt s T = tgt) (hen9 : EnH { bS s T with phase := 1 } (bF s T)) (hcl9 : ∀ a, (acctAt (bW s T).accts a).code.length < 1048576) :
    Ret 19 [.pointer (some ⟨bs, 0, none⟩), .agg txc.toArray] w (fun v w' => v = .int .u8 (0 : Nat) ∧ ∃ H' bf', Go (fun k => k = bs) w H w' H' ∧ YM w' H' bs (begY s T) (fun b => b = bs ∨ w.heap.size ≤ b) bf') := by
  obtain ⟨aa, ac, wa, wc, sa, sc, vr, la, lc, ta, tc, ma, mc, ga, gc, oa, oc, ra, rc, vlim, vtx, vleft, vpr, vtot, rS, rOr, rMd, hAc, hWA, hWS, hRf, hTm, hMd, hGn, hSr, hRt, hLm, hTx, hLf, hPr, hTt⟩ := hs.ex
  have so := hs.ok
  have so1 := so.accts
  have so2 := so.warmA
  have so3 := so.warmS
  have so4 := so.temps
  have so5 := so.start
  have so6 := so.logs
  have so7 := so.made
  have so8 := so.gone
  have so9 := so.ret
  have eC := hs.env
  obtain ⟨eha, ehc, rE1, rE2, rE3, rE4, rE5, rE6, hHs⟩ := hs.env.ex
  have eo := hs.env.ok
  have eo1 := eo.hashes
  obtain ⟨tda, tdc, taa, tac, rT1, rT2, rT3, rT4, rT5, rT6, rT7, rT8, rT9, hTd, hTa⟩ := ht.ex
  have tok := ht.ok
  have to1 := tok.data
  have to2 := tok.access
  have lS := kS.lt
  have vd := vd_of hv0
  have hno9 : (acctAt s.now.accts T.frm).nonce + 1 < 18446744073709551616 := by have h1 := vd.nmx; have h2 := vd.non; have h3 := tok.nonce; have h4 : (bSnd s T).nonce = (acctAt s.now.accts T.frm).nonce := rfl; omega
  obtain ⟨hls1, hls2⟩ : T.access.length ≤ 16 ∧ keysN T.access ≤ 64 := by have h9 := vd.ls; unfold lsOk at h9; simpa using h9
  have hla9 : Value.slice la s.now.logs.length lc = .slice none 0 0 := by have h9 := rS 4 _ rfl; rw [show cs[0 + 4]? = cs[4]? from rfl, hv4] at h9; exact (Option.some.inj h9).symm
  have hlg9 : (bW s T).logs = [] := by rw [bW_eq]; show s.now.logs = []; rw [hi.now]
  have hwa0 : s.now.warmA.length = 0 := by rw [hi.now]; rfl
  have hws0 : s.now.warmS.length = 0 := by rw [hi.now]; rfl
  have hdl9 := vd.data
  have hgs9 := vd.gas
  have hap9 := vd.ap
  refine enter (n := 271) Hvaa.func19 rfl rfl (Nat.le_of_ble_eq_true rfl) ?_
  have U : Ch (fun k => k = bs) w w := Ch.refl _ w
  have G : Go (fun k => k = bs) w H w H := Go.refl hF
  have hL0 : Le H H := Le.refl H
  refine c_seq (fun K1 hK1 => ?_)
  exact (by
    refine c_region ?_
    refine l_eff (e_boxV (et (gS rfl g0) rfl)) (fun v2 w2 h2 => ?_)
    obtain ⟨b2, rfl, n2⟩ := h2
    have f2 : w.heap.size ≤ b2 := Nat.le_trans U.size n2.fresh
    have nb2 := hF.nb n2.fresh
    replace G := G.tr (Go.ofUp hF n2.up)
    replace hF := hF.up n2.up
    replace kS := kS.up n2.up
    replace U := U.tr n2.up
    have k2 := n2.blk
    replace k2 : Blk w2 b2 txc.toArray := k2
    refine l_step y_assignC ?_
    refine l_nil ?_
    refine hK1 _ _ ?_
    refine fg2 0 3 (gS rfl (gS rfl g0)) (gS rfl g0) (fun g => ?_)
    refine c_seq (fun K3 hK3 => ?_)
    exact (by
      refine c_region ?_
      refine l_step (y_moveV (et (gS rfl g0) rfl)) ?_
      refine l_step (y_nil (et g0 rfl)) ?_
      refine l_step (y_fld fld_104_0 (et g0 rfl)) ?_
      refine l_step (y_assignV (et g0 rfl)) ?_
      refine l_nil ?_
      refine hK3 _ _ ?_
      refine fg2 3 5 (gS rfl (gS rfl (gS rfl (gS rfl g0)))) g0 (fun g => ?_)
      refine c_seq (fun K4 hK4 => ?_)
      refine c_seq (fun K5 hK5 => ?_)
      exact (by
        refine c_region ?_
        refine l_step (y_moveV (et g0 rfl)) ?_
        refine l_step (y_loadB agg_41 sz_41 (et (gS rfl (gS rfl g0)) rfl) (by rw [List.size_toArray]; exact htl) (at1B k2)) ?_
        refine l_eff (e_callV cal_42 (aC (et (gS rfl g0) rfl) (aC (et g0 rfl) aN)) (yp_verdict hF _ _ _ _ kS (hs.mono hL0) (ht.mono hL0) htl)) (fun v6 w6 h6 => ?_)
        obtain ⟨H6, rfl, g6⟩ := h6
        have hlew6 := g6.le
        replace nb2 := g6.nb nb2 k2.lt
        replace nbS := g6.nb nbS kS.lt
        replace hL0 := hL0.trans hlew6
        replace k2 := k2.up g6.up
        replace kS := kS.up g6.up
        replace U := U.tr g6.up
        replace G := G.tr g6
        replace hF := g6.fz
        refine l_step (y_assignV (et g0 rfl)) ?_
        refine l_nil ?_
        refine hK5 _ _ ?_
        refine fg3 3 5 6 (gS rfl (gS rfl (gS rfl (gS rfl (gS rfl g0))))) (gS rfl (gS rfl (gS rfl (gS rfl g0)))) g0 (fun g => ?_)
        refine c_seq (fun K7 hK7 => ?_)
        exact (by
          refine c_region ?_
          refine l_step (y_moveV (et g0 rfl)) ?_
          refine l_step (y_neq (et g0 rfl) rfl) ?_
          refine l_nil ?_
          refine hK7 _ _ ?_
          refine fg4 3 5 6 25 (gS rfl (gS rfl (gS rfl (gS rfl g0)))) (gS rfl (gS rfl (gS rfl g0))) (gS rfl (gS rfl g0)) g0 (fun g => ?_)
          refine c_false (et g0 rfl) (by (rw [hv0]; rfl)) ?_
          refine c_skip ?_
          refine hK4 _ _ ?_
          refine fg2 3 5 (gS rfl (gS rfl (gS rfl g0))) (gS rfl (gS rfl g0)) (fun g => ?_)
          refine c_seq (fun K9 hK9 => ?_)
          exact (by
            refine fgv2 3 5 (gS rfl g0) g0 (fun g z3 z5 e3 e5 => ?_)
            refine c_drawJ (fun s_ w_ => ∃ (g : Nat → Value) (b12 : Nat) (ca10 : List Value), s_ = (upd (upd (upd g 3 z3) 5 z5) 7 (.pointer (some ⟨b12, 0, none⟩))) ∧ Ch (fun _ => False) w6 w_ ∧ w6.heap.size ≤ b12 ∧ Blk w_ b12 (ca10.toArray) ∧ (PA H6 ca10 (acctAt s.now.accts T.frm))) Up 7 (.pure 0 (.pure 1 (.pure 2 (.pure 3 (.pure 4 (.two 5 (.eff 6 (.eff 7 .fin)) 6 (.eff 5 (.eff 7 .fin)))))))) (by kernel_rfl) (fun w13 hu => ⟨Up.refl _, ?_⟩) ?_
            · skip
              subst e3 e5
              replace G := G.tr (Go.ofUp hF hu)
              replace hF := hF.up hu
              replace k2 := k2.up hu
              replace kS := kS.up hu
              replace U := U.tr hu
              have SU := Up.refl w13
              have V11 : Ch (fun _ => False) w6 w13 := hu
              refine t_step (by exact rfl) (y_moveV (et g0 rfl)) ?_
              refine t_step (by exact rfl) (y_nil (et g0 rfl)) ?_
              refine t_step (by exact rfl) (y_fld fld_102_0 (et g0 rfl)) ?_
              refine t_step (by exact rfl) (y_fld fld_41_0 (et (gS rfl (gS rfl (gS rfl (gS rfl g0)))) rfl)) ?_
              refine t_step (by exact rfl) (y_loadR agg_25 sz_25 (et g0 rfl) (by rw [length_bL, length_be]) (atSR (k2.row rT1))) ?_
              refine t_two ?_ ?_
              · skip
                refine t_eff (by exact rfl) (e_callV cal_43 (aC (et (gS rfl (gS rfl g0)) rfl) (aC (et g0 rfl) aN)) (yp_account _ _ _ _ _ _ _ _ _ hF kS (rS 0 _ rfl) (hAc.mono hL0) tok.frm (by omega))) (fun v14 w14 h14 => ?_)
                obtain ⟨c14, rfl, p14, u14⟩ := h14
                replace G := G.tr (Go.ofUp hF u14)
                replace hF := hF.up u14
                replace k2 := k2.up u14
                replace kS := kS.up u14
                replace U := U.tr u14
                replace V11 := V11.tr u14
                replace p14 : PA _ _ _ := ⟨p14⟩
                refine ⟨.inr (SU.tr u14), ?_⟩
                replace SU := SU.tr u14
                refine t_one ?_
                refine t_eff (by exact rfl) (e_alloc zr_107) (fun v15 w15 h15 => ?_)
                obtain ⟨b15, rfl, n15⟩ := h15
                have d2_15 : b2 < b15 := Nat.lt_of_lt_of_le k2.lt n15.fresh
                have f15 : w.heap.size ≤ b15 := Nat.le_trans U.size n15.fresh
                have nb15 := hF.nb n15.fresh
                have fS15 := Nat.le_trans SU.size n15.fresh
                have fV11_15 := Nat.le_trans V11.size n15.fresh
                replace G := G.tr (Go.ofUp hF n15.up)
                replace hF := hF.up n15.up
                replace k2 := k2.up n15.up
                replace kS := kS.up n15.up
                replace U := U.tr n15.up
                replace V11 := V11.tr n15.up
                have k15 := n15.blk
                refine ⟨.inr (SU.tr n15.up), ?_⟩
                replace SU := SU.tr n15.up
                refine t_one ?_
                refine t_effN (by exact rfl) (e_store sz_107 (et g0 rfl) (cellsV (et (gS rfl g0) rfl) rfl) (acct_len p14.p) (by exact acct_one p14.p) k15 (by exact Nat.le_of_ble_eq_true rfl)) (fun v16 w16 h16 => ?_)
                obtain ⟨rfl, x16⟩ := h16
                replace k2 := k2.ch x16.ch (by omega)
                replace kS := kS.ch x16.ch (by first | omega | (first | omega | exact hOo.ne (by omega)))
                replace k15 := x16.blk.full (by rw [acct_len p14.p]; rfl)
                replace G := G.wr x16 (by first | exact .inr f15 | omega | (simp; omega)) nb15
                replace hF := G.fz
                replace U := U.st x16 (.inr f15)
                replace V11 := V11.st x16 (by omega)
                refine ⟨.inl rfl, ?_⟩
                refine tl3 3 5 7 (gS rfl (gS rfl (gS rfl (gS rfl (gS rfl (gS rfl (gS rfl (gS rfl g0)))))))) (gS rfl (gS rfl (gS rfl (gS rfl (gS rfl (gS rfl (gS rfl g0))))))) g0 (fun g => ?_)
                exact ⟨g, _, _, rfl, V11, Nat.le_trans hu.size fS15, k15, p14⟩
              · skip
                refine t_eff (by exact rfl) (e_alloc zr_107) (fun v17 w17 h17 => ?_)
                obtain ⟨b17, rfl, n17⟩ := h17
                have d2_17 : b2 < b17 := Nat.lt_of_lt_of_le k2.lt n17.fresh
                have f17 : w.heap.size ≤ b17 := Nat.le_trans U.size n17.fresh
                have nb17 := hF.nb n17.fresh
                have fS17 := Nat.le_trans SU.size n17.fresh
                have fV11_17 := Nat.le_trans V11.size n17.fresh
                replace G := G.tr (Go.ofUp hF n17.up)
                replace hF := hF.up n17.up
                replace k2 := k2.up n17.up
                replace kS := kS.up n17.up
                replace U := U.tr n17.up
                replace V11 := V11.tr n17.up
                have k17 := n17.blk
                refine ⟨.inr (SU.tr n17.up), ?_⟩
                replace SU := SU.tr n17.up
                refine t_one ?_
                refine t_eff (by exact rfl) (e_callV cal_43 (aC (et (gS rfl (gS rfl (gS rfl g0))) rfl) (aC (et (gS rfl g0) rfl) aN)) (yp_account _ _ _ _ _ _ _ _ _ hF kS (rS 0 _ rfl) (hAc.mono hL0) tok.frm (by omega))) (fun v18 w18 h18 => ?_)
                obtain ⟨c18, rfl, p18, u18⟩ := h18
                replace G := G.tr (Go.ofUp hF u18)
                replace hF := hF.up u18
                replace k2 := k2.up u18
                replace k17 := k17.up u18
                replace kS := kS.up u18
                replace U := U.tr u18
                replace V11 := V11.tr u18
                replace p18 : PA _ _ _ := ⟨p18⟩
                refine ⟨.inr (SU.tr u18), ?_⟩
                replace SU := SU.tr u18
                refine t_one ?_
                refine t_effN (by exact rfl) (e_store sz_107 (et (gS rfl g0) rfl) (cellsV (et g0 rfl) rfl) (acct_len p18.p) (by exact acct_one p18.p) k17 (by exact Nat.le_of_ble_eq_true rfl)) (fun v19 w19 h19 => ?_)
                obtain ⟨rfl, x19⟩ := h19
                replace k2 := k2.ch x19.ch (by omega)
                replace kS := kS.ch x19.ch (by first | omega | (first | omega | exact hOo.ne (by omega)))
                replace k17 := x19.blk.full (by rw [acct_len p18.p]; rfl)
                replace G := G.wr x19 (by first | exact .inr f17 | omega | (simp; omega)) nb17
                replace hF := G.fz
                replace U := U.st x19 (.inr f17)
                replace V11 := V11.st x19 (by omega)
                refine ⟨.inl rfl, ?_⟩
                refine tl3 3 5 7 (gS rfl (gS rfl (gS rfl (gS rfl (gS rfl (gS rfl (gS rfl (gS rfl g0)))))))) (gS rfl (gS rfl (gS rfl (gS rfl (gS rfl (gS rfl (gS rfl g0))))))) (gS rfl g0) (fun g => ?_)
                exact ⟨g, _, _, rfl, V11, Nat.le_trans hu.size fS17, k17, p18⟩
            intro s_ w20 hJ
            obtain ⟨g, b12, ca10, rfl, V11, fn12, kn12, pa10⟩ := hJ
            subst e3 e5
            have d2_12 : b2 < b12 := Nat.lt_of_lt_of_le k2.lt fn12
            have f12 : w.heap.size ≤ b12 := Nat.le_trans U.size fn12
            have nb12 := hF.nb fn12
            replace G := G.tr (Go.ofUp hF V11)
            replace hF := hF.up V11
            replace k2 := k2.up V11
            replace kS := kS.up V11
            replace U := U.tr V11
            have k12 := kn12
            refine hK9 _ _ ?_
            refine c_seq (fun K21 hK21 => ?_)
            exact (by
              refine c_region ?_
              refine l_step (y_fld fld_41_1 (et (gS rfl (gS rfl g0)) rfl)) ?_
              refine l_step (y_loadR agg_25 sz_25 (et g0 rfl) (by rw [length_bL, length_be]) (at1R (k2.row rT2))) ?_
              refine l_eff (e_alloc zr_25) (fun v22 w22 h22 => ?_)
              obtain ⟨b22, rfl, n22⟩ := h22
              have d2_22 : b2 < b22 := Nat.lt_of_lt_of_le k2.lt n22.fresh
              have d12_22 : b12 < b22 := Nat.lt_of_lt_of_le k12.lt n22.fresh
              have f22 : w.heap.size ≤ b22 := Nat.le_trans U.size n22.fresh
              have nb22 := hF.nb n22.fresh
              replace G := G.tr (Go.ofUp hF n22.up)
              replace hF := hF.up n22.up
              replace k2 := k2.up n22.up
              replace k12 := k12.up n22.up
              replace kS := kS.up n22.up
              replace U := U.tr n22.up
              have k22 := n22.blk
              refine l_effN (e_store sz_25 (et g0 rfl) (cellsV (et (gS rfl g0) rfl) rfl) (by rw [length_bL, length_be]) (by exact one_bL _) k22 (by exact Nat.le_of_ble_eq_true rfl)) (fun v23 w23 h23 => ?_)
              obtain ⟨rfl, x23⟩ := h23
              replace k2 := k2.ch x23.ch (by omega)
              replace k12 := k12.ch x23.ch (by omega)
              replace kS := kS.ch x23.ch (by first | omega | (first | omega | exact hOo.ne (by omega)))
              replace k22 := x23.blk.full (by rw [length_bL, length_be]; rfl)
              replace G := G.wr x23 (by first | exact .inr f22 | omega | (simp; omega)) nb22
              replace hF := G.fz
              replace U := U.st x23 (.inr f22)
              refine l_nil ?_
              refine hK21 _ _ ?_
              refine fg4 3 5 7 8 (gS rfl (gS rfl (gS rfl (gS rfl (gS rfl g0))))) (gS rfl (gS rfl (gS rfl (gS rfl g0)))) (gS rfl (gS rfl (gS rfl g0))) g0 (fun g => ?_)
              refine c_seq (fun K24 hK24 => ?_)
              exact (by
                refine c_region ?_
                refine l_step (y_moveV (et (gS rfl (gS rfl g0)) rfl)) ?_
                refine l_step (y_bld bN bld25_z) ?_
                refine l_step (y_nil (et (gS rfl g0) rfl)) ?_
                refine l_step (y_fld fld_102_13 (et g0 rfl)) ?_
                have rl25 := RowIn.le rMd (by simp only [length_bL, length_be]; decide)
                simp only [length_bL, length_be] at rl25
                refine l_effN (e_store sz_25 (et g0 rfl) (cellsV (et (gS rfl (gS rfl g0)) rfl) rfl) (by rw [length_bL, length_be]) (by exact one_bL _) kS (by first | exact Nat.le_trans (by omega) rl25 | exact Nat.le_of_ble_eq_true rfl | (simp; done) | (simp; omega) | omega | (simp only [size_spl, Array.size_setIfInBounds, hs.size]; exact Nat.le_of_ble_eq_true rfl))) (fun v25 w25 h25 => ?_)
                obtain ⟨rfl, x25⟩ := h25
                replace k2 := k2.ch x25.ch (by omega)
                replace k12 := k12.ch x25.ch (by omega)
                replace k22 := k22.ch x25.ch (by omega)
                replace kS := x25.blk
                replace G := G.wr x25 (.inl (by first | rfl | (simp; done))) nbS
                replace hF := G.fz
                replace U := U.st x25 (.inl (by first | rfl | (simp; done)))
                replace eC := kS.eputm eC (by first | omega | (simp only [length_bL, length_be, List.length_cons, List.length_nil]; omega)) (by first | omega | (simp only [length_bL, length_be, List.length_cons, List.length_nil]; omega))
                replace rS := kS.rputmo rS (by first | omega | (simp only [length_bL, length_be, List.length_cons, List.length_nil]; omega)) (by first | omega | (simp only [length_bL, length_be, List.length_cons, List.length_nil]; omega))
                replace rOr := kS.rputmo rOr (by first | omega | (simp only [length_bL, length_be, List.length_cons, List.length_nil]; omega)) (by first | omega | (simp only [length_bL, length_be, List.length_cons, List.length_nil]; omega))
                replace rMd := kS.rputs (by first | omega | (simp only [length_bL, length_be, List.length_cons, List.length_nil]; omega))
                replace rE1 := kS.rputmo rE1 (by first | omega | (simp only [length_bL, length_be, List.length_cons, List.length_nil]; omega)) (by first | omega | (simp only [length_bL, length_be, List.length_cons, List.length_nil]; omega))
                replace rE2 := kS.rputmo rE2 (by first | omega | (simp only [length_bL, length_be, List.length_cons, List.length_nil]; omega)) (by first | omega | (simp only [length_bL, length_be, List.length_cons, List.length_nil]; omega))
                replace rE3 := kS.rputmo rE3 (by first | omega | (simp only [length_bL, length_be, List.length_cons, List.length_nil]; omega)) (by first | omega | (simp only [length_bL, length_be, List.length_cons, List.length_nil]; omega))
                replace rE4 := kS.rputmo rE4 (by first | omega | (simp only [length_bL, length_be, List.length_cons, List.length_nil]; omega)) (by first | omega | (simp only [length_bL, length_be, List.length_cons, List.length_nil]; omega))
                replace rE5 := kS.rputmo rE5 (by first | omega | (simp only [length_bL, length_be, List.length_cons, List.length_nil]; omega)) (by first | omega | (simp only [length_bL, length_be, List.length_cons, List.length_nil]; omega))
                replace rE6 := kS.rputmo rE6 (by first | omega | (simp only [length_bL, length_be, List.length_cons, List.length_nil]; omega)) (by first | omega | (simp only [length_bL, length_be, List.length_cons, List.length_nil]; omega))
                refine l_nil ?_
                refine hK24 _ _ ?_
                refine fg4 3 5 7 8 (gS rfl (gS rfl (gS rfl (gS rfl (gS rfl (gS rfl (gS rfl g0))))))) (gS rfl (gS rfl (gS rfl (gS rfl (gS rfl (gS rfl g0)))))) (gS rfl (gS rfl (gS rfl (gS rfl (gS rfl g0))))) (gS rfl (gS rfl (gS rfl (gS rfl g0)))) (fun g => ?_)
                refine c_seq (fun K26 hK26 => ?_)
                exact (by
                  refine c_region ?_
                  refine l_step (y_moveV (et (gS rfl (gS rfl g0)) rfl)) ?_
                  refine l_step (y_nil (et g0 rfl)) ?_
                  refine l_step (y_fld fld_102_2 (et g0 rfl)) ?_
                  have rl27 := RowIn.le rS (Nat.succ_pos _)
                  simp only [List.length_cons, List.length_nil, Nat.zero_add, Nat.reduceAdd] at rl27
                  refine l_effN (e_store sz_100 (et g0 rfl) (cellsV rfl rfl) rfl (by first | exact one_bL _ | exact one_uL _ | (intro v hv; simp at hv; subst hv; rfl)) kS (by first | exact Nat.le_trans (by omega) rl27 | exact Nat.le_of_ble_eq_true rfl | (simp; done) | (simp; omega) | omega | (simp only [size_spl, Array.size_setIfInBounds, hs.size]; exact Nat.le_of_ble_eq_true rfl))) (fun v27 w27 h27 => ?_)
                  obtain ⟨rfl, x27⟩ := h27
                  replace k2 := k2.ch x27.ch (by omega)
                  replace k12 := k12.ch x27.ch (by omega)
                  replace k22 := k22.ch x27.ch (by omega)
                  replace kS := x27.blk
                  replace G := G.wr x27 (.inl (by first | rfl | (simp; done))) nbS
                  replace hF := G.fz
                  replace U := U.st x27 (.inl (by first | rfl | (simp; done)))
                  replace eC := kS.eput eC (by omega)
                  replace rS : RowIn _ _ [.slice aa s.now.accts.length ac, .slice wa s.now.warmA.length wc, .slice sa s.now.warmS.length sc, vr, .slice la s.now.logs.length lc, .slice ta s.now.temps.length tc, .slice ma s.now.made.length mc, .slice ga s.now.gone.length gc, .slice oa s.start.length oc, .slice none 0 0, .slice ra s.ret.length rc, .int .u8 (s.phase : Nat), .int .u8 (s.status : Nat), .int .u8 (s.applied : Nat), vlim, vtx, vleft, vpr, vtot] := kS.rput rS 9 rfl
                  replace rOr := kS.rputo rOr (by first | (left; omega) | (right; simp only [List.length_cons, List.length_nil, length_bL, length_be]; omega))
                  replace rMd := kS.rputo rMd (by first | (left; omega) | (right; simp only [List.length_cons, List.length_nil, length_bL, length_be]; omega))
                  replace rE1 := kS.rputo rE1 (by first | (left; omega) | (right; simp only [List.length_cons, List.length_nil, length_bL, length_be]; omega))
                  replace rE2 := kS.rputo rE2 (by first | (left; omega) | (right; simp only [List.length_cons, List.length_nil, length_bL, length_be]; omega))
                  replace rE3 := kS.rputo rE3 (by first | (left; omega) | (right; simp only [List.length_cons, List.length_nil, length_bL, length_be]; omega))
                  replace rE4 := kS.rputo rE4 (by first | (left; omega) | (right; simp only [List.length_cons, List.length_nil, length_bL, length_be]; omega))
                  replace rE5 := kS.rputo rE5 (by first | (left; omega) | (right; simp only [List.length_cons, List.length_nil, length_bL, length_be]; omega))
                  replace rE6 := kS.rputo rE6 (by first | (left; omega) | (right; simp only [List.length_cons, List.length_nil, length_bL, length_be]; omega))
                  refine l_nil ?_
                  refine hK26 _ _ ?_
                  refine fg4 3 5 7 8 (gS rfl (gS rfl (gS rfl (gS rfl (gS rfl (gS rfl g0)))))) (gS rfl (gS rfl (gS rfl (gS rfl (gS rfl g0))))) (gS rfl (gS rfl (gS rfl (gS rfl g0)))) (gS rfl (gS rfl (gS rfl g0))) (fun g => ?_)
                  refine c_seq (fun K28 hK28 => ?_)
                  refine c_seq (fun K29 hK29 => ?_)
                  exact (by
                    refine c_region ?_
                    refine l_step (y_fld fld_41_2 (et (gS rfl (gS rfl (gS rfl g0))) rfl)) ?_
                    refine l_step (y_load1 one_4 (et g0 rfl) (at1 (k2.cell (rT3 0 _ rfl)))) ?_
                    refine l_nil ?_
                    refine hK29 _ _ ?_
                    refine fg5 3 5 7 8 43 (gS rfl (gS rfl (gS rfl (gS rfl (gS rfl g0))))) (gS rfl (gS rfl (gS rfl (gS rfl g0)))) (gS rfl (gS rfl (gS rfl g0))) (gS rfl (gS rfl g0)) g0 (fun g => ?_)
                    refine c_true (et g0 rfl) (by (exact hcr)) ?_
                    refine c_seq (fun K31 hK31 => ?_)
                    exact (by
                      refine c_region ?_
                      refine l_step (y_fld fld_41_0 (et (gS rfl (gS rfl (gS rfl (gS rfl g0)))) rfl)) ?_
                      refine l_step (y_loadR agg_25 sz_25 (et g0 rfl) (by rw [length_bL, length_be]) (at1R (k2.row rT1))) ?_
                      refine l_step (y_fld fld_107_1 (et (gS rfl (gS rfl (gS rfl (gS rfl g0)))) rfl)) ?_
                      obtain ⟨vn32, vb32, vc32, vs32, hca32, hnn32, hbb32, hcd32, hss32, hb132, hb232, hb332⟩ := acct_form9 pa10.p
                      obtain ⟨xa32, xc32, rfl, hxl32⟩ := hcd32.sv.val
                      refine l_step (y_load1 one_95 (et g0 rfl) (at1 (k12.cell (acct_c20 hca32)))) ?_
                      refine l_eff (e_callV cal_44 (aC (et (gS rfl (gS rfl g0)) rfl) (aC (et g0 rfl) aN)) (hTc ▸ crt_spec kec_spec _ _ _ _ _ hF hnn32 (by omega) tok.frm)) (fun v33 w33 h33 => ?_)
                      obtain ⟨H33, rfl, g33⟩ := h33
                      have hlew33 := g33.le
                      replace nb2 := g33.nb nb2 k2.lt
                      replace nb12 := g33.nb nb12 k12.lt
                      replace nb22 := g33.nb nb22 k22.lt
                      replace nbS := g33.nb nbS kS.lt
                      replace pa10 := pa10.mono hlew33
                      replace hnn32 := hnn32.mono hlew33
                      replace hbb32 := hbb32.mono hlew33
                      replace hcd32 := hcd32.mono hlew33
                      replace hss32 := hss32.mono hlew33
                      replace hL0 := hL0.trans hlew33
                      replace k2 := k2.up g33.up
                      replace k12 := k12.up g33.up
                      replace k22 := k22.up g33.up
                      replace kS := kS.up g33.up
                      replace U := U.tr g33.up
                      replace G := G.tr g33
                      replace hF := g33.fz
                      refine l_effN (e_store sz_25 (et (gS rfl (gS rfl (gS rfl (gS rfl (gS rfl (gS rfl g0)))))) rfl) (cellsV (et g0 rfl) rfl) (by rw [length_bL, length_be]) (by exact one_bL _) k22 (by (rw [List.size_toArray, length_bL, length_be]; decide))) (fun v34 w34 h34 => ?_)
                      obtain ⟨rfl, x34⟩ := h34
                      replace k2 := k2.ch x34.ch (by omega)
                      replace k12 := k12.ch x34.ch (by omega)
                      replace kS := kS.ch x34.ch (by first | omega | (first | omega | exact hOo.ne (by omega)))
                      replace k22 := x34.blk.full (by rw [length_bL, length_be, List.size_toArray, length_bL, length_be])
                      replace G := G.wr x34 (by first | exact .inr f22 | omega | (simp; omega)) nb22
                      replace hF := G.fz
                      replace U := U.st x34 (.inr f22)
                      refine l_nil ?_
                      refine hK31 _ _ ?_
                      refine fg4 3 5 7 8 (gS rfl (gS rfl (gS rfl (gS rfl (gS rfl (gS rfl (gS rfl (gS rfl (gS rfl g0))))))))) (gS rfl (gS rfl (gS rfl (gS rfl (gS rfl (gS rfl (gS rfl (gS rfl g0)))))))) (gS rfl (gS rfl (gS rfl (gS rfl (gS rfl (gS rfl (gS rfl g0))))))) (gS rfl (gS rfl (gS rfl (gS rfl (gS rfl (gS rfl g0)))))) (fun g => ?_)
                      refine c_region ?_
                      exact (by
                        refine l_step (y_moveV (et (gS rfl (gS rfl g0)) rfl)) ?_
                        refine l_step (y_loadB agg_25 sz_25 (et (gS rfl g0) rfl) (by rw [List.size_toArray, length_bL, length_be]) (at1B k22)) ?_
                        refine l_step (y_nil (et (gS rfl g0) rfl)) ?_
                        refine l_step (y_fld fld_102_13 (et g0 rfl)) ?_
                        have rl35 := RowIn.le rMd (by simp only [length_bL, length_be]; decide)
                        simp only [length_bL, length_be] at rl35
                        refine l_effN (e_store sz_25 (et g0 rfl) (cellsV (et (gS rfl (gS rfl g0)) rfl) rfl) (by rw [length_bL, length_be]) (by exact one_bL _) kS (by first | exact Nat.le_trans (by omega) rl35 | exact Nat.le_of_ble_eq_true rfl | (simp; done) | (simp; omega) | omega | (simp only [size_spl, Array.size_setIfInBounds, hs.size]; exact Nat.le_of_ble_eq_true rfl))) (fun v35 w35 h35 => ?_)
                        obtain ⟨rfl, x35⟩ := h35
                        replace k2 := k2.ch x35.ch (by omega)
                        replace k12 := k12.ch x35.ch (by omega)
                        replace k22 := k22.ch x35.ch (by omega)
                        replace kS := x35.blk
                        replace G := G.wr x35 (.inl (by first | rfl | (simp; done))) nbS
                        replace hF := G.fz
                        replace U := U.st x35 (.inl (by first | rfl | (simp; done)))
                        replace eC := kS.eputm eC (by first | omega | (simp only [length_bL, length_be, List.length_cons, List.length_nil]; omega)) (by first | omega | (simp only [length_bL, length_be, List.length_cons, List.length_nil]; omega))
                        replace rS := kS.rputmo rS (by first | omega | (simp only [length_bL, length_be, List.length_cons, List.length_nil]; omega)) (by first | omega | (simp only [length_bL, length_be, List.length_cons, List.length_nil]; omega))
                        replace rOr := kS.rputmo rOr (by first | omega | (simp only [length_bL, length_be, List.length_cons, List.length_nil]; omega)) (by first | omega | (simp only [length_bL, length_be, List.length_cons, List.length_nil]; omega))
                        replace rMd := kS.rputs (by first | omega | (simp only [length_bL, length_be, List.length_cons, List.length_nil]; omega))
                        replace rE1 := kS.rputmo rE1 (by first | omega | (simp only [length_bL, length_be, List.length_cons, List.length_nil]; omega)) (by first | omega | (simp only [length_bL, length_be, List.length_cons, List.length_nil]; omega))
                        replace rE2 := kS.rputmo rE2 (by first | omega | (simp only [length_bL, length_be, List.length_cons, List.length_nil]; omega)) (by first | omega | (simp only [length_bL, length_be, List.length_cons, List.length_nil]; omega))
                        replace rE3 := kS.rputmo rE3 (by first | omega | (simp only [length_bL, length_be, List.length_cons, List.length_nil]; omega)) (by first | omega | (simp only [length_bL, length_be, List.length_cons, List.length_nil]; omega))
                        replace rE4 := kS.rputmo rE4 (by first | omega | (simp only [length_bL, length_be, List.length_cons, List.length_nil]; omega)) (by first | omega | (simp only [length_bL, length_be, List.length_cons, List.length_nil]; omega))
                        replace rE5 := kS.rputmo rE5 (by first | omega | (simp only [length_bL, length_be, List.length_cons, List.length_nil]; omega)) (by first | omega | (simp only [length_bL, length_be, List.length_cons, List.length_nil]; omega))
                        replace rE6 := kS.rputmo rE6 (by first | omega | (simp only [length_bL, length_be, List.length_cons, List.length_nil]; omega)) (by first | omega | (simp only [length_bL, length_be, List.length_cons, List.length_nil]; omega))
                        refine l_nil ?_
                        refine hK28 _ _ ?_
                        refine fg4 3 5 7 8 (gS rfl (gS rfl (gS rfl (gS rfl (gS rfl (gS rfl (gS rfl g0))))))) (gS rfl (gS rfl (gS rfl (gS rfl (gS rfl (gS rfl g0)))))) (gS rfl (gS rfl (gS rfl (gS rfl (gS rfl g0))))) (gS rfl (gS rfl (gS rfl (gS rfl g0)))) (fun g => ?_)
                        refine c_seq (fun K36 hK36 => ?_)
                        exact (by
                          refine c_region ?_
                          refine l_step (y_moveV (et (gS rfl (gS rfl g0)) rfl)) ?_
                          refine l_step (y_nil (et g0 rfl)) ?_
                          refine l_step (y_fld fld_102_6 (et g0 rfl)) ?_
                          refine l_step (y_load1 one_5 (et g0 rfl) (at1 (kS.cell (rS 13 _ rfl)))) ?_
                          refine l_step (y_add (et g0 rfl) rfl (wrapU_addN (b := 1) uk8 ?_)) ?_
                          (have := vd.ap; omega)
                          refine l_step (y_nil (et (gS rfl (gS rfl (gS rfl (gS rfl g0)))) rfl)) ?_
                          refine l_step (y_fld fld_102_6 (et g0 rfl)) ?_
                          have rl37 := RowIn.le rS (Nat.succ_pos _)
                          simp only [List.length_cons, List.length_nil, Nat.zero_add, Nat.reduceAdd] at rl37
                          refine l_effN (e_store sz_5 (et g0 rfl) (cellsV (et (gS rfl (gS rfl g0)) rfl) rfl) rfl (by first | exact one_bL _ | exact one_uL _ | (intro v hv; simp at hv; subst hv; rfl)) kS (by first | exact Nat.le_trans (by omega) rl37 | exact Nat.le_of_ble_eq_true rfl | (simp; done) | (simp; omega) | omega | (simp only [size_spl, Array.size_setIfInBounds, hs.size]; exact Nat.le_of_ble_eq_true rfl))) (fun v37 w37 h37 => ?_)
                          obtain ⟨rfl, x37⟩ := h37
                          replace k2 := k2.ch x37.ch (by omega)
                          replace k12 := k12.ch x37.ch (by omega)
                          replace k22 := k22.ch x37.ch (by omega)
                          replace kS := x37.blk
                          replace G := G.wr x37 (.inl (by first | rfl | (simp; done))) nbS
                          replace hF := G.fz
                          replace U := U.st x37 (.inl (by first | rfl | (simp; done)))
                          replace eC := kS.eput eC (by omega)
                          replace rS : RowIn _ _ [.slice aa s.now.accts.length ac, .slice wa s.now.warmA.length wc, .slice sa s.now.warmS.length sc, vr, .slice la s.now.logs.length lc, .slice ta s.now.temps.length tc, .slice ma s.now.made.length mc, .slice ga s.now.gone.length gc, .slice oa s.start.length oc, .slice none 0 0, .slice ra s.ret.length rc, .int .u8 (s.phase : Nat), .int .u8 (s.status : Nat), .int .u8 ((s.applied + 1 : Nat) : Int), vlim, vtx, vleft, vpr, vtot] := kS.rput rS 13 rfl
                          replace rOr := kS.rputo rOr (by first | (left; omega) | (right; simp only [List.length_cons, List.length_nil, length_bL, length_be]; omega))
                          replace rMd := kS.rputo rMd (by first | (left; omega) | (right; simp only [List.length_cons, List.length_nil, length_bL, length_be]; omega))
                          replace rE1 := kS.rputo rE1 (by first | (left; omega) | (right; simp only [List.length_cons, List.length_nil, length_bL, length_be]; omega))
                          replace rE2 := kS.rputo rE2 (by first | (left; omega) | (right; simp only [List.length_cons, List.length_nil, length_bL, length_be]; omega))
                          replace rE3 := kS.rputo rE3 (by first | (left; omega) | (right; simp only [List.length_cons, List.length_nil, length_bL, length_be]; omega))
                          replace rE4 := kS.rputo rE4 (by first | (left; omega) | (right; simp only [List.length_cons, List.length_nil, length_bL, length_be]; omega))
                          replace rE5 := kS.rputo rE5 (by first | (left; omega) | (right; simp only [List.length_cons, List.length_nil, length_bL, length_be]; omega))
                          replace rE6 := kS.rputo rE6 (by first | (left; omega) | (right; simp only [List.length_cons, List.length_nil, length_bL, length_be]; omega))
                          refine l_nil ?_
                          refine hK36 _ _ ?_
                          refine fg4 3 5 7 8 (gS rfl (gS rfl (gS rfl (gS rfl (gS rfl (gS rfl (gS rfl (gS rfl (gS rfl (gS rfl g0)))))))))) (gS rfl (gS rfl (gS rfl (gS rfl (gS rfl (gS rfl (gS rfl (gS rfl (gS rfl g0))))))))) (gS rfl (gS rfl (gS rfl (gS rfl (gS rfl (gS rfl (gS rfl (gS rfl g0)))))))) (gS rfl (gS rfl (gS rfl (gS rfl (gS rfl (gS rfl (gS rfl g0))))))) (fun g => ?_)
                          refine c_seq (fun K38 hK38 => ?_)
                          exact (by
                            refine c_region ?_
                            refine l_step (y_moveV (et (gS rfl (gS rfl g0)) rfl)) ?_
                            refine l_step (y_fld fld_41_4 (et (gS rfl (gS rfl (gS rfl (gS rfl g0)))) rfl)) ?_
                            refine l_step (y_load1 one_26 (et g0 rfl) (at1 (k2.cell (rT3 2 _ rfl)))) ?_
                            refine l_eff (e_callV cal_32 (aC (et g0 rfl) aN) (yp_num hF (tok.gas))) (fun v39 w39 h39 => ?_)
                            obtain ⟨H39, g39, n39⟩ := h39
                            have hlew39 := g39.le
                            replace nb2 := g39.nb nb2 k2.lt
                            replace nb12 := g39.nb nb12 k12.lt
                            replace nb22 := g39.nb nb22 k22.lt
                            replace nbS := g39.nb nbS kS.lt
                            replace pa10 := pa10.mono hlew39
                            replace hnn32 := hnn32.mono hlew39
                            replace hbb32 := hbb32.mono hlew39
                            replace hcd32 := hcd32.mono hlew39
                            replace hss32 := hss32.mono hlew39
                            replace hL0 := hL0.trans hlew39
                            replace k2 := k2.up g39.up
                            replace k12 := k12.up g39.up
                            replace k22 := k22.up g39.up
                            replace kS := kS.up g39.up
                            replace U := U.tr g39.up
                            replace G := G.tr g39
                            replace hF := g39.fz
                            have q39 := bd_64 (tok.gas)
                            refine l_step (y_nil (et (gS rfl (gS rfl (gS rfl g0))) rfl)) ?_
                            refine l_step (y_fld fld_102_7 (et g0 rfl)) ?_
                            obtain ⟨sa40, sn40, sc40, rfl⟩ := n39.sl
                            have rl40 := RowIn.le rS (Nat.succ_pos _)
                            simp only [List.length_cons, List.length_nil, Nat.zero_add, Nat.reduceAdd] at rl40
                            refine l_effN (e_store sz_95 (et g0 rfl) (cellsV (et (gS rfl (gS rfl g0)) rfl) rfl) rfl (by first | exact one_bL _ | exact one_uL _ | (intro v hv; simp at hv; subst hv; rfl)) kS (by first | exact Nat.le_trans (by omega) rl40 | exact Nat.le_of_ble_eq_true rfl | (simp; done) | (simp; omega) | omega | (simp only [size_spl, Array.size_setIfInBounds, hs.size]; exact Nat.le_of_ble_eq_true rfl))) (fun v40 w40 h40 => ?_)
                            obtain ⟨rfl, x40⟩ := h40
                            replace k2 := k2.ch x40.ch (by omega)
                            replace k12 := k12.ch x40.ch (by omega)
                            replace k22 := k22.ch x40.ch (by omega)
                            replace kS := x40.blk
                            replace G := G.wr x40 (.inl (by first | rfl | (simp; done))) nbS
                            replace hF := G.fz
                            replace U := U.st x40 (.inl (by first | rfl | (simp; done)))
                            replace eC := kS.eput eC (by omega)
                            replace rS : RowIn _ _ [.slice aa s.now.accts.length ac, .slice wa s.now.warmA.length wc, .slice sa s.now.warmS.length sc, vr, .slice la s.now.logs.length lc, .slice ta s.now.temps.length tc, .slice ma s.now.made.length mc, .slice ga s.now.gone.length gc, .slice oa s.start.length oc, .slice none 0 0, .slice ra s.ret.length rc, .int .u8 (s.phase : Nat), .int .u8 (s.status : Nat), .int .u8 ((s.applied + 1 : Nat) : Int), .slice sa40 sn40 sc40, vtx, vleft, vpr, vtot] := kS.rput rS 14 rfl
                            replace rOr := kS.rputo rOr (by first | (left; omega) | (right; simp only [List.length_cons, List.length_nil, length_bL, length_be]; omega))
                            replace rMd := kS.rputo rMd (by first | (left; omega) | (right; simp only [List.length_cons, List.length_nil, length_bL, length_be]; omega))
                            replace rE1 := kS.rputo rE1 (by first | (left; omega) | (right; simp only [List.length_cons, List.length_nil, length_bL, length_be]; omega))
                            replace rE2 := kS.rputo rE2 (by first | (left; omega) | (right; simp only [List.length_cons, List.length_nil, length_bL, length_be]; omega))
                            replace rE3 := kS.rputo rE3 (by first | (left; omega) | (right; simp only [List.length_cons, List.length_nil, length_bL, length_be]; omega))
                            replace rE4 := kS.rputo rE4 (by first | (left; omega) | (right; simp only [List.length_cons, List.length_nil, length_bL, length_be]; omega))
                            replace rE5 := kS.rputo rE5 (by first | (left; omega) | (right; simp only [List.length_cons, List.length_nil, length_bL, length_be]; omega))
                            replace rE6 := kS.rputo rE6 (by first | (left; omega) | (right; simp only [List.length_cons, List.length_nil, length_bL, length_be]; omega))
                            refine l_nil ?_
                            refine hK38 _ _ ?_
                            refine fg4 3 5 7 8 (gS rfl (gS rfl (gS rfl (gS rfl (gS rfl (gS rfl (gS rfl (gS rfl (gS rfl g0))))))))) (gS rfl (gS rfl (gS rfl (gS rfl (gS rfl (gS rfl (gS rfl (gS rfl g0)))))))) (gS rfl (gS rfl (gS rfl (gS rfl (gS rfl (gS rfl (gS rfl g0))))))) (gS rfl (gS rfl (gS rfl (gS rfl (gS rfl (gS rfl g0)))))) (fun g => ?_)
                            refine c_seq (fun K41 hK41 => ?_)
                            exact (by
                              refine c_draw Up 10 [(0, true), (1, true), (2, true), (3, true), (4, true), (5, true), (6, false), (7, false), (8, true), (9, true), (10, false)] (by kernel_rfl) (fun w42 hu => ⟨Up.refl _, ?_⟩)
                              replace G := G.tr (Go.ofUp hF hu)
                              replace hF := hF.up hu
                              replace k2 := k2.up hu
                              replace k12 := k12.up hu
                              replace k22 := k22.up hu
                              replace kS := kS.up hu
                              replace U := U.tr hu
                              have SU := Up.refl w42
                              refine p_step (by exact rfl) (y_moveV (et (gS rfl (gS rfl g0)) rfl)) ?_
                              refine p_step (by exact rfl) (y_moveV (et (gS rfl (gS rfl (gS rfl g0))) rfl)) ?_
                              refine p_step (by exact rfl) (y_nil (et g0 rfl)) ?_
                              refine p_step (by exact rfl) (y_fld fld_102_7 (et g0 rfl)) ?_
                              refine p_step (by exact rfl) (y_load1 one_95 (et g0 rfl) (atS (kS.cell (rS 14 _ rfl)))) ?_
                              refine p_step (by exact rfl) (y_loadB agg_41 sz_41 (et (gS rfl (gS rfl (gS rfl (gS rfl (gS rfl (gS rfl (gS rfl (gS rfl g0)))))))) rfl) (by rw [List.size_toArray]; exact htl) (atSB k2)) ?_
                              refine p_eff (by exact rfl) (e_callV cal_46 (aC (et g0 rfl) aN) (yp_intrinsic hF (ht.mono hL0) vd.data vd.ls)) (fun v43 w43 h43 => ?_)
                              obtain ⟨H43, g43, n43, q43⟩ := h43
                              have hlew43 := g43.le
                              replace nb2 := g43.nb nb2 k2.lt
                              replace nb12 := g43.nb nb12 k12.lt
                              replace nb22 := g43.nb nb22 k22.lt
                              replace nbS := g43.nb nbS kS.lt
                              replace pa10 := pa10.mono hlew43
                              replace hnn32 := hnn32.mono hlew43
                              replace hbb32 := hbb32.mono hlew43
                              replace hcd32 := hcd32.mono hlew43
                              replace hss32 := hss32.mono hlew43
                              replace n39 := n39.mono hlew43
                              replace hL0 := hL0.trans hlew43
                              replace k2 := k2.up g43.up
                              replace k12 := k12.up g43.up
                              replace k22 := k22.up g43.up
                              replace kS := kS.up g43.up
                              replace U := U.tr g43.up
                              replace G := G.tr g43
                              replace hF := g43.fz
                              refine ⟨.inr (SU.tr g43.up), ?_⟩
                              replace SU := SU.tr g43.up
                              exact (by
                                refine p_eff (by exact rfl) (e_callV cal_45 (aC (et (gS rfl (gS rfl g0)) rfl) (aC (et g0 rfl) aN)) (yp_less hF n39 n43 (bd_sm q39 (by decide)) (bd_sm q43 (by decide)))) (fun v44 w44 h44 => ?_)
                                obtain ⟨H44, g44, n44⟩ := h44
                                have hlew44 := g44.le
                                replace nb2 := g44.nb nb2 k2.lt
                                replace nb12 := g44.nb nb12 k12.lt
                                replace nb22 := g44.nb nb22 k22.lt
                                replace nbS := g44.nb nbS kS.lt
                                replace pa10 := pa10.mono hlew44
                                replace hnn32 := hnn32.mono hlew44
                                replace hbb32 := hbb32.mono hlew44
                                replace hcd32 := hcd32.mono hlew44
                                replace hss32 := hss32.mono hlew44
                                replace n39 := n39.mono hlew44
                                replace n43 := n43.mono hlew44
                                replace hL0 := hL0.trans hlew44
                                replace k2 := k2.up g44.up
                                replace k12 := k12.up g44.up
                                replace k22 := k22.up g44.up
                                replace kS := kS.up g44.up
                                replace U := U.tr g44.up
                                replace G := G.tr g44
                                replace hF := g44.fz
                                have q44 := bd_sub' n44 q39
                                refine ⟨.inr (SU.tr g44.up), ?_⟩
                                replace SU := SU.tr g44.up
                                refine p_step (by exact rfl) (y_nil (et (gS rfl (gS rfl (gS rfl (gS rfl (gS rfl (gS rfl (gS rfl g0))))))) rfl)) ?_
                                refine p_step (by exact rfl) (y_fld fld_102_8 (et g0 rfl)) ?_
                                obtain ⟨sa45, sn45, sc45, rfl⟩ := n44.sl
                                have rl45 := RowIn.le rS (Nat.succ_pos _)
                                simp only [List.length_cons, List.length_nil, Nat.zero_add, Nat.reduceAdd] at rl45
                                refine p_effN (by exact rfl) (e_store sz_95 (et g0 rfl) (cellsV (et (gS rfl (gS rfl g0)) rfl) rfl) rfl (by first | exact one_bL _ | exact one_uL _ | (intro v hv; simp at hv; subst hv; rfl)) kS (by first | exact Nat.le_trans (by omega) rl45 | exact Nat.le_of_ble_eq_true rfl | (simp; done) | (simp; omega) | omega | (simp only [size_spl, Array.size_setIfInBounds, hs.size]; exact Nat.le_of_ble_eq_true rfl))) (fun v45 w45 h45 => ?_)
                                obtain ⟨rfl, x45⟩ := h45
                                replace k2 := k2.ch x45.ch (by omega)
                                replace k12 := k12.ch x45.ch (by omega)
                                replace k22 := k22.ch x45.ch (by omega)
                                replace kS := x45.blk
                                replace G := G.wr x45 (.inl (by first | rfl | (simp; done))) nbS
                                replace hF := G.fz
                                replace U := U.st x45 (.inl (by first | rfl | (simp; done)))
                                replace eC := kS.eput eC (by omega)
                                replace rS : RowIn _ _ [.slice aa s.now.accts.length ac, .slice wa s.now.warmA.length wc, .slice sa s.now.warmS.length sc, vr, .slice la s.now.logs.length lc, .slice ta s.now.temps.length tc, .slice ma s.now.made.length mc, .slice ga s.now.gone.length gc, .slice oa s.start.length oc, .slice none 0 0, .slice ra s.ret.length rc, .int .u8 (s.phase : Nat), .int .u8 (s.status : Nat), .int .u8 ((s.applied + 1 : Nat) : Int), .slice sa40 sn40 sc40, .slice sa45 sn45 sc45, vleft, vpr, vtot] := kS.rput rS 15 rfl
                                replace rOr := kS.rputo rOr (by first | (left; omega) | (right; simp only [List.length_cons, List.length_nil, length_bL, length_be]; omega))
                                replace rMd := kS.rputo rMd (by first | (left; omega) | (right; simp only [List.length_cons, List.length_nil, length_bL, length_be]; omega))
                                replace rE1 := kS.rputo rE1 (by first | (left; omega) | (right; simp only [List.length_cons, List.length_nil, length_bL, length_be]; omega))
                                replace rE2 := kS.rputo rE2 (by first | (left; omega) | (right; simp only [List.length_cons, List.length_nil, length_bL, length_be]; omega))
                                replace rE3 := kS.rputo rE3 (by first | (left; omega) | (right; simp only [List.length_cons, List.length_nil, length_bL, length_be]; omega))
                                replace rE4 := kS.rputo rE4 (by first | (left; omega) | (right; simp only [List.length_cons, List.length_nil, length_bL, length_be]; omega))
                                replace rE5 := kS.rputo rE5 (by first | (left; omega) | (right; simp only [List.length_cons, List.length_nil, length_bL, length_be]; omega))
                                replace rE6 := kS.rputo rE6 (by first | (left; omega) | (right; simp only [List.length_cons, List.length_nil, length_bL, length_be]; omega))
                                refine ⟨.inl rfl, ?_⟩
                                refine p_nil ?_
                                refine hK41 _ _ ?_
                                refine fg4 3 5 7 8 (gS rfl (gS rfl (gS rfl (gS rfl (gS rfl (gS rfl (gS rfl (gS rfl (gS rfl (gS rfl (gS rfl (gS rfl (gS rfl g0))))))))))))) (gS rfl (gS rfl (gS rfl (gS rfl (gS rfl (gS rfl (gS rfl (gS rfl (gS rfl (gS rfl (gS rfl (gS rfl g0)))))))))))) (gS rfl (gS rfl (gS rfl (gS rfl (gS rfl (gS rfl (gS rfl (gS rfl (gS rfl (gS rfl (gS rfl g0))))))))))) (gS rfl (gS rfl (gS rfl (gS rfl (gS rfl (gS rfl (gS rfl (gS rfl (gS rfl (gS rfl g0)))))))))) (fun g => ?_)
                                refine c_seq (fun K46 hK46 => ?_)
                                exact (by
                                  refine c_region ?_
                                  refine l_step (y_moveV (et (gS rfl (gS rfl g0)) rfl)) ?_
                                  refine l_step (y_moveV (et (gS rfl (gS rfl (gS rfl g0))) rfl)) ?_
                                  refine l_step (y_loadB agg_41 sz_41 (et (gS rfl (gS rfl (gS rfl (gS rfl (gS rfl g0))))) rfl) (by rw [List.size_toArray]; exact htl) (at1B k2)) ?_
                                  have hsP : SC H44 _ { s with made := tgt, frames := [], applied := s.applied + 1, limit := T.gas, txGas := T.gas - intrN T } (.slice none 0 0) := ⟨⟨so.accts, so.warmA, so.warmS, so.refund, so.logs, so.temps, so.made, so.gone, so.start, so.ret, so.phase, so.status, by show s.applied + 1 < 256; have := vd.ap; omega, by show T.gas < _; have := vd.gas; omega, by show T.gas - intrN T < _; have := vd.gas; omega, so.left, so.price, so.total, so.origin, htl8⟩, eC.mono hL0, (by simp only [size_spl, Array.size_setIfInBounds]; exact hs.size), _, _, _, _, _, _, _, _, _, _, _, _, _, _, _, _, _, _, _, _, _, _, _, _, rS, rOr, rMd, (hAc.mono hL0), (hWA.mono hL0), (hWS.mono hL0), (hRf.mono hL0), (hTm.mono hL0), (hMd.mono hL0), (hGn.mono hL0), (hSr.mono hL0), (hRt.mono hL0), n39, n44, (hLf.mono hL0), (hPr.mono hL0), (hTt.mono hL0)⟩
                                  refine l_eff (e_callV cal_47 (aC (et (gS rfl g0) rfl) (aC (et g0 rfl) aN)) (yp_price hF _ _ _ _ kS hsP (ht.mono hL0))) (fun v47 w47 h47 => ?_)
                                  obtain ⟨H47, g47, n47, q47⟩ := h47
                                  have hlew47 := g47.le
                                  replace nb2 := g47.nb nb2 k2.lt
                                  replace nb12 := g47.nb nb12 k12.lt
                                  replace nb22 := g47.nb nb22 k22.lt
                                  replace nbS := g47.nb nbS kS.lt
                                  replace pa10 := pa10.mono hlew47
                                  replace hnn32 := hnn32.mono hlew47
                                  replace hbb32 := hbb32.mono hlew47
                                  replace hcd32 := hcd32.mono hlew47
                                  replace hss32 := hss32.mono hlew47
                                  replace n39 := n39.mono hlew47
                                  replace n43 := n43.mono hlew47
                                  replace n44 := n44.mono hlew47
                                  replace hsP := hsP.mono hlew47
                                  replace hL0 := hL0.trans hlew47
                                  replace k2 := k2.up g47.up
                                  replace k12 := k12.up g47.up
                                  replace k22 := k22.up g47.up
                                  replace kS := kS.up g47.up
                                  replace U := U.tr g47.up
                                  replace G := G.tr g47
                                  replace hF := g47.fz
                                  refine l_step (y_nil (et (gS rfl (gS rfl (gS rfl g0))) rfl)) ?_
                                  refine l_step (y_fld fld_102_10 (et g0 rfl)) ?_
                                  exact (by
                                    obtain ⟨sa48, sn48, sc48, rfl⟩ := n47.sl
                                    have rl48 := RowIn.le rS (Nat.succ_pos _)
                                    simp only [List.length_cons, List.length_nil, Nat.zero_add, Nat.reduceAdd] at rl48
                                    refine l_effN (e_store sz_95 (et g0 rfl) (cellsV (et (gS rfl (gS rfl g0)) rfl) rfl) rfl (by first | exact one_bL _ | exact one_uL _ | (intro v hv; simp at hv; subst hv; rfl)) kS (by first | exact Nat.le_trans (by omega) rl48 | exact Nat.le_of_ble_eq_true rfl | (simp; done) | (simp; omega) | omega | (simp only [size_spl, Array.size_setIfInBounds, hs.size]; exact Nat.le_of_ble_eq_true rfl))) (fun v48 w48 h48 => ?_)
                                    obtain ⟨rfl, x48⟩ := h48
                                    replace k2 := k2.ch x48.ch (by omega)
                                    replace k12 := k12.ch x48.ch (by omega)
                                    replace k22 := k22.ch x48.ch (by omega)
                                    replace kS := x48.blk
                                    replace G := G.wr x48 (.inl (by first | rfl | (simp; done))) nbS
                                    replace hF := G.fz
                                    replace U := U.st x48 (.inl (by first | rfl | (simp; done)))
                                    replace eC := kS.eput eC (by omega)
                                    replace rS : RowIn _ _ [.slice aa s.now.accts.length ac, .slice wa s.now.warmA.length wc, .slice sa s.now.warmS.length sc, vr, .slice la s.now.logs.length lc, .slice ta s.now.temps.length tc, .slice ma s.now.made.length mc, .slice ga s.now.gone.length gc, .slice oa s.start.length oc, .slice none 0 0, .slice ra s.ret.length rc, .int .u8 (s.phase : Nat), .int .u8 (s.status : Nat), .int .u8 ((s.applied + 1 : Nat) : Int), .slice sa40 sn40 sc40, .slice sa45 sn45 sc45, vleft, .slice sa48 sn48 sc48, vtot] := kS.rput rS 17 rfl
                                    replace rOr := kS.rputo rOr (by first | (left; omega) | (right; simp only [List.length_cons, List.length_nil, length_bL, length_be]; omega))
                                    replace rMd := kS.rputo rMd (by first | (left; omega) | (right; simp only [List.length_cons, List.length_nil, length_bL, length_be]; omega))
                                    replace rE1 := kS.rputo rE1 (by first | (left; omega) | (right; simp only [List.length_cons, List.length_nil, length_bL, length_be]; omega))
                                    replace rE2 := kS.rputo rE2 (by first | (left; omega) | (right; simp only [List.length_cons, List.length_nil, length_bL, length_be]; omega))
                                    replace rE3 := kS.rputo rE3 (by first | (left; omega) | (right; simp only [List.length_cons, List.length_nil, length_bL, length_be]; omega))
                                    replace rE4 := kS.rputo rE4 (by first | (left; omega) | (right; simp only [List.length_cons, List.length_nil, length_bL, length_be]; omega))
                                    replace rE5 := kS.rputo rE5 (by first | (left; omega) | (right; simp only [List.length_cons, List.length_nil, length_bL, length_be]; omega))
                                    replace rE6 := kS.rputo rE6 (by first | (left; omega) | (right; simp only [List.length_cons, List.length_nil, length_bL, length_be]; omega))
                                    refine l_nil ?_
                                    refine hK46 _ _ ?_
                                    refine fg4 3 5 7 8 (gS rfl (gS rfl (gS rfl (gS rfl (gS rfl (gS rfl (gS rfl (gS rfl (gS rfl g0))))))))) (gS rfl (gS rfl (gS rfl (gS rfl (gS rfl (gS rfl (gS rfl (gS rfl g0)))))))) (gS rfl (gS rfl (gS rfl (gS rfl (gS rfl (gS rfl (gS rfl g0))))))) (gS rfl (gS rfl (gS rfl (gS rfl (gS rfl (gS rfl g0)))))) (fun g => ?_)
                                    refine c_seq (fun K49 hK49 => ?_)
                                    exact (by
                                      refine c_region ?_
                                      refine l_step (y_moveV (et (gS rfl (gS rfl g0)) rfl)) ?_
                                      refine l_step (y_fld fld_41_0 (et (gS rfl (gS rfl (gS rfl (gS rfl g0)))) rfl)) ?_
                                      refine l_step (y_loadR agg_25 sz_25 (et g0 rfl) (by rw [length_bL, length_be]) (at1R (k2.row rT1))) ?_
                                      refine l_step (y_nil (et (gS rfl (gS rfl g0)) rfl)) ?_
                                      refine l_step (y_fld fld_102_12 (et g0 rfl)) ?_
                                      have rl50 := RowIn.le rOr (by simp only [length_bL, length_be]; decide)
                                      simp only [length_bL, length_be] at rl50
                                      refine l_effN (e_store sz_25 (et g0 rfl) (cellsV (et (gS rfl (gS rfl g0)) rfl) rfl) (by rw [length_bL, length_be]) (by exact one_bL _) kS (by first | exact Nat.le_trans (by omega) rl50 | (rw [length_bL, length_be]; omega))) (fun v50 w50 h50 => ?_)
                                      obtain ⟨rfl, x50⟩ := h50
                                      replace k2 := k2.ch x50.ch (by omega)
                                      replace k12 := k12.ch x50.ch (by omega)
                                      replace k22 := k22.ch x50.ch (by omega)
                                      replace kS := x50.blk
                                      replace G := G.wr x50 (.inl (by first | rfl | (simp; done))) nbS
                                      replace hF := G.fz
                                      replace U := U.st x50 (.inl (by first | rfl | (simp; done)))
                                      replace eC := kS.eputm eC (by first | omega | (simp only [length_bL, length_be, List.length_cons, List.length_nil]; omega)) (by first | omega | (simp only [length_bL, length_be, List.length_cons, List.length_nil]; omega))
                                      replace rS := kS.rputmo rS (by first | omega | (simp only [length_bL, length_be, List.length_cons, List.length_nil]; omega)) (by first | omega | (simp only [length_bL, length_be, List.length_cons, List.length_nil]; omega))
                                      replace rOr := kS.rputs (by first | omega | (simp only [length_bL, length_be, List.length_cons, List.length_nil]; omega))
                                      replace rMd := kS.rputmo rMd (by first | omega | (simp only [length_bL, length_be, List.length_cons, List.length_nil]; omega)) (by first | omega | (simp only [length_bL, length_be, List.length_cons, List.length_nil]; omega))
                                      replace rE1 := kS.rputmo rE1 (by first | omega | (simp only [length_bL, length_be, List.length_cons, List.length_nil]; omega)) (by first | omega | (simp only [length_bL, length_be, List.length_cons, List.length_nil]; omega))
                                      replace rE2 := kS.rputmo rE2 (by first | omega | (simp only [length_bL, length_be, List.length_cons, List.length_nil]; omega)) (by first | omega | (simp only [length_bL, length_be, List.length_cons, List.length_nil]; omega))
                                      replace rE3 := kS.rputmo rE3 (by first | omega | (simp only [length_bL, length_be, List.length_cons, List.length_nil]; omega)) (by first | omega | (simp only [length_bL, length_be, List.length_cons, List.length_nil]; omega))
                                      replace rE4 := kS.rputmo rE4 (by first | omega | (simp only [length_bL, length_be, List.length_cons, List.length_nil]; omega)) (by first | omega | (simp only [length_bL, length_be, List.length_cons, List.length_nil]; omega))
                                      replace rE5 := kS.rputmo rE5 (by first | omega | (simp only [length_bL, length_be, List.length_cons, List.length_nil]; omega)) (by first | omega | (simp only [length_bL, length_be, List.length_cons, List.length_nil]; omega))
                                      replace rE6 := kS.rputmo rE6 (by first | omega | (simp only [length_bL, length_be, List.length_cons, List.length_nil]; omega)) (by first | omega | (simp only [length_bL, length_be, List.length_cons, List.length_nil]; omega))
                                      refine l_nil ?_
                                      refine hK49 _ _ ?_
                                      refine fg4 3 5 7 8 (gS rfl (gS rfl (gS rfl (gS rfl (gS rfl (gS rfl (gS rfl (gS rfl g0)))))))) (gS rfl (gS rfl (gS rfl (gS rfl (gS rfl (gS rfl (gS rfl g0))))))) (gS rfl (gS rfl (gS rfl (gS rfl (gS rfl (gS rfl g0)))))) (gS rfl (gS rfl (gS rfl (gS rfl (gS rfl g0))))) (fun g => ?_)
                                      refine c_seq (fun K51 hK51 => ?_)
                                      exact (by
                                        refine c_region ?_
                                        refine l_step (y_moveV (et (gS rfl (gS rfl g0)) rfl)) ?_
                                        refine l_step (y_nil (et g0 rfl)) ?_
                                        refine l_step (y_fld fld_102_1 (et g0 rfl)) ?_
                                        have rl52 := RowIn.le rS (Nat.succ_pos _)
                                        simp only [List.length_cons, List.length_nil, Nat.zero_add, Nat.reduceAdd] at rl52
                                        refine l_effN (e_store sz_99 (et g0 rfl) (cellsV rfl rfl) rfl (by first | exact one_bL _ | exact one_uL _ | (intro v hv; simp at hv; subst hv; rfl)) kS (by first | exact Nat.le_trans (by omega) rl52 | exact Nat.le_of_ble_eq_true rfl | (simp; done) | (simp; omega) | omega | (simp only [size_spl, Array.size_setIfInBounds, hs.size]; exact Nat.le_of_ble_eq_true rfl))) (fun v52 w52 h52 => ?_)
                                        obtain ⟨rfl, x52⟩ := h52
                                        replace k2 := k2.ch x52.ch (by omega)
                                        replace k12 := k12.ch x52.ch (by omega)
                                        replace k22 := k22.ch x52.ch (by omega)
                                        replace kS := x52.blk
                                        replace G := G.wr x52 (.inl (by first | rfl | (simp; done))) nbS
                                        replace hF := G.fz
                                        replace U := U.st x52 (.inl (by first | rfl | (simp; done)))
                                        replace eC := kS.eput eC (by omega)
                                        replace rS : RowIn _ _ [.slice aa s.now.accts.length ac, .slice wa s.now.warmA.length wc, .slice sa s.now.warmS.length sc, vr, .slice la s.now.logs.length lc, .slice ta s.now.temps.length tc, .slice ma s.now.made.length mc, .slice ga s.now.gone.length gc, .slice none 0 0, .slice none 0 0, .slice ra s.ret.length rc, .int .u8 (s.phase : Nat), .int .u8 (s.status : Nat), .int .u8 ((s.applied + 1 : Nat) : Int), .slice sa40 sn40 sc40, .slice sa45 sn45 sc45, vleft, .slice sa48 sn48 sc48, vtot] := kS.rput rS 8 rfl
                                        replace rOr := kS.rputo rOr (by first | (left; omega) | (right; simp only [List.length_cons, List.length_nil, length_bL, length_be]; omega))
                                        replace rMd := kS.rputo rMd (by first | (left; omega) | (right; simp only [List.length_cons, List.length_nil, length_bL, length_be]; omega))
                                        replace rE1 := kS.rputo rE1 (by first | (left; omega) | (right; simp only [List.length_cons, List.length_nil, length_bL, length_be]; omega))
                                        replace rE2 := kS.rputo rE2 (by first | (left; omega) | (right; simp only [List.length_cons, List.length_nil, length_bL, length_be]; omega))
                                        replace rE3 := kS.rputo rE3 (by first | (left; omega) | (right; simp only [List.length_cons, List.length_nil, length_bL, length_be]; omega))
                                        replace rE4 := kS.rputo rE4 (by first | (left; omega) | (right; simp only [List.length_cons, List.length_nil, length_bL, length_be]; omega))
                                        replace rE5 := kS.rputo rE5 (by first | (left; omega) | (right; simp only [List.length_cons, List.length_nil, length_bL, length_be]; omega))
                                        replace rE6 := kS.rputo rE6 (by first | (left; omega) | (right; simp only [List.length_cons, List.length_nil, length_bL, length_be]; omega))
                                        refine l_nil ?_
                                        refine hK51 _ _ ?_
                                        refine fg4 3 5 7 8 (gS rfl (gS rfl (gS rfl (gS rfl (gS rfl (gS rfl g0)))))) (gS rfl (gS rfl (gS rfl (gS rfl (gS rfl g0))))) (gS rfl (gS rfl (gS rfl (gS rfl g0)))) (gS rfl (gS rfl (gS rfl g0))) (fun g => ?_)
                                        refine c_seq (fun K53 hK53 => ?_)
                                        refine c_seq (fun K54 hK54 => ?_)
                                        exact (by
                                          refine c_region ?_
                                          refine l_step (y_moveV (et (gS rfl (gS rfl g0)) rfl)) ?_
                                          refine l_step (y_nil (et g0 rfl)) ?_
                                          refine l_step (y_fld fld_102_0 (et g0 rfl)) ?_
                                          refine l_step (y_fld fld_98_0 (et g0 rfl)) ?_
                                          refine l_step (y_load1 one_92 (et g0 rfl) (at1 (kS.cell (rS 0 _ rfl)))) ?_
                                          refine l_step (y_len Hvaa.underlying92 (et g0 rfl)) ?_
                                          refine l_step y_moveC ?_
                                          refine l_nil ?_
                                          refine hK54 _ _ ?_
                                          refine fg7 3 5 7 8 94 95 96 (gS rfl (gS rfl (gS rfl (gS rfl (gS rfl (gS rfl (gS rfl (gS rfl (gS rfl (gS rfl g0)))))))))) (gS rfl (gS rfl (gS rfl (gS rfl (gS rfl (gS rfl (gS rfl (gS rfl (gS rfl g0))))))))) (gS rfl (gS rfl (gS rfl (gS rfl (gS rfl (gS rfl (gS rfl (gS rfl g0)))))))) (gS rfl (gS rfl (gS rfl (gS rfl (gS rfl (gS rfl (gS rfl g0))))))) (gS rfl (gS rfl g0)) (gS rfl g0) g0 (fun g => ?_)
                                          refine c_block (fun Q55 hQ55 => ?_)
                                          refine fg7 3 5 7 8 94 95 96 (gS rfl (gS rfl (gS rfl (gS rfl (gS rfl (gS rfl g0)))))) (gS rfl (gS rfl (gS rfl (gS rfl (gS rfl g0))))) (gS rfl (gS rfl (gS rfl (gS rfl g0)))) (gS rfl (gS rfl (gS rfl g0))) (gS rfl (gS rfl g0)) (gS rfl g0) g0 (fun g => ?_)
                                          obtain ⟨csB, kS, rS, rOr, rMd, rE1, rE2, rE3, rE4, rE5, rE6, eC, hszB⟩ := pack9 kS rS rOr rMd rE1 rE2 rE3 rE4 rE5 rE6 eC (by simp only [size_spl, Array.size_setIfInBounds]; exact hs.size)
                                          have hc8 := rS 8 _ rfl
                                          replace kS : Blk w52 bs (csB.setIfInBounds (0 + 8) (.slice none 0 0)) := by rw [set_self hc8]; exact kS
                                          obtain ⟨base, hbs⟩ : ∃ base, base = w52.heap.size := ⟨_, rfl⟩
                                          have hbw : w.heap.size ≤ base := by rw [hbs]; exact U.size
                                          have hbS : bs < base := by omega
                                          have hb3 : b2 < base := by rw [hbs]; exact k2.lt
                                          have hb7 : b12 < base := by rw [hbs]; exact k12.lt
                                          have hb8 : b22 < base := by rw [hbs]; exact k22.lt
                                          have hHb0 : ∀ q, Store.has _ q → q < base := fun q hq => by rw [hbs]; exact hF.lt hq
                                          refine c_loop (fun k_ s_ W56 => ∃ (g : Nat → Value) (Hk56 : Store) (vt : Value) (i : Nat), s_ = (upd (upd (upd (upd (upd (upd (upd g 3 (.pointer (some ⟨b2, 0, none⟩))) 5 (.pointer (some ⟨bs, 0, none⟩))) 7 (.pointer (some ⟨b12, 0, none⟩))) 8 (.pointer (some ⟨b22, 0, none⟩))) 94 (.slice aa s.now.accts.length ac)) 95 (.int .i64 (s.now.accts.length : Nat))) 96 (.int .i64 (i : Nat))) ∧ s.now.accts.length - i = k_ ∧ (i ≤ s.now.accts.length) ∧ (GL P_tri H base 139 22 W56.heap.size W56 vt (startL (s.now.accts.take i))) ∧ (∀ q, Hk56.has q → q < base) ∧ Blk W56 bs (csB.setIfInBounds (0 + 8) vt) ∧ Go (fun k => k = bs ∨ base ≤ k) w52 H47 W56 Hk56) (s.now.accts.length - (0)) ?_ ?_
                                          · exact ⟨g, _, (.slice none 0 0), 0, rfl, rfl, Nat.zero_le _, by rw [List.take_zero]; exact GL.nil, hHb0, kS, Go.refl hF⟩
                                          · skip
                                            intro k_ s_ W56 hI K56 hK56
                                            obtain ⟨g, Hk56, vt, i, rfl, rfl, hi9, hO, hHb, nkS, V56⟩ := hI
                                            have hle56 := V56.le
                                            replace nb2 := V56.nb nb2 k2.lt
                                            replace nb12 := V56.nb nb12 k12.lt
                                            replace nb22 := V56.nb nb22 k22.lt
                                            replace nbS := V56.nb nbS kS.lt
                                            replace pa10 := pa10.mono hle56
                                            replace hnn32 := hnn32.mono hle56
                                            replace hbb32 := hbb32.mono hle56
                                            replace hcd32 := hcd32.mono hle56
                                            replace hss32 := hss32.mono hle56
                                            replace n39 := n39.mono hle56
                                            replace n43 := n43.mono hle56
                                            replace n44 := n44.mono hle56
                                            replace hsP := hsP.mono hle56
                                            replace n47 := n47.mono hle56
                                            replace hL0 := hL0.trans hle56
                                            replace G := G.trans V56 (by intro b hb; first | exact hb.elim | omega | (simp at hb ⊢; omega))
                                            replace hF := V56.fz
                                            replace k2 := k2.ch V56.ch (by omega)
                                            replace k12 := k12.ch V56.ch (by omega)
                                            replace k22 := k22.ch V56.ch (by omega)
                                            replace kS := nkS
                                            replace U := U.cc V56.ch (by intro b hb; first | exact hb.elim | omega | (simp at hb ⊢; omega))
                                            have hbW : base ≤ W56.heap.size := by rw [hbs]; exact V56.ch.size
                                            refine c_seq (fun K57 hK57 => ?_)
                                            exact (by
                                              refine c_region ?_
                                              refine l_step (y_lss (et g0 rfl) (et (gS rfl g0) rfl)) ?_
                                              refine l_nil ?_
                                              refine hK57 _ _ ?_
                                              refine c_seq (fun K58 hK58 => ?_)
                                              refine c_cond (et g0 rfl) (fun cB3 => ?_) (fun cB3 => ?_)
                                              · skip
                                                
                                                have hil : i < s.now.accts.length := by have := of_decide_eq_true cB3; omega
                                                refine c_skip ?_
                                                refine hK58 _ _ ?_
                                                refine fg7 3 5 7 8 94 95 96 (gS rfl (gS rfl (gS rfl (gS rfl (gS rfl (gS rfl (gS rfl g0))))))) (gS rfl (gS rfl (gS rfl (gS rfl (gS rfl (gS rfl g0)))))) (gS rfl (gS rfl (gS rfl (gS rfl (gS rfl g0))))) (gS rfl (gS rfl (gS rfl (gS rfl g0)))) (gS rfl (gS rfl (gS rfl g0))) (gS rfl (gS rfl g0)) (gS rfl g0) (fun g => ?_)
                                                refine c_seq (fun K60 hK60 => ?_)
                                                refine c_block (fun Q61 hQ61 => ?_)
                                                refine c_seq (fun K62 hK62 => ?_)
                                                exact (by
                                                  refine c_region ?_
                                                  have hF9 := hF.le9 hL0
                                                  obtain ⟨bq, oq, r, ha0, hrow, hrl, hPA⟩ := hAc.row hF9 (i := i) hil
                                                  have hPone := acct_one hPA
                                                  obtain ⟨vn1, vb1, vc1, vs1, hr1, hal, hnn1, hbb1, hcd1, hvs, hb21, hb22, hb23⟩ := hPA
                                                  rw [hr1] at hrow hrl hPone
                                                  obtain ⟨sva, svc, rfl, hsv1, hsv2⟩ := hvs.val
                                                  refine l_step (y_idxSa ha0 Hvaa.underlying92 sz_107 (et (gS rfl (gS rfl g0)) rfl) (et g0 rfl) ?_) ?_
                                                  omega
                                                  refine l_step (y_loadR agg_107 sz_107 (et g0 rfl) hrl (at1R hrow)) ?_
                                                  refine l_eff (e_alloc zr_107) (fun v63 w63 h63 => ?_)
                                                  obtain ⟨b63, rfl, n63⟩ := h63
                                                  have d2_63 : b2 < b63 := Nat.lt_of_lt_of_le k2.lt n63.fresh
                                                  have d12_63 : b12 < b63 := Nat.lt_of_lt_of_le k12.lt n63.fresh
                                                  have d22_63 : b22 < b63 := Nat.lt_of_lt_of_le k22.lt n63.fresh
                                                  have f63 : w.heap.size ≤ b63 := Nat.le_trans U.size n63.fresh
                                                  have nb63 := hF.nb n63.fresh
                                                  have fV56_63 := Nat.le_trans V56.ch.size n63.fresh
                                                  replace G := G.tr (Go.ofUp hF n63.up)
                                                  replace V56 := V56.tr (Go.ofUp hF n63.up)
                                                  replace hF := hF.up n63.up
                                                  replace k2 := k2.up n63.up
                                                  replace k12 := k12.up n63.up
                                                  replace k22 := k22.up n63.up
                                                  replace kS := kS.up n63.up
                                                  replace hO := hO.up n63.up
                                                  replace U := U.tr n63.up
                                                  have k63 := n63.blk
                                                  have hb11 := n63.fresh
                                                  refine l_effN (e_store sz_107 (et g0 rfl) (cellsV (et (gS rfl g0) rfl) rfl) hrl (by exact hPone) k63 (by exact Nat.le_of_ble_eq_true rfl)) (fun v64 w64 h64 => ?_)
                                                  obtain ⟨rfl, x64⟩ := h64
                                                  replace k2 := k2.ch x64.ch (by omega)
                                                  replace k12 := k12.ch x64.ch (by omega)
                                                  replace k22 := k22.ch x64.ch (by omega)
                                                  replace kS := kS.ch x64.ch (by first | omega | (first | omega | exact hOo.ne (by omega)))
                                                  replace k63 := x64.blk.full (by rw [hrl]; rfl)
                                                  replace hO := hO.wr x64 (by first | omega | (right; omega))
                                                  replace G := G.wr x64 (by first | exact .inr f63 | omega | (simp; omega)) nb63
                                                  replace V56 := V56.wr x64 (by first | exact .inr f63 | omega | (simp; omega)) nb63
                                                  replace hF := G.fz
                                                  replace U := U.st x64 (.inr f63)
                                                  refine l_nil ?_
                                                  refine hK62 _ _ ?_
                                                  refine fg8 3 5 7 8 94 95 96 10 (gS rfl (gS rfl (gS rfl (gS rfl (gS rfl (gS rfl (gS rfl (gS rfl (gS rfl g0))))))))) (gS rfl (gS rfl (gS rfl (gS rfl (gS rfl (gS rfl (gS rfl (gS rfl g0)))))))) (gS rfl (gS rfl (gS rfl (gS rfl (gS rfl (gS rfl (gS rfl g0))))))) (gS rfl (gS rfl (gS rfl (gS rfl (gS rfl (gS rfl g0)))))) (gS rfl (gS rfl (gS rfl (gS rfl (gS rfl g0))))) (gS rfl (gS rfl (gS rfl (gS rfl g0)))) (gS rfl (gS rfl (gS rfl g0))) g0 (fun g => ?_)
                                                  refine c_seq (fun K65 hK65 => ?_)
                                                  exact (by
                                                    refine c_region ?_
                                                    refine l_step (y_fld fld_107_4 (et g0 rfl)) ?_
                                                    refine l_step (y_load1 one_105 (et g0 rfl) (at1 (k63.cell ((app20 (i := 3) rfl).trans rfl)))) ?_
                                                    have hn10a : ¬ some b63 = vt.ownBlock := hO.ne (by omega)
                                                    refine l_step (y_len Hvaa.underlying105 (et g0 rfl)) ?_
                                                    refine l_step y_moveC ?_
                                                    refine l_nil ?_
                                                    refine hK65 _ _ ?_
                                                    refine fg11 3 5 7 8 94 95 96 10 101 102 103 (gS rfl (gS rfl (gS rfl (gS rfl (gS rfl (gS rfl (gS rfl (gS rfl (gS rfl (gS rfl (gS rfl g0))))))))))) (gS rfl (gS rfl (gS rfl (gS rfl (gS rfl (gS rfl (gS rfl (gS rfl (gS rfl (gS rfl g0)))))))))) (gS rfl (gS rfl (gS rfl (gS rfl (gS rfl (gS rfl (gS rfl (gS rfl (gS rfl g0))))))))) (gS rfl (gS rfl (gS rfl (gS rfl (gS rfl (gS rfl (gS rfl (gS rfl g0)))))))) (gS rfl (gS rfl (gS rfl (gS rfl (gS rfl (gS rfl (gS rfl g0))))))) (gS rfl (gS rfl (gS rfl (gS rfl (gS rfl (gS rfl g0)))))) (gS rfl (gS rfl (gS rfl (gS rfl (gS rfl g0))))) (gS rfl (gS rfl (gS rfl (gS rfl g0)))) (gS rfl (gS rfl g0)) (gS rfl g0) g0 (fun g => ?_)
                                                    refine c_block (fun Q66 hQ66 => ?_)
                                                    refine fg11 3 5 7 8 10 94 95 96 101 102 103 (gS rfl (gS rfl (gS rfl (gS rfl (gS rfl (gS rfl (gS rfl (gS rfl (gS rfl (gS rfl g0)))))))))) (gS rfl (gS rfl (gS rfl (gS rfl (gS rfl (gS rfl (gS rfl (gS rfl (gS rfl g0))))))))) (gS rfl (gS rfl (gS rfl (gS rfl (gS rfl (gS rfl (gS rfl (gS rfl g0)))))))) (gS rfl (gS rfl (gS rfl (gS rfl (gS rfl (gS rfl (gS rfl g0))))))) (gS rfl (gS rfl (gS rfl g0))) (gS rfl (gS rfl (gS rfl (gS rfl (gS rfl (gS rfl g0)))))) (gS rfl (gS rfl (gS rfl (gS rfl (gS rfl g0))))) (gS rfl (gS rfl (gS rfl (gS rfl g0)))) (gS rfl (gS rfl g0)) (gS rfl g0) g0 (fun g => ?_)
                                                    have hb10 : base ≤ b63 := by have := n63.fresh; omega
                                                    have hlt10 := k63.lt
                                                    refine c_loop (fun k_ s_ W67 => ∃ (g : Nat → Value) (Hk67 : Store) (vt2 : Value) (j : Nat), s_ = (upd (upd (upd (upd (upd (upd (upd (upd (upd (upd (upd g 3 (.pointer (some ⟨b2, 0, none⟩))) 5 (.pointer (some ⟨bs, 0, none⟩))) 7 (.pointer (some ⟨b12, 0, none⟩))) 8 (.pointer (some ⟨b22, 0, none⟩))) 10 (.pointer (some ⟨b63, 0, none⟩))) 94 (.slice aa s.now.accts.length ac)) 95 (.int .i64 (s.now.accts.length : Nat))) 96 (.int .i64 (i : Nat))) 101 (.slice sva s.now.accts[i].slots.length svc)) 102 (.int .i64 (s.now.accts[i].slots.length : Nat))) 103 (.int .i64 (j : Nat))) ∧ s.now.accts[i].slots.length - j = k_ ∧ (j ≤ s.now.accts[i].slots.length) ∧ (GL P_tri H base 139 22 W67.heap.size W67 vt2 (startL (s.now.accts.take i) ++ (s.now.accts[i].slots.take j).map (fun x => (s.now.accts[i].addr, x.1, x.2)))) ∧ (∀ q, Hk67.has q → q < base) ∧ (¬ some b63 = vt2.ownBlock) ∧ Blk W67 bs (csB.setIfInBounds (0 + 8) vt2) ∧ Go (fun k => k = bs ∨ (base ≤ k ∧ k ≠ b63)) w64 Hk56 W67 Hk67) (s.now.accts[i].slots.length - (0)) ?_ ?_
                                                    · exact ⟨g, _, _, 0, rfl, rfl, Nat.zero_le _, by rw [List.take_zero, List.map_nil, List.append_nil]; exact hO.mono (by have h1 := n63.fresh; have h2 := k63.lt; omega), hHb, hn10a, kS, Go.refl hF⟩
                                                    · skip
                                                      intro k_ s_ W67 hI K67 hK67
                                                      obtain ⟨g, Hk67, vt2, j, rfl, rfl, hj, hO, hHb, hn10, nkS, V67⟩ := hI
                                                      have hle67 := V67.le
                                                      replace nb2 := V67.nb nb2 k2.lt
                                                      replace nb12 := V67.nb nb12 k12.lt
                                                      replace nb22 := V67.nb nb22 k22.lt
                                                      replace nb63 := V67.nb nb63 k63.lt
                                                      replace nbS := V67.nb nbS kS.lt
                                                      replace pa10 := pa10.mono hle67
                                                      replace hnn32 := hnn32.mono hle67
                                                      replace hbb32 := hbb32.mono hle67
                                                      replace hcd32 := hcd32.mono hle67
                                                      replace hss32 := hss32.mono hle67
                                                      replace n39 := n39.mono hle67
                                                      replace n43 := n43.mono hle67
                                                      replace n44 := n44.mono hle67
                                                      replace hsP := hsP.mono hle67
                                                      replace n47 := n47.mono hle67
                                                      replace hL0 := hL0.trans hle67
                                                      replace G := G.trans V67 (by intro b hb; first | exact hb.elim | omega | (simp at hb ⊢; omega))
                                                      replace V56 := V56.trans V67 (by intro b hb; first | exact hb.elim | omega | (simp at hb ⊢; omega))
                                                      replace hF := V67.fz
                                                      replace k2 := k2.ch V67.ch (by omega)
                                                      replace k12 := k12.ch V67.ch (by omega)
                                                      replace k22 := k22.ch V67.ch (by omega)
                                                      replace k63 := k63.ch V67.ch (by omega)
                                                      replace kS := nkS
                                                      replace U := U.cc V67.ch (by intro b hb; first | exact hb.elim | omega | (simp at hb ⊢; omega))
                                                      have hbW2 : base ≤ W67.heap.size := by have h1 := V67.ch.size; omega
                                                      refine c_seq (fun K68 hK68 => ?_)
                                                      exact (by
                                                        refine c_region ?_
                                                        refine l_step (y_lss (et g0 rfl) (et (gS rfl g0) rfl)) ?_
                                                        refine l_nil ?_
                                                        refine hK68 _ _ ?_
                                                        refine c_seq (fun K69 hK69 => ?_)
                                                        refine c_cond (et g0 rfl) (fun cB4 => ?_) (fun cB4 => ?_)
                                                        · skip
                                                          
                                                          have hjl : j < s.now.accts[i].slots.length := by have := of_decide_eq_true cB4; omega
                                                          refine c_skip ?_
                                                          refine hK69 _ _ ?_
                                                          refine fg11 3 5 7 8 10 94 95 96 101 102 103 (gS rfl (gS rfl (gS rfl (gS rfl (gS rfl (gS rfl (gS rfl (gS rfl (gS rfl (gS rfl (gS rfl g0))))))))))) (gS rfl (gS rfl (gS rfl (gS rfl (gS rfl (gS rfl (gS rfl (gS rfl (gS rfl (gS rfl g0)))))))))) (gS rfl (gS rfl (gS rfl (gS rfl (gS rfl (gS rfl (gS rfl (gS rfl (gS rfl g0))))))))) (gS rfl (gS rfl (gS rfl (gS rfl (gS rfl (gS rfl (gS rfl (gS rfl g0)))))))) (gS rfl (gS rfl (gS rfl (gS rfl (gS rfl (gS rfl (gS rfl g0))))))) (gS rfl (gS rfl (gS rfl (gS rfl (gS rfl (gS rfl g0)))))) (gS rfl (gS rfl (gS rfl (gS rfl (gS rfl g0))))) (gS rfl (gS rfl (gS rfl (gS rfl g0)))) (gS rfl (gS rfl (gS rfl g0))) (gS rfl (gS rfl g0)) (gS rfl g0) (fun g => ?_)
                                                          refine c_seq (fun K71 hK71 => ?_)
                                                          refine c_block (fun Q72 hQ72 => ?_)
                                                          refine c_seq (fun K73 hK73 => ?_)
                                                          exact (by
                                                            refine c_region ?_
                                                            obtain ⟨bq2, oq2, r2, ha2, hrow2, hrl2, vk1, vv1, hr2, hk1, hv1, hkl, hvl9⟩ := hvs.row (hF.le9 hL0) (i := j) hjl
                                                            rw [hr2] at hrow2 hrl2
                                                            refine l_step (y_idxSa ha2 Hvaa.underlying105 sz_115 (et (gS rfl (gS rfl g0)) rfl) (et g0 rfl) ?_) ?_
                                                            omega
                                                            refine l_step (y_loadR agg_115 sz_115 (et g0 rfl) rfl (at1R hrow2)) ?_
                                                            refine l_eff (e_alloc zr_115) (fun v74 w74 h74 => ?_)
                                                            obtain ⟨b74, rfl, n74⟩ := h74
                                                            have d2_74 : b2 < b74 := Nat.lt_of_lt_of_le k2.lt n74.fresh
                                                            have d12_74 : b12 < b74 := Nat.lt_of_lt_of_le k12.lt n74.fresh
                                                            have d22_74 : b22 < b74 := Nat.lt_of_lt_of_le k22.lt n74.fresh
                                                            have d63_74 : b63 < b74 := Nat.lt_of_lt_of_le k63.lt n74.fresh
                                                            have f74 : w.heap.size ≤ b74 := Nat.le_trans U.size n74.fresh
                                                            have nb74 := hF.nb n74.fresh
                                                            have fV56_74 := Nat.le_trans V56.ch.size n74.fresh
                                                            have fV67_74 := Nat.le_trans V67.ch.size n74.fresh
                                                            replace G := G.tr (Go.ofUp hF n74.up)
                                                            replace V56 := V56.tr (Go.ofUp hF n74.up)
                                                            replace V67 := V67.tr (Go.ofUp hF n74.up)
                                                            replace hF := hF.up n74.up
                                                            replace k2 := k2.up n74.up
                                                            replace k12 := k12.up n74.up
                                                            replace k22 := k22.up n74.up
                                                            replace k63 := k63.up n74.up
                                                            replace kS := kS.up n74.up
                                                            replace hO := hO.up n74.up
                                                            replace U := U.tr n74.up
                                                            have k74 := n74.blk
                                                            have hb12 := n74.fresh
                                                            refine l_effN (e_store sz_115 (et g0 rfl) (cellsV (et (gS rfl g0) rfl) rfl) rfl (by exact one_two hk1.one1 hv1.one1) k74 (by exact Nat.le_of_ble_eq_true rfl)) (fun v75 w75 h75 => ?_)
                                                            obtain ⟨rfl, x75⟩ := h75
                                                            replace k2 := k2.ch x75.ch (by omega)
                                                            replace k12 := k12.ch x75.ch (by omega)
                                                            replace k22 := k22.ch x75.ch (by omega)
                                                            replace k63 := k63.ch x75.ch (by omega)
                                                            replace kS := kS.ch x75.ch (by first | omega | (first | omega | exact hOo.ne (by omega)))
                                                            replace k74 := x75.blk.full rfl
                                                            replace hO := hO.wr x75 (by first | omega | (right; omega))
                                                            replace G := G.wr x75 (by first | exact .inr f74 | omega | (simp; omega)) nb74
                                                            replace V56 := V56.wr x75 (by first | exact .inr f74 | omega | (simp; omega)) nb74
                                                            replace V67 := V67.wr x75 (by first | exact .inr f74 | omega | (simp; omega)) nb74
                                                            replace hF := G.fz
                                                            replace U := U.st x75 (.inr f74)
                                                            refine l_nil ?_
                                                            refine hK73 _ _ ?_
                                                            refine fg12 3 5 7 8 10 94 95 96 101 102 103 12 (gS rfl (gS rfl (gS rfl (gS rfl (gS rfl (gS rfl (gS rfl (gS rfl (gS rfl (gS rfl (gS rfl (gS rfl (gS rfl g0))))))))))))) (gS rfl (gS rfl (gS rfl (gS rfl (gS rfl (gS rfl (gS rfl (gS rfl (gS rfl (gS rfl (gS rfl (gS rfl g0)))))))))))) (gS rfl (gS rfl (gS rfl (gS rfl (gS rfl (gS rfl (gS rfl (gS rfl (gS rfl (gS rfl (gS rfl g0))))))))))) (gS rfl (gS rfl (gS rfl (gS rfl (gS rfl (gS rfl (gS rfl (gS rfl (gS rfl (gS rfl g0)))))))))) (gS rfl (gS rfl (gS rfl (gS rfl (gS rfl (gS rfl (gS rfl (gS rfl (gS rfl g0))))))))) (gS rfl (gS rfl (gS rfl (gS rfl (gS rfl (gS rfl (gS rfl (gS rfl g0)))))))) (gS rfl (gS rfl (gS rfl (gS rfl (gS rfl (gS rfl (gS rfl g0))))))) (gS rfl (gS rfl (gS rfl (gS rfl (gS rfl (gS rfl g0)))))) (gS rfl (gS rfl (gS rfl (gS rfl (gS rfl g0))))) (gS rfl (gS rfl (gS rfl (gS rfl g0)))) (gS rfl (gS rfl (gS rfl g0))) g0 (fun g => ?_)
                                                            refine c_draw (Ch (fun k => some k = vt2.ownBlock)) 16 [(0, true), (1, true), (2, true), (3, true), (4, true), (5, true), (6, true), (7, true), (8, true), (9, true), (10, true), (11, true), (12, false), (13, false), (14, true), (15, true), (16, false)] (by kernel_rfl) (fun w76 hu => ⟨Ch.refl _ _, ?_⟩)
                                                            replace G := G.tr (Go.ofUp hF hu)
                                                            replace V56 := V56.tr (Go.ofUp hF hu)
                                                            replace V67 := V67.tr (Go.ofUp hF hu)
                                                            replace hF := hF.up hu
                                                            replace k2 := k2.up hu
                                                            replace k12 := k12.up hu
                                                            replace k22 := k22.up hu
                                                            replace k63 := k63.up hu
                                                            replace k74 := k74.up hu
                                                            replace kS := kS.up hu
                                                            replace hO := hO.up hu
                                                            replace U := U.tr hu
                                                            have SU : (Ch (fun k => some k = vt2.ownBlock)) w76 w76 := Ch.refl _ _
                                                            exact (by
                                                              refine p_step (by exact rfl) (y_moveV (et (gS rfl (gS rfl (gS rfl (gS rfl (gS rfl (gS rfl (gS rfl (gS rfl (gS rfl (gS rfl g0)))))))))) rfl)) ?_
                                                              refine p_step (by exact rfl) (y_moveV (et (gS rfl (gS rfl (gS rfl (gS rfl (gS rfl (gS rfl (gS rfl (gS rfl (gS rfl (gS rfl (gS rfl g0))))))))))) rfl)) ?_
                                                              refine p_step (by exact rfl) (y_nil (et g0 rfl)) ?_
                                                              refine p_step (by exact rfl) (y_fld fld_102_1 (et g0 rfl)) ?_
                                                              refine p_step (by exact rfl) (y_load1 one_99 (et g0 rfl) (atC (kS.cell (get_set8 hc8)) (by first | exact hn10 | exact hO.ne (by omega) | exact hOo.ne (by omega) | omega))) ?_
                                                              refine p_step (by exact rfl) (y_fld fld_107_0 (et (gS rfl (gS rfl (gS rfl (gS rfl (gS rfl (gS rfl (gS rfl (gS rfl (gS rfl (gS rfl (gS rfl (gS rfl g0)))))))))))) rfl)) ?_
                                                              refine p_step (by exact rfl) (y_loadR agg_25 sz_25 (et g0 rfl) (by rw [length_bL, length_be]) (atCR (k63.row (RowIn.app _ _)) (by first | exact hn10 | exact hO.ne (by omega) | exact hOo.ne (by omega) | omega))) ?_
                                                              refine p_step (by exact rfl) (y_fld fld_115_0 (et (gS rfl (gS rfl (gS rfl (gS rfl (gS rfl (gS rfl (gS rfl g0))))))) rfl)) ?_
                                                              refine p_step (by exact rfl) (y_load1 one_95 (et g0 rfl) (atC (k74.cell (show _ = some vk1 from rfl)) (by first | exact hn10 | exact hO.ne (by omega) | exact hOo.ne (by omega) | omega))) ?_
                                                              refine p_step (by exact rfl) (y_fld fld_115_1 (et (gS rfl (gS rfl (gS rfl (gS rfl (gS rfl (gS rfl (gS rfl (gS rfl (gS rfl g0))))))))) rfl)) ?_
                                                              refine p_step (by exact rfl) (y_load1 one_95 (et g0 rfl) (atC (k74.cell (show _ = some vv1 from rfl)) (by first | exact hn10 | exact hO.ne (by omega) | exact hOo.ne (by omega) | omega))) ?_
                                                              have hb77 : ∀ w, (Instr.build 139 ([(0, (Value.agg (bL (be 20 s.now.accts[i].addr)).toArray)), (1, vk1), (2, vv1)] : List (Nat × Value)).toArray).run Hvaa.prog w = .ok (.agg ([(bL (be 20 s.now.accts[i].addr)), ([vk1]), ([vv1])] : List (List Value)).flatten.toArray) w := bld_run zr_139 plc_139 (fill_flat (off := 0) (k := 20) (f := (List.replicate 20 (.int .u8 0))) (c := bL (be 20 s.now.accts[i].addr)) (v := (Value.agg (bL (be 20 s.now.accts[i].addr)).toArray)) rfl rfl (by first | (simp [length_bL, length_be, length_uL]; done) | rfl) (by first | rfl | (simp [length_bL, length_be, length_uL]; done)) rfl (by first | (simp [length_bL, length_be, length_uL]; done) | rfl) (fill_flat (off := 20) (k := 1) (f := [.slice none 0 0]) (c := [vk1]) (v := vk1) rfl (cells_one hk1.one1) (by first | (simp [length_bL, length_be, length_uL]; done) | rfl) (by first | (simp [length_bL, length_be, length_uL]; done) | rfl) rfl (by first | (simp [length_bL, length_be, length_uL]; done) | rfl) (fill_flat (off := 21) (k := 1) (f := [.slice none 0 0]) (c := [vv1]) (v := vv1) rfl (cells_one hv1.one1) (by first | (simp [length_bL, length_be, length_uL]; done) | rfl) (by first | (simp [length_bL, length_be, length_uL]; done) | rfl) rfl (by first | (simp [length_bL, length_be, length_uL]; done) | rfl) (fill_nil _ _))))
                                                              refine p_step (by exact rfl) ((y_bld (bC (et (gS rfl (gS rfl (gS rfl (gS rfl g0)))) rfl) (bC (et (gS rfl (gS rfl g0)) rfl) (bC (et g0 rfl) bN))) hb77).to (congrArg (fun l : List Value => Value.agg l.toArray) (show _ = bL (be 20 s.now.accts[i].addr) ++ [vk1, vv1] by simp))) ?_
                                                              refine p_eff (by exact rfl) (e_slice1 Hvaa.underlying99 sz_139 zr_139 rfl (by decide) (et g0 rfl) (by rw [show (Value.agg ((bL (be 20 s.now.accts[i].addr) ++ [vk1, vv1])).toArray).cells = ((bL (be 20 s.now.accts[i].addr) ++ [vk1, vv1])).toArray from rfl, List.size_toArray, len22])) (fun v78 w78 h78 => ?_)
                                                              obtain ⟨b78, rfl, n78⟩ := h78
                                                              replace G := G.tr (Go.ofUp hF n78.up)
                                                              replace V56 := V56.tr (Go.ofUp hF n78.up)
                                                              replace V67 := V67.tr (Go.ofUp hF n78.up)
                                                              replace hF := hF.up n78.up
                                                              replace k2 := k2.up n78.up
                                                              replace k12 := k12.up n78.up
                                                              replace k22 := k22.up n78.up
                                                              replace k63 := k63.up n78.up
                                                              replace k74 := k74.up n78.up
                                                              replace kS := kS.up n78.up
                                                              replace hO := hO.up n78.up
                                                              replace U := U.tr n78.up
                                                              have kq78 : Blk w78 b78 ((bL (be 20 s.now.accts[i].addr) ++ [vk1, vv1])).toArray := n78.blk
                                                              refine ⟨.inr (SU.tr n78.up), ?_⟩
                                                              replace SU := SU.tr n78.up
                                                              have hbz : base ≤ w78.heap.size := by have h1 := V67.ch.size; omega
                                                              refine p_eff (by exact rfl) (e_appL Hvaa.underlying99 sz_139 zr_139 by_139 rfl (by decide) (et (gS rfl (gS rfl (gS rfl (gS rfl (gS rfl (gS rfl (gS rfl (gS rfl g0)))))))) rfl) hO (et g0 rfl) len22 kq78 (one_app (one_two hk1.one1 hv1.one1)) (tri_cells hk1 hv1 hal hkl hvl9) (by decide) (by have h8 := start_le (l := s.now.accts) (j := j) hil (f := (fun x => (s.now.accts[i].addr, x.1, x.2))); omega) hbz) (fun v79 w79 h79 => ?_)
                                                              obtain ⟨hO79, c79, hown79⟩ := h79
                                                              have hOo := hO
                                                              have hn10b := hown79 _ k63.lt hn10
                                                              replace G := G.chs c79 (by intro b hb; have h9 := hOo.lim b hb.symm; have h8 : b ≠ b63 := fun e => hn10 (e ▸ hb); first | exact .inr (by omega) | exact .inl (.inr (by omega)) | omega) (by intro q hq hh; have := hHb q hh; have := hOo.lim q hq.symm; omega)
                                                              replace V56 := V56.chs c79 (by intro b hb; have h9 := hOo.lim b hb.symm; have h8 : b ≠ b63 := fun e => hn10 (e ▸ hb); first | exact .inr (by omega) | exact .inl (.inr (by omega)) | omega) (by intro q hq hh; have := hHb q hh; have := hOo.lim q hq.symm; omega)
                                                              replace V67 := V67.chs c79 (by intro b hb; have h9 := hOo.lim b hb.symm; have h8 : b ≠ b63 := fun e => hn10 (e ▸ hb); first | exact .inr (by omega) | exact .inl (.inr (by omega)) | omega) (by intro q hq hh; have := hHb q hh; have := hOo.lim q hq.symm; omega)
                                                              replace hF := G.fz
                                                              replace k2 := k2.ch c79 (by first | omega | exact hn10 | exact hOo.ne (by omega))
                                                              replace k12 := k12.ch c79 (by first | omega | exact hn10 | exact hOo.ne (by omega))
                                                              replace k22 := k22.ch c79 (by first | omega | exact hn10 | exact hOo.ne (by omega))
                                                              replace k63 := k63.ch c79 (by first | omega | exact hn10 | exact hOo.ne (by omega))
                                                              replace k74 := k74.ch c79 (by first | omega | exact hn10 | exact hOo.ne (by omega))
                                                              replace kS := kS.ch c79 (by first | omega | exact hOo.ne (by omega))
                                                              replace hO := hO79
                                                              replace U := U.cc c79 (by intro b hb; have h9 := hOo.lim b hb.symm; have h8 : b ≠ b63 := fun e => hn10 (e ▸ hb); first | exact .inr (by omega) | exact .inl (.inr (by omega)) | omega)
                                                              replace SU := SU.cc c79 (by intro b hb; first | exact .inl hb | exact hb.elim | omega | (have h9 := hOo.lim b hb.symm; first | exact .inl (by omega) | omega))
                                                              refine ⟨.inr SU, ?_⟩
                                                              exact (by
                                                                refine p_step (by exact rfl) (y_nil (et (gS rfl (gS rfl (gS rfl (gS rfl (gS rfl (gS rfl (gS rfl (gS rfl (gS rfl (gS rfl (gS rfl (gS rfl (gS rfl g0))))))))))))) rfl)) ?_
                                                                refine p_step (by exact rfl) (y_fld fld_102_1 (et g0 rfl)) ?_
                                                                refine p_effN (by exact rfl) (e_store sz_99 (et g0 rfl) (cellsV (et (gS rfl (gS rfl g0)) rfl) (cells_one hO.one1)) rfl (by exact one_sgl hO.one1) kS (by (rw [Array.size_setIfInBounds, hszB]; decide))) (fun v80 w80 h80 => ?_)
                                                                obtain ⟨rfl, x80⟩ := h80
                                                                replace k2 := k2.ch x80.ch (by omega)
                                                                replace k12 := k12.ch x80.ch (by omega)
                                                                replace k22 := k22.ch x80.ch (by omega)
                                                                replace k63 := k63.ch x80.ch (by omega)
                                                                replace k74 := k74.ch x80.ch (by omega)
                                                                replace kS := x80.blk
                                                                replace hO := hO.wr x80 (by omega)
                                                                replace G := G.wr x80 (.inl (by first | rfl | (simp; done))) nbS
                                                                replace V56 := V56.wr x80 (.inl (by first | rfl | (simp; done))) nbS
                                                                replace V67 := V67.wr x80 (.inl (by first | rfl | (simp; done))) nbS
                                                                replace hF := G.fz
                                                                replace U := U.st x80 (.inl (by first | rfl | (simp; done)))
                                                                refine ⟨.inl rfl, ?_⟩
                                                                replace kS : Blk w80 bs (csB.setIfInBounds (0 + 8) v79) := by rw [← set_set (x := vt2)]; exact kS
                                                                refine p_nil ?_
                                                                refine hQ72 _ _ _ (in_normal ?_)
                                                                refine hK71 _ _ ?_
                                                                refine fg11 3 5 7 8 10 94 95 96 101 102 103 (gS rfl (gS rfl (gS rfl (gS rfl (gS rfl (gS rfl (gS rfl (gS rfl (gS rfl (gS rfl (gS rfl (gS rfl (gS rfl (gS rfl (gS rfl (gS rfl (gS rfl (gS rfl (gS rfl (gS rfl (gS rfl (gS rfl (gS rfl (gS rfl (gS rfl (gS rfl (gS rfl g0))))))))))))))))))))))))))) (gS rfl (gS rfl (gS rfl (gS rfl (gS rfl (gS rfl (gS rfl (gS rfl (gS rfl (gS rfl (gS rfl (gS rfl (gS rfl (gS rfl (gS rfl (gS rfl (gS rfl (gS rfl (gS rfl (gS rfl (gS rfl (gS rfl (gS rfl (gS rfl (gS rfl (gS rfl g0)))))))))))))))))))))))))) (gS rfl (gS rfl (gS rfl (gS rfl (gS rfl (gS rfl (gS rfl (gS rfl (gS rfl (gS rfl (gS rfl (gS rfl (gS rfl (gS rfl (gS rfl (gS rfl (gS rfl (gS rfl (gS rfl (gS rfl (gS rfl (gS rfl (gS rfl (gS rfl (gS rfl g0))))))))))))))))))))))))) (gS rfl (gS rfl (gS rfl (gS rfl (gS rfl (gS rfl (gS rfl (gS rfl (gS rfl (gS rfl (gS rfl (gS rfl (gS rfl (gS rfl (gS rfl (gS rfl (gS rfl (gS rfl (gS rfl (gS rfl (gS rfl (gS rfl (gS rfl (gS rfl g0)))))))))))))))))))))))) (gS rfl (gS rfl (gS rfl (gS rfl (gS rfl (gS rfl (gS rfl (gS rfl (gS rfl (gS rfl (gS rfl (gS rfl (gS rfl (gS rfl (gS rfl (gS rfl (gS rfl (gS rfl (gS rfl (gS rfl (gS rfl (gS rfl (gS rfl g0))))))))))))))))))))))) (gS rfl (gS rfl (gS rfl (gS rfl (gS rfl (gS rfl (gS rfl (gS rfl (gS rfl (gS rfl (gS rfl (gS rfl (gS rfl (gS rfl (gS rfl (gS rfl (gS rfl (gS rfl (gS rfl (gS rfl (gS rfl (gS rfl g0)))))))))))))))))))))) (gS rfl (gS rfl (gS rfl (gS rfl (gS rfl (gS rfl (gS rfl (gS rfl (gS rfl (gS rfl (gS rfl (gS rfl (gS rfl (gS rfl (gS rfl (gS rfl (gS rfl (gS rfl (gS rfl (gS rfl (gS rfl g0))))))))))))))))))))) (gS rfl (gS rfl (gS rfl (gS rfl (gS rfl (gS rfl (gS rfl (gS rfl (gS rfl (gS rfl (gS rfl (gS rfl (gS rfl (gS rfl (gS rfl (gS rfl (gS rfl (gS rfl (gS rfl (gS rfl g0)))))))))))))))))))) (gS rfl (gS rfl (gS rfl (gS rfl (gS rfl (gS rfl (gS rfl (gS rfl (gS rfl (gS rfl (gS rfl (gS rfl (gS rfl (gS rfl (gS rfl (gS rfl (gS rfl (gS rfl (gS rfl g0))))))))))))))))))) (gS rfl (gS rfl (gS rfl (gS rfl (gS rfl (gS rfl (gS rfl (gS rfl (gS rfl (gS rfl (gS rfl (gS rfl (gS rfl (gS rfl (gS rfl (gS rfl (gS rfl (gS rfl g0)))))))))))))))))) (gS rfl (gS rfl (gS rfl (gS rfl (gS rfl (gS rfl (gS rfl (gS rfl (gS rfl (gS rfl (gS rfl (gS rfl (gS rfl (gS rfl (gS rfl (gS rfl (gS rfl g0))))))))))))))))) (fun g => ?_)
                                                                refine c_region ?_
                                                                refine l_step (y_add (et g0 rfl) rfl (addIN (y := 1) ?_)) ?_
                                                                omega
                                                                refine l_step (y_moveV (et g0 rfl)) ?_
                                                                refine l_nil ?_
                                                                refine fK11 3 5 7 8 10 94 95 96 101 102 103 (gS rfl (gS rfl (gS rfl (gS rfl (gS rfl (gS rfl (gS rfl (gS rfl (gS rfl (gS rfl (gS rfl (gS rfl g0)))))))))))) (gS rfl (gS rfl (gS rfl (gS rfl (gS rfl (gS rfl (gS rfl (gS rfl (gS rfl (gS rfl (gS rfl g0))))))))))) (gS rfl (gS rfl (gS rfl (gS rfl (gS rfl (gS rfl (gS rfl (gS rfl (gS rfl (gS rfl g0)))))))))) (gS rfl (gS rfl (gS rfl (gS rfl (gS rfl (gS rfl (gS rfl (gS rfl (gS rfl g0))))))))) (gS rfl (gS rfl (gS rfl (gS rfl (gS rfl (gS rfl (gS rfl (gS rfl g0)))))))) (gS rfl (gS rfl (gS rfl (gS rfl (gS rfl (gS rfl (gS rfl g0))))))) (gS rfl (gS rfl (gS rfl (gS rfl (gS rfl (gS rfl g0)))))) (gS rfl (gS rfl (gS rfl (gS rfl (gS rfl g0))))) (gS rfl (gS rfl (gS rfl (gS rfl g0)))) (gS rfl (gS rfl (gS rfl g0))) g0 (fun g => ?_)
                                                                exact hK67 (s.now.accts[i].slots.length - ((j + 1))) _ _ (by omega) ⟨g, _, _, (j + 1), rfl, rfl, by omega, by rw [map_take1 hjl, ← List.append_assoc]; exact hO.mono x80.ch.size, hHb, hn10b, kS, V67⟩)))
                                                        · skip
                                                          
                                                          have hjl : ¬ j < s.now.accts[i].slots.length := by have := of_decide_eq_false cB4; omega
                                                          rw [List.take_of_length_le (show s.now.accts[i].slots.length ≤ j by omega)] at hO
                                                          refine c_exit ?_
                                                          refine hQ66 _ _ _ (in_exit ?_)
                                                          refine hQ61 _ _ _ (in_normal ?_)
                                                          refine hK60 _ _ ?_
                                                          refine fg7 3 5 7 8 94 95 96 (gS rfl (gS rfl (gS rfl (gS rfl (gS rfl (gS rfl (gS rfl (gS rfl (gS rfl (gS rfl (gS rfl g0))))))))))) (gS rfl (gS rfl (gS rfl (gS rfl (gS rfl (gS rfl (gS rfl (gS rfl (gS rfl (gS rfl g0)))))))))) (gS rfl (gS rfl (gS rfl (gS rfl (gS rfl (gS rfl (gS rfl (gS rfl (gS rfl g0))))))))) (gS rfl (gS rfl (gS rfl (gS rfl (gS rfl (gS rfl (gS rfl (gS rfl g0)))))))) (gS rfl (gS rfl (gS rfl (gS rfl (gS rfl (gS rfl g0)))))) (gS rfl (gS rfl (gS rfl (gS rfl (gS rfl g0))))) (gS rfl (gS rfl (gS rfl (gS rfl g0)))) (fun g => ?_)
                                                          exact (by
                                                            refine c_region ?_
                                                            refine l_step (y_add (et g0 rfl) rfl (addIN (y := 1) ?_)) ?_
                                                            omega
                                                            refine l_step (y_moveV (et g0 rfl)) ?_
                                                            refine l_nil ?_
                                                            refine fK7 3 5 7 8 94 95 96 (gS rfl (gS rfl (gS rfl (gS rfl (gS rfl (gS rfl (gS rfl (gS rfl g0)))))))) (gS rfl (gS rfl (gS rfl (gS rfl (gS rfl (gS rfl (gS rfl g0))))))) (gS rfl (gS rfl (gS rfl (gS rfl (gS rfl (gS rfl g0)))))) (gS rfl (gS rfl (gS rfl (gS rfl (gS rfl g0))))) (gS rfl (gS rfl (gS rfl (gS rfl g0)))) (gS rfl (gS rfl (gS rfl g0))) g0 (fun g => ?_)
                                                            exact hK56 (s.now.accts.length - ((i + 1))) _ _ (by omega) ⟨g, _, _, (i + 1), rfl, rfl, by omega, by rw [start_take hil]; exact hO, hHb, kS, V56⟩))))
                                              · skip
                                                
                                                have hil : ¬ i < s.now.accts.length := by have := of_decide_eq_false cB3; omega
                                                rw [List.take_of_length_le (show s.now.accts.length ≤ i by omega)] at hO
                                                obtain ⟨Hz81, Gz81, hlz81, lvz81, hnz81⟩ := hO.keep' mono_tri G hL0 hbw
                                                replace G := Gz81
                                                replace hF := G.fz
                                                replace pa10 := pa10.mono hlz81
                                                replace hnn32 := hnn32.mono hlz81
                                                replace hbb32 := hbb32.mono hlz81
                                                replace hcd32 := hcd32.mono hlz81
                                                replace hss32 := hss32.mono hlz81
                                                replace n39 := n39.mono hlz81
                                                replace n43 := n43.mono hlz81
                                                replace n44 := n44.mono hlz81
                                                replace hsP := hsP.mono hlz81
                                                replace n47 := n47.mono hlz81
                                                replace hL0 := hL0.trans hlz81
                                                replace nb2 := fun hh => (hnz81 _ hh).elim nb2 (fun e => hO.ne (by omega) e)
                                                replace nb12 := fun hh => (hnz81 _ hh).elim nb12 (fun e => hO.ne (by omega) e)
                                                replace nb22 := fun hh => (hnz81 _ hh).elim nb22 (fun e => hO.ne (by omega) e)
                                                replace nbS := fun hh => (hnz81 _ hh).elim nbS (fun e => hO.ne (by omega) e)
                                                obtain ⟨sta, stc, rfl, hstl, hstc⟩ := lvz81.val
                                                have hslen : (startL s.now.accts).length < 1048576 := by omega
                                                replace eC := kS.eset eC (by omega)
                                                replace rS : RowIn _ _ [.slice aa s.now.accts.length ac, .slice wa s.now.warmA.length wc, .slice sa s.now.warmS.length sc, vr, .slice la s.now.logs.length lc, .slice ta s.now.temps.length tc, .slice ma s.now.made.length mc, .slice ga s.now.gone.length gc, .slice sta (startL s.now.accts).length stc, .slice none 0 0, .slice ra s.ret.length rc, .int .u8 (s.phase : Nat), .int .u8 (s.status : Nat), .int .u8 ((s.applied + 1 : Nat) : Int), .slice sa40 sn40 sc40, .slice sa45 sn45 sc45, vleft, .slice sa48 sn48 sc48, vtot] := kS.rset rS 8 rfl
                                                replace rOr := kS.rseto rOr (by first | (left; omega) | (right; simp only [List.length_cons, List.length_nil, length_bL, length_be]; omega))
                                                replace rMd := kS.rseto rMd (by first | (left; omega) | (right; simp only [List.length_cons, List.length_nil, length_bL, length_be]; omega))
                                                replace rE1 := kS.rseto rE1 (by first | (left; omega) | (right; simp only [List.length_cons, List.length_nil, length_bL, length_be]; omega))
                                                replace rE2 := kS.rseto rE2 (by first | (left; omega) | (right; simp only [List.length_cons, List.length_nil, length_bL, length_be]; omega))
                                                replace rE3 := kS.rseto rE3 (by first | (left; omega) | (right; simp only [List.length_cons, List.length_nil, length_bL, length_be]; omega))
                                                replace rE4 := kS.rseto rE4 (by first | (left; omega) | (right; simp only [List.length_cons, List.length_nil, length_bL, length_be]; omega))
                                                replace rE5 := kS.rseto rE5 (by first | (left; omega) | (right; simp only [List.length_cons, List.length_nil, length_bL, length_be]; omega))
                                                replace rE6 := kS.rseto rE6 (by first | (left; omega) | (right; simp only [List.length_cons, List.length_nil, length_bL, length_be]; omega))
                                                refine c_exit ?_
                                                refine hQ55 _ _ _ (in_exit ?_)
                                                refine hK53 _ _ ?_
                                                refine fg4 3 5 7 8 (gS rfl (gS rfl (gS rfl (gS rfl (gS rfl (gS rfl (gS rfl g0))))))) (gS rfl (gS rfl (gS rfl (gS rfl (gS rfl (gS rfl g0)))))) (gS rfl (gS rfl (gS rfl (gS rfl (gS rfl g0))))) (gS rfl (gS rfl (gS rfl (gS rfl g0)))) (fun g => ?_)
                                                refine c_seq (fun K82 hK82 => ?_)
                                                exact (by
                                                  refine c_draw Up 9 [(0, true), (1, true), (2, true), (3, true), (4, true), (5, true), (6, true), (7, false), (8, false), (9, false)] (by kernel_rfl) (fun w83 hu => ⟨Up.refl _, ?_⟩)
                                                  replace G := G.tr (Go.ofUp hF hu)
                                                  replace hF := hF.up hu
                                                  replace k2 := k2.up hu
                                                  replace k12 := k12.up hu
                                                  replace k22 := k22.up hu
                                                  replace kS := kS.up hu
                                                  replace U := U.tr hu
                                                  have SU := Up.refl w83
                                                  refine p_step (by exact rfl) (y_moveV (et (gS rfl (gS rfl g0)) rfl)) ?_
                                                  refine p_step (by exact rfl) (y_nil (et g0 rfl)) ?_
                                                  refine p_step (by exact rfl) (y_fld fld_102_0 (et g0 rfl)) ?_
                                                  refine p_step (by exact rfl) (y_fld fld_41_0 (et (gS rfl (gS rfl (gS rfl (gS rfl (gS rfl (gS rfl g0)))))) rfl)) ?_
                                                  refine p_step (by exact rfl) (y_loadR agg_25 sz_25 (et g0 rfl) (by rw [length_bL, length_be]) (atSR (k2.row rT1))) ?_
                                                  refine p_step (by exact rfl) (y_fld fld_107_1 (et (gS rfl (gS rfl (gS rfl (gS rfl (gS rfl (gS rfl g0)))))) rfl)) ?_
                                                  refine p_step (by exact rfl) (y_load1 one_95 (et g0 rfl) (atS (k12.cell (acct_c20 hca32)))) ?_
                                                  refine p_eff (by exact rfl) (e_callV cal_32 (aC (v := .int .u64 ((1 : Nat) : Int)) rfl aN) (yp_num (x := 1) hF (by decide))) (fun v84 w84 h84 => ?_)
                                                  obtain ⟨H84, g84, n84⟩ := h84
                                                  have hlew84 := g84.le
                                                  replace nb2 := g84.nb nb2 k2.lt
                                                  replace nb12 := g84.nb nb12 k12.lt
                                                  replace nb22 := g84.nb nb22 k22.lt
                                                  replace nbS := g84.nb nbS kS.lt
                                                  replace pa10 := pa10.mono hlew84
                                                  replace hnn32 := hnn32.mono hlew84
                                                  replace hbb32 := hbb32.mono hlew84
                                                  replace hcd32 := hcd32.mono hlew84
                                                  replace hss32 := hss32.mono hlew84
                                                  replace n39 := n39.mono hlew84
                                                  replace n43 := n43.mono hlew84
                                                  replace n44 := n44.mono hlew84
                                                  replace hsP := hsP.mono hlew84
                                                  replace n47 := n47.mono hlew84
                                                  replace lvz81 := lvz81.mono hlew84
                                                  replace hL0 := hL0.trans hlew84
                                                  replace k2 := k2.up g84.up
                                                  replace k12 := k12.up g84.up
                                                  replace k22 := k22.up g84.up
                                                  replace kS := kS.up g84.up
                                                  replace U := U.tr g84.up
                                                  replace G := G.tr g84
                                                  replace hF := g84.fz
                                                  have q84 : 1 < 256 ^ 1 := by decide
                                                  refine ⟨.inr (SU.tr g84.up), ?_⟩
                                                  replace SU := SU.tr g84.up
                                                  exact (by
                                                    refine p_eff (by exact rfl) (e_callV cal_34 (aC (et (gS rfl g0) rfl) (aC (et g0 rfl) aN)) (nat_add hF hnn32 n84 (bd_sm (bd_64 hb132) (by decide)) (bd_sm q84 (by decide)))) (fun v85 w85 h85 => ?_)
                                                    obtain ⟨H85, g85, n85⟩ := h85
                                                    have hlew85 := g85.le
                                                    replace nb2 := g85.nb nb2 k2.lt
                                                    replace nb12 := g85.nb nb12 k12.lt
                                                    replace nb22 := g85.nb nb22 k22.lt
                                                    replace nbS := g85.nb nbS kS.lt
                                                    replace pa10 := pa10.mono hlew85
                                                    replace hnn32 := hnn32.mono hlew85
                                                    replace hbb32 := hbb32.mono hlew85
                                                    replace hcd32 := hcd32.mono hlew85
                                                    replace hss32 := hss32.mono hlew85
                                                    replace n39 := n39.mono hlew85
                                                    replace n43 := n43.mono hlew85
                                                    replace n44 := n44.mono hlew85
                                                    replace hsP := hsP.mono hlew85
                                                    replace n47 := n47.mono hlew85
                                                    replace lvz81 := lvz81.mono hlew85
                                                    replace n84 := n84.mono hlew85
                                                    replace hL0 := hL0.trans hlew85
                                                    replace k2 := k2.up g85.up
                                                    replace k12 := k12.up g85.up
                                                    replace k22 := k22.up g85.up
                                                    replace kS := kS.up g85.up
                                                    replace U := U.tr g85.up
                                                    replace G := G.tr g85
                                                    replace hF := g85.fz
                                                    have q85 := bd_add (c := 9) (bd_64 hb132) q84 (by decide)
                                                    refine ⟨.inr (SU.tr g85.up), ?_⟩
                                                    replace SU := SU.tr g85.up
                                                    refine p_eff (by exact rfl) (e_callV cal_48 (aC (et (gS rfl (gS rfl (gS rfl (gS rfl (gS rfl (gS rfl g0)))))) rfl) (aC (et (gS rfl (gS rfl (gS rfl (gS rfl g0)))) rfl) (aC (et g0 rfl) aN))) (yp_setNonce _ _ _ _ _ _ _ _ _ hF kS nbS (rS 0 _ rfl) (hAc.mono hL0) tok.frm (by omega) n85 hno9)) (fun v86 w86 h86 => ?_)
                                                    obtain ⟨rfl, z86, H86, g86, lv86, kx86⟩ := h86
                                                    have hlew86 := g86.le
                                                    replace nb2 := g86.nb nb2 k2.lt
                                                    replace nb12 := g86.nb nb12 k12.lt
                                                    replace nb22 := g86.nb nb22 k22.lt
                                                    replace nbS := g86.nb nbS kS.lt
                                                    replace pa10 := pa10.mono hlew86
                                                    replace hnn32 := hnn32.mono hlew86
                                                    replace hbb32 := hbb32.mono hlew86
                                                    replace hcd32 := hcd32.mono hlew86
                                                    replace hss32 := hss32.mono hlew86
                                                    replace n39 := n39.mono hlew86
                                                    replace n43 := n43.mono hlew86
                                                    replace n44 := n44.mono hlew86
                                                    replace hsP := hsP.mono hlew86
                                                    replace n47 := n47.mono hlew86
                                                    replace lvz81 := lvz81.mono hlew86
                                                    replace n84 := n84.mono hlew86
                                                    replace n85 := n85.mono hlew86
                                                    replace hL0 := hL0.trans hlew86
                                                    replace k2 := k2.ch g86.ch (by omega)
                                                    replace k12 := k12.ch g86.ch (by omega)
                                                    replace k22 := k22.ch g86.ch (by omega)
                                                    replace kS := kx86
                                                    replace U := U.cc g86.ch (by intro b hb; first | omega | exact .inl hb | exact .inr (hb ▸ U))
                                                    replace G := G.trans g86 (by intro b hb; first | omega | exact .inl hb | (simp at hb ⊢; omega))
                                                    replace hF := g86.fz
                                                    obtain ⟨xa86, xc86, rfl, hxl86, hxc86⟩ := lv86.val
                                                    replace eC := kS.eset eC (by omega)
                                                    replace rS : RowIn _ _ [_, .slice wa s.now.warmA.length wc, .slice sa s.now.warmS.length sc, vr, .slice la s.now.logs.length lc, .slice ta s.now.temps.length tc, .slice ma s.now.made.length mc, .slice ga s.now.gone.length gc, .slice sta (startL s.now.accts).length stc, .slice none 0 0, .slice ra s.ret.length rc, .int .u8 (s.phase : Nat), .int .u8 (s.status : Nat), .int .u8 ((s.applied + 1 : Nat) : Int), .slice sa40 sn40 sc40, .slice sa45 sn45 sc45, vleft, .slice sa48 sn48 sc48, vtot] := kS.rset rS 0 rfl
                                                    replace rOr := kS.rseto rOr (by first | (left; omega) | (right; simp only [List.length_cons, List.length_nil, length_bL, length_be]; omega))
                                                    replace rMd := kS.rseto rMd (by first | (left; omega) | (right; simp only [List.length_cons, List.length_nil, length_bL, length_be]; omega))
                                                    replace rE1 := kS.rseto rE1 (by first | (left; omega) | (right; simp only [List.length_cons, List.length_nil, length_bL, length_be]; omega))
                                                    replace rE2 := kS.rseto rE2 (by first | (left; omega) | (right; simp only [List.length_cons, List.length_nil, length_bL, length_be]; omega))
                                                    replace rE3 := kS.rseto rE3 (by first | (left; omega) | (right; simp only [List.length_cons, List.length_nil, length_bL, length_be]; omega))
                                                    replace rE4 := kS.rseto rE4 (by first | (left; omega) | (right; simp only [List.length_cons, List.length_nil, length_bL, length_be]; omega))
                                                    replace rE5 := kS.rseto rE5 (by first | (left; omega) | (right; simp only [List.length_cons, List.length_nil, length_bL, length_be]; omega))
                                                    replace rE6 := kS.rseto rE6 (by first | (left; omega) | (right; simp only [List.length_cons, List.length_nil, length_bL, length_be]; omega))
                                                    refine ⟨.inl rfl, ?_⟩
                                                    refine p_nil ?_
                                                    refine hK82 _ _ ?_
                                                    refine fg4 3 5 7 8 (gS rfl (gS rfl (gS rfl (gS rfl (gS rfl (gS rfl (gS rfl (gS rfl (gS rfl (gS rfl (gS rfl (gS rfl (gS rfl g0))))))))))))) (gS rfl (gS rfl (gS rfl (gS rfl (gS rfl (gS rfl (gS rfl (gS rfl (gS rfl (gS rfl (gS rfl (gS rfl g0)))))))))))) (gS rfl (gS rfl (gS rfl (gS rfl (gS rfl (gS rfl (gS rfl (gS rfl (gS rfl (gS rfl (gS rfl g0))))))))))) (gS rfl (gS rfl (gS rfl (gS rfl (gS rfl (gS rfl (gS rfl (gS rfl (gS rfl (gS rfl g0)))))))))) (fun g => ?_)
                                                    refine c_seq (fun K87 hK87 => ?_)
                                                    exact (by
                                                      refine c_draw Up 17 [(0, true), (1, true), (2, true), (3, true), (4, true), (5, true), (6, true), (7, true), (8, true), (9, true), (10, true), (11, true), (12, true), (13, true), (14, true), (15, false), (16, false), (17, false)] (by kernel_rfl) (fun w88 hu => ⟨Up.refl _, ?_⟩)
                                                      replace G := G.tr (Go.ofUp hF hu)
                                                      replace hF := hF.up hu
                                                      replace k2 := k2.up hu
                                                      replace k12 := k12.up hu
                                                      replace k22 := k22.up hu
                                                      replace kS := kS.up hu
                                                      replace U := U.tr hu
                                                      have SU := Up.refl w88
                                                      refine p_step (by exact rfl) (y_moveV (et (gS rfl (gS rfl g0)) rfl)) ?_
                                                      refine p_step (by exact rfl) (y_nil (et g0 rfl)) ?_
                                                      refine p_step (by exact rfl) (y_fld fld_102_0 (et g0 rfl)) ?_
                                                      refine p_step (by exact rfl) (y_fld fld_41_0 (et (gS rfl (gS rfl (gS rfl (gS rfl (gS rfl (gS rfl g0)))))) rfl)) ?_
                                                      refine p_step (by exact rfl) (y_loadR agg_25 sz_25 (et g0 rfl) (by rw [length_bL, length_be]) (atSR (k2.row rT1))) ?_
                                                      refine p_step (by exact rfl) (y_fld fld_107_2 (et (gS rfl (gS rfl (gS rfl (gS rfl (gS rfl (gS rfl g0)))))) rfl)) ?_
                                                      refine p_step (by exact rfl) (y_load1 one_95 (et g0 rfl) (atS (k12.cell (acct_c21 hca32)))) ?_
                                                      refine p_step (by exact rfl) (y_moveV (et (gS rfl (gS rfl (gS rfl (gS rfl (gS rfl (gS rfl (gS rfl (gS rfl (gS rfl g0))))))))) rfl)) ?_
                                                      refine p_step (by exact rfl) (y_nil (et g0 rfl)) ?_
                                                      refine p_step (by exact rfl) (y_fld fld_102_7 (et g0 rfl)) ?_
                                                      refine p_step (by exact rfl) (y_load1 one_95 (et g0 rfl) (atS (kS.cell (rS 14 _ rfl)))) ?_
                                                      refine p_step (by exact rfl) (y_moveV (et (gS rfl (gS rfl (gS rfl (gS rfl (gS rfl (gS rfl (gS rfl (gS rfl (gS rfl (gS rfl (gS rfl (gS rfl (gS rfl g0))))))))))))) rfl)) ?_
                                                      refine p_step (by exact rfl) (y_nil (et g0 rfl)) ?_
                                                      refine p_step (by exact rfl) (y_fld fld_102_10 (et g0 rfl)) ?_
                                                      refine p_step (by exact rfl) (y_load1 one_95 (et g0 rfl) (atS (kS.cell (rS 17 _ rfl)))) ?_
                                                      refine p_eff (by exact rfl) (e_callV cal_50 (aC (et (gS rfl (gS rfl (gS rfl (gS rfl g0)))) rfl) (aC (et g0 rfl) aN)) (nat_mul hF n39 n47 (bd_sm q39 (by decide)) (bd_sm q47 (by decide)))) (fun v89 w89 h89 => ?_)
                                                      obtain ⟨H89, g89, n89⟩ := h89
                                                      have hlew89 := g89.le
                                                      replace nb2 := g89.nb nb2 k2.lt
                                                      replace nb12 := g89.nb nb12 k12.lt
                                                      replace nb22 := g89.nb nb22 k22.lt
                                                      replace nbS := g89.nb nbS kS.lt
                                                      replace pa10 := pa10.mono hlew89
                                                      replace hnn32 := hnn32.mono hlew89
                                                      replace hbb32 := hbb32.mono hlew89
                                                      replace hcd32 := hcd32.mono hlew89
                                                      replace hss32 := hss32.mono hlew89
                                                      replace n39 := n39.mono hlew89
                                                      replace n43 := n43.mono hlew89
                                                      replace n44 := n44.mono hlew89
                                                      replace hsP := hsP.mono hlew89
                                                      replace n47 := n47.mono hlew89
                                                      replace lvz81 := lvz81.mono hlew89
                                                      replace n84 := n84.mono hlew89
                                                      replace n85 := n85.mono hlew89
                                                      replace lv86 := lv86.mono hlew89
                                                      replace hL0 := hL0.trans hlew89
                                                      replace k2 := k2.up g89.up
                                                      replace k12 := k12.up g89.up
                                                      replace k22 := k22.up g89.up
                                                      replace kS := kS.up g89.up
                                                      replace U := U.tr g89.up
                                                      replace G := G.tr g89
                                                      replace hF := g89.fz
                                                      have q89 := bd_mul (c := 41) q39 q47 (by decide)
                                                      refine ⟨.inr (SU.tr g89.up), ?_⟩
                                                      replace SU := SU.tr g89.up
                                                      exact (by
                                                        refine p_eff (by exact rfl) (e_callV cal_45 (aC (et (gS rfl (gS rfl (gS rfl (gS rfl (gS rfl (gS rfl (gS rfl (gS rfl (gS rfl g0))))))))) rfl) (aC (et g0 rfl) aN)) (yp_less hF hbb32 n89 (bd_sm (bd_W hb232) (by decide)) (bd_sm q89 (by decide)))) (fun v90 w90 h90 => ?_)
                                                        obtain ⟨H90, g90, n90⟩ := h90
                                                        have hlew90 := g90.le
                                                        replace nb2 := g90.nb nb2 k2.lt
                                                        replace nb12 := g90.nb nb12 k12.lt
                                                        replace nb22 := g90.nb nb22 k22.lt
                                                        replace nbS := g90.nb nbS kS.lt
                                                        replace pa10 := pa10.mono hlew90
                                                        replace hnn32 := hnn32.mono hlew90
                                                        replace hbb32 := hbb32.mono hlew90
                                                        replace hcd32 := hcd32.mono hlew90
                                                        replace hss32 := hss32.mono hlew90
                                                        replace n39 := n39.mono hlew90
                                                        replace n43 := n43.mono hlew90
                                                        replace n44 := n44.mono hlew90
                                                        replace hsP := hsP.mono hlew90
                                                        replace n47 := n47.mono hlew90
                                                        replace lvz81 := lvz81.mono hlew90
                                                        replace n84 := n84.mono hlew90
                                                        replace n85 := n85.mono hlew90
                                                        replace lv86 := lv86.mono hlew90
                                                        replace n89 := n89.mono hlew90
                                                        replace hL0 := hL0.trans hlew90
                                                        replace k2 := k2.up g90.up
                                                        replace k12 := k12.up g90.up
                                                        replace k22 := k22.up g90.up
                                                        replace kS := kS.up g90.up
                                                        replace U := U.tr g90.up
                                                        replace G := G.tr g90
                                                        replace hF := g90.fz
                                                        have q90 := bd_sub' n90 (bd_W hb232)
                                                        refine ⟨.inr (SU.tr g90.up), ?_⟩
                                                        replace SU := SU.tr g90.up
                                                        exact (by
                                                          refine p_eff (by exact rfl) (e_callV cal_49 (aC (et (gS rfl (gS rfl (gS rfl (gS rfl (gS rfl (gS rfl (gS rfl (gS rfl (gS rfl (gS rfl (gS rfl (gS rfl (gS rfl (gS rfl g0)))))))))))))) rfl) (aC (et (gS rfl (gS rfl (gS rfl (gS rfl (gS rfl (gS rfl (gS rfl (gS rfl (gS rfl (gS rfl (gS rfl (gS rfl g0)))))))))))) rfl) (aC (et g0 rfl) aN))) (yp_setBalance _ _ _ _ _ _ _ _ _ hF kS nbS (rS 0 _ rfl) lv86 tok.frm (by have h9 : (bA1 s T).length ≤ s.now.accts.length + 1 := putA_len _ _; exact Nat.lt_of_le_of_lt h9 (by omega)) n90 (W_bd (bd_up q90 (by decide))))) (fun v91 w91 h91 => ?_)
                                                          obtain ⟨rfl, z91, H91, g91, lv91, kx91⟩ := h91
                                                          have hlew91 := g91.le
                                                          replace nb2 := g91.nb nb2 k2.lt
                                                          replace nb12 := g91.nb nb12 k12.lt
                                                          replace nb22 := g91.nb nb22 k22.lt
                                                          replace nbS := g91.nb nbS kS.lt
                                                          replace pa10 := pa10.mono hlew91
                                                          replace hnn32 := hnn32.mono hlew91
                                                          replace hbb32 := hbb32.mono hlew91
                                                          replace hcd32 := hcd32.mono hlew91
                                                          replace hss32 := hss32.mono hlew91
                                                          replace n39 := n39.mono hlew91
                                                          replace n43 := n43.mono hlew91
                                                          replace n44 := n44.mono hlew91
                                                          replace hsP := hsP.mono hlew91
                                                          replace n47 := n47.mono hlew91
                                                          replace lvz81 := lvz81.mono hlew91
                                                          replace n84 := n84.mono hlew91
                                                          replace n85 := n85.mono hlew91
                                                          replace lv86 := lv86.mono hlew91
                                                          replace n89 := n89.mono hlew91
                                                          replace n90 := n90.mono hlew91
                                                          replace hL0 := hL0.trans hlew91
                                                          replace k2 := k2.ch g91.ch (by omega)
                                                          replace k12 := k12.ch g91.ch (by omega)
                                                          replace k22 := k22.ch g91.ch (by omega)
                                                          replace kS := kx91
                                                          replace U := U.cc g91.ch (by intro b hb; first | omega | exact .inl hb | exact .inr (hb ▸ U))
                                                          replace G := G.trans g91 (by intro b hb; first | omega | exact .inl hb | (simp at hb ⊢; omega))
                                                          replace hF := g91.fz
                                                          obtain ⟨xa91, xc91, rfl, hxl91, hxc91⟩ := lv91.val
                                                          replace eC := kS.eset eC (by omega)
                                                          replace rS : RowIn _ _ [_, .slice wa s.now.warmA.length wc, .slice sa s.now.warmS.length sc, vr, .slice la s.now.logs.length lc, .slice ta s.now.temps.length tc, .slice ma s.now.made.length mc, .slice ga s.now.gone.length gc, .slice sta (startL s.now.accts).length stc, .slice none 0 0, .slice ra s.ret.length rc, .int .u8 (s.phase : Nat), .int .u8 (s.status : Nat), .int .u8 ((s.applied + 1 : Nat) : Int), .slice sa40 sn40 sc40, .slice sa45 sn45 sc45, vleft, .slice sa48 sn48 sc48, vtot] := kS.rset rS 0 rfl
                                                          replace rOr := kS.rseto rOr (by first | (left; omega) | (right; simp only [List.length_cons, List.length_nil, length_bL, length_be]; omega))
                                                          replace rMd := kS.rseto rMd (by first | (left; omega) | (right; simp only [List.length_cons, List.length_nil, length_bL, length_be]; omega))
                                                          replace rE1 := kS.rseto rE1 (by first | (left; omega) | (right; simp only [List.length_cons, List.length_nil, length_bL, length_be]; omega))
                                                          replace rE2 := kS.rseto rE2 (by first | (left; omega) | (right; simp only [List.length_cons, List.length_nil, length_bL, length_be]; omega))
                                                          replace rE3 := kS.rseto rE3 (by first | (left; omega) | (right; simp only [List.length_cons, List.length_nil, length_bL, length_be]; omega))
                                                          replace rE4 := kS.rseto rE4 (by first | (left; omega) | (right; simp only [List.length_cons, List.length_nil, length_bL, length_be]; omega))
                                                          replace rE5 := kS.rseto rE5 (by first | (left; omega) | (right; simp only [List.length_cons, List.length_nil, length_bL, length_be]; omega))
                                                          replace rE6 := kS.rseto rE6 (by first | (left; omega) | (right; simp only [List.length_cons, List.length_nil, length_bL, length_be]; omega))
                                                          refine ⟨.inl rfl, ?_⟩
                                                          refine p_nil ?_
                                                          refine hK87 _ _ ?_
                                                          refine fg3 3 5 8 (gS rfl (gS rfl (gS rfl (gS rfl (gS rfl (gS rfl (gS rfl (gS rfl (gS rfl (gS rfl (gS rfl (gS rfl (gS rfl (gS rfl (gS rfl (gS rfl (gS rfl (gS rfl (gS rfl (gS rfl (gS rfl g0))))))))))))))))))))) (gS rfl (gS rfl (gS rfl (gS rfl (gS rfl (gS rfl (gS rfl (gS rfl (gS rfl (gS rfl (gS rfl (gS rfl (gS rfl (gS rfl (gS rfl (gS rfl (gS rfl (gS rfl (gS rfl (gS rfl g0)))))))))))))))))))) (gS rfl (gS rfl (gS rfl (gS rfl (gS rfl (gS rfl (gS rfl (gS rfl (gS rfl (gS rfl (gS rfl (gS rfl (gS rfl (gS rfl (gS rfl (gS rfl (gS rfl (gS rfl g0)))))))))))))))))) (fun g => ?_)
                                                          refine c_seq (fun K92 hK92 => ?_)
                                                          exact (by
                                                            refine c_draw Up 5 [(0, true), (1, true), (2, true), (3, true), (4, true), (5, false)] (by kernel_rfl) (fun w93 hu => ⟨Up.refl _, ?_⟩)
                                                            replace G := G.tr (Go.ofUp hF hu)
                                                            replace hF := hF.up hu
                                                            replace k2 := k2.up hu
                                                            replace k12 := k12.up hu
                                                            replace k22 := k22.up hu
                                                            replace kS := kS.up hu
                                                            replace U := U.tr hu
                                                            have SU := Up.refl w93
                                                            refine p_step (by exact rfl) (y_moveV (et (gS rfl g0) rfl)) ?_
                                                            refine p_step (by exact rfl) (y_nil (et g0 rfl)) ?_
                                                            refine p_step (by exact rfl) (y_fld fld_102_0 (et g0 rfl)) ?_
                                                            refine p_step (by exact rfl) (y_fld fld_41_0 (et (gS rfl (gS rfl (gS rfl (gS rfl (gS rfl g0))))) rfl)) ?_
                                                            refine p_step (by exact rfl) (y_loadR agg_25 sz_25 (et g0 rfl) (by rw [length_bL, length_be]) (atSR (k2.row rT1))) ?_
                                                            refine p_eff (by exact rfl) (e_callV cal_51 (aC (et (gS rfl (gS rfl g0)) rfl) (aC (et g0 rfl) aN)) (yp_warm _ _ _ _ _ _ _ _ _ hF kS nbS (rS 1 _ rfl) (hWA.mono hL0) tok.frm (by omega))) (fun v94 w94 h94 => ?_)
                                                            obtain ⟨rfl, z94, H94, g94, lv94, kx94⟩ := h94
                                                            have hlew94 := g94.le
                                                            replace nb2 := g94.nb nb2 k2.lt
                                                            replace nb12 := g94.nb nb12 k12.lt
                                                            replace nb22 := g94.nb nb22 k22.lt
                                                            replace nbS := g94.nb nbS kS.lt
                                                            replace pa10 := pa10.mono hlew94
                                                            replace hnn32 := hnn32.mono hlew94
                                                            replace hbb32 := hbb32.mono hlew94
                                                            replace hcd32 := hcd32.mono hlew94
                                                            replace hss32 := hss32.mono hlew94
                                                            replace n39 := n39.mono hlew94
                                                            replace n43 := n43.mono hlew94
                                                            replace n44 := n44.mono hlew94
                                                            replace hsP := hsP.mono hlew94
                                                            replace n47 := n47.mono hlew94
                                                            replace lvz81 := lvz81.mono hlew94
                                                            replace n84 := n84.mono hlew94
                                                            replace n85 := n85.mono hlew94
                                                            replace lv86 := lv86.mono hlew94
                                                            replace n89 := n89.mono hlew94
                                                            replace n90 := n90.mono hlew94
                                                            replace lv91 := lv91.mono hlew94
                                                            replace hL0 := hL0.trans hlew94
                                                            replace k2 := k2.ch g94.ch (by omega)
                                                            replace k12 := k12.ch g94.ch (by omega)
                                                            replace k22 := k22.ch g94.ch (by omega)
                                                            replace kS := kx94
                                                            replace U := U.cc g94.ch (by intro b hb; first | omega | exact .inl hb | exact .inr (hb ▸ U))
                                                            replace G := G.trans g94 (by intro b hb; first | omega | exact .inl hb | (simp at hb ⊢; omega))
                                                            replace hF := g94.fz
                                                            obtain ⟨xa94, xc94, rfl, hxl94, hxc94⟩ := lv94.val
                                                            replace eC := kS.eset eC (by omega)
                                                            replace rS : RowIn _ _ [_, _, .slice sa s.now.warmS.length sc, vr, .slice la s.now.logs.length lc, .slice ta s.now.temps.length tc, .slice ma s.now.made.length mc, .slice ga s.now.gone.length gc, .slice sta (startL s.now.accts).length stc, .slice none 0 0, .slice ra s.ret.length rc, .int .u8 (s.phase : Nat), .int .u8 (s.status : Nat), .int .u8 ((s.applied + 1 : Nat) : Int), .slice sa40 sn40 sc40, .slice sa45 sn45 sc45, vleft, .slice sa48 sn48 sc48, vtot] := kS.rset rS 1 rfl
                                                            replace rOr := kS.rseto rOr (by first | (left; omega) | (right; simp only [List.length_cons, List.length_nil, length_bL, length_be]; omega))
                                                            replace rMd := kS.rseto rMd (by first | (left; omega) | (right; simp only [List.length_cons, List.length_nil, length_bL, length_be]; omega))
                                                            replace rE1 := kS.rseto rE1 (by first | (left; omega) | (right; simp only [List.length_cons, List.length_nil, length_bL, length_be]; omega))
                                                            replace rE2 := kS.rseto rE2 (by first | (left; omega) | (right; simp only [List.length_cons, List.length_nil, length_bL, length_be]; omega))
                                                            replace rE3 := kS.rseto rE3 (by first | (left; omega) | (right; simp only [List.length_cons, List.length_nil, length_bL, length_be]; omega))
                                                            replace rE4 := kS.rseto rE4 (by first | (left; omega) | (right; simp only [List.length_cons, List.length_nil, length_bL, length_be]; omega))
                                                            replace rE5 := kS.rseto rE5 (by first | (left; omega) | (right; simp only [List.length_cons, List.length_nil, length_bL, length_be]; omega))
                                                            replace rE6 := kS.rseto rE6 (by first | (left; omega) | (right; simp only [List.length_cons, List.length_nil, length_bL, length_be]; omega))
                                                            refine ⟨.inl rfl, ?_⟩
                                                            refine p_nil ?_
                                                            refine hK92 _ _ ?_
                                                            refine fg3 3 5 8 (gS rfl (gS rfl (gS rfl (gS rfl (gS rfl (gS rfl (gS rfl (gS rfl g0)))))))) (gS rfl (gS rfl (gS rfl (gS rfl (gS rfl (gS rfl (gS rfl g0))))))) (gS rfl (gS rfl (gS rfl (gS rfl (gS rfl (gS rfl g0)))))) (fun g => ?_)
                                                            refine c_seq (fun K95 hK95 => ?_)
                                                            exact (by
                                                              refine c_draw Up 8 [(0, true), (1, true), (2, true), (3, true), (4, true), (5, true), (6, true), (7, true), (8, false)] (by kernel_rfl) (fun w96 hu => ⟨Up.refl _, ?_⟩)
                                                              replace G := G.tr (Go.ofUp hF hu)
                                                              replace hF := hF.up hu
                                                              replace k2 := k2.up hu
                                                              replace k12 := k12.up hu
                                                              replace k22 := k22.up hu
                                                              replace kS := kS.up hu
                                                              replace U := U.tr hu
                                                              have SU := Up.refl w96
                                                              refine p_step (by exact rfl) (y_moveV (et (gS rfl g0) rfl)) ?_
                                                              refine p_step (by exact rfl) (y_nil (et g0 rfl)) ?_
                                                              refine p_step (by exact rfl) (y_fld fld_102_0 (et g0 rfl)) ?_
                                                              refine p_step (by exact rfl) (y_moveV (et (gS rfl (gS rfl (gS rfl (gS rfl g0)))) rfl)) ?_
                                                              refine p_step (by exact rfl) (y_nil (et g0 rfl)) ?_
                                                              refine p_step (by exact rfl) (y_fld fld_102_14 (et g0 rfl)) ?_
                                                              refine p_step (by exact rfl) (y_fld fld_31_0 (et g0 rfl)) ?_
                                                              refine p_step (by exact rfl) (y_loadR agg_25 sz_25 (et g0 rfl) (by rw [length_bL, length_be]) (atSR (kS.row rE1))) ?_
                                                              refine p_eff (by exact rfl) (e_callV cal_51 (aC (et (gS rfl (gS rfl (gS rfl (gS rfl (gS rfl g0))))) rfl) (aC (et g0 rfl) aN)) (yp_warm _ _ _ _ _ _ _ _ _ hF kS nbS (rS 1 _ rfl) lv94 eo.coinbase (by have hC14 := len_withA s.now.warmA T.frm; exact Nat.lt_of_le_of_lt hC14 (by omega)))) (fun v97 w97 h97 => ?_)
                                                              obtain ⟨rfl, z97, H97, g97, lv97, kx97⟩ := h97
                                                              have hlew97 := g97.le
                                                              replace nb2 := g97.nb nb2 k2.lt
                                                              replace nb12 := g97.nb nb12 k12.lt
                                                              replace nb22 := g97.nb nb22 k22.lt
                                                              replace nbS := g97.nb nbS kS.lt
                                                              replace pa10 := pa10.mono hlew97
                                                              replace hnn32 := hnn32.mono hlew97
                                                              replace hbb32 := hbb32.mono hlew97
                                                              replace hcd32 := hcd32.mono hlew97
                                                              replace hss32 := hss32.mono hlew97
                                                              replace n39 := n39.mono hlew97
                                                              replace n43 := n43.mono hlew97
                                                              replace n44 := n44.mono hlew97
                                                              replace hsP := hsP.mono hlew97
                                                              replace n47 := n47.mono hlew97
                                                              replace lvz81 := lvz81.mono hlew97
                                                              replace n84 := n84.mono hlew97
                                                              replace n85 := n85.mono hlew97
                                                              replace lv86 := lv86.mono hlew97
                                                              replace n89 := n89.mono hlew97
                                                              replace n90 := n90.mono hlew97
                                                              replace lv91 := lv91.mono hlew97
                                                              replace lv94 := lv94.mono hlew97
                                                              replace hL0 := hL0.trans hlew97
                                                              replace k2 := k2.ch g97.ch (by omega)
                                                              replace k12 := k12.ch g97.ch (by omega)
                                                              replace k22 := k22.ch g97.ch (by omega)
                                                              replace kS := kx97
                                                              replace U := U.cc g97.ch (by intro b hb; first | omega | exact .inl hb | exact .inr (hb ▸ U))
                                                              replace G := G.trans g97 (by intro b hb; first | omega | exact .inl hb | (simp at hb ⊢; omega))
                                                              replace hF := g97.fz
                                                              obtain ⟨xa97, xc97, rfl, hxl97, hxc97⟩ := lv97.val
                                                              replace eC := kS.eset eC (by omega)
                                                              replace rS : RowIn _ _ [_, _, .slice sa s.now.warmS.length sc, vr, .slice la s.now.logs.length lc, .slice ta s.now.temps.length tc, .slice ma s.now.made.length mc, .slice ga s.now.gone.length gc, .slice sta (startL s.now.accts).length stc, .slice none 0 0, .slice ra s.ret.length rc, .int .u8 (s.phase : Nat), .int .u8 (s.status : Nat), .int .u8 ((s.applied + 1 : Nat) : Int), .slice sa40 sn40 sc40, .slice sa45 sn45 sc45, vleft, .slice sa48 sn48 sc48, vtot] := kS.rset rS 1 rfl
                                                              replace rOr := kS.rseto rOr (by first | (left; omega) | (right; simp only [List.length_cons, List.length_nil, length_bL, length_be]; omega))
                                                              replace rMd := kS.rseto rMd (by first | (left; omega) | (right; simp only [List.length_cons, List.length_nil, length_bL, length_be]; omega))
                                                              replace rE1 := kS.rseto rE1 (by first | (left; omega) | (right; simp only [List.length_cons, List.length_nil, length_bL, length_be]; omega))
                                                              replace rE2 := kS.rseto rE2 (by first | (left; omega) | (right; simp only [List.length_cons, List.length_nil, length_bL, length_be]; omega))
                                                              replace rE3 := kS.rseto rE3 (by first | (left; omega) | (right; simp only [List.length_cons, List.length_nil, length_bL, length_be]; omega))
                                                              replace rE4 := kS.rseto rE4 (by first | (left; omega) | (right; simp only [List.length_cons, List.length_nil, length_bL, length_be]; omega))
                                                              replace rE5 := kS.rseto rE5 (by first | (left; omega) | (right; simp only [List.length_cons, List.length_nil, length_bL, length_be]; omega))
                                                              replace rE6 := kS.rseto rE6 (by first | (left; omega) | (right; simp only [List.length_cons, List.length_nil, length_bL, length_be]; omega))
                                                              refine ⟨.inl rfl, ?_⟩
                                                              refine p_nil ?_
                                                              refine hK95 _ _ ?_
                                                              refine fg3 3 5 8 (gS rfl (gS rfl (gS rfl (gS rfl (gS rfl (gS rfl (gS rfl (gS rfl (gS rfl (gS rfl (gS rfl g0))))))))))) (gS rfl (gS rfl (gS rfl (gS rfl (gS rfl (gS rfl (gS rfl (gS rfl (gS rfl (gS rfl g0)))))))))) (gS rfl (gS rfl (gS rfl (gS rfl (gS rfl (gS rfl (gS rfl (gS rfl (gS rfl g0))))))))) (fun g => ?_)
                                                              refine c_seq (fun K98 hK98 => ?_)
                                                              exact (by
                                                                refine c_draw Up 4 [(0, true), (1, true), (2, true), (3, true), (4, false)] (by kernel_rfl) (fun w99 hu => ⟨Up.refl _, ?_⟩)
                                                                replace G := G.tr (Go.ofUp hF hu)
                                                                replace hF := hF.up hu
                                                                replace k2 := k2.up hu
                                                                replace k12 := k12.up hu
                                                                replace k22 := k22.up hu
                                                                replace kS := kS.up hu
                                                                replace U := U.tr hu
                                                                have SU := Up.refl w99
                                                                refine p_step (by exact rfl) (y_moveV (et (gS rfl g0) rfl)) ?_
                                                                refine p_step (by exact rfl) (y_nil (et g0 rfl)) ?_
                                                                refine p_step (by exact rfl) (y_fld fld_102_0 (et g0 rfl)) ?_
                                                                refine p_step (by exact rfl) (y_loadB agg_25 sz_25 (et (gS rfl (gS rfl (gS rfl g0))) rfl) (by rw [List.size_toArray, length_bL, length_be]) (atSB k22)) ?_
                                                                refine p_eff (by exact rfl) (e_callV cal_51 (aC (et (gS rfl g0) rfl) (aC (et g0 rfl) aN)) (yp_warm _ _ _ _ _ _ _ _ _ hF kS nbS (rS 1 _ rfl) lv97 htl8 (by have hC14 := len_withA s.now.warmA T.frm; have hC15 := len_withA (withA s.now.warmA T.frm) s.env.coinbase; exact Nat.lt_of_le_of_lt hC15 (by omega)))) (fun v100 w100 h100 => ?_)
                                                                obtain ⟨rfl, z100, H100, g100, lv100, kx100⟩ := h100
                                                                have hlew100 := g100.le
                                                                replace nb2 := g100.nb nb2 k2.lt
                                                                replace nb12 := g100.nb nb12 k12.lt
                                                                replace nb22 := g100.nb nb22 k22.lt
                                                                replace nbS := g100.nb nbS kS.lt
                                                                replace pa10 := pa10.mono hlew100
                                                                replace hnn32 := hnn32.mono hlew100
                                                                replace hbb32 := hbb32.mono hlew100
                                                                replace hcd32 := hcd32.mono hlew100
                                                                replace hss32 := hss32.mono hlew100
                                                                replace n39 := n39.mono hlew100
                                                                replace n43 := n43.mono hlew100
                                                                replace n44 := n44.mono hlew100
                                                                replace hsP := hsP.mono hlew100
                                                                replace n47 := n47.mono hlew100
                                                                replace lvz81 := lvz81.mono hlew100
                                                                replace n84 := n84.mono hlew100
                                                                replace n85 := n85.mono hlew100
                                                                replace lv86 := lv86.mono hlew100
                                                                replace n89 := n89.mono hlew100
                                                                replace n90 := n90.mono hlew100
                                                                replace lv91 := lv91.mono hlew100
                                                                replace lv94 := lv94.mono hlew100
                                                                replace lv97 := lv97.mono hlew100
                                                                replace hL0 := hL0.trans hlew100
                                                                replace k2 := k2.ch g100.ch (by omega)
                                                                replace k12 := k12.ch g100.ch (by omega)
                                                                replace k22 := k22.ch g100.ch (by omega)
                                                                replace kS := kx100
                                                                replace U := U.cc g100.ch (by intro b hb; first | omega | exact .inl hb | exact .inr (hb ▸ U))
                                                                replace G := G.trans g100 (by intro b hb; first | omega | exact .inl hb | (simp at hb ⊢; omega))
                                                                replace hF := g100.fz
                                                                obtain ⟨xa100, xc100, rfl, hxl100, hxc100⟩ := lv100.val
                                                                replace eC := kS.eset eC (by omega)
                                                                replace rS : RowIn _ _ [_, _, .slice sa s.now.warmS.length sc, vr, .slice la s.now.logs.length lc, .slice ta s.now.temps.length tc, .slice ma s.now.made.length mc, .slice ga s.now.gone.length gc, .slice sta (startL s.now.accts).length stc, .slice none 0 0, .slice ra s.ret.length rc, .int .u8 (s.phase : Nat), .int .u8 (s.status : Nat), .int .u8 ((s.applied + 1 : Nat) : Int), .slice sa40 sn40 sc40, .slice sa45 sn45 sc45, vleft, .slice sa48 sn48 sc48, vtot] := kS.rset rS 1 rfl
                                                                replace rOr := kS.rseto rOr (by first | (left; omega) | (right; simp only [List.length_cons, List.length_nil, length_bL, length_be]; omega))
                                                                replace rMd := kS.rseto rMd (by first | (left; omega) | (right; simp only [List.length_cons, List.length_nil, length_bL, length_be]; omega))
                                                                replace rE1 := kS.rseto rE1 (by first | (left; omega) | (right; simp only [List.length_cons, List.length_nil, length_bL, length_be]; omega))
                                                                replace rE2 := kS.rseto rE2 (by first | (left; omega) | (right; simp only [List.length_cons, List.length_nil, length_bL, length_be]; omega))
                                                                replace rE3 := kS.rseto rE3 (by first | (left; omega) | (right; simp only [List.length_cons, List.length_nil, length_bL, length_be]; omega))
                                                                replace rE4 := kS.rseto rE4 (by first | (left; omega) | (right; simp only [List.length_cons, List.length_nil, length_bL, length_be]; omega))
                                                                replace rE5 := kS.rseto rE5 (by first | (left; omega) | (right; simp only [List.length_cons, List.length_nil, length_bL, length_be]; omega))
                                                                replace rE6 := kS.rseto rE6 (by first | (left; omega) | (right; simp only [List.length_cons, List.length_nil, length_bL, length_be]; omega))
                                                                refine ⟨.inl rfl, ?_⟩
                                                                refine p_nil ?_
                                                                refine hK98 _ _ ?_
                                                                refine fg3 3 5 8 (gS rfl (gS rfl (gS rfl (gS rfl (gS rfl (gS rfl (gS rfl g0))))))) (gS rfl (gS rfl (gS rfl (gS rfl (gS rfl (gS rfl g0)))))) (gS rfl (gS rfl (gS rfl (gS rfl (gS rfl g0))))) (fun g => ?_)
                                                                refine c_seq (fun K101 hK101 => ?_)
                                                                exact (by
                                                                  refine c_region ?_
                                                                  refine l_step (y_moveV (et (gS rfl g0) rfl)) ?_
                                                                  refine l_step (y_nil (et g0 rfl)) ?_
                                                                  refine l_step (y_fld fld_102_0 (et g0 rfl)) ?_
                                                                  refine l_step (y_bld (bC rfl bN) bld25_4) ?_
                                                                  refine l_eff (e_callV cal_51 (aC (et (gS rfl g0) rfl) (aC (et g0 rfl) aN)) (yp_warm _ _ _ _ _ _ _ _ _ hF kS nbS (rS 1 _ rfl) lv100 (by decide) (by have hC14 := len_withA s.now.warmA T.frm; have hC15 := len_withA (withA s.now.warmA T.frm) s.env.coinbase; have hC16 := len_withA (withA (withA s.now.warmA T.frm) s.env.coinbase) tgt; exact Nat.lt_of_le_of_lt hC16 (by omega)))) (fun v102 w102 h102 => ?_)
                                                                  obtain ⟨rfl, z102, H102, g102, lv102, kx102⟩ := h102
                                                                  have hlew102 := g102.le
                                                                  replace nb2 := g102.nb nb2 k2.lt
                                                                  replace nb12 := g102.nb nb12 k12.lt
                                                                  replace nb22 := g102.nb nb22 k22.lt
                                                                  replace nbS := g102.nb nbS kS.lt
                                                                  replace pa10 := pa10.mono hlew102
                                                                  replace hnn32 := hnn32.mono hlew102
                                                                  replace hbb32 := hbb32.mono hlew102
                                                                  replace hcd32 := hcd32.mono hlew102
                                                                  replace hss32 := hss32.mono hlew102
                                                                  replace n39 := n39.mono hlew102
                                                                  replace n43 := n43.mono hlew102
                                                                  replace n44 := n44.mono hlew102
                                                                  replace hsP := hsP.mono hlew102
                                                                  replace n47 := n47.mono hlew102
                                                                  replace lvz81 := lvz81.mono hlew102
                                                                  replace n84 := n84.mono hlew102
                                                                  replace n85 := n85.mono hlew102
                                                                  replace lv86 := lv86.mono hlew102
                                                                  replace n89 := n89.mono hlew102
                                                                  replace n90 := n90.mono hlew102
                                                                  replace lv91 := lv91.mono hlew102
                                                                  replace lv94 := lv94.mono hlew102
                                                                  replace lv97 := lv97.mono hlew102
                                                                  replace lv100 := lv100.mono hlew102
                                                                  replace hL0 := hL0.trans hlew102
                                                                  replace k2 := k2.ch g102.ch (by omega)
                                                                  replace k12 := k12.ch g102.ch (by omega)
                                                                  replace k22 := k22.ch g102.ch (by omega)
                                                                  replace kS := kx102
                                                                  replace U := U.cc g102.ch (by intro b hb; first | omega | exact .inl hb | exact .inr (hb ▸ U))
                                                                  replace G := G.trans g102 (by intro b hb; first | omega | exact .inl hb | (simp at hb ⊢; omega))
                                                                  replace hF := g102.fz
                                                                  obtain ⟨xa102, xc102, rfl, hxl102, hxc102⟩ := lv102.val
                                                                  replace eC := kS.eset eC (by omega)
                                                                  replace rS : RowIn _ _ [_, _, .slice sa s.now.warmS.length sc, vr, .slice la s.now.logs.length lc, .slice ta s.now.temps.length tc, .slice ma s.now.made.length mc, .slice ga s.now.gone.length gc, .slice sta (startL s.now.accts).length stc, .slice none 0 0, .slice ra s.ret.length rc, .int .u8 (s.phase : Nat), .int .u8 (s.status : Nat), .int .u8 ((s.applied + 1 : Nat) : Int), .slice sa40 sn40 sc40, .slice sa45 sn45 sc45, vleft, .slice sa48 sn48 sc48, vtot] := kS.rset rS 1 rfl
                                                                  replace rOr := kS.rseto rOr (by first | (left; omega) | (right; simp only [List.length_cons, List.length_nil, length_bL, length_be]; omega))
                                                                  replace rMd := kS.rseto rMd (by first | (left; omega) | (right; simp only [List.length_cons, List.length_nil, length_bL, length_be]; omega))
                                                                  replace rE1 := kS.rseto rE1 (by first | (left; omega) | (right; simp only [List.length_cons, List.length_nil, length_bL, length_be]; omega))
                                                                  replace rE2 := kS.rseto rE2 (by first | (left; omega) | (right; simp only [List.length_cons, List.length_nil, length_bL, length_be]; omega))
                                                                  replace rE3 := kS.rseto rE3 (by first | (left; omega) | (right; simp only [List.length_cons, List.length_nil, length_bL, length_be]; omega))
                                                                  replace rE4 := kS.rseto rE4 (by first | (left; omega) | (right; simp only [List.length_cons, List.length_nil, length_bL, length_be]; omega))
                                                                  replace rE5 := kS.rseto rE5 (by first | (left; omega) | (right; simp only [List.length_cons, List.length_nil, length_bL, length_be]; omega))
                                                                  replace rE6 := kS.rseto rE6 (by first | (left; omega) | (right; simp only [List.length_cons, List.length_nil, length_bL, length_be]; omega))
                                                                  refine l_nil ?_
                                                                  refine hK101 _ _ ?_
                                                                  refine fg3 3 5 8 (gS rfl (gS rfl (gS rfl (gS rfl (gS rfl (gS rfl (gS rfl g0))))))) (gS rfl (gS rfl (gS rfl (gS rfl (gS rfl (gS rfl g0)))))) (gS rfl (gS rfl (gS rfl (gS rfl (gS rfl g0))))) (fun g => ?_)
                                                                  refine c_seq (fun K103 hK103 => ?_)
                                                                  exact (by
                                                                    refine c_region ?_
                                                                    refine l_step (y_moveV (et (gS rfl g0) rfl)) ?_
                                                                    refine l_step (y_nil (et g0 rfl)) ?_
                                                                    refine l_step (y_fld fld_102_0 (et g0 rfl)) ?_
                                                                    refine l_step (y_bld (bC rfl bN) bld25_5) ?_
                                                                    refine l_eff (e_callV cal_51 (aC (et (gS rfl g0) rfl) (aC (et g0 rfl) aN)) (yp_warm _ _ _ _ _ _ _ _ _ hF kS nbS (rS 1 _ rfl) lv102 (by decide) (by have hC14 := len_withA s.now.warmA T.frm; have hC15 := len_withA (withA s.now.warmA T.frm) s.env.coinbase; have hC16 := len_withA (withA (withA s.now.warmA T.frm) s.env.coinbase) tgt; have hC17 := len_withA (withA (withA (withA s.now.warmA T.frm) s.env.coinbase) tgt) 4; exact Nat.lt_of_le_of_lt hC17 (by omega)))) (fun v104 w104 h104 => ?_)
                                                                    obtain ⟨rfl, z104, H104, g104, lv104, kx104⟩ := h104
                                                                    have hlew104 := g104.le
                                                                    replace nb2 := g104.nb nb2 k2.lt
                                                                    replace nb12 := g104.nb nb12 k12.lt
                                                                    replace nb22 := g104.nb nb22 k22.lt
                                                                    replace nbS := g104.nb nbS kS.lt
                                                                    replace pa10 := pa10.mono hlew104
                                                                    replace hnn32 := hnn32.mono hlew104
                                                                    replace hbb32 := hbb32.mono hlew104
                                                                    replace hcd32 := hcd32.mono hlew104
                                                                    replace hss32 := hss32.mono hlew104
                                                                    replace n39 := n39.mono hlew104
                                                                    replace n43 := n43.mono hlew104
                                                                    replace n44 := n44.mono hlew104
                                                                    replace hsP := hsP.mono hlew104
                                                                    replace n47 := n47.mono hlew104
                                                                    replace lvz81 := lvz81.mono hlew104
                                                                    replace n84 := n84.mono hlew104
                                                                    replace n85 := n85.mono hlew104
                                                                    replace lv86 := lv86.mono hlew104
                                                                    replace n89 := n89.mono hlew104
                                                                    replace n90 := n90.mono hlew104
                                                                    replace lv91 := lv91.mono hlew104
                                                                    replace lv94 := lv94.mono hlew104
                                                                    replace lv97 := lv97.mono hlew104
                                                                    replace lv100 := lv100.mono hlew104
                                                                    replace lv102 := lv102.mono hlew104
                                                                    replace hL0 := hL0.trans hlew104
                                                                    replace k2 := k2.ch g104.ch (by omega)
                                                                    replace k12 := k12.ch g104.ch (by omega)
                                                                    replace k22 := k22.ch g104.ch (by omega)
                                                                    replace kS := kx104
                                                                    replace U := U.cc g104.ch (by intro b hb; first | omega | exact .inl hb | exact .inr (hb ▸ U))
                                                                    replace G := G.trans g104 (by intro b hb; first | omega | exact .inl hb | (simp at hb ⊢; omega))
                                                                    replace hF := g104.fz
                                                                    obtain ⟨xa104, xc104, rfl, hxl104, hxc104⟩ := lv104.val
                                                                    replace eC := kS.eset eC (by omega)
                                                                    replace rS : RowIn _ _ [_, _, .slice sa s.now.warmS.length sc, vr, .slice la s.now.logs.length lc, .slice ta s.now.temps.length tc, .slice ma s.now.made.length mc, .slice ga s.now.gone.length gc, .slice sta (startL s.now.accts).length stc, .slice none 0 0, .slice ra s.ret.length rc, .int .u8 (s.phase : Nat), .int .u8 (s.status : Nat), .int .u8 ((s.applied + 1 : Nat) : Int), .slice sa40 sn40 sc40, .slice sa45 sn45 sc45, vleft, .slice sa48 sn48 sc48, vtot] := kS.rset rS 1 rfl
                                                                    replace rOr := kS.rseto rOr (by first | (left; omega) | (right; simp only [List.length_cons, List.length_nil, length_bL, length_be]; omega))
                                                                    replace rMd := kS.rseto rMd (by first | (left; omega) | (right; simp only [List.length_cons, List.length_nil, length_bL, length_be]; omega))
                                                                    replace rE1 := kS.rseto rE1 (by first | (left; omega) | (right; simp only [List.length_cons, List.length_nil, length_bL, length_be]; omega))
                                                                    replace rE2 := kS.rseto rE2 (by first | (left; omega) | (right; simp only [List.length_cons, List.length_nil, length_bL, length_be]; omega))
                                                                    replace rE3 := kS.rseto rE3 (by first | (left; omega) | (right; simp only [List.length_cons, List.length_nil, length_bL, length_be]; omega))
                                                                    replace rE4 := kS.rseto rE4 (by first | (left; omega) | (right; simp only [List.length_cons, List.length_nil, length_bL, length_be]; omega))
                                                                    replace rE5 := kS.rseto rE5 (by first | (left; omega) | (right; simp only [List.length_cons, List.length_nil, length_bL, length_be]; omega))
                                                                    replace rE6 := kS.rseto rE6 (by first | (left; omega) | (right; simp only [List.length_cons, List.length_nil, length_bL, length_be]; omega))
                                                                    refine l_nil ?_
                                                                    refine hK103 _ _ ?_
                                                                    refine fg3 3 5 8 (gS rfl (gS rfl (gS rfl (gS rfl (gS rfl (gS rfl (gS rfl g0))))))) (gS rfl (gS rfl (gS rfl (gS rfl (gS rfl (gS rfl g0)))))) (gS rfl (gS rfl (gS rfl (gS rfl (gS rfl g0))))) (fun g => ?_)
                                                                    refine c_seq (fun K105 hK105 => ?_)
                                                                    refine c_seq (fun K106 hK106 => ?_)
                                                                    exact (by
                                                                      refine c_region ?_
                                                                      refine l_step (y_fld fld_41_11 (et (gS rfl (gS rfl g0)) rfl)) ?_
                                                                      refine l_step (y_load1 one_39 (et g0 rfl) (at1 (k2.cell (rT9 0 _ rfl)))) ?_
                                                                      refine l_step (y_len Hvaa.underlying39 (et g0 rfl)) ?_
                                                                      refine l_step y_moveC ?_
                                                                      refine l_nil ?_
                                                                      refine hK106 _ _ ?_
                                                                      refine fg6 3 5 8 184 185 186 (gS rfl (gS rfl (gS rfl (gS rfl (gS rfl (gS rfl g0)))))) (gS rfl (gS rfl (gS rfl (gS rfl (gS rfl g0))))) (gS rfl (gS rfl (gS rfl (gS rfl g0)))) (gS rfl (gS rfl g0)) (gS rfl g0) g0 (fun g => ?_)
                                                                      refine c_block (fun Q107 hQ107 => ?_)
                                                                      refine fg6 3 5 8 184 185 186 (gS rfl (gS rfl (gS rfl (gS rfl (gS rfl g0))))) (gS rfl (gS rfl (gS rfl (gS rfl g0)))) (gS rfl (gS rfl (gS rfl g0))) (gS rfl (gS rfl g0)) (gS rfl g0) g0 (fun g => ?_)
                                                                      obtain ⟨csC, kS, rS, rOr, rMd, rE1, rE2, rE3, rE4, rE5, rE6, eC, hszC⟩ := pack9 kS rS rOr rMd rE1 rE2 rE3 rE4 rE5 rE6 eC (by simp only [size_spl, Array.size_setIfInBounds]; exact hszB)
                                                                      have hc1 := rS 1 _ rfl
                                                                      have hc2 := rS 2 _ rfl
                                                                      have hW5e : (bW3 s T).warmA = (withA (withA (withA (withA (withA s.now.warmA T.frm) s.env.coinbase) tgt) 4) 5) := by
                                                                        show withA (withA (withA (withA (withA s.now.warmA T.frm) s.env.coinbase) (bTgt s T)) 4) 5 = _
                                                                        rw [hTg]
                                                                      have hW5 := lv104
                                                                      rw [← hW5e] at hW5
                                                                      have hW5l : (bW3 s T).warmA.length ≤ s.now.warmA.length + 5 + 0 := by
                                                                        show (withA (withA (withA (withA (withA s.now.warmA T.frm) s.env.coinbase) (bTgt s T)) 4) 5).length ≤ _
                                                                        rw [hTg]
                                                                        have hC14 := len_withA s.now.warmA T.frm
                                                                        have hC15 := len_withA (withA s.now.warmA T.frm) s.env.coinbase
                                                                        have hC16 := len_withA (withA (withA s.now.warmA T.frm) s.env.coinbase) tgt
                                                                        have hC17 := len_withA (withA (withA (withA s.now.warmA T.frm) s.env.coinbase) tgt) 4
                                                                        have hC18 := len_withA (withA (withA (withA (withA s.now.warmA T.frm) s.env.coinbase) tgt) 4) 5
                                                                        omega
                                                                      replace kS : Blk w104 bs ((csC.setIfInBounds (0 + 1) (.slice xa104 (bW3 s T).warmA.length xc104)).setIfInBounds (0 + 2) (.slice sa s.now.warmS.length sc)) := by
                                                                        rw [hW5e, set_self hc1, set_self hc2]
                                                                        exact kS
                                                                      refine c_loop (fun k_ s_ W108 => ∃ (g : Nat → Value) (Hk108 : Store) (va vs : Value) (i : Nat), s_ = (upd (upd (upd (upd (upd (upd g 3 (.pointer (some ⟨b2, 0, none⟩))) 5 (.pointer (some ⟨bs, 0, none⟩))) 8 (.pointer (some ⟨b22, 0, none⟩))) 184 (.slice taa T.access.length tac)) 185 (.int .i64 (T.access.length : Nat))) 186 (.int .i64 (i : Nat))) ∧ T.access.length - i = k_ ∧ (i ≤ T.access.length) ∧ (LV P_addr 20 Hk108 va (wList (bW3 s T) (T.access.take i)).warmA) ∧ (LV P_mark 21 Hk108 vs (wList (bW3 s T) (T.access.take i)).warmS) ∧ ((wList (bW3 s T) (T.access.take i)).warmA.length ≤ s.now.warmA.length + 5 + i) ∧ ((wList (bW3 s T) (T.access.take i)).warmS.length ≤ s.now.warmS.length + keysN (T.access.take i)) ∧ Blk W108 bs ((csC.setIfInBounds (0 + 1) va).setIfInBounds (0 + 2) vs) ∧ Go (fun k => k = bs) w104 H104 W108 Hk108) (T.access.length - (0)) ?_ ?_
                                                                      · exact ⟨g, _, (.slice xa104 (bW3 s T).warmA.length xc104), (.slice sa s.now.warmS.length sc), 0, rfl, rfl, Nat.zero_le _, by rw [List.take_zero]; exact hW5, hWS.mono hL0, by rw [List.take_zero]; exact hW5l, Nat.le_add_right _ _, kS, Go.refl hF⟩
                                                                      · skip
                                                                        intro k_ s_ W108 hI K108 hK108
                                                                        obtain ⟨g, Hk108, va, vs, i, rfl, rfl, hi9, hA1, hS1, hlA, hlS, nkS, V108⟩ := hI
                                                                        have hle108 := V108.le
                                                                        replace nb2 := V108.nb nb2 k2.lt
                                                                        replace nb12 := V108.nb nb12 k12.lt
                                                                        replace nb22 := V108.nb nb22 k22.lt
                                                                        replace nbS := V108.nb nbS kS.lt
                                                                        replace pa10 := pa10.mono hle108
                                                                        replace hnn32 := hnn32.mono hle108
                                                                        replace hbb32 := hbb32.mono hle108
                                                                        replace hcd32 := hcd32.mono hle108
                                                                        replace hss32 := hss32.mono hle108
                                                                        replace n39 := n39.mono hle108
                                                                        replace n43 := n43.mono hle108
                                                                        replace n44 := n44.mono hle108
                                                                        replace hsP := hsP.mono hle108
                                                                        replace n47 := n47.mono hle108
                                                                        replace lvz81 := lvz81.mono hle108
                                                                        replace n84 := n84.mono hle108
                                                                        replace n85 := n85.mono hle108
                                                                        replace lv86 := lv86.mono hle108
                                                                        replace n89 := n89.mono hle108
                                                                        replace n90 := n90.mono hle108
                                                                        replace lv91 := lv91.mono hle108
                                                                        replace lv94 := lv94.mono hle108
                                                                        replace lv97 := lv97.mono hle108
                                                                        replace lv100 := lv100.mono hle108
                                                                        replace lv102 := lv102.mono hle108
                                                                        replace lv104 := lv104.mono hle108
                                                                        replace hL0 := hL0.trans hle108
                                                                        replace G := G.trans V108 (by intro b hb; first | exact hb.elim | omega | (simp at hb ⊢; omega))
                                                                        replace hF := V108.fz
                                                                        replace k2 := k2.ch V108.ch (by omega)
                                                                        replace k12 := k12.ch V108.ch (by omega)
                                                                        replace k22 := k22.ch V108.ch (by omega)
                                                                        replace kS := nkS
                                                                        replace U := U.cc V108.ch (by intro b hb; first | exact hb.elim | omega | (simp at hb ⊢; omega))
                                                                        obtain ⟨wa9, wc9, rfl, hwl9, hwc9⟩ := hA1.val
                                                                        obtain ⟨ws9, wd9, rfl, hsl8, hsc8⟩ := hS1.val
                                                                        have hkl9 := keys_le T.access i
                                                                        refine c_seq (fun K109 hK109 => ?_)
                                                                        exact (by
                                                                          refine c_region ?_
                                                                          refine l_step (y_lss (et g0 rfl) (et (gS rfl g0) rfl)) ?_
                                                                          refine l_nil ?_
                                                                          refine hK109 _ _ ?_
                                                                          refine c_seq (fun K110 hK110 => ?_)
                                                                          refine c_cond (et g0 rfl) (fun cB5 => ?_) (fun cB5 => ?_)
                                                                          · skip
                                                                            
                                                                            have hil : i < T.access.length := by have := of_decide_eq_true cB5; omega
                                                                            have hkt9 := keys_take hil
                                                                            have hkl8 := keys_le T.access (i + 1)
                                                                            refine c_skip ?_
                                                                            refine hK110 _ _ ?_
                                                                            refine fg6 3 5 8 184 185 186 (gS rfl (gS rfl (gS rfl (gS rfl (gS rfl (gS rfl g0)))))) (gS rfl (gS rfl (gS rfl (gS rfl (gS rfl g0))))) (gS rfl (gS rfl (gS rfl (gS rfl g0)))) (gS rfl (gS rfl (gS rfl g0))) (gS rfl (gS rfl g0)) (gS rfl g0) (fun g => ?_)
                                                                            refine c_seq (fun K112 hK112 => ?_)
                                                                            refine c_block (fun Q113 hQ113 => ?_)
                                                                            refine c_seq (fun K114 hK114 => ?_)
                                                                            exact (by
                                                                              refine c_region ?_
                                                                              obtain ⟨bq3, oq3, r3, ha3, hrow3, hrl3, vk3, hr3, hal3, hvk3⟩ := hTa.row (hF.le9 hL0) (i := i) hil
                                                                              rw [hr3] at hrow3 hrl3
                                                                              obtain ⟨ka3, kc3, rfl, hkl3, hkc3⟩ := hvk3.val
                                                                              refine l_step (y_idxSa ha3 Hvaa.underlying39 sz_143 (et (gS rfl (gS rfl g0)) rfl) (et g0 rfl) ?_) ?_
                                                                              omega
                                                                              refine l_step (y_loadR agg_143 sz_143 (et g0 rfl) len21 (at1R hrow3)) ?_
                                                                              refine l_eff (e_alloc zr_143) (fun v115 w115 h115 => ?_)
                                                                              obtain ⟨b115, rfl, n115⟩ := h115
                                                                              have d2_115 : b2 < b115 := Nat.lt_of_lt_of_le k2.lt n115.fresh
                                                                              have d12_115 : b12 < b115 := Nat.lt_of_lt_of_le k12.lt n115.fresh
                                                                              have d22_115 : b22 < b115 := Nat.lt_of_lt_of_le k22.lt n115.fresh
                                                                              have f115 : w.heap.size ≤ b115 := Nat.le_trans U.size n115.fresh
                                                                              have nb115 := hF.nb n115.fresh
                                                                              have fV108_115 := Nat.le_trans V108.ch.size n115.fresh
                                                                              replace G := G.tr (Go.ofUp hF n115.up)
                                                                              replace V108 := V108.tr (Go.ofUp hF n115.up)
                                                                              replace hF := hF.up n115.up
                                                                              replace k2 := k2.up n115.up
                                                                              replace k12 := k12.up n115.up
                                                                              replace k22 := k22.up n115.up
                                                                              replace kS := kS.up n115.up
                                                                              replace U := U.tr n115.up
                                                                              have k115 := n115.blk
                                                                              refine l_effN (e_store sz_143 (et g0 rfl) (cellsV (et (gS rfl g0) rfl) rfl) len21 (by exact one_app (one_sgl rfl)) k115 (by exact Nat.le_of_ble_eq_true rfl)) (fun v116 w116 h116 => ?_)
                                                                              obtain ⟨rfl, x116⟩ := h116
                                                                              replace k2 := k2.ch x116.ch (by omega)
                                                                              replace k12 := k12.ch x116.ch (by omega)
                                                                              replace k22 := k22.ch x116.ch (by omega)
                                                                              replace kS := kS.ch x116.ch (by first | omega | (first | omega | exact hOo.ne (by omega)))
                                                                              replace k115 := x116.blk.full (by rw [len21]; rfl)
                                                                              replace G := G.wr x116 (by first | exact .inr f115 | omega | (simp; omega)) nb115
                                                                              replace V108 := V108.wr x116 (by first | exact .inr f115 | omega | (simp; omega)) nb115
                                                                              replace hF := G.fz
                                                                              replace U := U.st x116 (.inr f115)
                                                                              refine l_nil ?_
                                                                              refine hK114 _ _ ?_
                                                                              refine fg7 3 5 8 184 185 186 14 (gS rfl (gS rfl (gS rfl (gS rfl (gS rfl (gS rfl (gS rfl (gS rfl g0)))))))) (gS rfl (gS rfl (gS rfl (gS rfl (gS rfl (gS rfl (gS rfl g0))))))) (gS rfl (gS rfl (gS rfl (gS rfl (gS rfl (gS rfl g0)))))) (gS rfl (gS rfl (gS rfl (gS rfl (gS rfl g0))))) (gS rfl (gS rfl (gS rfl (gS rfl g0)))) (gS rfl (gS rfl (gS rfl g0))) g0 (fun g => ?_)
                                                                              refine c_seq (fun K117 hK117 => ?_)
                                                                              exact (by
                                                                                refine c_draw Up 5 [(0, true), (1, true), (2, true), (3, true), (4, true), (5, false)] (by kernel_rfl) (fun w118 hu => ⟨Up.refl _, ?_⟩)
                                                                                replace G := G.tr (Go.ofUp hF hu)
                                                                                replace V108 := V108.tr (Go.ofUp hF hu)
                                                                                replace hF := hF.up hu
                                                                                replace k2 := k2.up hu
                                                                                replace k12 := k12.up hu
                                                                                replace k22 := k22.up hu
                                                                                replace k115 := k115.up hu
                                                                                replace kS := kS.up hu
                                                                                replace U := U.tr hu
                                                                                have SU := Up.refl w118
                                                                                refine p_step (by exact rfl) (y_moveV (et (gS rfl (gS rfl (gS rfl (gS rfl (gS rfl g0))))) rfl)) ?_
                                                                                refine p_step (by exact rfl) (y_nil (et g0 rfl)) ?_
                                                                                refine p_step (by exact rfl) (y_fld fld_102_0 (et g0 rfl)) ?_
                                                                                refine p_step (by exact rfl) (y_fld fld_143_0 (et (gS rfl (gS rfl (gS rfl g0))) rfl)) ?_
                                                                                refine p_step (by exact rfl) (y_loadR agg_25 sz_25 (et g0 rfl) (by rw [length_bL, length_be]) (atSR (k115.row (RowIn.app _ _)))) ?_
                                                                                refine p_eff (by exact rfl) (e_callV cal_51 (aC (et (gS rfl (gS rfl g0)) rfl) (aC (et g0 rfl) aN)) (yp_warm _ 0 _ _ _ _ _ _ _ hF kS nbS (g_1 hc1) hA1 hal3 (by omega))) (fun v119 w119 h119 => ?_)
                                                                                obtain ⟨rfl, z119, H119, g119, lv119, kx119⟩ := h119
                                                                                have hlew119 := g119.le
                                                                                replace nb2 := g119.nb nb2 k2.lt
                                                                                replace nb12 := g119.nb nb12 k12.lt
                                                                                replace nb22 := g119.nb nb22 k22.lt
                                                                                replace nb115 := g119.nb nb115 k115.lt
                                                                                replace nbS := g119.nb nbS kS.lt
                                                                                replace pa10 := pa10.mono hlew119
                                                                                replace hnn32 := hnn32.mono hlew119
                                                                                replace hbb32 := hbb32.mono hlew119
                                                                                replace hcd32 := hcd32.mono hlew119
                                                                                replace hss32 := hss32.mono hlew119
                                                                                replace n39 := n39.mono hlew119
                                                                                replace n43 := n43.mono hlew119
                                                                                replace n44 := n44.mono hlew119
                                                                                replace hsP := hsP.mono hlew119
                                                                                replace n47 := n47.mono hlew119
                                                                                replace lvz81 := lvz81.mono hlew119
                                                                                replace n84 := n84.mono hlew119
                                                                                replace n85 := n85.mono hlew119
                                                                                replace lv86 := lv86.mono hlew119
                                                                                replace n89 := n89.mono hlew119
                                                                                replace n90 := n90.mono hlew119
                                                                                replace lv91 := lv91.mono hlew119
                                                                                replace lv94 := lv94.mono hlew119
                                                                                replace lv97 := lv97.mono hlew119
                                                                                replace lv100 := lv100.mono hlew119
                                                                                replace lv102 := lv102.mono hlew119
                                                                                replace lv104 := lv104.mono hlew119
                                                                                replace hA1 := hA1.mono hlew119
                                                                                replace hS1 := hS1.mono hlew119
                                                                                replace hL0 := hL0.trans hlew119
                                                                                replace k2 := k2.ch g119.ch (by omega)
                                                                                replace k12 := k12.ch g119.ch (by omega)
                                                                                replace k22 := k22.ch g119.ch (by omega)
                                                                                replace k115 := k115.ch g119.ch (by omega)
                                                                                replace kS := (by rw [s_121] at kx119; exact kx119)
                                                                                replace U := U.cc g119.ch (by intro b hb; first | omega | exact .inl hb | exact .inr (hb ▸ U))
                                                                                replace G := G.trans g119 (by intro b hb; first | omega | exact .inl hb | (simp at hb ⊢; omega))
                                                                                replace V108 := V108.trans g119 (by intro b hb; first | omega | exact .inl hb | (simp at hb ⊢; omega))
                                                                                replace hF := g119.fz
                                                                                obtain ⟨xa119, xc119, rfl, hxl119, hxc119⟩ := lv119.val
                                                                                refine ⟨.inl rfl, ?_⟩
                                                                                refine p_nil ?_
                                                                                refine hK117 _ _ ?_
                                                                                refine fg7 3 5 8 184 185 186 14 (gS rfl (gS rfl (gS rfl (gS rfl (gS rfl (gS rfl (gS rfl (gS rfl (gS rfl (gS rfl (gS rfl (gS rfl g0)))))))))))) (gS rfl (gS rfl (gS rfl (gS rfl (gS rfl (gS rfl (gS rfl (gS rfl (gS rfl (gS rfl (gS rfl g0))))))))))) (gS rfl (gS rfl (gS rfl (gS rfl (gS rfl (gS rfl (gS rfl (gS rfl (gS rfl (gS rfl g0)))))))))) (gS rfl (gS rfl (gS rfl (gS rfl (gS rfl (gS rfl (gS rfl (gS rfl (gS rfl g0))))))))) (gS rfl (gS rfl (gS rfl (gS rfl (gS rfl (gS rfl (gS rfl (gS rfl g0)))))))) (gS rfl (gS rfl (gS rfl (gS rfl (gS rfl (gS rfl (gS rfl g0))))))) (gS rfl (gS rfl (gS rfl (gS rfl (gS rfl (gS rfl g0)))))) (fun g => ?_)
                                                                                refine c_seq (fun K120 hK120 => ?_)
                                                                                exact (by
                                                                                  refine c_region ?_
                                                                                  refine l_step (y_fld fld_143_1 (et g0 rfl)) ?_
                                                                                  refine l_step (y_load1 one_29 (et g0 rfl) (at1 (k115.cell ((app20 (i := 0) rfl).trans rfl)))) ?_
                                                                                  refine l_step (y_len Hvaa.underlying29 (et g0 rfl)) ?_
                                                                                  refine l_step y_moveC ?_
                                                                                  refine l_nil ?_
                                                                                  refine hK120 _ _ ?_
                                                                                  refine fg10 3 5 8 184 185 186 14 197 198 199 (gS rfl (gS rfl (gS rfl (gS rfl (gS rfl (gS rfl (gS rfl (gS rfl (gS rfl (gS rfl g0)))))))))) (gS rfl (gS rfl (gS rfl (gS rfl (gS rfl (gS rfl (gS rfl (gS rfl (gS rfl g0))))))))) (gS rfl (gS rfl (gS rfl (gS rfl (gS rfl (gS rfl (gS rfl (gS rfl g0)))))))) (gS rfl (gS rfl (gS rfl (gS rfl (gS rfl (gS rfl (gS rfl g0))))))) (gS rfl (gS rfl (gS rfl (gS rfl (gS rfl (gS rfl g0)))))) (gS rfl (gS rfl (gS rfl (gS rfl (gS rfl g0))))) (gS rfl (gS rfl (gS rfl (gS rfl g0)))) (gS rfl (gS rfl g0)) (gS rfl g0) g0 (fun g => ?_)
                                                                                  refine c_block (fun Q121 hQ121 => ?_)
                                                                                  refine fg10 3 5 8 14 184 185 186 197 198 199 (gS rfl (gS rfl (gS rfl (gS rfl (gS rfl (gS rfl (gS rfl (gS rfl (gS rfl g0))))))))) (gS rfl (gS rfl (gS rfl (gS rfl (gS rfl (gS rfl (gS rfl (gS rfl g0)))))))) (gS rfl (gS rfl (gS rfl (gS rfl (gS rfl (gS rfl (gS rfl g0))))))) (gS rfl (gS rfl (gS rfl g0))) (gS rfl (gS rfl (gS rfl (gS rfl (gS rfl (gS rfl g0)))))) (gS rfl (gS rfl (gS rfl (gS rfl (gS rfl g0))))) (gS rfl (gS rfl (gS rfl (gS rfl g0)))) (gS rfl (gS rfl g0)) (gS rfl g0) g0 (fun g => ?_)
                                                                                  refine c_loop (fun k_ s_ W122 => ∃ (g : Nat → Value) (Hk122 : Store) (vs2 : Value) (j : Nat), s_ = (upd (upd (upd (upd (upd (upd (upd (upd (upd (upd g 3 (.pointer (some ⟨b2, 0, none⟩))) 5 (.pointer (some ⟨bs, 0, none⟩))) 8 (.pointer (some ⟨b22, 0, none⟩))) 14 (.pointer (some ⟨b115, 0, none⟩))) 184 (.slice taa T.access.length tac)) 185 (.int .i64 (T.access.length : Nat))) 186 (.int .i64 (i : Nat))) 197 (.slice ka3 T.access[i].2.length kc3)) 198 (.int .i64 (T.access[i].2.length : Nat))) 199 (.int .i64 (j : Nat))) ∧ T.access[i].2.length - j = k_ ∧ (j ≤ T.access[i].2.length) ∧ (LV P_mark 21 Hk122 vs2 (wKeys (wrmY (wList (bW3 s T) (T.access.take i)) T.access[i].1) T.access[i].1 (T.access[i].2.take j)).warmS) ∧ ((wKeys (wrmY (wList (bW3 s T) (T.access.take i)) T.access[i].1) T.access[i].1 (T.access[i].2.take j)).warmS.length ≤ s.now.warmS.length + keysN (T.access.take i) + j) ∧ Blk W122 bs ((csC.setIfInBounds (0 + 1) (.slice xa119 (withA (wList (bW3 s T) (T.access.take i)).warmA T.access[i].1).length xc119)).setIfInBounds (0 + 2) vs2) ∧ Go (fun k => k = bs) w119 H119 W122 Hk122) (T.access[i].2.length - (0)) ?_ ?_
                                                                                  · exact ⟨g, _, (.slice ws9 (wList (bW3 s T) (T.access.take i)).warmS.length wd9), 0, rfl, rfl, Nat.zero_le _, by rw [List.take_zero]; exact hS1, by rw [List.take_zero]; exact hlS, kS, Go.refl hF⟩
                                                                                  · skip
                                                                                    intro k_ s_ W122 hI K122 hK122
                                                                                    obtain ⟨g, Hk122, vs2, j, rfl, rfl, hj, hS2, hlS2, nkS, V122⟩ := hI
                                                                                    have hle122 := V122.le
                                                                                    replace nb2 := V122.nb nb2 k2.lt
                                                                                    replace nb12 := V122.nb nb12 k12.lt
                                                                                    replace nb22 := V122.nb nb22 k22.lt
                                                                                    replace nb115 := V122.nb nb115 k115.lt
                                                                                    replace nbS := V122.nb nbS kS.lt
                                                                                    replace pa10 := pa10.mono hle122
                                                                                    replace hnn32 := hnn32.mono hle122
                                                                                    replace hbb32 := hbb32.mono hle122
                                                                                    replace hcd32 := hcd32.mono hle122
                                                                                    replace hss32 := hss32.mono hle122
                                                                                    replace n39 := n39.mono hle122
                                                                                    replace n43 := n43.mono hle122
                                                                                    replace n44 := n44.mono hle122
                                                                                    replace hsP := hsP.mono hle122
                                                                                    replace n47 := n47.mono hle122
                                                                                    replace lvz81 := lvz81.mono hle122
                                                                                    replace n84 := n84.mono hle122
                                                                                    replace n85 := n85.mono hle122
                                                                                    replace lv86 := lv86.mono hle122
                                                                                    replace n89 := n89.mono hle122
                                                                                    replace n90 := n90.mono hle122
                                                                                    replace lv91 := lv91.mono hle122
                                                                                    replace lv94 := lv94.mono hle122
                                                                                    replace lv97 := lv97.mono hle122
                                                                                    replace lv100 := lv100.mono hle122
                                                                                    replace lv102 := lv102.mono hle122
                                                                                    replace lv104 := lv104.mono hle122
                                                                                    replace hA1 := hA1.mono hle122
                                                                                    replace hS1 := hS1.mono hle122
                                                                                    replace lv119 := lv119.mono hle122
                                                                                    replace hL0 := hL0.trans hle122
                                                                                    replace G := G.trans V122 (by intro b hb; first | exact hb.elim | omega | (simp at hb ⊢; omega))
                                                                                    replace V108 := V108.trans V122 (by intro b hb; first | exact hb.elim | omega | (simp at hb ⊢; omega))
                                                                                    replace hF := V122.fz
                                                                                    replace k2 := k2.ch V122.ch (by omega)
                                                                                    replace k12 := k12.ch V122.ch (by omega)
                                                                                    replace k22 := k22.ch V122.ch (by omega)
                                                                                    replace k115 := k115.ch V122.ch (by omega)
                                                                                    replace kS := nkS
                                                                                    replace U := U.cc V122.ch (by intro b hb; first | exact hb.elim | omega | (simp at hb ⊢; omega))
                                                                                    obtain ⟨wt9, wu9, rfl, hst8, hsu8⟩ := hS2.val
                                                                                    refine c_seq (fun K123 hK123 => ?_)
                                                                                    exact (by
                                                                                      refine c_region ?_
                                                                                      refine l_step (y_lss (et g0 rfl) (et (gS rfl g0) rfl)) ?_
                                                                                      refine l_nil ?_
                                                                                      refine hK123 _ _ ?_
                                                                                      refine c_seq (fun K124 hK124 => ?_)
                                                                                      refine c_cond (et g0 rfl) (fun cB6 => ?_) (fun cB6 => ?_)
                                                                                      · skip
                                                                                        
                                                                                        have hjl : j < T.access[i].2.length := by have := of_decide_eq_true cB6; omega
                                                                                        refine c_skip ?_
                                                                                        refine hK124 _ _ ?_
                                                                                        refine fg10 3 5 8 14 184 185 186 197 198 199 (gS rfl (gS rfl (gS rfl (gS rfl (gS rfl (gS rfl (gS rfl (gS rfl (gS rfl (gS rfl g0)))))))))) (gS rfl (gS rfl (gS rfl (gS rfl (gS rfl (gS rfl (gS rfl (gS rfl (gS rfl g0))))))))) (gS rfl (gS rfl (gS rfl (gS rfl (gS rfl (gS rfl (gS rfl (gS rfl g0)))))))) (gS rfl (gS rfl (gS rfl (gS rfl (gS rfl (gS rfl (gS rfl g0))))))) (gS rfl (gS rfl (gS rfl (gS rfl (gS rfl (gS rfl g0)))))) (gS rfl (gS rfl (gS rfl (gS rfl (gS rfl g0))))) (gS rfl (gS rfl (gS rfl (gS rfl g0)))) (gS rfl (gS rfl (gS rfl g0))) (gS rfl (gS rfl g0)) (gS rfl g0) (fun g => ?_)
                                                                                        refine c_seq (fun K126 hK126 => ?_)
                                                                                        refine c_block (fun Q127 hQ127 => ?_)
                                                                                        refine c_seq (fun K128 hK128 => ?_)
                                                                                        exact (by
                                                                                          refine c_region ?_
                                                                                          obtain ⟨bq4, oq4, r4, ha4, hrow4, hrl4, hr4, hkb4⟩ := hvk3.row (hF.le9 hL0) (i := j) hjl
                                                                                          rw [hr4] at hrow4 hrl4
                                                                                          refine l_step (y_idxSa ha4 Hvaa.underlying29 sz_28 (et (gS rfl (gS rfl g0)) rfl) (et g0 rfl) ?_) ?_
                                                                                          omega
                                                                                          refine l_step (y_loadR agg_28 sz_28 (et g0 rfl) (by rw [length_bL, length_be]) (at1R hrow4)) ?_
                                                                                          refine l_eff (e_alloc zr_28) (fun v129 w129 h129 => ?_)
                                                                                          obtain ⟨b129, rfl, n129⟩ := h129
                                                                                          have d2_129 : b2 < b129 := Nat.lt_of_lt_of_le k2.lt n129.fresh
                                                                                          have d12_129 : b12 < b129 := Nat.lt_of_lt_of_le k12.lt n129.fresh
                                                                                          have d22_129 : b22 < b129 := Nat.lt_of_lt_of_le k22.lt n129.fresh
                                                                                          have d115_129 : b115 < b129 := Nat.lt_of_lt_of_le k115.lt n129.fresh
                                                                                          have f129 : w.heap.size ≤ b129 := Nat.le_trans U.size n129.fresh
                                                                                          have nb129 := hF.nb n129.fresh
                                                                                          have fV108_129 := Nat.le_trans V108.ch.size n129.fresh
                                                                                          have fV122_129 := Nat.le_trans V122.ch.size n129.fresh
                                                                                          replace G := G.tr (Go.ofUp hF n129.up)
                                                                                          replace V108 := V108.tr (Go.ofUp hF n129.up)
                                                                                          replace V122 := V122.tr (Go.ofUp hF n129.up)
                                                                                          replace hF := hF.up n129.up
                                                                                          replace k2 := k2.up n129.up
                                                                                          replace k12 := k12.up n129.up
                                                                                          replace k22 := k22.up n129.up
                                                                                          replace k115 := k115.up n129.up
                                                                                          replace kS := kS.up n129.up
                                                                                          replace U := U.tr n129.up
                                                                                          have k129 := n129.blk
                                                                                          refine l_effN (e_store sz_28 (et g0 rfl) (cellsV (et (gS rfl g0) rfl) rfl) (by rw [length_bL, length_be]) (by exact one_bL _) k129 (by exact Nat.le_of_ble_eq_true rfl)) (fun v130 w130 h130 => ?_)
                                                                                          obtain ⟨rfl, x130⟩ := h130
                                                                                          replace k2 := k2.ch x130.ch (by omega)
                                                                                          replace k12 := k12.ch x130.ch (by omega)
                                                                                          replace k22 := k22.ch x130.ch (by omega)
                                                                                          replace k115 := k115.ch x130.ch (by omega)
                                                                                          replace kS := kS.ch x130.ch (by first | omega | (first | omega | exact hOo.ne (by omega)))
                                                                                          replace k129 := x130.blk.full (by rw [length_bL, length_be]; rfl)
                                                                                          replace G := G.wr x130 (by first | exact .inr f129 | omega | (simp; omega)) nb129
                                                                                          replace V108 := V108.wr x130 (by first | exact .inr f129 | omega | (simp; omega)) nb129
                                                                                          replace V122 := V122.wr x130 (by first | exact .inr f129 | omega | (simp; omega)) nb129
                                                                                          replace hF := G.fz
                                                                                          replace U := U.st x130 (.inr f129)
                                                                                          refine l_nil ?_
                                                                                          refine hK128 _ _ ?_
                                                                                          refine fg11 3 5 8 14 184 185 186 197 198 199 16 (gS rfl (gS rfl (gS rfl (gS rfl (gS rfl (gS rfl (gS rfl (gS rfl (gS rfl (gS rfl (gS rfl (gS rfl g0)))))))))))) (gS rfl (gS rfl (gS rfl (gS rfl (gS rfl (gS rfl (gS rfl (gS rfl (gS rfl (gS rfl (gS rfl g0))))))))))) (gS rfl (gS rfl (gS rfl (gS rfl (gS rfl (gS rfl (gS rfl (gS rfl (gS rfl (gS rfl g0)))))))))) (gS rfl (gS rfl (gS rfl (gS rfl (gS rfl (gS rfl (gS rfl (gS rfl (gS rfl g0))))))))) (gS rfl (gS rfl (gS rfl (gS rfl (gS rfl (gS rfl (gS rfl (gS rfl g0)))))))) (gS rfl (gS rfl (gS rfl (gS rfl (gS rfl (gS rfl (gS rfl g0))))))) (gS rfl (gS rfl (gS rfl (gS rfl (gS rfl (gS rfl g0)))))) (gS rfl (gS rfl (gS rfl (gS rfl (gS rfl g0))))) (gS rfl (gS rfl (gS rfl (gS rfl g0)))) (gS rfl (gS rfl (gS rfl g0))) g0 (fun g => ?_)
                                                                                          refine c_draw Up 7 [(0, true), (1, true), (2, true), (3, true), (4, true), (5, true), (6, false), (7, false)] (by kernel_rfl) (fun w131 hu => ⟨Up.refl _, ?_⟩)
                                                                                          replace G := G.tr (Go.ofUp hF hu)
                                                                                          replace V108 := V108.tr (Go.ofUp hF hu)
                                                                                          replace V122 := V122.tr (Go.ofUp hF hu)
                                                                                          replace hF := hF.up hu
                                                                                          replace k2 := k2.up hu
                                                                                          replace k12 := k12.up hu
                                                                                          replace k22 := k22.up hu
                                                                                          replace k115 := k115.up hu
                                                                                          replace k129 := k129.up hu
                                                                                          replace kS := kS.up hu
                                                                                          replace U := U.tr hu
                                                                                          have SU := Up.refl w131
                                                                                          exact (by
                                                                                            refine p_step (by exact rfl) (y_moveV (et (gS rfl (gS rfl (gS rfl (gS rfl (gS rfl (gS rfl (gS rfl (gS rfl (gS rfl g0))))))))) rfl)) ?_
                                                                                            refine p_step (by exact rfl) (y_nil (et g0 rfl)) ?_
                                                                                            refine p_step (by exact rfl) (y_fld fld_102_0 (et g0 rfl)) ?_
                                                                                            refine p_step (by exact rfl) (y_fld fld_143_0 (et (gS rfl (gS rfl (gS rfl (gS rfl (gS rfl (gS rfl (gS rfl (gS rfl (gS rfl (gS rfl g0)))))))))) rfl)) ?_
                                                                                            refine p_step (by exact rfl) (y_loadR agg_25 sz_25 (et g0 rfl) (by rw [length_bL, length_be]) (atSR (k115.row (RowIn.app _ _)))) ?_
                                                                                            refine p_step (by exact rfl) (y_slA000 Hvaa.underlying28 sz_5 (et (gS rfl (gS rfl (gS rfl (gS rfl (gS rfl g0))))) rfl) ) ?_
                                                                                            refine p_eff (by exact rfl) (e_callV cal_33 (aC (et g0 rfl) aN) (nat_fromRow hF (k129.row (RowIn.self (bL (be 32 T.access[i].2[j])))) k129.lt (bd_W hkb4) (by decide))) (fun v132 w132 h132 => ?_)
                                                                                            obtain ⟨H132, g132, n132⟩ := h132
                                                                                            have hlew132 := g132.le
                                                                                            replace nb2 := g132.nb nb2 k2.lt
                                                                                            replace nb12 := g132.nb nb12 k12.lt
                                                                                            replace nb22 := g132.nb nb22 k22.lt
                                                                                            replace nb115 := g132.nb nb115 k115.lt
                                                                                            replace nb129 := g132.nb nb129 k129.lt
                                                                                            replace nbS := g132.nb nbS kS.lt
                                                                                            replace pa10 := pa10.mono hlew132
                                                                                            replace hnn32 := hnn32.mono hlew132
                                                                                            replace hbb32 := hbb32.mono hlew132
                                                                                            replace hcd32 := hcd32.mono hlew132
                                                                                            replace hss32 := hss32.mono hlew132
                                                                                            replace n39 := n39.mono hlew132
                                                                                            replace n43 := n43.mono hlew132
                                                                                            replace n44 := n44.mono hlew132
                                                                                            replace hsP := hsP.mono hlew132
                                                                                            replace n47 := n47.mono hlew132
                                                                                            replace lvz81 := lvz81.mono hlew132
                                                                                            replace n84 := n84.mono hlew132
                                                                                            replace n85 := n85.mono hlew132
                                                                                            replace lv86 := lv86.mono hlew132
                                                                                            replace n89 := n89.mono hlew132
                                                                                            replace n90 := n90.mono hlew132
                                                                                            replace lv91 := lv91.mono hlew132
                                                                                            replace lv94 := lv94.mono hlew132
                                                                                            replace lv97 := lv97.mono hlew132
                                                                                            replace lv100 := lv100.mono hlew132
                                                                                            replace lv102 := lv102.mono hlew132
                                                                                            replace lv104 := lv104.mono hlew132
                                                                                            replace hA1 := hA1.mono hlew132
                                                                                            replace hS1 := hS1.mono hlew132
                                                                                            replace lv119 := lv119.mono hlew132
                                                                                            replace hS2 := hS2.mono hlew132
                                                                                            replace hL0 := hL0.trans hlew132
                                                                                            replace k2 := k2.up g132.up
                                                                                            replace k12 := k12.up g132.up
                                                                                            replace k22 := k22.up g132.up
                                                                                            replace k115 := k115.up g132.up
                                                                                            replace k129 := k129.up g132.up
                                                                                            replace kS := kS.up g132.up
                                                                                            replace U := U.tr g132.up
                                                                                            replace G := G.tr g132
                                                                                            replace V108 := V108.tr g132
                                                                                            replace V122 := V122.tr g132
                                                                                            replace hF := g132.fz
                                                                                            refine ⟨.inr (SU.tr g132.up), ?_⟩
                                                                                            replace SU := SU.tr g132.up
                                                                                            exact (by
                                                                                              refine p_eff (by exact rfl) (e_callV cal_52 (aC (et (gS rfl (gS rfl (gS rfl (gS rfl g0)))) rfl) (aC (et (gS rfl (gS rfl g0)) rfl) (aC (et g0 rfl) aN))) (yp_warmSlot _ 0 _ _ _ _ _ _ _ hF kS nbS (g_2 hc2) hS2 hal3 (by omega) n132 (bd_W hkb4))) (fun v133 w133 h133 => ?_)
                                                                                              obtain ⟨rfl, z133, H133, g133, lv133, kx133⟩ := h133
                                                                                              have hlew133 := g133.le
                                                                                              replace nb2 := g133.nb nb2 k2.lt
                                                                                              replace nb12 := g133.nb nb12 k12.lt
                                                                                              replace nb22 := g133.nb nb22 k22.lt
                                                                                              replace nb115 := g133.nb nb115 k115.lt
                                                                                              replace nb129 := g133.nb nb129 k129.lt
                                                                                              replace nbS := g133.nb nbS kS.lt
                                                                                              replace pa10 := pa10.mono hlew133
                                                                                              replace hnn32 := hnn32.mono hlew133
                                                                                              replace hbb32 := hbb32.mono hlew133
                                                                                              replace hcd32 := hcd32.mono hlew133
                                                                                              replace hss32 := hss32.mono hlew133
                                                                                              replace n39 := n39.mono hlew133
                                                                                              replace n43 := n43.mono hlew133
                                                                                              replace n44 := n44.mono hlew133
                                                                                              replace hsP := hsP.mono hlew133
                                                                                              replace n47 := n47.mono hlew133
                                                                                              replace lvz81 := lvz81.mono hlew133
                                                                                              replace n84 := n84.mono hlew133
                                                                                              replace n85 := n85.mono hlew133
                                                                                              replace lv86 := lv86.mono hlew133
                                                                                              replace n89 := n89.mono hlew133
                                                                                              replace n90 := n90.mono hlew133
                                                                                              replace lv91 := lv91.mono hlew133
                                                                                              replace lv94 := lv94.mono hlew133
                                                                                              replace lv97 := lv97.mono hlew133
                                                                                              replace lv100 := lv100.mono hlew133
                                                                                              replace lv102 := lv102.mono hlew133
                                                                                              replace lv104 := lv104.mono hlew133
                                                                                              replace hA1 := hA1.mono hlew133
                                                                                              replace hS1 := hS1.mono hlew133
                                                                                              replace lv119 := lv119.mono hlew133
                                                                                              replace hS2 := hS2.mono hlew133
                                                                                              replace n132 := n132.mono hlew133
                                                                                              replace hL0 := hL0.trans hlew133
                                                                                              replace k2 := k2.ch g133.ch (by omega)
                                                                                              replace k12 := k12.ch g133.ch (by omega)
                                                                                              replace k22 := k22.ch g133.ch (by omega)
                                                                                              replace k115 := k115.ch g133.ch (by omega)
                                                                                              replace k129 := k129.ch g133.ch (by omega)
                                                                                              replace kS := (by rw [set_set] at kx133; exact kx133)
                                                                                              replace U := U.cc g133.ch (by intro b hb; first | omega | exact .inl hb | exact .inr (hb ▸ U))
                                                                                              replace G := G.trans g133 (by intro b hb; first | omega | exact .inl hb | (simp at hb ⊢; omega))
                                                                                              replace V108 := V108.trans g133 (by intro b hb; first | omega | exact .inl hb | (simp at hb ⊢; omega))
                                                                                              replace V122 := V122.trans g133 (by intro b hb; first | omega | exact .inl hb | (simp at hb ⊢; omega))
                                                                                              replace hF := g133.fz
                                                                                              refine ⟨.inl rfl, ?_⟩
                                                                                              refine p_nil ?_
                                                                                              refine hQ127 _ _ _ (in_normal ?_)
                                                                                              refine hK126 _ _ ?_
                                                                                              refine fg10 3 5 8 14 184 185 186 197 198 199 (gS rfl (gS rfl (gS rfl (gS rfl (gS rfl (gS rfl (gS rfl (gS rfl (gS rfl (gS rfl (gS rfl (gS rfl (gS rfl (gS rfl (gS rfl (gS rfl (gS rfl (gS rfl g0)))))))))))))))))) (gS rfl (gS rfl (gS rfl (gS rfl (gS rfl (gS rfl (gS rfl (gS rfl (gS rfl (gS rfl (gS rfl (gS rfl (gS rfl (gS rfl (gS rfl (gS rfl (gS rfl g0))))))))))))))))) (gS rfl (gS rfl (gS rfl (gS rfl (gS rfl (gS rfl (gS rfl (gS rfl (gS rfl (gS rfl (gS rfl (gS rfl (gS rfl (gS rfl (gS rfl (gS rfl g0)))))))))))))))) (gS rfl (gS rfl (gS rfl (gS rfl (gS rfl (gS rfl (gS rfl (gS rfl (gS rfl (gS rfl (gS rfl (gS rfl (gS rfl (gS rfl (gS rfl g0))))))))))))))) (gS rfl (gS rfl (gS rfl (gS rfl (gS rfl (gS rfl (gS rfl (gS rfl (gS rfl (gS rfl (gS rfl (gS rfl (gS rfl (gS rfl g0)))))))))))))) (gS rfl (gS rfl (gS rfl (gS rfl (gS rfl (gS rfl (gS rfl (gS rfl (gS rfl (gS rfl (gS rfl (gS rfl (gS rfl g0))))))))))))) (gS rfl (gS rfl (gS rfl (gS rfl (gS rfl (gS rfl (gS rfl (gS rfl (gS rfl (gS rfl (gS rfl (gS rfl g0)))))))))))) (gS rfl (gS rfl (gS rfl (gS rfl (gS rfl (gS rfl (gS rfl (gS rfl (gS rfl (gS rfl (gS rfl g0))))))))))) (gS rfl (gS rfl (gS rfl (gS rfl (gS rfl (gS rfl (gS rfl (gS rfl (gS rfl (gS rfl g0)))))))))) (gS rfl (gS rfl (gS rfl (gS rfl (gS rfl (gS rfl (gS rfl (gS rfl (gS rfl g0))))))))) (fun g => ?_)
                                                                                              refine c_region ?_
                                                                                              exact (by
                                                                                                refine l_step (y_add (et g0 rfl) rfl (addIN (y := 1) ?_)) ?_
                                                                                                omega
                                                                                                refine l_step (y_moveV (et g0 rfl)) ?_
                                                                                                refine l_nil ?_
                                                                                                refine fK10 3 5 8 14 184 185 186 197 198 199 (gS rfl (gS rfl (gS rfl (gS rfl (gS rfl (gS rfl (gS rfl (gS rfl (gS rfl (gS rfl (gS rfl g0))))))))))) (gS rfl (gS rfl (gS rfl (gS rfl (gS rfl (gS rfl (gS rfl (gS rfl (gS rfl (gS rfl g0)))))))))) (gS rfl (gS rfl (gS rfl (gS rfl (gS rfl (gS rfl (gS rfl (gS rfl (gS rfl g0))))))))) (gS rfl (gS rfl (gS rfl (gS rfl (gS rfl (gS rfl (gS rfl (gS rfl g0)))))))) (gS rfl (gS rfl (gS rfl (gS rfl (gS rfl (gS rfl (gS rfl g0))))))) (gS rfl (gS rfl (gS rfl (gS rfl (gS rfl (gS rfl g0)))))) (gS rfl (gS rfl (gS rfl (gS rfl (gS rfl g0))))) (gS rfl (gS rfl (gS rfl (gS rfl g0)))) (gS rfl (gS rfl (gS rfl g0))) g0 (fun g => ?_)
                                                                                                exact hK122 (T.access[i].2.length - ((j + 1))) _ _ (by omega) ⟨g, _, _, (j + 1), rfl, rfl, by omega, by rw [wk_take hjl]; exact lv133, by rw [wk_take hjl]; have h9 := len_withM (wKeys (wrmY (wList (bW3 s T) (T.access.take i)) T.access[i].1) T.access[i].1 (T.access[i].2.take j)).warmS T.access[i].1 T.access[i].2[j]; omega, kS, V122⟩))))
                                                                                      · skip
                                                                                        
                                                                                        have hjl : j = T.access[i].2.length := by have := of_decide_eq_false cB6; omega
                                                                                        rw [hjl, List.take_length] at hS2 hlS2 kS
                                                                                        refine c_exit ?_
                                                                                        refine hQ121 _ _ _ (in_exit ?_)
                                                                                        refine hQ113 _ _ _ (in_normal ?_)
                                                                                        refine hK112 _ _ ?_
                                                                                        refine fg6 3 5 8 184 185 186 (gS rfl (gS rfl (gS rfl (gS rfl (gS rfl (gS rfl (gS rfl (gS rfl (gS rfl (gS rfl g0)))))))))) (gS rfl (gS rfl (gS rfl (gS rfl (gS rfl (gS rfl (gS rfl (gS rfl (gS rfl g0))))))))) (gS rfl (gS rfl (gS rfl (gS rfl (gS rfl (gS rfl (gS rfl (gS rfl g0)))))))) (gS rfl (gS rfl (gS rfl (gS rfl (gS rfl (gS rfl g0)))))) (gS rfl (gS rfl (gS rfl (gS rfl (gS rfl g0))))) (gS rfl (gS rfl (gS rfl (gS rfl g0)))) (fun g => ?_)
                                                                                        exact (by
                                                                                          refine c_region ?_
                                                                                          refine l_step (y_add (et g0 rfl) rfl (addIN (y := 1) ?_)) ?_
                                                                                          omega
                                                                                          refine l_step (y_moveV (et g0 rfl)) ?_
                                                                                          refine l_nil ?_
                                                                                          refine fK6 3 5 8 184 185 186 (gS rfl (gS rfl (gS rfl (gS rfl (gS rfl (gS rfl (gS rfl g0))))))) (gS rfl (gS rfl (gS rfl (gS rfl (gS rfl (gS rfl g0)))))) (gS rfl (gS rfl (gS rfl (gS rfl (gS rfl g0))))) (gS rfl (gS rfl (gS rfl (gS rfl g0)))) (gS rfl (gS rfl (gS rfl g0))) g0 (fun g => ?_)
                                                                                          exact hK108 (T.access.length - ((i + 1))) _ _ (by omega) ⟨g, _, _, _, (i + 1), rfl, rfl, by omega, by rw [wl_take hil, wk_warmA]; exact lv119, by rw [wl_take hil]; exact hS2, by rw [wl_take hil, wk_warmA]; have h9 := len_withA (wList (bW3 s T) (T.access.take i)).warmA T.access[i].1; exact Nat.le_trans h9 (by omega), by rw [wl_take hil]; have h9 := keys_take hil; exact Nat.le_trans hlS2 (by omega), kS, V108⟩)))))
                                                                          · skip
                                                                            
                                                                            have hil : i = T.access.length := by have := of_decide_eq_false cB5; omega
                                                                            subst hil
                                                                            rw [List.take_length] at hA1 hS1 hlA hlS kS
                                                                            replace kS : Blk W108 bs ((csC.setIfInBounds (0 + 1) (.slice wa9 (bW s T).warmA.length wc9)).setIfInBounds (0 + 2) (.slice ws9 (bW s T).warmS.length wd9)) := kS
                                                                            replace rOr := row_12o (va := (.slice wa9 (bW s T).warmA.length wc9)) (vs := (.slice ws9 (bW s T).warmS.length wd9)) rOr (by decide)
                                                                            replace rMd := row_12o (va := (.slice wa9 (bW s T).warmA.length wc9)) (vs := (.slice ws9 (bW s T).warmS.length wd9)) rMd (by decide)
                                                                            replace rE1 := row_12o (va := (.slice wa9 (bW s T).warmA.length wc9)) (vs := (.slice ws9 (bW s T).warmS.length wd9)) rE1 (by decide)
                                                                            replace rE2 := row_12o (va := (.slice wa9 (bW s T).warmA.length wc9)) (vs := (.slice ws9 (bW s T).warmS.length wd9)) rE2 (by decide)
                                                                            replace rE3 := row_12o (va := (.slice wa9 (bW s T).warmA.length wc9)) (vs := (.slice ws9 (bW s T).warmS.length wd9)) rE3 (by decide)
                                                                            replace rE4 := row_12o (va := (.slice wa9 (bW s T).warmA.length wc9)) (vs := (.slice ws9 (bW s T).warmS.length wd9)) rE4 (by decide)
                                                                            replace rE5 := row_12o (va := (.slice wa9 (bW s T).warmA.length wc9)) (vs := (.slice ws9 (bW s T).warmS.length wd9)) rE5 (by decide)
                                                                            replace rE6 := row_12o (va := (.slice wa9 (bW s T).warmA.length wc9)) (vs := (.slice ws9 (bW s T).warmS.length wd9)) rE6 (by decide)
                                                                            replace eC := eC.s12 (va := (.slice wa9 (bW s T).warmA.length wc9)) (vs := (.slice ws9 (bW s T).warmS.length wd9))
                                                                            replace rS : RowIn _ _ [_, .slice wa9 (bW s T).warmA.length wc9, .slice ws9 (bW s T).warmS.length wd9, vr, .slice la s.now.logs.length lc, .slice ta s.now.temps.length tc, .slice ma s.now.made.length mc, .slice ga s.now.gone.length gc, .slice sta (startL s.now.accts).length stc, .slice none 0 0, .slice ra s.ret.length rc, .int .u8 (s.phase : Nat), .int .u8 (s.status : Nat), .int .u8 ((s.applied + 1 : Nat) : Int), .slice sa40 sn40 sc40, .slice sa45 sn45 sc45, vleft, .slice sa48 sn48 sc48, vtot] := row_12 (va := (.slice wa9 (bW s T).warmA.length wc9)) (vs := (.slice ws9 (bW s T).warmS.length wd9)) rS
                                                                            refine c_exit ?_
                                                                            refine hQ107 _ _ _ (in_exit ?_)
                                                                            refine hK105 _ _ ?_
                                                                            refine fg3 3 5 8 (gS rfl (gS rfl (gS rfl (gS rfl (gS rfl (gS rfl g0)))))) (gS rfl (gS rfl (gS rfl (gS rfl (gS rfl g0))))) (gS rfl (gS rfl (gS rfl (gS rfl g0)))) (fun g => ?_)
                                                                            refine c_seq (fun K134 hK134 => ?_)
                                                                            exact (by
                                                                              refine c_region ?_
                                                                              refine l_step (y_moveV (et (gS rfl g0) rfl)) ?_
                                                                              refine l_step (y_nil (et g0 rfl)) ?_
                                                                              refine l_step (y_fld fld_102_3 (et g0 rfl)) ?_
                                                                              have rl135 := RowIn.le rS (Nat.succ_pos _)
                                                                              simp only [List.length_cons, List.length_nil, Nat.zero_add, Nat.reduceAdd] at rl135
                                                                              refine l_effN (e_store sz_38 (et g0 rfl) (cellsV rfl rfl) rfl (by first | exact one_bL _ | exact one_uL _ | (intro v hv; simp at hv; subst hv; rfl)) kS (by first | exact Nat.le_trans (by omega) rl135 | exact Nat.le_of_ble_eq_true rfl | (simp; done) | (simp; omega) | omega | (simp only [size_spl, Array.size_setIfInBounds, hs.size]; exact Nat.le_of_ble_eq_true rfl))) (fun v135 w135 h135 => ?_)
                                                                              obtain ⟨rfl, x135⟩ := h135
                                                                              replace k2 := k2.ch x135.ch (by omega)
                                                                              replace k12 := k12.ch x135.ch (by omega)
                                                                              replace k22 := k22.ch x135.ch (by omega)
                                                                              replace kS := x135.blk
                                                                              replace G := G.wr x135 (.inl (by first | rfl | (simp; done))) nbS
                                                                              replace hF := G.fz
                                                                              replace U := U.st x135 (.inl (by first | rfl | (simp; done)))
                                                                              replace eC := kS.eput eC (by omega)
                                                                              replace rS : RowIn _ _ [_, .slice wa9 (bW s T).warmA.length wc9, .slice ws9 (bW s T).warmS.length wd9, vr, .slice la s.now.logs.length lc, .slice ta s.now.temps.length tc, .slice ma s.now.made.length mc, .slice ga s.now.gone.length gc, .slice sta (startL s.now.accts).length stc, .slice none 0 0, .slice none 0 0, .int .u8 (s.phase : Nat), .int .u8 (s.status : Nat), .int .u8 ((s.applied + 1 : Nat) : Int), .slice sa40 sn40 sc40, .slice sa45 sn45 sc45, vleft, .slice sa48 sn48 sc48, vtot] := kS.rput rS 10 rfl
                                                                              replace rOr := kS.rputo rOr (by first | (left; omega) | (right; simp only [List.length_cons, List.length_nil, length_bL, length_be]; omega))
                                                                              replace rMd := kS.rputo rMd (by first | (left; omega) | (right; simp only [List.length_cons, List.length_nil, length_bL, length_be]; omega))
                                                                              replace rE1 := kS.rputo rE1 (by first | (left; omega) | (right; simp only [List.length_cons, List.length_nil, length_bL, length_be]; omega))
                                                                              replace rE2 := kS.rputo rE2 (by first | (left; omega) | (right; simp only [List.length_cons, List.length_nil, length_bL, length_be]; omega))
                                                                              replace rE3 := kS.rputo rE3 (by first | (left; omega) | (right; simp only [List.length_cons, List.length_nil, length_bL, length_be]; omega))
                                                                              replace rE4 := kS.rputo rE4 (by first | (left; omega) | (right; simp only [List.length_cons, List.length_nil, length_bL, length_be]; omega))
                                                                              replace rE5 := kS.rputo rE5 (by first | (left; omega) | (right; simp only [List.length_cons, List.length_nil, length_bL, length_be]; omega))
                                                                              replace rE6 := kS.rputo rE6 (by first | (left; omega) | (right; simp only [List.length_cons, List.length_nil, length_bL, length_be]; omega))
                                                                              refine l_nil ?_
                                                                              refine hK134 _ _ ?_
                                                                              refine fg3 3 5 8 (gS rfl (gS rfl (gS rfl (gS rfl (gS rfl g0))))) (gS rfl (gS rfl (gS rfl (gS rfl g0)))) (gS rfl (gS rfl (gS rfl g0))) (fun g => ?_)
                                                                              refine c_seq (fun K136 hK136 => ?_)
                                                                              exact (by
                                                                                refine fgv3 3 5 8 (gS rfl (gS rfl g0)) (gS rfl g0) g0 (fun g z3 z5 z8 e3 e5 e8 => ?_)
                                                                                refine c_drawJ (fun s_ w_ => ∃ (g : Nat → Value) (b138 : Nat) (vv9 : Value) (Hj137 : Store), s_ = (upd (upd (upd (upd g 3 z3) 5 z5) 8 z8) 17 (.pointer (some ⟨b138, 0, none⟩))) ∧ Go No w135 Hk108 w_ Hj137 ∧ w135.heap.size ≤ b138 ∧ Blk w_ b138 ((bfr 0 0 (.slice sa45 sn45 sc45) vv9 (.slice none 0 0) (.slice none 0 0) tgt T.frm).toArray) ∧ ¬ Hj137.has b138 ∧ (NV Hj137 vv9 T.value)) Up 12 (.pure 0 (.pure 1 (.pure 2 (.pure 3 (.pure 4 (.pure 5 (.pure 7 (.pure 8 (.pure 9 (.two 6 (.pure 10 (.eff 11 (.eff 12 .fin))) 11 (.eff 6 (.pure 10 (.eff 12 .fin))))))))))))) (by kernel_rfl) (fun w139 hu => ⟨Up.refl _, ?_⟩) ?_
                                                                                · skip
                                                                                  subst e3 e5 e8
                                                                                  replace G := G.tr (Go.ofUp hF hu)
                                                                                  replace hF := hF.up hu
                                                                                  replace k2 := k2.up hu
                                                                                  replace k12 := k12.up hu
                                                                                  replace k22 := k22.up hu
                                                                                  replace kS := kS.up hu
                                                                                  replace U := U.tr hu
                                                                                  have SU := Up.refl w139
                                                                                  have V137 : Go No w135 Hk108 w139 Hk108 := ⟨hu, hF, Le.refl _, fun _ h => .inl h⟩
                                                                                  refine t_step (by exact rfl) (y_moveV (et (gS rfl g0) rfl)) ?_
                                                                                  refine t_step (by exact rfl) (y_nil (et g0 rfl)) ?_
                                                                                  refine t_step (by exact rfl) (y_fld fld_102_8 (et g0 rfl)) ?_
                                                                                  refine t_step (by exact rfl) (y_load1 one_95 (et g0 rfl) (atS (kS.cell (rS 15 _ rfl)))) ?_
                                                                                  refine t_step (by exact rfl) (y_fld fld_41_6 (et (gS rfl (gS rfl (gS rfl (gS rfl (gS rfl (gS rfl g0)))))) rfl)) ?_
                                                                                  refine t_step (by exact rfl) (y_slA000 Hvaa.underlying28 sz_5 (et g0 rfl) ) ?_
                                                                                  refine t_step (by exact rfl) (y_loadB agg_25 sz_25 (et (gS rfl (gS rfl (gS rfl (gS rfl (gS rfl (gS rfl g0)))))) rfl) (by rw [List.size_toArray, length_bL, length_be]) (atSB k22)) ?_
                                                                                  refine t_step (by exact rfl) (y_fld fld_41_0 (et (gS rfl (gS rfl (gS rfl (gS rfl (gS rfl (gS rfl (gS rfl (gS rfl (gS rfl g0))))))))) rfl)) ?_
                                                                                  refine t_step (by exact rfl) (y_loadR agg_25 sz_25 (et g0 rfl) (by rw [length_bL, length_be]) (atSR (k2.row rT1))) ?_
                                                                                  refine t_two ?_ ?_
                                                                                  · skip
                                                                                    refine t_eff (by exact rfl) (e_callV cal_33 (aC (et (gS rfl (gS rfl (gS rfl g0))) rfl) aN) (nat_fromRow hF (k2.row rT5) k2.lt (bd_W tok.value) (by decide))) (fun v140 w140 h140 => ?_)
                                                                                    obtain ⟨H140, g140, n140⟩ := h140
                                                                                    have hlew140 := g140.le
                                                                                    replace nb2 := g140.nb nb2 k2.lt
                                                                                    replace nb12 := g140.nb nb12 k12.lt
                                                                                    replace nb22 := g140.nb nb22 k22.lt
                                                                                    replace nbS := g140.nb nbS kS.lt
                                                                                    replace pa10 := pa10.mono hlew140
                                                                                    replace hnn32 := hnn32.mono hlew140
                                                                                    replace hbb32 := hbb32.mono hlew140
                                                                                    replace hcd32 := hcd32.mono hlew140
                                                                                    replace hss32 := hss32.mono hlew140
                                                                                    replace n39 := n39.mono hlew140
                                                                                    replace n43 := n43.mono hlew140
                                                                                    replace n44 := n44.mono hlew140
                                                                                    replace hsP := hsP.mono hlew140
                                                                                    replace n47 := n47.mono hlew140
                                                                                    replace lvz81 := lvz81.mono hlew140
                                                                                    replace n84 := n84.mono hlew140
                                                                                    replace n85 := n85.mono hlew140
                                                                                    replace lv86 := lv86.mono hlew140
                                                                                    replace n89 := n89.mono hlew140
                                                                                    replace n90 := n90.mono hlew140
                                                                                    replace lv91 := lv91.mono hlew140
                                                                                    replace lv94 := lv94.mono hlew140
                                                                                    replace lv97 := lv97.mono hlew140
                                                                                    replace lv100 := lv100.mono hlew140
                                                                                    replace lv102 := lv102.mono hlew140
                                                                                    replace lv104 := lv104.mono hlew140
                                                                                    replace hA1 := hA1.mono hlew140
                                                                                    replace hS1 := hS1.mono hlew140
                                                                                    replace hL0 := hL0.trans hlew140
                                                                                    replace k2 := k2.up g140.up
                                                                                    replace k12 := k12.up g140.up
                                                                                    replace k22 := k22.up g140.up
                                                                                    replace kS := kS.up g140.up
                                                                                    replace U := U.tr g140.up
                                                                                    replace G := G.tr g140
                                                                                    replace V137 := V137.tr g140
                                                                                    replace hF := g140.fz
                                                                                    refine ⟨.inr (SU.tr g140.up), ?_⟩
                                                                                    replace SU := SU.tr g140.up
                                                                                    refine t_step (by exact rfl) ((y_bldBF n44.one1 n140.one1 (et (gS rfl (gS rfl (gS rfl (gS rfl (gS rfl (gS rfl g0)))))) rfl) (et g0 rfl) (et (gS rfl (gS rfl (gS rfl g0))) rfl) (et (gS rfl g0) rfl))) ?_
                                                                                    refine t_one ?_
                                                                                    refine t_eff (by exact rfl) (e_alloc zr_146) (fun v141 w141 h141 => ?_)
                                                                                    obtain ⟨b141, rfl, n141⟩ := h141
                                                                                    have d2_141 : b2 < b141 := Nat.lt_of_lt_of_le k2.lt n141.fresh
                                                                                    have d12_141 : b12 < b141 := Nat.lt_of_lt_of_le k12.lt n141.fresh
                                                                                    have d22_141 : b22 < b141 := Nat.lt_of_lt_of_le k22.lt n141.fresh
                                                                                    have f141 : w.heap.size ≤ b141 := Nat.le_trans U.size n141.fresh
                                                                                    have nb141 := hF.nb n141.fresh
                                                                                    have fS141 := Nat.le_trans SU.size n141.fresh
                                                                                    have fV137_141 := Nat.le_trans V137.ch.size n141.fresh
                                                                                    replace G := G.tr (Go.ofUp hF n141.up)
                                                                                    replace V137 := V137.tr (Go.ofUp hF n141.up)
                                                                                    replace hF := hF.up n141.up
                                                                                    replace k2 := k2.up n141.up
                                                                                    replace k12 := k12.up n141.up
                                                                                    replace k22 := k22.up n141.up
                                                                                    replace kS := kS.up n141.up
                                                                                    replace U := U.tr n141.up
                                                                                    have k141 := n141.blk
                                                                                    refine ⟨.inr (SU.tr n141.up), ?_⟩
                                                                                    replace SU := SU.tr n141.up
                                                                                    refine t_one ?_
                                                                                    refine t_effN (by exact rfl) (e_store sz_146 (et g0 rfl) (cellsV (et (gS rfl g0) rfl) rfl) bfr_len (by exact bfr_one n44.one1 n140.one1 rfl rfl) k141 (by exact Nat.le_of_ble_eq_true rfl)) (fun v142 w142 h142 => ?_)
                                                                                    obtain ⟨rfl, x142⟩ := h142
                                                                                    replace k2 := k2.ch x142.ch (by omega)
                                                                                    replace k12 := k12.ch x142.ch (by omega)
                                                                                    replace k22 := k22.ch x142.ch (by omega)
                                                                                    replace kS := kS.ch x142.ch (by first | omega | (first | omega | exact hOo.ne (by omega)))
                                                                                    replace k141 := x142.blk.full (by rw [bfr_len]; rfl)
                                                                                    replace G := G.wr x142 (by first | exact .inr f141 | omega | (simp; omega)) nb141
                                                                                    replace V137 := V137.wr x142 (by first | exact .inr f141 | omega | (simp; omega)) nb141
                                                                                    replace hF := G.fz
                                                                                    replace U := U.st x142 (.inr f141)
                                                                                    refine ⟨.inl rfl, ?_⟩
                                                                                    refine tl4 3 5 8 17 (gS rfl (gS rfl (gS rfl (gS rfl (gS rfl (gS rfl (gS rfl (gS rfl (gS rfl (gS rfl (gS rfl (gS rfl (gS rfl (gS rfl g0)))))))))))))) (gS rfl (gS rfl (gS rfl (gS rfl (gS rfl (gS rfl (gS rfl (gS rfl (gS rfl (gS rfl (gS rfl (gS rfl (gS rfl g0))))))))))))) (gS rfl (gS rfl (gS rfl (gS rfl (gS rfl (gS rfl (gS rfl (gS rfl (gS rfl (gS rfl (gS rfl (gS rfl g0)))))))))))) g0 (fun g => ?_)
                                                                                    exact ⟨g, _, _, _, rfl, V137, Nat.le_trans hu.size fS141, k141, nb141, n140⟩
                                                                                  · skip
                                                                                    refine t_eff (by exact rfl) (e_alloc zr_146) (fun v143 w143 h143 => ?_)
                                                                                    obtain ⟨b143, rfl, n143⟩ := h143
                                                                                    have d2_143 : b2 < b143 := Nat.lt_of_lt_of_le k2.lt n143.fresh
                                                                                    have d12_143 : b12 < b143 := Nat.lt_of_lt_of_le k12.lt n143.fresh
                                                                                    have d22_143 : b22 < b143 := Nat.lt_of_lt_of_le k22.lt n143.fresh
                                                                                    have f143 : w.heap.size ≤ b143 := Nat.le_trans U.size n143.fresh
                                                                                    have nb143 := hF.nb n143.fresh
                                                                                    have fS143 := Nat.le_trans SU.size n143.fresh
                                                                                    have fV137_143 := Nat.le_trans V137.ch.size n143.fresh
                                                                                    replace G := G.tr (Go.ofUp hF n143.up)
                                                                                    replace V137 := V137.tr (Go.ofUp hF n143.up)
                                                                                    replace hF := hF.up n143.up
                                                                                    replace k2 := k2.up n143.up
                                                                                    replace k12 := k12.up n143.up
                                                                                    replace k22 := k22.up n143.up
                                                                                    replace kS := kS.up n143.up
                                                                                    replace U := U.tr n143.up
                                                                                    have k143 := n143.blk
                                                                                    refine ⟨.inr (SU.tr n143.up), ?_⟩
                                                                                    replace SU := SU.tr n143.up
                                                                                    refine t_one ?_
                                                                                    refine t_eff (by exact rfl) (e_callV cal_33 (aC (et (gS rfl (gS rfl (gS rfl (gS rfl g0)))) rfl) aN) (nat_fromRow hF (k2.row rT5) k2.lt (bd_W tok.value) (by decide))) (fun v144 w144 h144 => ?_)
                                                                                    obtain ⟨H144, g144, n144⟩ := h144
                                                                                    have hlew144 := g144.le
                                                                                    replace nb2 := g144.nb nb2 k2.lt
                                                                                    replace nb12 := g144.nb nb12 k12.lt
                                                                                    replace nb22 := g144.nb nb22 k22.lt
                                                                                    replace nb143 := g144.nb nb143 k143.lt
                                                                                    replace nbS := g144.nb nbS kS.lt
                                                                                    replace pa10 := pa10.mono hlew144
                                                                                    replace hnn32 := hnn32.mono hlew144
                                                                                    replace hbb32 := hbb32.mono hlew144
                                                                                    replace hcd32 := hcd32.mono hlew144
                                                                                    replace hss32 := hss32.mono hlew144
                                                                                    replace n39 := n39.mono hlew144
                                                                                    replace n43 := n43.mono hlew144
                                                                                    replace n44 := n44.mono hlew144
                                                                                    replace hsP := hsP.mono hlew144
                                                                                    replace n47 := n47.mono hlew144
                                                                                    replace lvz81 := lvz81.mono hlew144
                                                                                    replace n84 := n84.mono hlew144
                                                                                    replace n85 := n85.mono hlew144
                                                                                    replace lv86 := lv86.mono hlew144
                                                                                    replace n89 := n89.mono hlew144
                                                                                    replace n90 := n90.mono hlew144
                                                                                    replace lv91 := lv91.mono hlew144
                                                                                    replace lv94 := lv94.mono hlew144
                                                                                    replace lv97 := lv97.mono hlew144
                                                                                    replace lv100 := lv100.mono hlew144
                                                                                    replace lv102 := lv102.mono hlew144
                                                                                    replace lv104 := lv104.mono hlew144
                                                                                    replace hA1 := hA1.mono hlew144
                                                                                    replace hS1 := hS1.mono hlew144
                                                                                    replace hL0 := hL0.trans hlew144
                                                                                    replace k2 := k2.up g144.up
                                                                                    replace k12 := k12.up g144.up
                                                                                    replace k22 := k22.up g144.up
                                                                                    replace k143 := k143.up g144.up
                                                                                    replace kS := kS.up g144.up
                                                                                    replace U := U.tr g144.up
                                                                                    replace G := G.tr g144
                                                                                    replace V137 := V137.tr g144
                                                                                    replace hF := g144.fz
                                                                                    refine ⟨.inr (SU.tr g144.up), ?_⟩
                                                                                    replace SU := SU.tr g144.up
                                                                                    refine t_step (by exact rfl) ((y_bldBF n44.one1 n144.one1 (et (gS rfl (gS rfl (gS rfl (gS rfl (gS rfl (gS rfl (gS rfl g0))))))) rfl) (et g0 rfl) (et (gS rfl (gS rfl (gS rfl (gS rfl g0)))) rfl) (et (gS rfl (gS rfl g0)) rfl))) ?_
                                                                                    refine t_one ?_
                                                                                    refine t_effN (by exact rfl) (e_store sz_146 (et (gS rfl (gS rfl g0)) rfl) (cellsV (et g0 rfl) rfl) bfr_len (by exact bfr_one n44.one1 n144.one1 rfl rfl) k143 (by exact Nat.le_of_ble_eq_true rfl)) (fun v145 w145 h145 => ?_)
                                                                                    obtain ⟨rfl, x145⟩ := h145
                                                                                    replace k2 := k2.ch x145.ch (by omega)
                                                                                    replace k12 := k12.ch x145.ch (by omega)
                                                                                    replace k22 := k22.ch x145.ch (by omega)
                                                                                    replace kS := kS.ch x145.ch (by first | omega | (first | omega | exact hOo.ne (by omega)))
                                                                                    replace k143 := x145.blk.full (by rw [bfr_len]; rfl)
                                                                                    replace G := G.wr x145 (by first | exact .inr f143 | omega | (simp; omega)) nb143
                                                                                    replace V137 := V137.wr x145 (by first | exact .inr f143 | omega | (simp; omega)) nb143
                                                                                    replace hF := G.fz
                                                                                    replace U := U.st x145 (.inr f143)
                                                                                    refine ⟨.inl rfl, ?_⟩
                                                                                    refine tl4 3 5 8 17 (gS rfl (gS rfl (gS rfl (gS rfl (gS rfl (gS rfl (gS rfl (gS rfl (gS rfl (gS rfl (gS rfl (gS rfl (gS rfl (gS rfl g0)))))))))))))) (gS rfl (gS rfl (gS rfl (gS rfl (gS rfl (gS rfl (gS rfl (gS rfl (gS rfl (gS rfl (gS rfl (gS rfl (gS rfl g0))))))))))))) (gS rfl (gS rfl (gS rfl (gS rfl (gS rfl (gS rfl (gS rfl (gS rfl (gS rfl (gS rfl (gS rfl (gS rfl g0)))))))))))) (gS rfl (gS rfl g0)) (fun g => ?_)
                                                                                    exact ⟨g, _, _, _, rfl, V137, Nat.le_trans hu.size fS143, k143, nb143, n144⟩
                                                                                intro s_ w146 hJ
                                                                                obtain ⟨g, b138, vv9, Hj137, rfl, V137, fn138, kn138, nb138, hvv9⟩ := hJ
                                                                                subst e3 e5 e8
                                                                                have d2_138 : b2 < b138 := Nat.lt_of_lt_of_le k2.lt fn138
                                                                                have d12_138 : b12 < b138 := Nat.lt_of_lt_of_le k12.lt fn138
                                                                                have d22_138 : b22 < b138 := Nat.lt_of_lt_of_le k22.lt fn138
                                                                                have f138 : w.heap.size ≤ b138 := Nat.le_trans U.size fn138
                                                                                have hlew146 := V137.le
                                                                                replace nb2 := V137.nb nb2 k2.lt
                                                                                replace nb12 := V137.nb nb12 k12.lt
                                                                                replace nb22 := V137.nb nb22 k22.lt
                                                                                replace nbS := V137.nb nbS kS.lt
                                                                                replace pa10 := pa10.mono hlew146
                                                                                replace hnn32 := hnn32.mono hlew146
                                                                                replace hbb32 := hbb32.mono hlew146
                                                                                replace hcd32 := hcd32.mono hlew146
                                                                                replace hss32 := hss32.mono hlew146
                                                                                replace n39 := n39.mono hlew146
                                                                                replace n43 := n43.mono hlew146
                                                                                replace n44 := n44.mono hlew146
                                                                                replace hsP := hsP.mono hlew146
                                                                                replace n47 := n47.mono hlew146
                                                                                replace lvz81 := lvz81.mono hlew146
                                                                                replace n84 := n84.mono hlew146
                                                                                replace n85 := n85.mono hlew146
                                                                                replace lv86 := lv86.mono hlew146
                                                                                replace n89 := n89.mono hlew146
                                                                                replace n90 := n90.mono hlew146
                                                                                replace lv91 := lv91.mono hlew146
                                                                                replace lv94 := lv94.mono hlew146
                                                                                replace lv97 := lv97.mono hlew146
                                                                                replace lv100 := lv100.mono hlew146
                                                                                replace lv102 := lv102.mono hlew146
                                                                                replace lv104 := lv104.mono hlew146
                                                                                replace hA1 := hA1.mono hlew146
                                                                                replace hS1 := hS1.mono hlew146
                                                                                replace hL0 := hL0.trans hlew146
                                                                                replace k2 := k2.up V137.up
                                                                                replace k12 := k12.up V137.up
                                                                                replace k22 := k22.up V137.up
                                                                                replace kS := kS.up V137.up
                                                                                replace U := U.tr V137.up
                                                                                replace G := G.tr V137
                                                                                replace hF := V137.fz
                                                                                have k138 := kn138
                                                                                refine hK136 _ _ ?_
                                                                                refine c_seq (fun K147 hK147 => ?_)
                                                                                refine c_seq (fun K148 hK148 => ?_)
                                                                                exact (by
                                                                                  refine c_region ?_
                                                                                  refine l_step (y_fld fld_41_2 (et (gS rfl (gS rfl (gS rfl g0))) rfl)) ?_
                                                                                  refine l_step (y_load1 one_4 (et g0 rfl) (at1 (k2.cell (rT3 0 _ rfl)))) ?_
                                                                                  refine l_step (y_not (et g0 rfl)) ?_
                                                                                  refine l_nil ?_
                                                                                  refine hK148 _ _ ?_
                                                                                  refine fg5 3 5 8 17 229 (gS rfl (gS rfl (gS rfl (gS rfl (gS rfl (gS rfl g0)))))) (gS rfl (gS rfl (gS rfl (gS rfl (gS rfl g0))))) (gS rfl (gS rfl (gS rfl (gS rfl g0)))) (gS rfl (gS rfl (gS rfl g0))) g0 (fun g => ?_)
                                                                                  refine c_false (et g0 rfl) (by (rw [hcr]; rfl)) ?_
                                                                                  refine c_seq (fun K150 hK150 => ?_)
                                                                                  exact (by
                                                                                    refine c_region ?_
                                                                                    refine l_step (y_fld fld_146_0 (et (gS rfl g0) rfl)) ?_
                                                                                    refine l_effN (e_store sz_5 (et g0 rfl) (cellsV rfl rfl) rfl (by first | exact one_bL _ | exact one_uL _ | (intro v hv; simp at hv; subst hv; rfl)) k138 (by (rw [List.size_toArray, bfr_len]; decide))) (fun v151 w151 h151 => ?_)
                                                                                    obtain ⟨rfl, x151⟩ := h151
                                                                                    replace k2 := k2.ch x151.ch (by omega)
                                                                                    replace k12 := k12.ch x151.ch (by omega)
                                                                                    replace k22 := k22.ch x151.ch (by omega)
                                                                                    replace kS := kS.ch x151.ch (by first | omega | (first | omega | exact hOo.ne (by omega)))
                                                                                    replace k138 := x151.blk
                                                                                    replace G := G.wr x151 (by first | exact .inr f138 | omega | (simp; omega)) nb138
                                                                                    replace hF := G.fz
                                                                                    replace U := U.st x151 (.inr f138)
                                                                                    have h17 := k138
                                                                                    replace k138 : Blk w151 b138 (bfr 1 0 (.slice sa45 sn45 sc45) vv9 (.slice none 0 0) (.slice none 0 0) tgt T.frm).toArray := by
                                                                                      rw [← bfr_kd (k := 0) (q := 1)]
                                                                                      exact h17
                                                                                    refine l_nil ?_
                                                                                    refine hK150 _ _ ?_
                                                                                    refine fg4 3 5 8 17 (gS rfl (gS rfl (gS rfl (gS rfl (gS rfl g0))))) (gS rfl (gS rfl (gS rfl (gS rfl g0)))) (gS rfl (gS rfl (gS rfl g0))) (gS rfl (gS rfl g0)) (fun g => ?_)
                                                                                    refine c_seq (fun K152 hK152 => ?_)
                                                                                    exact (by
                                                                                      refine c_region ?_
                                                                                      refine l_step (y_fld fld_41_7 (et (gS rfl (gS rfl (gS rfl g0))) rfl)) ?_
                                                                                      refine l_step (y_load1 one_38 (et g0 rfl) (at1 (k2.cell (rT6 0 _ rfl)))) ?_
                                                                                      refine l_eff (e_callV cal_26 (aC (et g0 rfl) aN) (yp_bytes hF (hTd.mono hL0) (by omega))) (fun v153 w153 h153 => ?_)
                                                                                      obtain ⟨H153, g153, b153⟩ := h153
                                                                                      have hlew153 := g153.le
                                                                                      replace nb2 := g153.nb nb2 k2.lt
                                                                                      replace nb12 := g153.nb nb12 k12.lt
                                                                                      replace nb22 := g153.nb nb22 k22.lt
                                                                                      replace nb138 := g153.nb nb138 k138.lt
                                                                                      replace nbS := g153.nb nbS kS.lt
                                                                                      replace pa10 := pa10.mono hlew153
                                                                                      replace hnn32 := hnn32.mono hlew153
                                                                                      replace hbb32 := hbb32.mono hlew153
                                                                                      replace hcd32 := hcd32.mono hlew153
                                                                                      replace hss32 := hss32.mono hlew153
                                                                                      replace n39 := n39.mono hlew153
                                                                                      replace n43 := n43.mono hlew153
                                                                                      replace n44 := n44.mono hlew153
                                                                                      replace hsP := hsP.mono hlew153
                                                                                      replace n47 := n47.mono hlew153
                                                                                      replace lvz81 := lvz81.mono hlew153
                                                                                      replace n84 := n84.mono hlew153
                                                                                      replace n85 := n85.mono hlew153
                                                                                      replace lv86 := lv86.mono hlew153
                                                                                      replace n89 := n89.mono hlew153
                                                                                      replace n90 := n90.mono hlew153
                                                                                      replace lv91 := lv91.mono hlew153
                                                                                      replace lv94 := lv94.mono hlew153
                                                                                      replace lv97 := lv97.mono hlew153
                                                                                      replace lv100 := lv100.mono hlew153
                                                                                      replace lv102 := lv102.mono hlew153
                                                                                      replace lv104 := lv104.mono hlew153
                                                                                      replace hA1 := hA1.mono hlew153
                                                                                      replace hS1 := hS1.mono hlew153
                                                                                      replace hvv9 := hvv9.mono hlew153
                                                                                      replace hL0 := hL0.trans hlew153
                                                                                      replace k2 := k2.up g153.up
                                                                                      replace k12 := k12.up g153.up
                                                                                      replace k22 := k22.up g153.up
                                                                                      replace k138 := k138.up g153.up
                                                                                      replace kS := kS.up g153.up
                                                                                      replace U := U.tr g153.up
                                                                                      replace G := G.tr g153
                                                                                      replace hF := g153.fz
                                                                                      obtain ⟨ia9, ic9, rfl⟩ := b153.sl
                                                                                      exact (by
                                                                                        refine l_step (y_fld fld_146_10 (et (gS rfl (gS rfl (gS rfl g0))) rfl)) ?_
                                                                                        refine l_effN (e_store sz_38 (et g0 rfl) (cellsV (et (gS rfl g0) rfl) rfl) rfl (by first | exact one_bL _ | exact one_uL _ | (intro v hv; simp at hv; subst hv; rfl)) k138 (by (rw [List.size_toArray, bfr_len]; decide))) (fun v154 w154 h154 => ?_)
                                                                                        obtain ⟨rfl, x154⟩ := h154
                                                                                        replace k2 := k2.ch x154.ch (by omega)
                                                                                        replace k12 := k12.ch x154.ch (by omega)
                                                                                        replace k22 := k22.ch x154.ch (by omega)
                                                                                        replace kS := kS.ch x154.ch (by first | omega | (first | omega | exact hOo.ne (by omega)))
                                                                                        replace k138 := x154.blk
                                                                                        replace G := G.wr x154 (by first | exact .inr f138 | omega | (simp; omega)) nb138
                                                                                        replace hF := G.fz
                                                                                        replace U := U.st x154 (.inr f138)
                                                                                        have h17 := k138
                                                                                        replace k138 : Blk w154 b138 (bfr 1 0 (.slice sa45 sn45 sc45) vv9 (.slice ia9 T.data.length ic9) (.slice none 0 0) tgt T.frm).toArray := by
                                                                                          rw [← bfr_co (cv := (.slice none 0 0))]
                                                                                          exact h17
                                                                                        refine l_nil ?_
                                                                                        refine hK152 _ _ ?_
                                                                                        refine fg3 5 8 17 (gS rfl (gS rfl (gS rfl (gS rfl (gS rfl (gS rfl g0)))))) (gS rfl (gS rfl (gS rfl (gS rfl (gS rfl g0))))) (gS rfl (gS rfl (gS rfl (gS rfl g0)))) (fun g => ?_)
                                                                                        refine c_seq (fun K155 hK155 => ?_)
                                                                                        exact (by
                                                                                          refine c_region ?_
                                                                                          refine l_step (y_moveV (et (gS rfl (gS rfl g0)) rfl)) ?_
                                                                                          refine l_step (y_loadB agg_25 sz_25 (et (gS rfl (gS rfl g0)) rfl) (by rw [List.size_toArray, length_bL, length_be]) (at1B k22)) ?_
                                                                                          have hsT0 : SC H153 _ { s with now := { s.now with accts := bA2 s T, warmA := (bW s T).warmA, warmS := (bW s T).warmS }, start := startL s.now.accts, frames := [], ret := [], applied := s.applied + 1, limit := T.gas, txGas := T.gas - intrN T, price := priceN s T, origin := T.frm, made := tgt, phase := s.phase } (.slice none 0 0) := ⟨⟨by show (bA2 s T).length < _; have h9 : (bA2 s T).length ≤ (bA1 s T).length + 1 := putA_len _ _; have h8 : (bA1 s T).length ≤ s.now.accts.length + 1 := putA_len _ _; omega, by show (bW s T).warmA.length < _; have h9 : (bW s T).warmA.length ≤ _ := hlA; omega, by show (bW s T).warmS.length < _; have h9 : (bW s T).warmS.length ≤ _ := hlS; omega, so.refund, so.logs, so.temps, so.made, so.gone, by show (startL s.now.accts).length < _; omega, (by show 0 < 16777216; decide), so.phase, so.status, by show s.applied + 1 < 256; omega, tok.gas, by show T.gas - intrN T < _; omega, so.left, (Nat.lt_of_le_of_lt (price_le vd).1 (feeM_lt tok)), so.total, tok.frm, htl8⟩, eC.mono hL0, (by simp only [size_spl, Array.size_setIfInBounds]; exact hszC), _, _, _, _, _, _, _, _, _, _, _, _, _, _, _, _, _, _, _, _, _, _, _, _, rS, rOr, rMd, lv91, hA1, hS1, (hRf.mono hL0), (hTm.mono hL0), (hMd.mono hL0), (hGn.mono hL0), lvz81, (BV.nil _), n39, n44, (hLf.mono hL0), n47, (hTt.mono hL0)⟩
                                                                                          have hsTe : ({ bS s T with phase := s.phase } : YSt) = { s with now := { s.now with accts := bA2 s T, warmA := (bW s T).warmA, warmS := (bW s T).warmS }, start := startL s.now.accts, frames := [], ret := [], applied := s.applied + 1, limit := T.gas, txGas := T.gas - intrN T, price := priceN s T, origin := T.frm, made := tgt, phase := s.phase } := by
                                                                                            unfold bS
                                                                                            rw [if_pos hcr, hTg]
                                                                                            exact congrArg (fun W : YWorld => ({ s with now := W, start := startL s.now.accts, frames := [], ret := [], applied := s.applied + 1, limit := T.gas, txGas := T.gas - intrN T, price := priceN s T, origin := T.frm, made := tgt, phase := s.phase } : YSt)) (bW_eq s T)
                                                                                          have hsT := hsT0
                                                                                          rw [← hsTe] at hsT
                                                                                          refine l_eff (e_callV cal_54 (aC (et (gS rfl g0) rfl) (aC (et g0 rfl) aN)) (yp_taken hF _ _ _ _ kS hsT htl8)) (fun v156 w156 h156 => ?_)
                                                                                          obtain ⟨rfl, u156⟩ := h156
                                                                                          replace G := G.tr (Go.ofUp hF u156)
                                                                                          replace hF := hF.up u156
                                                                                          replace k2 := k2.up u156
                                                                                          replace k12 := k12.up u156
                                                                                          replace k22 := k22.up u156
                                                                                          replace k138 := k138.up u156
                                                                                          replace kS := kS.up u156
                                                                                          replace U := U.tr u156
                                                                                          refine l_nil ?_
                                                                                          refine hK155 _ _ ?_
                                                                                          refine fg3 5 17 255 (gS rfl (gS rfl (gS rfl (gS rfl (gS rfl g0))))) (gS rfl (gS rfl (gS rfl g0))) g0 (fun g => ?_)
                                                                                          refine c_cond (et g0 rfl) (fun cB9 => ?_) (fun cB9 => ?_)
                                                                                          · skip
                                                                                            
                                                                                            refine c_seq (fun K158 hK158 => ?_)
                                                                                            exact (by
                                                                                              refine c_region ?_
                                                                                              refine l_step (y_moveV (et (gS rfl (gS rfl g0)) rfl)) ?_
                                                                                              refine l_step (y_nil (et g0 rfl)) ?_
                                                                                              refine l_step (y_fld fld_102_4 (et g0 rfl)) ?_
                                                                                              have rl159 := RowIn.le rS (Nat.succ_pos _)
                                                                                              simp only [List.length_cons, List.length_nil, Nat.zero_add, Nat.reduceAdd] at rl159
                                                                                              refine l_effN (e_store sz_5 (et g0 rfl) (cellsV rfl rfl) rfl (by first | exact one_bL _ | exact one_uL _ | (intro v hv; simp at hv; subst hv; rfl)) kS (by first | exact Nat.le_trans (by omega) rl159 | exact Nat.le_of_ble_eq_true rfl | (simp; done) | (simp; omega) | omega | (simp only [size_spl, Array.size_setIfInBounds, hs.size]; exact Nat.le_of_ble_eq_true rfl))) (fun v159 w159 h159 => ?_)
                                                                                              obtain ⟨rfl, x159⟩ := h159
                                                                                              replace k2 := k2.ch x159.ch (by omega)
                                                                                              replace k12 := k12.ch x159.ch (by omega)
                                                                                              replace k22 := k22.ch x159.ch (by omega)
                                                                                              replace k138 := k138.ch x159.ch (by omega)
                                                                                              replace kS := x159.blk
                                                                                              replace G := G.wr x159 (.inl (by first | rfl | (simp; done))) nbS
                                                                                              replace hF := G.fz
                                                                                              replace U := U.st x159 (.inl (by first | rfl | (simp; done)))
                                                                                              replace eC := kS.eput eC (by omega)
                                                                                              replace rS : RowIn _ _ [_, .slice wa9 (bW s T).warmA.length wc9, .slice ws9 (bW s T).warmS.length wd9, vr, .slice la s.now.logs.length lc, .slice ta s.now.temps.length tc, .slice ma s.now.made.length mc, .slice ga s.now.gone.length gc, .slice sta (startL s.now.accts).length stc, .slice none 0 0, .slice none 0 0, .int .u8 ((2 : Nat) : Int), .int .u8 (s.status : Nat), .int .u8 ((s.applied + 1 : Nat) : Int), .slice sa40 sn40 sc40, .slice sa45 sn45 sc45, vleft, .slice sa48 sn48 sc48, vtot] := kS.rput rS 11 rfl
                                                                                              replace rOr := kS.rputo rOr (by first | (left; omega) | (right; simp only [List.length_cons, List.length_nil, length_bL, length_be]; omega))
                                                                                              replace rMd := kS.rputo rMd (by first | (left; omega) | (right; simp only [List.length_cons, List.length_nil, length_bL, length_be]; omega))
                                                                                              replace rE1 := kS.rputo rE1 (by first | (left; omega) | (right; simp only [List.length_cons, List.length_nil, length_bL, length_be]; omega))
                                                                                              replace rE2 := kS.rputo rE2 (by first | (left; omega) | (right; simp only [List.length_cons, List.length_nil, length_bL, length_be]; omega))
                                                                                              replace rE3 := kS.rputo rE3 (by first | (left; omega) | (right; simp only [List.length_cons, List.length_nil, length_bL, length_be]; omega))
                                                                                              replace rE4 := kS.rputo rE4 (by first | (left; omega) | (right; simp only [List.length_cons, List.length_nil, length_bL, length_be]; omega))
                                                                                              replace rE5 := kS.rputo rE5 (by first | (left; omega) | (right; simp only [List.length_cons, List.length_nil, length_bL, length_be]; omega))
                                                                                              replace rE6 := kS.rputo rE6 (by first | (left; omega) | (right; simp only [List.length_cons, List.length_nil, length_bL, length_be]; omega))
                                                                                              refine l_nil ?_
                                                                                              refine hK158 _ _ ?_
                                                                                              refine fg1 5 (gS rfl (gS rfl (gS rfl (gS rfl (gS rfl g0))))) (fun g => ?_)
                                                                                              refine c_seq (fun K160 hK160 => ?_)
                                                                                              exact (by
                                                                                                refine c_region ?_
                                                                                                refine l_step (y_moveV (et g0 rfl)) ?_
                                                                                                refine l_step (y_nil (et g0 rfl)) ?_
                                                                                                refine l_step (y_fld fld_102_5 (et g0 rfl)) ?_
                                                                                                have rl161 := RowIn.le rS (Nat.succ_pos _)
                                                                                                simp only [List.length_cons, List.length_nil, Nat.zero_add, Nat.reduceAdd] at rl161
                                                                                                refine l_effN (e_store sz_5 (et g0 rfl) (cellsV rfl rfl) rfl (by first | exact one_bL _ | exact one_uL _ | (intro v hv; simp at hv; subst hv; rfl)) kS (by first | exact Nat.le_trans (by omega) rl161 | exact Nat.le_of_ble_eq_true rfl | (simp; done) | (simp; omega) | omega | (simp only [size_spl, Array.size_setIfInBounds, hs.size]; exact Nat.le_of_ble_eq_true rfl))) (fun v161 w161 h161 => ?_)
                                                                                                obtain ⟨rfl, x161⟩ := h161
                                                                                                replace k2 := k2.ch x161.ch (by omega)
                                                                                                replace k12 := k12.ch x161.ch (by omega)
                                                                                                replace k22 := k22.ch x161.ch (by omega)
                                                                                                replace k138 := k138.ch x161.ch (by omega)
                                                                                                replace kS := x161.blk
                                                                                                replace G := G.wr x161 (.inl (by first | rfl | (simp; done))) nbS
                                                                                                replace hF := G.fz
                                                                                                replace U := U.st x161 (.inl (by first | rfl | (simp; done)))
                                                                                                replace eC := kS.eput eC (by omega)
                                                                                                replace rS : RowIn _ _ [_, .slice wa9 (bW s T).warmA.length wc9, .slice ws9 (bW s T).warmS.length wd9, vr, .slice la s.now.logs.length lc, .slice ta s.now.temps.length tc, .slice ma s.now.made.length mc, .slice ga s.now.gone.length gc, .slice sta (startL s.now.accts).length stc, .slice none 0 0, .slice none 0 0, .int .u8 ((2 : Nat) : Int), .int .u8 ((12 : Nat) : Int), .int .u8 ((s.applied + 1 : Nat) : Int), .slice sa40 sn40 sc40, .slice sa45 sn45 sc45, vleft, .slice sa48 sn48 sc48, vtot] := kS.rput rS 12 rfl
                                                                                                replace rOr := kS.rputo rOr (by first | (left; omega) | (right; simp only [List.length_cons, List.length_nil, length_bL, length_be]; omega))
                                                                                                replace rMd := kS.rputo rMd (by first | (left; omega) | (right; simp only [List.length_cons, List.length_nil, length_bL, length_be]; omega))
                                                                                                replace rE1 := kS.rputo rE1 (by first | (left; omega) | (right; simp only [List.length_cons, List.length_nil, length_bL, length_be]; omega))
                                                                                                replace rE2 := kS.rputo rE2 (by first | (left; omega) | (right; simp only [List.length_cons, List.length_nil, length_bL, length_be]; omega))
                                                                                                replace rE3 := kS.rputo rE3 (by first | (left; omega) | (right; simp only [List.length_cons, List.length_nil, length_bL, length_be]; omega))
                                                                                                replace rE4 := kS.rputo rE4 (by first | (left; omega) | (right; simp only [List.length_cons, List.length_nil, length_bL, length_be]; omega))
                                                                                                replace rE5 := kS.rputo rE5 (by first | (left; omega) | (right; simp only [List.length_cons, List.length_nil, length_bL, length_be]; omega))
                                                                                                replace rE6 := kS.rputo rE6 (by first | (left; omega) | (right; simp only [List.length_cons, List.length_nil, length_bL, length_be]; omega))
                                                                                                refine l_nil ?_
                                                                                                refine hK160 _ _ ?_
                                                                                                refine fg1 5 (gS rfl (gS rfl (gS rfl g0))) (fun g => ?_)
                                                                                                refine c_seq (fun K162 hK162 => ?_)
                                                                                                exact (by
                                                                                                  refine c_region ?_
                                                                                                  refine l_step (y_moveV (et g0 rfl)) ?_
                                                                                                  refine l_step (y_nil (et g0 rfl)) ?_
                                                                                                  refine l_step (y_fld fld_102_9 (et g0 rfl)) ?_
                                                                                                  have rl163 := RowIn.le rS (Nat.succ_pos _)
                                                                                                  simp only [List.length_cons, List.length_nil, Nat.zero_add, Nat.reduceAdd] at rl163
                                                                                                  refine l_effN (e_store sz_95 (et g0 rfl) (cellsV rfl rfl) rfl (by first | exact one_bL _ | exact one_uL _ | (intro v hv; simp at hv; subst hv; rfl)) kS (by first | exact Nat.le_trans (by omega) rl163 | exact Nat.le_of_ble_eq_true rfl | (simp; done) | (simp; omega) | omega | (simp only [size_spl, Array.size_setIfInBounds, hs.size]; exact Nat.le_of_ble_eq_true rfl))) (fun v163 w163 h163 => ?_)
                                                                                                  obtain ⟨rfl, x163⟩ := h163
                                                                                                  replace k2 := k2.ch x163.ch (by omega)
                                                                                                  replace k12 := k12.ch x163.ch (by omega)
                                                                                                  replace k22 := k22.ch x163.ch (by omega)
                                                                                                  replace k138 := k138.ch x163.ch (by omega)
                                                                                                  replace kS := x163.blk
                                                                                                  replace G := G.wr x163 (.inl (by first | rfl | (simp; done))) nbS
                                                                                                  replace hF := G.fz
                                                                                                  replace U := U.st x163 (.inl (by first | rfl | (simp; done)))
                                                                                                  replace eC := kS.eput eC (by omega)
                                                                                                  replace rS : RowIn _ _ [_, .slice wa9 (bW s T).warmA.length wc9, .slice ws9 (bW s T).warmS.length wd9, vr, .slice la s.now.logs.length lc, .slice ta s.now.temps.length tc, .slice ma s.now.made.length mc, .slice ga s.now.gone.length gc, .slice sta (startL s.now.accts).length stc, .slice none 0 0, .slice none 0 0, .int .u8 ((2 : Nat) : Int), .int .u8 ((12 : Nat) : Int), .int .u8 ((s.applied + 1 : Nat) : Int), .slice sa40 sn40 sc40, .slice sa45 sn45 sc45, .slice none 0 0, .slice sa48 sn48 sc48, vtot] := kS.rput rS 16 rfl
                                                                                                  replace rOr := kS.rputo rOr (by first | (left; omega) | (right; simp only [List.length_cons, List.length_nil, length_bL, length_be]; omega))
                                                                                                  replace rMd := kS.rputo rMd (by first | (left; omega) | (right; simp only [List.length_cons, List.length_nil, length_bL, length_be]; omega))
                                                                                                  replace rE1 := kS.rputo rE1 (by first | (left; omega) | (right; simp only [List.length_cons, List.length_nil, length_bL, length_be]; omega))
                                                                                                  replace rE2 := kS.rputo rE2 (by first | (left; omega) | (right; simp only [List.length_cons, List.length_nil, length_bL, length_be]; omega))
                                                                                                  replace rE3 := kS.rputo rE3 (by first | (left; omega) | (right; simp only [List.length_cons, List.length_nil, length_bL, length_be]; omega))
                                                                                                  replace rE4 := kS.rputo rE4 (by first | (left; omega) | (right; simp only [List.length_cons, List.length_nil, length_bL, length_be]; omega))
                                                                                                  replace rE5 := kS.rputo rE5 (by first | (left; omega) | (right; simp only [List.length_cons, List.length_nil, length_bL, length_be]; omega))
                                                                                                  replace rE6 := kS.rputo rE6 (by first | (left; omega) | (right; simp only [List.length_cons, List.length_nil, length_bL, length_be]; omega))
                                                                                                  have hsE0 : SC H153 _ { s with now := { s.now with accts := bA2 s T, warmA := (bW s T).warmA, warmS := (bW s T).warmS }, start := startL s.now.accts, frames := [], ret := [], applied := s.applied + 1, limit := T.gas, txGas := T.gas - intrN T, price := priceN s T, origin := T.frm, made := tgt, phase := 2, status := 12, left := 0 } (.slice none 0 0) := ⟨⟨by show (bA2 s T).length < _; have h9 : (bA2 s T).length ≤ (bA1 s T).length + 1 := putA_len _ _; have h8 : (bA1 s T).length ≤ s.now.accts.length + 1 := putA_len _ _; omega, by show (bW s T).warmA.length < _; have h9 : (bW s T).warmA.length ≤ _ := hlA; omega, by show (bW s T).warmS.length < _; have h9 : (bW s T).warmS.length ≤ _ := hlS; omega, so.refund, so.logs, so.temps, so.made, so.gone, by show (startL s.now.accts).length < _; omega, (by show 0 < 16777216; decide), (by show 2 < 256; decide), (by show 12 < 256; decide), by show s.applied + 1 < 256; omega, tok.gas, by show T.gas - intrN T < _; omega, (by show 0 < 18446744073709551616; decide), (Nat.lt_of_le_of_lt (price_le vd).1 (feeM_lt tok)), so.total, tok.frm, htl8⟩, eC.mono hL0, (by simp only [size_spl, Array.size_setIfInBounds]; exact hszC), _, _, _, _, _, _, _, _, _, _, _, _, _, _, _, _, _, _, _, _, _, _, _, _, rS, rOr, rMd, lv91, hA1, hS1, (hRf.mono hL0), (hTm.mono hL0), (hMd.mono hL0), (hGn.mono hL0), lvz81, (BV.nil _), n39, n44, (NV.nil _), n47, (hTt.mono hL0)⟩
                                                                                                  have hsEe : ({ bS s T with phase := 2, status := 12, left := 0 } : YSt) = { s with now := { s.now with accts := bA2 s T, warmA := (bW s T).warmA, warmS := (bW s T).warmS }, start := startL s.now.accts, frames := [], ret := [], applied := s.applied + 1, limit := T.gas, txGas := T.gas - intrN T, price := priceN s T, origin := T.frm, made := tgt, phase := 2, status := 12, left := 0 } := by
                                                                                                    unfold bS
                                                                                                    rw [if_pos hcr, hTg]
                                                                                                    exact congrArg (fun W : YWorld => ({ s with now := W, start := startL s.now.accts, frames := [], ret := [], applied := s.applied + 1, limit := T.gas, txGas := T.gas - intrN T, price := priceN s T, origin := T.frm, made := tgt, phase := 2, status := 12, left := 0 } : YSt)) (bW_eq s T)
                                                                                                  have hsE := hsE0
                                                                                                  rw [← hsEe] at hsE
                                                                                                  refine l_nil ?_
                                                                                                  refine hK162 _ _ ?_
                                                                                                  refine fg0 (fun g => ?_)
                                                                                                  refine c_seq (fun K164 hK164 => ?_)
                                                                                                  exact (by
                                                                                                    refine c_region ?_
                                                                                                    refine l_step y_assignC ?_
                                                                                                    refine l_nil ?_
                                                                                                    refine hK164 _ _ ?_
                                                                                                    refine c_ret ?_
                                                                                                    repeat with_reducible refine then_ret ?_
                                                                                                    refine ret1 rfl (res_tmp (et g0 rfl)) ?_
                                                                                                    have ebY : begY s T = { bS s T with phase := 2, status := 12, left := 0 } := if_pos ⟨hcr, by rw [hTg]; exact cB9⟩
                                                                                                    rw [ebY]
                                                                                                    exact ⟨rfl, _, 0, G, ym_rest hF kS hsE rfl hlg9 ((rS 4 _ rfl).trans (congrArg some hla9)) nbS (.inl rfl)⟩))))
                                                                                          · skip
                                                                                            
                                                                                            refine c_skip ?_
                                                                                            refine hK147 _ _ ?_
                                                                                            refine fg2 5 17 (gS rfl (gS rfl g0)) (gS rfl g0) (fun g => ?_)
                                                                                            refine c_seq (fun K165 hK165 => ?_)
                                                                                            exact (by
                                                                                              refine c_region ?_
                                                                                              refine l_step (y_moveV (et (gS rfl g0) rfl)) ?_
                                                                                              refine l_step (y_nil (et g0 rfl)) ?_
                                                                                              refine l_step (y_fld fld_102_4 (et g0 rfl)) ?_
                                                                                              have rl166 := RowIn.le rS (Nat.succ_pos _)
                                                                                              simp only [List.length_cons, List.length_nil, Nat.zero_add, Nat.reduceAdd] at rl166
                                                                                              refine l_effN (e_store sz_5 (et g0 rfl) (cellsV rfl rfl) rfl (by first | exact one_bL _ | exact one_uL _ | (intro v hv; simp at hv; subst hv; rfl)) kS (by first | exact Nat.le_trans (by omega) rl166 | exact Nat.le_of_ble_eq_true rfl | (simp; done) | (simp; omega) | omega | (simp only [size_spl, Array.size_setIfInBounds, hs.size]; exact Nat.le_of_ble_eq_true rfl))) (fun v166 w166 h166 => ?_)
                                                                                              obtain ⟨rfl, x166⟩ := h166
                                                                                              replace k2 := k2.ch x166.ch (by omega)
                                                                                              replace k12 := k12.ch x166.ch (by omega)
                                                                                              replace k22 := k22.ch x166.ch (by omega)
                                                                                              replace k138 := k138.ch x166.ch (by omega)
                                                                                              replace kS := x166.blk
                                                                                              replace G := G.wr x166 (.inl (by first | rfl | (simp; done))) nbS
                                                                                              replace hF := G.fz
                                                                                              replace U := U.st x166 (.inl (by first | rfl | (simp; done)))
                                                                                              replace eC := kS.eput eC (by omega)
                                                                                              replace rS : RowIn _ _ [_, .slice wa9 (bW s T).warmA.length wc9, .slice ws9 (bW s T).warmS.length wd9, vr, .slice la s.now.logs.length lc, .slice ta s.now.temps.length tc, .slice ma s.now.made.length mc, .slice ga s.now.gone.length gc, .slice sta (startL s.now.accts).length stc, .slice none 0 0, .slice none 0 0, .int .u8 ((1 : Nat) : Int), .int .u8 (s.status : Nat), .int .u8 ((s.applied + 1 : Nat) : Int), .slice sa40 sn40 sc40, .slice sa45 sn45 sc45, vleft, .slice sa48 sn48 sc48, vtot] := kS.rput rS 11 rfl
                                                                                              replace rOr := kS.rputo rOr (by first | (left; omega) | (right; simp only [List.length_cons, List.length_nil, length_bL, length_be]; omega))
                                                                                              replace rMd := kS.rputo rMd (by first | (left; omega) | (right; simp only [List.length_cons, List.length_nil, length_bL, length_be]; omega))
                                                                                              replace rE1 := kS.rputo rE1 (by first | (left; omega) | (right; simp only [List.length_cons, List.length_nil, length_bL, length_be]; omega))
                                                                                              replace rE2 := kS.rputo rE2 (by first | (left; omega) | (right; simp only [List.length_cons, List.length_nil, length_bL, length_be]; omega))
                                                                                              replace rE3 := kS.rputo rE3 (by first | (left; omega) | (right; simp only [List.length_cons, List.length_nil, length_bL, length_be]; omega))
                                                                                              replace rE4 := kS.rputo rE4 (by first | (left; omega) | (right; simp only [List.length_cons, List.length_nil, length_bL, length_be]; omega))
                                                                                              replace rE5 := kS.rputo rE5 (by first | (left; omega) | (right; simp only [List.length_cons, List.length_nil, length_bL, length_be]; omega))
                                                                                              replace rE6 := kS.rputo rE6 (by first | (left; omega) | (right; simp only [List.length_cons, List.length_nil, length_bL, length_be]; omega))
                                                                                              refine l_nil ?_
                                                                                              refine hK165 _ _ ?_
                                                                                              refine fg2 5 17 (gS rfl (gS rfl (gS rfl (gS rfl g0)))) (gS rfl (gS rfl (gS rfl g0))) (fun g => ?_)
                                                                                              refine c_seq (fun K167 hK167 => ?_)
                                                                                              exact (by
                                                                                                refine c_region ?_
                                                                                                refine l_step (y_moveV (et (gS rfl g0) rfl)) ?_
                                                                                                have hsE0 : SC H153 _ { s with now := { s.now with accts := bA2 s T, warmA := (bW s T).warmA, warmS := (bW s T).warmS }, start := startL s.now.accts, frames := [], ret := [], applied := s.applied + 1, limit := T.gas, txGas := T.gas - intrN T, price := priceN s T, origin := T.frm, made := tgt, phase := 1 } (.slice none 0 0) := ⟨⟨by show (bA2 s T).length < _; have h9 : (bA2 s T).length ≤ (bA1 s T).length + 1 := putA_len _ _; have h8 : (bA1 s T).length ≤ s.now.accts.length + 1 := putA_len _ _; omega, by show (bW s T).warmA.length < _; have h9 : (bW s T).warmA.length ≤ _ := hlA; omega, by show (bW s T).warmS.length < _; have h9 : (bW s T).warmS.length ≤ _ := hlS; omega, so.refund, so.logs, so.temps, so.made, so.gone, by show (startL s.now.accts).length < _; omega, (by show 0 < 16777216; decide), (by show 1 < 256; decide), so.status, by show s.applied + 1 < 256; omega, tok.gas, by show T.gas - intrN T < _; omega, so.left, (Nat.lt_of_le_of_lt (price_le vd).1 (feeM_lt tok)), so.total, tok.frm, htl8⟩, eC.mono hL0, (by simp only [size_spl, Array.size_setIfInBounds]; exact hszC), _, _, _, _, _, _, _, _, _, _, _, _, _, _, _, _, _, _, _, _, _, _, _, _, rS, rOr, rMd, lv91, hA1, hS1, (hRf.mono hL0), (hTm.mono hL0), (hMd.mono hL0), (hGn.mono hL0), lvz81, (BV.nil _), n39, n44, (hLf.mono hL0), n47, (hTt.mono hL0)⟩
                                                                                                have hsEe : ({ bS s T with phase := 1 } : YSt) = { s with now := { s.now with accts := bA2 s T, warmA := (bW s T).warmA, warmS := (bW s T).warmS }, start := startL s.now.accts, frames := [], ret := [], applied := s.applied + 1, limit := T.gas, txGas := T.gas - intrN T, price := priceN s T, origin := T.frm, made := tgt, phase := 1 } := by
                                                                                                  unfold bS
                                                                                                  rw [if_pos hcr, hTg]
                                                                                                  exact congrArg (fun W : YWorld => ({ s with now := W, start := startL s.now.accts, frames := [], ret := [], applied := s.applied + 1, limit := T.gas, txGas := T.gas - intrN T, price := priceN s T, origin := T.frm, made := tgt, phase := 1 } : YSt)) (bW_eq s T)
                                                                                                have hsE := hsE0
                                                                                                rw [← hsEe] at hsE
                                                                                                have hfN : FC H153 _ 0 (cFr 1 false T.value tgt T.frm (T.gas - intrN T) 0 T.data []) (.slice none 0 0) := (bfr_fc (by decide) (by decide) n44 hvv9 b153 (BV.nil _) (by omega) tok.value htl8 tok.frm (by omega) (by decide))
                                                                                                have ebf : bF s T = (cFr 1 false T.value tgt T.frm (T.gas - intrN T) 0 T.data []) := by unfold bF; rw [if_pos hcr, hTg]
                                                                                                have hym : YM w166 H153 bs { bS s T with phase := 1 } (fun b => b = bs ∨ w.heap.size ≤ b) 0 := ym_rest hF kS hsE rfl hlg9 ((rS 4 _ rfl).trans (congrArg some hla9)) nbS (.inl rfl)
                                                                                                refine l_step (y_loadB agg_146 sz_146 (et (gS rfl g0) rfl) (by rw [List.size_toArray, bfr_len]) (at1B k138)) ?_
                                                                                                have hU9 := U.size
                                                                                                refine l_eff (e_callV cal_55 (aC (et (gS rfl g0) rfl) (aC (et g0 rfl) aN)) (yp_enterY hym (by show 0 < 60000; decide) bfr_len hfN rfl (ebf ▸ hen9))) (fun v168 w168 h168 => ?_)
                                                                                                obtain ⟨rfl, H168, bf168, g168, ym168⟩ := h168
                                                                                                replace G := G.trans g168 (by intro b hb; first | omega | exact .inl hb | (simp at hb ⊢; omega))
                                                                                                replace U := U.cc g168.ch (by intro b hb; first | omega | exact .inl hb | (simp at hb ⊢; omega))
                                                                                                refine l_nil ?_
                                                                                                refine hK167 _ _ ?_
                                                                                                refine fg0 (fun g => ?_)
                                                                                                refine c_seq (fun K169 hK169 => ?_)
                                                                                                exact (by
                                                                                                  refine c_region ?_
                                                                                                  refine l_step y_assignC ?_
                                                                                                  refine l_nil ?_
                                                                                                  refine hK169 _ _ ?_
                                                                                                  refine c_ret ?_
                                                                                                  repeat with_reducible refine then_ret ?_
                                                                                                  refine ret1 rfl (res_tmp (et g0 rfl)) ?_
                                                                                                  have ebY : begY s T = entY { bS s T with phase := 1 } (cFr 1 false T.value tgt T.frm (T.gas - intrN T) 0 T.data []) := by unfold begY; rw [if_neg (fun h9 => by have h8 := h9.2; rw [hTg] at h8; have h7 : tknB (bS s T) tgt = false := cB9; rw [h7] at h8; cases h8), ebf]
                                                                                                  rw [ebY]
                                                                                                  exact ⟨rfl, _, _, G, ym168.wk (fun b hb => hb.elim id (fun h9 => .inr (Nat.le_trans hU9 h9)))⟩)))))))))))))))))))))))))))))))))))))))))))
end Go.Proofs.YgvaawGreat
