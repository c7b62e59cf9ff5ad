import Derived.Test.YgvaawGreatY36
set_option maxRecDepth 100000
set_option maxHeartbeats 4000000
set_option linter.unusedSimpArgs false
set_option linter.unusedVariables false
namespace Go.Proofs.YgvaawGreat
open Go
theorem yp_leave2 {w : World} {H : Store} (hF : Fz w H) (bs : Nat) (cs : Array Value) (s : YSt) (kS : Blk w bs cs) {bf N cap : Nat} (hs : SC H cs s (.slice (some ⟨bf, 0, none⟩) N cap)) {fs : Array Value} (kF : Blk w bf fs) (hNc : N ≤ cap) (hN : N < 60000) {u : YF} {vu : Value} (hTp : FC H fs (0 + (N - 1) * 60) u vu) (hv1 : vu.one1 = true) {ol : Option Nat} {vl : Value} (kL : LG w H ol vl s.now.logs) (hvl : cs[4]? = some vl) (q : Nat) (hq : q < 256) {vo : Value} {l : List Nat} (hO : BV H vo l) (lh : LvH s u l) (nbS : ¬ H.has bs) (dSF : bs ≠ bf) (hN2 : 2 ≤ N) {f : YF} {vm : Value} (hf : FC H fs (0 + (N - 1 - 1) * 60) f vm) {bm : Nat} (kM : MB w bm vm f.mem) (lM : bm < w.heap.size) (dMF : bm ≠ bf) (dSM : bs ≠ bm) (nbF : ¬ H.has bf) (nbM : ¬ H.has bm) (dL : ∀ b, ol = some b → b < w.heap.size ∧ b ≠ bs ∧ b ≠ bf ∧ b ≠ bm) (lp : LvP f u q l) :
    Ret 59 [.pointer (some ⟨bs, 0, none⟩), .int .u8 q, vo] w (fun v w' => v = .tuple #[] ∧ ∃ cs' fs' H' vl', Go (fun k => k = bs ∨ k = bf ∨ k = bm) w H w' H' ∧ Blk w' bs cs' ∧ SC H' cs' (lvS2 s u q l) (.slice (some ⟨bf, 0, none⟩) (N - 1) (N - 1)) ∧ Blk w' bf fs' ∧ FC H' fs' (0 + (N - 1 - 1) * 60) (lvP f u q l) vm ∧ Out fs fs' (0 + (N - 1 - 1) * 60) 60 ∧ MB w' bm vm (lvP f u q l).mem ∧ LG w' H' (if lvSt u q l = 0 then ol else none) vl' (lvW s u q l).logs ∧ cs'[4]? = some vl') := by
  obtain ⟨aa, ac, wa, wc, sa, sc, vr, la, lc, ta, tc, ma, mc, ga, gc, oa, oc, ra, rc, vlim, vtx, vleft, vpr, vtot, rS, rOr, rMd, hAc, hWA, hWS, hRf, hTm, hMd, hGn, hSr, hRt, hLm, hTx, hLf, hPr, hTt⟩ := hs.ex
  have so := hs.ok
  have so1 := so.accts
  have so2 := so.warmA
  have so3 := so.warmS
  have so4 := so.temps
  have so5 := so.start
  have so6 := so.logs
  have so7 := so.made
  have so8 := so.gone
  have so9 := so.ret
  have eC := hs.env
  have lS := kS.lt
  have lF := kF.lt
  have hv4 := rS 4 _ rfl
  obtain ⟨r6, hr6l, hr6, hr6o, hf6⟩ := hTp.row60 hv1
  obtain ⟨xpc, xgas, xval, xoo, xol, xka, xkc, xca, xcc, xia, xic, xwc, qF, qSe, qCa, qSv, ySv, yPc, yGa, yVa, yOf, yOl, ySt, yCo, yIn⟩ := hf6.ex
  obtain ⟨pa, pwa, pws, pr, pl, pt, pm, pg, rfl, zAc, zWA, zWS, zRf, zrb, zLg, zTm, zMd, zGn, pla, pln, rfl⟩ := ySv.ex
  obtain ⟨pa1, pa2, rfl, hpa, hpa'⟩ := zAc.val
  obtain ⟨pwa1, pwa2, rfl, hpwa, hpwa'⟩ := zWA.val
  obtain ⟨pws1, pws2, rfl, hpws, hpws'⟩ := zWS.val
  obtain ⟨pt1, pt2, rfl, hpt, hpt'⟩ := zTm.val
  obtain ⟨pm1, pm2, rfl, hpm, hpm'⟩ := zMd.val
  obtain ⟨pg1, pg2, rfl, hpg, hpg'⟩ := zGn.val
  obtain ⟨pr1, pr2, pr3, rfl⟩ := zRf.sl
  obtain ⟨xg1, xg2, xg3, rfl⟩ := yGa.sl
  obtain rfl : pln = u.saved.logs.length := zLg.cap.1
  have fo6 := hf6.ok
  have sv := lh.sv
  obtain ⟨oa9, oc9, rfl, hol, hol2⟩ := hO.sv.val
  have hl9 := lh.len
  obtain ⟨dp, hdp⟩ : ∃ x, Hid (x = depN u l) := ⟨_, ⟨rfl⟩⟩
  have hds : Hid (dp.2 = 0 ∨ dp.2 = 2 ∨ dp.2 = 10 ∨ dp.2 = 11) := ⟨by rw [hdp.out]; exact dep_st u l⟩
  have hdl : dp.1 ≤ u.gas := by rw [hdp.out]; exact dep_le u l
  obtain ⟨vpc, vgas, vval, voo, vol, ka, kc, ca, cc, ia, ic, svc, rF, rSe, rCa, rSv, hSv, hPc, hGa, hVa, hOf, hOl, hSt, hCo, hIn⟩ := hf.ex
  have fo := hf.ok
  have fo1 := fo.stack
  have fo2 := fo.code
  have fo3 := fo.input
  have fo4 := fo.mem
  have oF := Out.refl fs (0 + (N - 1 - 1) * 60) 60
  refine enter (n := 161) Hvaa.func59 rfl rfl (Nat.le_of_ble_eq_true rfl) ?_
  have U : Ch (fun k => k = bs ∨ k = bf ∨ k = bm) w w := Ch.refl _ w
  have G : Go (fun k => k = bs ∨ k = bf ∨ k = bm) w H w H := Go.refl hF
  have hL0 : Le H H := Le.refl H
  refine c_seq (fun K1 hK1 => ?_)
  exact (by
    refine c_draw Up 13 [(0, true), (1, true), (2, true), (3, true), (4, true), (5, true), (6, true), (7, true), (8, true), (9, true), (10, true), (11, true), (12, false), (13, false)] (by kernel_rfl) (fun w2 hu => ⟨Up.refl _, ?_⟩)
    replace G := G.tr (Go.ofUp hF hu)
    replace hF := hF.up hu
    replace kS := kS.up hu
    replace kF := kF.up hu
    replace kL := kL.up hu
    replace kM := kM.up hu
    replace U := U.tr hu
    have SU := Up.refl w2
    refine p_step (by exact rfl) (y_moveV (et g0 rfl)) ?_
    refine p_step (by exact rfl) (y_nil (et g0 rfl)) ?_
    refine p_step (by exact rfl) (y_fld fld_102_2 (et g0 rfl)) ?_
    refine p_step (by exact rfl) (y_load1 one_100 (et g0 rfl) (atS (kS.cell (rS 9 _ rfl)))) ?_
    refine p_step (by exact rfl) (y_moveV (et (gS rfl (gS rfl (gS rfl (gS rfl g0)))) rfl)) ?_
    refine p_step (by exact rfl) (y_nil (et g0 rfl)) ?_
    refine p_step (by exact rfl) (y_fld fld_102_2 (et g0 rfl)) ?_
    refine p_step (by exact rfl) (y_load1 one_100 (et g0 rfl) (atS (kS.cell (rS 9 _ rfl)))) ?_
    refine p_step (by exact rfl) (y_len Hvaa.underlying100 (et g0 rfl)) ?_
    refine p_step (by exact rfl) (y_sub (et g0 rfl) rfl (subIN (y := 1) ?_ ?_)) ?_
    omega
    omega
    refine p_step (by exact rfl) (y_idxSa rfl Hvaa.underlying100 sz_146 (et (gS rfl (gS rfl (gS rfl (gS rfl (gS rfl (gS rfl g0)))))) rfl) (et g0 rfl) ?_) ?_
    omega
    refine p_step (by exact rfl) (y_loadR agg_146 sz_146 (et g0 rfl) hr6l (atSR (kF.row hr6))) ?_
    refine p_eff (by exact rfl) (e_alloc zr_146) (fun v3 w3 h3 => ?_)
    obtain ⟨b3, rfl, n3⟩ := h3
    have f3 : w.heap.size ≤ b3 := Nat.le_trans U.size n3.fresh
    have nb3 := hF.nb n3.fresh
    have fS3 := Nat.le_trans SU.size n3.fresh
    replace G := G.tr (Go.ofUp hF n3.up)
    replace hF := hF.up n3.up
    replace kS := kS.up n3.up
    replace kF := kF.up n3.up
    replace kL := kL.up n3.up
    replace kM := kM.up n3.up
    replace U := U.tr n3.up
    have k3 := n3.blk
    refine ⟨.inr (SU.tr n3.up), ?_⟩
    replace SU := SU.tr n3.up
    exact (by
      refine p_effN (by exact rfl) (e_store sz_146 (et g0 rfl) (cellsV (et (gS rfl g0) rfl) rfl) hr6l (by exact hr6o) k3 (by exact Nat.le_of_ble_eq_true rfl)) (fun v4 w4 h4 => ?_)
      obtain ⟨rfl, x4⟩ := h4
      replace kS := kS.ch x4.ch (by first | omega | (omega))
      replace kF := kF.ch x4.ch (by first | omega | (omega))
      replace kL := kL.ch x4.ch (by first | omega | (intro q hq hm; have := dL q hq; omega))
      replace kM := kM.ch x4.ch (by first | omega | (omega))
      replace k3 := x4.blk.full (by rw [hr6l]; rfl)
      replace G := G.wr x4 (by first | exact .inr f3 | omega | (simp; omega)) nb3
      replace hF := G.fz
      replace U := U.st x4 (.inr f3)
      refine ⟨.inl rfl, ?_⟩
      refine p_nil ?_
      refine hK1 _ _ ?_
      refine fg4 2 1 0 6 (gS rfl (gS rfl (gS rfl (gS rfl (gS rfl (gS rfl (gS rfl (gS rfl (gS rfl (gS rfl (gS rfl (gS rfl (gS rfl (gS rfl (gS rfl g0))))))))))))))) (gS rfl (gS rfl (gS rfl (gS rfl (gS rfl (gS rfl (gS rfl (gS rfl (gS rfl (gS rfl (gS rfl (gS rfl (gS rfl (gS rfl g0)))))))))))))) (gS rfl (gS rfl (gS rfl (gS rfl (gS rfl (gS rfl (gS rfl (gS rfl (gS rfl (gS rfl (gS rfl (gS rfl (gS rfl g0))))))))))))) g0 (fun g => ?_)
      refine c_seq (fun K5 hK5 => ?_)
      exact (by
        refine c_region ?_
        refine l_step (y_fld fld_146_4 (et g0 rfl)) ?_
        refine l_step (y_load1 one_95 (et g0 rfl) (at1 (k3.cell (qF 4 _ rfl)))) ?_
        refine l_step (y_assignV (et g0 rfl)) ?_
        refine l_nil ?_
        refine hK5 _ _ ?_
        refine fg5 2 1 0 6 7 (gS rfl (gS rfl (gS rfl (gS rfl (gS rfl (gS rfl g0)))))) (gS rfl (gS rfl (gS rfl (gS rfl (gS rfl g0))))) (gS rfl (gS rfl (gS rfl (gS rfl g0)))) (gS rfl (gS rfl (gS rfl g0))) g0 (fun g => ?_)
        refine c_seq (fun K6 hK6 => ?_)
        exact (by
          refine c_region ?_
          refine l_step (y_fld fld_146_0 (et (gS rfl g0) rfl)) ?_
          refine l_step (y_load1 one_5 (et g0 rfl) (at1 (k3.cell (qF 0 _ rfl)))) ?_
          refine l_eff (e_callV cal_132 (aC (et g0 rfl) aN) (yp_creates _ _)) (fun v7 w7 h7 => ?_)
          obtain ⟨rfl, u7⟩ := h7
          replace G := G.tr (Go.ofUp hF u7)
          replace hF := hF.up u7
          replace k3 := k3.up u7
          replace kS := kS.up u7
          replace kF := kF.up u7
          replace kL := kL.up u7
          replace kM := kM.up u7
          replace U := U.tr u7
          refine l_step (y_assignV (et g0 rfl)) ?_
          refine l_nil ?_
          refine hK6 _ _ ?_
          refine fg6 2 1 0 6 7 8 (gS rfl (gS rfl (gS rfl (gS rfl (gS rfl (gS rfl (gS rfl (gS rfl g0)))))))) (gS rfl (gS rfl (gS rfl (gS rfl (gS rfl (gS rfl (gS rfl g0))))))) (gS rfl (gS rfl (gS rfl (gS rfl (gS rfl (gS rfl g0)))))) (gS rfl (gS rfl (gS rfl (gS rfl (gS rfl g0))))) (gS rfl (gS rfl (gS rfl (gS rfl g0)))) g0 (fun g => ?_)
          refine c_seq (fun K8 hK8 => ?_)
          refine c_seq (fun K9 hK9 => ?_)
          exact (by
            refine c_region ?_
            refine l_step (y_moveV (et g0 rfl)) ?_
            refine l_step (y_moveV (et g0 rfl)) ?_
            refine gsplitL (i := 31) g0 (fun q10 => ?_) (fun q10 => ?_)
            · skip
              have hcr : crN u.kind = true := by simpa using q10
              refine l_gstep (j := 1) (t := 31) (by exact rfl) (by exact rfl) (et g0 rfl) (by decide) (y_moveV (et (gS rfl (gS rfl (gS rfl (gS rfl (gS rfl (gS rfl (gS rfl g0))))))) rfl)) ?_
              refine l_gstep (j := 1) (t := 31) (by exact rfl) (by exact rfl) (et (gS rfl g0) rfl) (by decide) (y_eql (et g0 rfl) rfl) ?_
              refine l_step (y_pickT (et (gS rfl (gS rfl g0)) rfl) (et g0 rfl)) ?_
              refine l_nil ?_
              refine hK9 _ _ ?_
              refine fg7 2 1 0 6 7 8 34 (gS rfl (gS rfl (gS rfl (gS rfl (gS rfl (gS rfl (gS rfl (gS rfl (gS rfl (gS rfl (gS rfl g0))))))))))) (gS rfl (gS rfl (gS rfl (gS rfl (gS rfl (gS rfl (gS rfl (gS rfl (gS rfl (gS rfl g0)))))))))) (gS rfl (gS rfl (gS rfl (gS rfl (gS rfl (gS rfl (gS rfl (gS rfl (gS rfl g0))))))))) (gS rfl (gS rfl (gS rfl (gS rfl (gS rfl (gS rfl (gS rfl (gS rfl g0)))))))) (gS rfl (gS rfl (gS rfl (gS rfl (gS rfl (gS rfl (gS rfl g0))))))) (gS rfl (gS rfl (gS rfl (gS rfl (gS rfl (gS rfl g0)))))) g0 (fun g => ?_)
              refine c_cond (et g0 rfl) (fun cB1 => ?_) (fun cB1 => ?_)
              · skip
                
                have hq0 : q = 0 := by have := of_decide_eq_true cB1; omega
                have hS : lvSt u q l = dp.2 := by rw [lvSt, if_pos ⟨hcr, hq0⟩, hdp.out]
                refine c_seq (fun K12 hK12 => ?_)
                exact (by
                  refine c_region ?_
                  refine l_step (y_moveV (et (gS rfl (gS rfl (gS rfl (gS rfl (gS rfl (gS rfl g0)))))) rfl)) ?_
                  refine l_eff (e_callV cal_141 (aC (et (gS rfl (gS rfl (gS rfl (gS rfl g0)))) rfl) (aC (et g0 rfl) aN)) (yp_deposit hF _ _ _ _ _ k3 (hf6.mono hL0) (hO.mono hL0) hl9)) (fun v13 w13 h13 => ?_)
                  obtain ⟨vg13, H13, rfl, g13, n13⟩ := h13
                  rw [← hdp.out] at n13 ⊢
                  have hlew13 := g13.le
                  replace nb3 := g13.nb nb3 k3.lt
                  replace nbS := g13.nb nbS kS.lt
                  replace nbF := g13.nb nbF kF.lt
                  replace nbM := g13.nb nbM (Nat.lt_of_lt_of_le lM U.size)
                  replace hL0 := hL0.trans hlew13
                  replace k3 := k3.up g13.up
                  replace kS := kS.up g13.up
                  replace kF := kF.up g13.up
                  replace kL := kL.up g13.up
                  replace kM := kM.up g13.up
                  replace U := U.tr g13.up
                  replace G := G.tr g13
                  replace hF := g13.fz
                  refine l_step (y_moveV (et g0 rfl)) ?_
                  refine l_step (y_ext (et g0 rfl) rfl) ?_
                  refine l_step (y_ext (et (gS rfl g0) rfl) rfl) ?_
                  refine l_step (y_assignV (et (gS rfl g0) rfl)) ?_
                  refine l_step (y_assignV (et (gS rfl g0) rfl)) ?_
                  refine l_nil ?_
                  refine hK12 _ _ ?_
                  refine fg6 2 1 0 6 7 8 (gS rfl (gS rfl (gS rfl (gS rfl (gS rfl (gS rfl (gS rfl (gS rfl (gS rfl (gS rfl (gS rfl (gS rfl (gS rfl g0))))))))))))) g0 (gS rfl (gS rfl (gS rfl (gS rfl (gS rfl (gS rfl (gS rfl (gS rfl (gS rfl (gS rfl (gS rfl g0))))))))))) (gS rfl (gS rfl (gS rfl (gS rfl (gS rfl (gS rfl (gS rfl (gS rfl (gS rfl (gS rfl g0)))))))))) (gS rfl g0) (gS rfl (gS rfl (gS rfl (gS rfl (gS rfl (gS rfl (gS rfl (gS rfl g0)))))))) (fun g => ?_)
                  refine c_seq (fun K14 hK14 => ?_)
                  exact (by
                    refine c_region ?_
                    refine l_step (y_moveV (et (gS rfl (gS rfl (gS rfl (gS rfl g0)))) rfl)) ?_
                    refine l_step (y_eql (et g0 rfl) rfl) ?_
                    refine l_nil ?_
                    refine hK14 _ _ ?_
                    refine fg7 2 1 0 6 7 8 41 (gS rfl (gS rfl (gS rfl (gS rfl (gS rfl (gS rfl (gS rfl g0))))))) (gS rfl (gS rfl (gS rfl (gS rfl (gS rfl (gS rfl g0)))))) (gS rfl (gS rfl (gS rfl (gS rfl (gS rfl g0))))) (gS rfl (gS rfl (gS rfl (gS rfl g0)))) (gS rfl (gS rfl (gS rfl g0))) (gS rfl (gS rfl g0)) g0 (fun g => ?_)
                    refine c_cond (et g0 rfl) (fun cB2 => ?_) (fun cB2 => ?_)
                    · skip
                      
                      have hd0 : dp.2 = 0 := by have := of_decide_eq_true cB2; omega
                      refine c_seq (fun K16 hK16 => ?_)
                      refine c_seq (fun K17 hK17 => ?_)
                      exact (by
                        refine c_region ?_
                        refine l_step (y_moveV (et (gS rfl (gS rfl (gS rfl (gS rfl (gS rfl (gS rfl g0)))))) rfl)) ?_
                        refine l_step (y_len Hvaa.underlying38 (et g0 rfl)) ?_
                        refine l_step (y_gtr (et g0 rfl) rfl) ?_
                        refine l_nil ?_
                        refine hK17 _ _ ?_
                        refine fg7 2 1 0 6 7 8 44 (gS rfl (gS rfl (gS rfl (gS rfl (gS rfl (gS rfl (gS rfl (gS rfl (gS rfl g0))))))))) (gS rfl (gS rfl (gS rfl (gS rfl (gS rfl (gS rfl (gS rfl (gS rfl g0)))))))) (gS rfl (gS rfl (gS rfl (gS rfl (gS rfl (gS rfl (gS rfl g0))))))) (gS rfl (gS rfl (gS rfl (gS rfl (gS rfl (gS rfl g0)))))) (gS rfl (gS rfl (gS rfl (gS rfl (gS rfl g0))))) (gS rfl (gS rfl (gS rfl (gS rfl g0)))) g0 (fun g => ?_)
                        refine c_cond (et g0 rfl) (fun cB3 => ?_) (fun cB3 => ?_)
                        · skip
                          
                          have hlp : 0 < l.length := by have := of_decide_eq_true cB3; omega
                          refine c_seq (fun K19 hK19 => ?_)
                          exact (by
                            refine fgv6 0 1 2 6 7 8 (gS rfl (gS rfl (gS rfl (gS rfl g0)))) (gS rfl (gS rfl (gS rfl (gS rfl (gS rfl g0))))) (gS rfl (gS rfl (gS rfl (gS rfl (gS rfl (gS rfl g0)))))) (gS rfl (gS rfl (gS rfl g0))) (gS rfl (gS rfl g0)) (gS rfl g0) (fun g z0 z1 z2 z6 z7 z8 e0 e1 e2 e6 e7 e8 => ?_)
                            refine c_drawJ (fun s_ w_ => ∃ (g : Nat → Value) (b22 : Nat) (ca20 : List Value), s_ = (upd (upd (upd (upd (upd (upd (upd g 0 z0) 1 z1) 2 z2) 6 z6) 7 z7) 8 z8) 9 (.pointer (some ⟨b22, 0, none⟩))) ∧ Ch (fun _ => False) w13 w_ ∧ w13.heap.size ≤ b22 ∧ Blk w_ b22 (ca20.toArray) ∧ (PA H13 ca20 (acctAt s.now.accts u.self))) Up 7 (.pure 0 (.pure 1 (.pure 2 (.pure 3 (.pure 4 (.two 5 (.eff 6 (.eff 7 .fin)) 6 (.eff 5 (.eff 7 .fin)))))))) (by kernel_rfl) (fun w23 hu => ⟨Up.refl _, ?_⟩) ?_
                            · skip
                              subst e0 e1 e2 e6 e7 e8
                              replace G := G.tr (Go.ofUp hF hu)
                              replace hF := hF.up hu
                              replace k3 := k3.up hu
                              replace kS := kS.up hu
                              replace kF := kF.up hu
                              replace kL := kL.up hu
                              replace kM := kM.up hu
                              replace U := U.tr hu
                              have SU := Up.refl w23
                              have V21 : Ch (fun _ => False) w13 w23 := hu
                              refine t_step (by exact rfl) (y_moveV (et (gS rfl (gS rfl (gS rfl (gS rfl (gS rfl g0))))) rfl)) ?_
                              refine t_step (by exact rfl) (y_nil (et g0 rfl)) ?_
                              refine t_step (by exact rfl) (y_fld fld_102_0 (et g0 rfl)) ?_
                              refine t_step (by exact rfl) (y_fld fld_146_12 (et (gS rfl (gS rfl (gS rfl (gS rfl (gS rfl g0))))) rfl)) ?_
                              refine t_step (by exact rfl) (y_loadR agg_25 sz_25 (et g0 rfl) (by rw [length_bL, length_be]) (atSR (k3.row qSe))) ?_
                              refine t_two ?_ ?_
                              · skip
                                refine t_eff (by exact rfl) (e_callV cal_43 (aC (et (gS rfl (gS rfl g0)) rfl) (aC (et g0 rfl) aN)) (yp_account _ _ _ _ _ _ _ _ _ hF kS (rS 0 _ rfl) (hAc.mono hL0) fo6.self (by omega))) (fun v24 w24 h24 => ?_)
                                obtain ⟨c24, rfl, p24, u24⟩ := h24
                                replace G := G.tr (Go.ofUp hF u24)
                                replace hF := hF.up u24
                                replace k3 := k3.up u24
                                replace kS := kS.up u24
                                replace kF := kF.up u24
                                replace kL := kL.up u24
                                replace kM := kM.up u24
                                replace U := U.tr u24
                                replace V21 := V21.tr u24
                                replace p24 : PA _ _ _ := ⟨p24⟩
                                refine ⟨.inr (SU.tr u24), ?_⟩
                                replace SU := SU.tr u24
                                refine t_one ?_
                                refine t_eff (by exact rfl) (e_alloc zr_107) (fun v25 w25 h25 => ?_)
                                obtain ⟨b25, rfl, n25⟩ := h25
                                have d3_25 : b3 < b25 := Nat.lt_of_lt_of_le k3.lt n25.fresh
                                have f25 : w.heap.size ≤ b25 := Nat.le_trans U.size n25.fresh
                                have nb25 := hF.nb n25.fresh
                                have fS25 := Nat.le_trans SU.size n25.fresh
                                have fV21_25 := Nat.le_trans V21.size n25.fresh
                                replace G := G.tr (Go.ofUp hF n25.up)
                                replace hF := hF.up n25.up
                                replace k3 := k3.up n25.up
                                replace kS := kS.up n25.up
                                replace kF := kF.up n25.up
                                replace kL := kL.up n25.up
                                replace kM := kM.up n25.up
                                replace U := U.tr n25.up
                                replace V21 := V21.tr n25.up
                                have k25 := n25.blk
                                refine ⟨.inr (SU.tr n25.up), ?_⟩
                                replace SU := SU.tr n25.up
                                refine t_one ?_
                                refine t_effN (by exact rfl) (e_store sz_107 (et g0 rfl) (cellsV (et (gS rfl g0) rfl) rfl) (acct_len p24.p) (by exact acct_one p24.p) k25 (by exact Nat.le_of_ble_eq_true rfl)) (fun v26 w26 h26 => ?_)
                                obtain ⟨rfl, x26⟩ := h26
                                replace k3 := k3.ch x26.ch (by omega)
                                replace kS := kS.ch x26.ch (by first | omega | (omega))
                                replace kF := kF.ch x26.ch (by first | omega | (omega))
                                replace kL := kL.ch x26.ch (by first | omega | (intro q hq hm; have := dL q hq; omega))
                                replace kM := kM.ch x26.ch (by first | omega | (omega))
                                replace k25 := x26.blk.full (by rw [acct_len p24.p]; rfl)
                                replace G := G.wr x26 (by first | exact .inr f25 | omega | (simp; omega)) nb25
                                replace hF := G.fz
                                replace U := U.st x26 (.inr f25)
                                replace V21 := V21.st x26 (by omega)
                                refine ⟨.inl rfl, ?_⟩
                                refine tl7 0 1 2 6 7 8 9 (gS rfl (gS rfl (gS rfl (gS rfl (gS rfl (gS rfl (gS rfl (gS rfl (gS rfl (gS rfl (gS rfl (gS rfl g0)))))))))))) (gS rfl (gS rfl (gS rfl (gS rfl (gS rfl (gS rfl (gS rfl (gS rfl (gS rfl (gS rfl (gS rfl g0))))))))))) (gS rfl (gS rfl (gS rfl (gS rfl (gS rfl (gS rfl (gS rfl (gS rfl (gS rfl (gS rfl g0)))))))))) (gS rfl (gS rfl (gS rfl (gS rfl (gS rfl (gS rfl (gS rfl (gS rfl (gS rfl g0))))))))) (gS rfl (gS rfl (gS rfl (gS rfl (gS rfl (gS rfl (gS rfl (gS rfl g0)))))))) (gS rfl (gS rfl (gS rfl (gS rfl (gS rfl (gS rfl (gS rfl g0))))))) g0 (fun g => ?_)
                                exact ⟨g, _, _, rfl, V21, Nat.le_trans hu.size fS25, k25, p24⟩
                              · skip
                                refine t_eff (by exact rfl) (e_alloc zr_107) (fun v27 w27 h27 => ?_)
                                obtain ⟨b27, rfl, n27⟩ := h27
                                have d3_27 : b3 < b27 := Nat.lt_of_lt_of_le k3.lt n27.fresh
                                have f27 : w.heap.size ≤ b27 := Nat.le_trans U.size n27.fresh
                                have nb27 := hF.nb n27.fresh
                                have fS27 := Nat.le_trans SU.size n27.fresh
                                have fV21_27 := Nat.le_trans V21.size n27.fresh
                                replace G := G.tr (Go.ofUp hF n27.up)
                                replace hF := hF.up n27.up
                                replace k3 := k3.up n27.up
                                replace kS := kS.up n27.up
                                replace kF := kF.up n27.up
                                replace kL := kL.up n27.up
                                replace kM := kM.up n27.up
                                replace U := U.tr n27.up
                                replace V21 := V21.tr n27.up
                                have k27 := n27.blk
                                refine ⟨.inr (SU.tr n27.up), ?_⟩
                                replace SU := SU.tr n27.up
                                refine t_one ?_
                                refine t_eff (by exact rfl) (e_callV cal_43 (aC (et (gS rfl (gS rfl (gS rfl g0))) rfl) (aC (et (gS rfl g0) rfl) aN)) (yp_account _ _ _ _ _ _ _ _ _ hF kS (rS 0 _ rfl) (hAc.mono hL0) fo6.self (by omega))) (fun v28 w28 h28 => ?_)
                                obtain ⟨c28, rfl, p28, u28⟩ := h28
                                replace G := G.tr (Go.ofUp hF u28)
                                replace hF := hF.up u28
                                replace k3 := k3.up u28
                                replace k27 := k27.up u28
                                replace kS := kS.up u28
                                replace kF := kF.up u28
                                replace kL := kL.up u28
                                replace kM := kM.up u28
                                replace U := U.tr u28
                                replace V21 := V21.tr u28
                                replace p28 : PA _ _ _ := ⟨p28⟩
                                refine ⟨.inr (SU.tr u28), ?_⟩
                                replace SU := SU.tr u28
                                refine t_one ?_
                                refine t_effN (by exact rfl) (e_store sz_107 (et (gS rfl g0) rfl) (cellsV (et g0 rfl) rfl) (acct_len p28.p) (by exact acct_one p28.p) k27 (by exact Nat.le_of_ble_eq_true rfl)) (fun v29 w29 h29 => ?_)
                                obtain ⟨rfl, x29⟩ := h29
                                replace k3 := k3.ch x29.ch (by omega)
                                replace kS := kS.ch x29.ch (by first | omega | (omega))
                                replace kF := kF.ch x29.ch (by first | omega | (omega))
                                replace kL := kL.ch x29.ch (by first | omega | (intro q hq hm; have := dL q hq; omega))
                                replace kM := kM.ch x29.ch (by first | omega | (omega))
                                replace k27 := x29.blk.full (by rw [acct_len p28.p]; rfl)
                                replace G := G.wr x29 (by first | exact .inr f27 | omega | (simp; omega)) nb27
                                replace hF := G.fz
                                replace U := U.st x29 (.inr f27)
                                replace V21 := V21.st x29 (by omega)
                                refine ⟨.inl rfl, ?_⟩
                                refine tl7 0 1 2 6 7 8 9 (gS rfl (gS rfl (gS rfl (gS rfl (gS rfl (gS rfl (gS rfl (gS rfl (gS rfl (gS rfl (gS rfl (gS rfl g0)))))))))))) (gS rfl (gS rfl (gS rfl (gS rfl (gS rfl (gS rfl (gS rfl (gS rfl (gS rfl (gS rfl (gS rfl g0))))))))))) (gS rfl (gS rfl (gS rfl (gS rfl (gS rfl (gS rfl (gS rfl (gS rfl (gS rfl (gS rfl g0)))))))))) (gS rfl (gS rfl (gS rfl (gS rfl (gS rfl (gS rfl (gS rfl (gS rfl (gS rfl g0))))))))) (gS rfl (gS rfl (gS rfl (gS rfl (gS rfl (gS rfl (gS rfl (gS rfl g0)))))))) (gS rfl (gS rfl (gS rfl (gS rfl (gS rfl (gS rfl (gS rfl g0))))))) (gS rfl g0) (fun g => ?_)
                                exact ⟨g, _, _, rfl, V21, Nat.le_trans hu.size fS27, k27, p28⟩
                            intro s_ w30 hJ
                            obtain ⟨g, b22, ca20, rfl, V21, fn22, kn22, pa20⟩ := hJ
                            subst e0 e1 e2 e6 e7 e8
                            have d3_22 : b3 < b22 := Nat.lt_of_lt_of_le k3.lt fn22
                            have f22 : w.heap.size ≤ b22 := Nat.le_trans U.size fn22
                            have nb22 := hF.nb fn22
                            replace G := G.tr (Go.ofUp hF V21)
                            replace hF := hF.up V21
                            replace k3 := k3.up V21
                            replace kS := kS.up V21
                            replace kF := kF.up V21
                            replace kL := kL.up V21
                            replace kM := kM.up V21
                            replace U := U.tr V21
                            have k22 := kn22
                            refine hK19 _ _ ?_
                            refine c_seq (fun K31 hK31 => ?_)
                            exact (by
                              refine c_region ?_
                              refine l_step (y_moveV (et (gS rfl (gS rfl (gS rfl (gS rfl g0)))) rfl)) ?_
                              refine l_step (y_fld fld_107_3 (et (gS rfl g0) rfl)) ?_
                              obtain ⟨vn9, vb9, vc9, vs9, hc9, hn9, hb9, hcd9, hb19, hb29⟩ := acct_form pa20.p
                              have hP9 := acct_code pa20.p hc9 (hO.mono hL0) (by omega)
                              have hl29 := acct_len hP9
                              rw [hc9] at k22
                              refine l_effN (e_store sz_38 (et g0 rfl) (cellsV (et (gS rfl g0) rfl) rfl) rfl (by exact one_one rfl) k22 (by (rw [List.size_toArray, List.length_append, length_bL, length_be]; exact Nat.le_of_ble_eq_true rfl))) (fun v32 w32 h32 => ?_)
                              obtain ⟨rfl, x32⟩ := h32
                              replace k3 := k3.ch x32.ch (by omega)
                              replace kS := kS.ch x32.ch (by first | omega | (omega))
                              replace kF := kF.ch x32.ch (by first | omega | (omega))
                              replace kL := kL.ch x32.ch (by first | omega | (intro q hq hm; have := dL q hq; omega))
                              replace kM := kM.ch x32.ch (by first | omega | (omega))
                              replace k22 := x32.blk
                              replace G := G.wr x32 (by first | exact .inr f22 | omega | (simp; omega)) nb22
                              replace hF := G.fz
                              replace U := U.st x32 (.inr f22)
                              rw [show (0 + 22 : Nat) = 22 from rfl, set22] at k22
                              replace hP9 : PA _ _ _ := ⟨hP9⟩
                              refine l_nil ?_
                              refine hK31 _ _ ?_
                              refine fg6 0 1 6 7 8 9 (gS rfl (gS rfl (gS rfl (gS rfl (gS rfl (gS rfl (gS rfl (gS rfl g0)))))))) (gS rfl (gS rfl (gS rfl (gS rfl (gS rfl (gS rfl (gS rfl g0))))))) (gS rfl (gS rfl (gS rfl (gS rfl (gS rfl g0))))) (gS rfl (gS rfl (gS rfl (gS rfl g0)))) (gS rfl (gS rfl (gS rfl g0))) (gS rfl (gS rfl g0)) (fun g => ?_)
                              refine c_draw Up 4 [(0, true), (1, true), (2, true), (3, true), (4, false)] (by kernel_rfl) (fun w33 hu => ⟨Up.refl _, ?_⟩)
                              replace G := G.tr (Go.ofUp hF hu)
                              replace hF := hF.up hu
                              replace k3 := k3.up hu
                              replace k22 := k22.up hu
                              replace kS := kS.up hu
                              replace kF := kF.up hu
                              replace kL := kL.up hu
                              replace kM := kM.up hu
                              replace U := U.tr hu
                              have SU := Up.refl w33
                              exact (by
                                refine p_step (by exact rfl) (y_moveV (et (gS rfl (gS rfl (gS rfl (gS rfl (gS rfl g0))))) rfl)) ?_
                                refine p_step (by exact rfl) (y_nil (et g0 rfl)) ?_
                                refine p_step (by exact rfl) (y_fld fld_102_0 (et g0 rfl)) ?_
                                refine p_step (by exact rfl) (y_loadB agg_107 sz_107 (et (gS rfl (gS rfl (gS rfl g0))) rfl) (by rw [List.size_toArray, hl29]) (atSB k22)) ?_
                                refine p_eff (by exact rfl) (e_callV cal_127 (aC (et (gS rfl g0) rfl) (aC (et g0 rfl) aN)) (yp_put _ _ _ _ _ _ _ _ _ _ hF kS nbS (rS 0 _ rfl) (hAc.mono hL0) hP9.p (by omega))) (fun v34 w34 h34 => ?_)
                                obtain ⟨rfl, z34, H34, g34, lv34, kx34⟩ := h34
                                have hlew34 := g34.le
                                replace nb3 := g34.nb nb3 k3.lt
                                replace nb22 := g34.nb nb22 k22.lt
                                replace nbS := g34.nb nbS kS.lt
                                replace nbF := g34.nb nbF kF.lt
                                replace nbM := g34.nb nbM (Nat.lt_of_lt_of_le lM U.size)
                                replace n13 := n13.mono hlew34
                                replace pa20 := pa20.mono hlew34
                                replace hP9 := hP9.mono hlew34
                                replace hL0 := hL0.trans hlew34
                                replace k3 := k3.ch g34.ch (by omega)
                                replace k22 := k22.ch g34.ch (by omega)
                                replace kF := kF.ch g34.ch (by omega)
                                replace kL := kL.ch g34.ch (by intro q hq hm; have := dL q hq; omega)
                                replace kM := kM.ch g34.ch (by omega)
                                replace kS := kx34
                                replace U := U.cc g34.ch (by intro b hb; first | omega | exact .inl hb | exact .inr (hb ▸ U))
                                replace G := G.trans g34 (by intro b hb; first | omega | exact .inl hb | (simp at hb ⊢; omega))
                                replace hF := g34.fz
                                obtain ⟨xa34, xc34, rfl, hxl34, hxc34⟩ := lv34.val
                                replace eC := kS.eset eC (by omega)
                                replace rS : RowIn _ _ [_, .slice wa s.now.warmA.length wc, .slice sa s.now.warmS.length sc, vr, .slice la s.now.logs.length lc, .slice ta s.now.temps.length tc, .slice ma s.now.made.length mc, .slice ga s.now.gone.length gc, .slice oa s.start.length oc, .slice (some ⟨bf, 0, none⟩) N cap, .slice ra s.ret.length rc, .int .u8 (s.phase : Nat), .int .u8 (s.status : Nat), .int .u8 (s.applied : Nat), vlim, vtx, vleft, vpr, vtot] := kS.rset rS 0 rfl
                                replace rOr := kS.rseto rOr (by first | (left; omega) | (right; simp only [List.length_cons, List.length_nil, length_bL, length_be]; omega))
                                replace rMd := kS.rseto rMd (by first | (left; omega) | (right; simp only [List.length_cons, List.length_nil, length_bL, length_be]; omega))
                                refine ⟨.inl rfl, ?_⟩
                                refine p_nil ?_
                                refine hK16 _ _ ?_
                                refine fg5 0 1 6 7 8 (gS rfl (gS rfl (gS rfl (gS rfl (gS rfl (gS rfl (gS rfl (gS rfl (gS rfl (gS rfl g0)))))))))) (gS rfl (gS rfl (gS rfl (gS rfl (gS rfl (gS rfl (gS rfl (gS rfl (gS rfl g0))))))))) (gS rfl (gS rfl (gS rfl (gS rfl (gS rfl (gS rfl (gS rfl (gS rfl g0)))))))) (gS rfl (gS rfl (gS rfl (gS rfl (gS rfl (gS rfl (gS rfl g0))))))) (gS rfl (gS rfl (gS rfl (gS rfl (gS rfl (gS rfl g0)))))) (fun g => ?_)
                                refine c_region ?_
                                exact (by
                                  refine l_step y_assignC ?_
                                  refine l_nil ?_
                                  refine hK8 _ _ ?_
                                  refine c_seq (fun K35 hK35 => ?_)
                                  refine c_seq (fun K36 hK36 => ?_)
                                  exact (by
                                    refine c_region ?_
                                    refine l_step (y_moveV (et (gS rfl (gS rfl (gS rfl (gS rfl g0)))) rfl)) ?_
                                    refine l_step (y_neq (et g0 rfl) rfl) ?_
                                    refine l_nil ?_
                                    refine hK36 _ _ ?_
                                    refine fg7 0 1 6 7 8 2 59 (gS rfl (gS rfl (gS rfl (gS rfl (gS rfl (gS rfl (gS rfl g0))))))) (gS rfl (gS rfl (gS rfl (gS rfl (gS rfl (gS rfl g0)))))) (gS rfl (gS rfl (gS rfl (gS rfl (gS rfl g0))))) (gS rfl (gS rfl (gS rfl (gS rfl g0)))) (gS rfl (gS rfl (gS rfl g0))) (gS rfl (gS rfl g0)) g0 (fun g => ?_)
                                    refine c_cond (et g0 rfl) (fun cB4 => ?_) (fun cB4 => ?_)
                                    · skip
                                      
                                      have := of_decide_eq_true cB4; omega
                                    · skip
                                      
                                      refine c_skip ?_
                                      refine hK35 _ _ ?_
                                      refine fg6 0 1 6 7 8 2 (gS rfl (gS rfl (gS rfl (gS rfl (gS rfl (gS rfl g0)))))) (gS rfl (gS rfl (gS rfl (gS rfl (gS rfl g0))))) (gS rfl (gS rfl (gS rfl (gS rfl g0)))) (gS rfl (gS rfl (gS rfl g0))) (gS rfl (gS rfl g0)) (gS rfl g0) (fun g => ?_)
                                      refine c_seq (fun K38 hK38 => ?_)
                                      refine c_seq (fun K39 hK39 => ?_)
                                      exact (by
                                        refine c_region ?_
                                        refine l_step (y_moveV (et (gS rfl (gS rfl (gS rfl (gS rfl g0)))) rfl)) ?_
                                        refine l_step (y_gtr (et g0 rfl) rfl) ?_
                                        refine l_nil ?_
                                        refine hK39 _ _ ?_
                                        refine fg7 0 1 6 7 8 2 66 (gS rfl (gS rfl (gS rfl (gS rfl (gS rfl (gS rfl (gS rfl g0))))))) (gS rfl (gS rfl (gS rfl (gS rfl (gS rfl (gS rfl g0)))))) (gS rfl (gS rfl (gS rfl (gS rfl (gS rfl g0))))) (gS rfl (gS rfl (gS rfl (gS rfl g0)))) (gS rfl (gS rfl (gS rfl g0))) (gS rfl (gS rfl g0)) g0 (fun g => ?_)
                                        refine c_cond (et g0 rfl) (fun cB5 => ?_) (fun cB5 => ?_)
                                        · skip
                                          
                                          have := of_decide_eq_true cB5; omega
                                        · skip
                                          
                                          refine c_skip ?_
                                          refine hK38 _ _ ?_
                                          refine fg6 0 1 6 7 8 2 (gS rfl (gS rfl (gS rfl (gS rfl (gS rfl (gS rfl g0)))))) (gS rfl (gS rfl (gS rfl (gS rfl (gS rfl g0))))) (gS rfl (gS rfl (gS rfl (gS rfl g0)))) (gS rfl (gS rfl (gS rfl g0))) (gS rfl (gS rfl g0)) (gS rfl g0) (fun g => ?_)
                                          refine c_seq (fun K41 hK41 => ?_)
                                          exact (by
                                            refine c_region ?_
                                            refine l_step (y_moveV (et (gS rfl (gS rfl (gS rfl (gS rfl (gS rfl g0))))) rfl)) ?_
                                            refine l_step (y_moveV (et (gS rfl g0) rfl)) ?_
                                            refine l_step (y_nil (et (gS rfl g0) rfl)) ?_
                                            refine l_step (y_fld fld_102_3 (et g0 rfl)) ?_
                                            have rl42 := RowIn.le rS (Nat.succ_pos _)
                                            simp only [List.length_cons, List.length_nil, Nat.zero_add, Nat.reduceAdd] at rl42
                                            refine l_effN (e_store sz_38 (et g0 rfl) (cellsV (et (gS rfl (gS rfl g0)) rfl) rfl) rfl (by first | exact one_bL _ | exact one_uL _ | (intro v hv; simp at hv; subst hv; rfl)) kS (by first | exact Nat.le_trans (by omega) rl42 | exact Nat.le_of_ble_eq_true rfl | (simp; done) | (simp; omega) | omega | (simp only [size_spl, Array.size_setIfInBounds, hs.size]; exact Nat.le_of_ble_eq_true rfl))) (fun v42 w42 h42 => ?_)
                                            obtain ⟨rfl, x42⟩ := h42
                                            replace k3 := k3.ch x42.ch (by omega)
                                            replace k22 := k22.ch x42.ch (by omega)
                                            replace kF := kF.ch x42.ch (by omega)
                                            replace kL := kL.ch x42.ch (by intro q hq hm; have := dL q hq; omega)
                                            replace kM := kM.ch x42.ch (by omega)
                                            replace kS := x42.blk
                                            replace G := G.wr x42 (.inl (by first | rfl | (simp; done))) nbS
                                            replace hF := G.fz
                                            replace U := U.st x42 (.inl (by first | rfl | (simp; done)))
                                            replace eC := kS.eput eC (by omega)
                                            replace rS : RowIn _ _ [_, .slice wa s.now.warmA.length wc, .slice sa s.now.warmS.length sc, vr, .slice la s.now.logs.length lc, .slice ta s.now.temps.length tc, .slice ma s.now.made.length mc, .slice ga s.now.gone.length gc, .slice oa s.start.length oc, .slice (some ⟨bf, 0, none⟩) N cap, _, .int .u8 (s.phase : Nat), .int .u8 (s.status : Nat), .int .u8 (s.applied : Nat), vlim, vtx, vleft, vpr, vtot] := kS.rput rS 10 rfl
                                            replace rOr := kS.rputo rOr (by first | (left; omega) | (right; simp only [List.length_cons, List.length_nil, length_bL, length_be]; omega))
                                            replace rMd := kS.rputo rMd (by first | (left; omega) | (right; simp only [List.length_cons, List.length_nil, length_bL, length_be]; omega))
                                            refine l_nil ?_
                                            refine hK41 _ _ ?_
                                            refine fg6 0 1 6 7 8 2 (gS rfl (gS rfl (gS rfl (gS rfl (gS rfl (gS rfl (gS rfl (gS rfl (gS rfl g0))))))))) (gS rfl (gS rfl (gS rfl (gS rfl (gS rfl (gS rfl (gS rfl (gS rfl g0)))))))) (gS rfl (gS rfl (gS rfl (gS rfl (gS rfl (gS rfl (gS rfl g0))))))) (gS rfl (gS rfl (gS rfl (gS rfl (gS rfl (gS rfl g0)))))) (gS rfl (gS rfl (gS rfl (gS rfl (gS rfl g0))))) (gS rfl (gS rfl (gS rfl (gS rfl g0)))) (fun g => ?_)
                                            refine c_seq (fun K43 hK43 => ?_)
                                            exact (by
                                              refine c_draw Up 20 [(0, true), (1, true), (2, true), (3, true), (4, true), (5, true), (6, true), (7, true), (8, true), (9, true), (10, true), (11, true), (12, true), (13, true), (14, true), (15, true), (16, true), (17, true), (18, true), (19, true), (20, false)] (by kernel_rfl) (fun w44 hu => ⟨Up.refl _, ?_⟩)
                                              replace G := G.tr (Go.ofUp hF hu)
                                              replace hF := hF.up hu
                                              replace k3 := k3.up hu
                                              replace k22 := k22.up hu
                                              replace kS := kS.up hu
                                              replace kF := kF.up hu
                                              replace kL := kL.up hu
                                              replace kM := kM.up hu
                                              replace U := U.tr hu
                                              have SU := Up.refl w44
                                              refine p_step (by exact rfl) (y_moveV (et (gS rfl (gS rfl (gS rfl (gS rfl (gS rfl g0))))) rfl)) ?_
                                              refine p_step (by exact rfl) (y_moveV (et (gS rfl (gS rfl (gS rfl (gS rfl (gS rfl (gS rfl g0)))))) rfl)) ?_
                                              refine p_step (by exact rfl) (y_nil (et g0 rfl)) ?_
                                              refine p_step (by exact rfl) (y_fld fld_102_2 (et g0 rfl)) ?_
                                              refine p_step (by exact rfl) (y_load1 one_100 (et g0 rfl) (atS (kS.cell (rS 9 _ rfl)))) ?_
                                              refine p_step (by exact rfl) (y_moveV (et (gS rfl (gS rfl (gS rfl (gS rfl (gS rfl (gS rfl (gS rfl (gS rfl (gS rfl (gS rfl g0)))))))))) rfl)) ?_
                                              refine p_step (by exact rfl) (y_nil (et g0 rfl)) ?_
                                              refine p_step (by exact rfl) (y_fld fld_102_2 (et g0 rfl)) ?_
                                              refine p_step (by exact rfl) (y_load1 one_100 (et g0 rfl) (atS (kS.cell (rS 9 _ rfl)))) ?_
                                              refine p_step (by exact rfl) (y_len Hvaa.underlying100 (et g0 rfl)) ?_
                                              refine p_step (by exact rfl) (y_sub (et g0 rfl) rfl (subIN (y := 1) ?_ ?_)) ?_
                                              omega
                                              omega
                                              refine p_step (by exact rfl) (y_moveV (et (gS rfl (gS rfl (gS rfl (gS rfl (gS rfl (gS rfl (gS rfl (gS rfl (gS rfl (gS rfl (gS rfl (gS rfl (gS rfl (gS rfl (gS rfl (gS rfl g0)))))))))))))))) rfl)) ?_
                                              refine p_step (by exact rfl) (y_nil (et g0 rfl)) ?_
                                              refine p_step (by exact rfl) (y_fld fld_102_2 (et g0 rfl)) ?_
                                              refine p_step (by exact rfl) (y_load1 one_100 (et g0 rfl) (atS (kS.cell (rS 9 _ rfl)))) ?_
                                              refine p_step (by exact rfl) (y_len Hvaa.underlying100 (et g0 rfl)) ?_
                                              refine p_step (by exact rfl) (y_sub (et g0 rfl) rfl (subIN (y := 1) ?_ ?_)) ?_
                                              omega
                                              omega
                                              exact (by
                                                refine p_step (by exact rfl) (y_slS011n Hvaa.underlying100 sz_146 (et (gS rfl (gS rfl (gS rfl (gS rfl (gS rfl (gS rfl (gS rfl (gS rfl (gS rfl (gS rfl (gS rfl (gS rfl g0)))))))))))) rfl) (et (gS rfl (gS rfl (gS rfl (gS rfl (gS rfl (gS rfl g0)))))) rfl) (et g0 rfl) ?_ ?_) ?_
                                                omega
                                                omega
                                                refine p_step (by exact rfl) (y_nil (et (gS rfl (gS rfl (gS rfl (gS rfl (gS rfl (gS rfl (gS rfl (gS rfl (gS rfl (gS rfl (gS rfl (gS rfl (gS rfl (gS rfl (gS rfl (gS rfl (gS rfl g0))))))))))))))))) rfl)) ?_
                                                refine p_step (by exact rfl) (y_fld fld_102_2 (et g0 rfl)) ?_
                                                have rl45 := RowIn.le rS (Nat.succ_pos _)
                                                simp only [List.length_cons, List.length_nil, Nat.zero_add, Nat.reduceAdd] at rl45
                                                refine p_effN (by exact rfl) (e_store sz_100 (et g0 rfl) (cellsV (et (gS rfl (gS rfl g0)) rfl) rfl) rfl (by first | exact one_bL _ | exact one_uL _ | (intro v hv; simp at hv; subst hv; rfl)) kS (by first | exact Nat.le_trans (by omega) rl45 | exact Nat.le_of_ble_eq_true rfl | (simp; done) | (simp; omega) | omega | (simp only [size_spl, Array.size_setIfInBounds, hs.size]; exact Nat.le_of_ble_eq_true rfl))) (fun v45 w45 h45 => ?_)
                                                obtain ⟨rfl, x45⟩ := h45
                                                replace k3 := k3.ch x45.ch (by omega)
                                                replace k22 := k22.ch x45.ch (by omega)
                                                replace kF := kF.ch x45.ch (by omega)
                                                replace kL := kL.ch x45.ch (by intro q hq hm; have := dL q hq; omega)
                                                replace kM := kM.ch x45.ch (by omega)
                                                replace kS := x45.blk
                                                replace G := G.wr x45 (.inl (by first | rfl | (simp; done))) nbS
                                                replace hF := G.fz
                                                replace U := U.st x45 (.inl (by first | rfl | (simp; done)))
                                                replace eC := kS.eput eC (by omega)
                                                replace rS : RowIn _ _ [_, .slice wa s.now.warmA.length wc, .slice sa s.now.warmS.length sc, vr, .slice la s.now.logs.length lc, .slice ta s.now.temps.length tc, .slice ma s.now.made.length mc, .slice ga s.now.gone.length gc, .slice oa s.start.length oc, .slice (some ⟨bf, 0, none⟩) (N - 1) (N - 1), _, .int .u8 (s.phase : Nat), .int .u8 (s.status : Nat), .int .u8 (s.applied : Nat), vlim, vtx, vleft, vpr, vtot] := kS.rput rS 9 rfl
                                                replace rOr := kS.rputo rOr (by first | (left; omega) | (right; simp only [List.length_cons, List.length_nil, length_bL, length_be]; omega))
                                                replace rMd := kS.rputo rMd (by first | (left; omega) | (right; simp only [List.length_cons, List.length_nil, length_bL, length_be]; omega))
                                                refine ⟨.inl rfl, ?_⟩
                                                refine p_nil ?_
                                                refine hK43 _ _ ?_
                                                refine fg6 0 1 6 7 8 2 (gS rfl (gS rfl (gS rfl (gS rfl (gS rfl (gS rfl (gS rfl (gS rfl (gS rfl (gS rfl (gS rfl (gS rfl (gS rfl (gS rfl (gS rfl (gS rfl (gS rfl (gS rfl (gS rfl (gS rfl (gS rfl (gS rfl (gS rfl (gS rfl (gS rfl g0))))))))))))))))))))))))) (gS rfl (gS rfl (gS rfl (gS rfl (gS rfl (gS rfl (gS rfl (gS rfl (gS rfl (gS rfl (gS rfl (gS rfl (gS rfl (gS rfl (gS rfl (gS rfl (gS rfl (gS rfl (gS rfl (gS rfl (gS rfl (gS rfl (gS rfl (gS rfl g0)))))))))))))))))))))))) (gS rfl (gS rfl (gS rfl (gS rfl (gS rfl (gS rfl (gS rfl (gS rfl (gS rfl (gS rfl (gS rfl (gS rfl (gS rfl (gS rfl (gS rfl (gS rfl (gS rfl (gS rfl (gS rfl (gS rfl (gS rfl (gS rfl (gS rfl g0))))))))))))))))))))))) (gS rfl (gS rfl (gS rfl (gS rfl (gS rfl (gS rfl (gS rfl (gS rfl (gS rfl (gS rfl (gS rfl (gS rfl (gS rfl (gS rfl (gS rfl (gS rfl (gS rfl (gS rfl (gS rfl (gS rfl (gS rfl (gS rfl g0)))))))))))))))))))))) (gS rfl (gS rfl (gS rfl (gS rfl (gS rfl (gS rfl (gS rfl (gS rfl (gS rfl (gS rfl (gS rfl (gS rfl (gS rfl (gS rfl (gS rfl (gS rfl (gS rfl (gS rfl (gS rfl (gS rfl (gS rfl g0))))))))))))))))))))) (gS rfl (gS rfl (gS rfl (gS rfl (gS rfl (gS rfl (gS rfl (gS rfl (gS rfl (gS rfl (gS rfl (gS rfl (gS rfl (gS rfl (gS rfl (gS rfl (gS rfl (gS rfl (gS rfl (gS rfl g0)))))))))))))))))))) (fun g => ?_)
                                                refine c_seq (fun K46 hK46 => ?_)
                                                refine c_seq (fun K47 hK47 => ?_)
                                                exact (by
                                                  refine c_region ?_
                                                  refine l_step (y_moveV (et (gS rfl (gS rfl (gS rfl (gS rfl (gS rfl g0))))) rfl)) ?_
                                                  refine l_step (y_nil (et g0 rfl)) ?_
                                                  refine l_step (y_fld fld_102_2 (et g0 rfl)) ?_
                                                  refine l_step (y_load1 one_100 (et g0 rfl) (at1 (kS.cell (rS 9 _ rfl)))) ?_
                                                  refine l_step (y_len Hvaa.underlying100 (et g0 rfl)) ?_
                                                  refine l_step (y_eql (et g0 rfl) rfl) ?_
                                                  refine l_nil ?_
                                                  refine hK47 _ _ ?_
                                                  refine fg7 0 1 6 7 8 2 96 (gS rfl (gS rfl (gS rfl (gS rfl (gS rfl (gS rfl (gS rfl (gS rfl (gS rfl (gS rfl (gS rfl g0))))))))))) (gS rfl (gS rfl (gS rfl (gS rfl (gS rfl (gS rfl (gS rfl (gS rfl (gS rfl (gS rfl g0)))))))))) (gS rfl (gS rfl (gS rfl (gS rfl (gS rfl (gS rfl (gS rfl (gS rfl (gS rfl g0))))))))) (gS rfl (gS rfl (gS rfl (gS rfl (gS rfl (gS rfl (gS rfl (gS rfl g0)))))))) (gS rfl (gS rfl (gS rfl (gS rfl (gS rfl (gS rfl (gS rfl g0))))))) (gS rfl (gS rfl (gS rfl (gS rfl (gS rfl (gS rfl g0)))))) g0 (fun g => ?_)
                                                  refine c_cond (et g0 rfl) (fun cB6 => ?_) (fun cB6 => ?_)
                                                  · skip
                                                    
                                                    have := of_decide_eq_true cB6; omega
                                                  · skip
                                                    
                                                    refine c_skip ?_
                                                    refine hK46 _ _ ?_
                                                    refine fg6 0 1 6 7 8 2 (gS rfl (gS rfl (gS rfl (gS rfl (gS rfl (gS rfl g0)))))) (gS rfl (gS rfl (gS rfl (gS rfl (gS rfl g0))))) (gS rfl (gS rfl (gS rfl (gS rfl g0)))) (gS rfl (gS rfl (gS rfl g0))) (gS rfl (gS rfl g0)) (gS rfl g0) (fun g => ?_)
                                                    refine c_seq (fun K49 hK49 => ?_)
                                                    exact (by
                                                      refine c_draw Up 12 [(0, true), (1, true), (2, true), (3, true), (4, true), (5, true), (6, true), (7, true), (8, true), (9, true), (10, true), (11, true)] (by kernel_rfl) (fun w50 hu => ⟨Up.refl _, ?_⟩)
                                                      replace G := G.tr (Go.ofUp hF hu)
                                                      replace hF := hF.up hu
                                                      replace k3 := k3.up hu
                                                      replace k22 := k22.up hu
                                                      replace kS := kS.up hu
                                                      replace kF := kF.up hu
                                                      replace kL := kL.up hu
                                                      replace kM := kM.up hu
                                                      replace U := U.tr hu
                                                      have SU := Up.refl w50
                                                      refine p_step (by exact rfl) (y_moveV (et (gS rfl (gS rfl (gS rfl (gS rfl (gS rfl g0))))) rfl)) ?_
                                                      refine p_step (by exact rfl) (y_nil (et g0 rfl)) ?_
                                                      refine p_step (by exact rfl) (y_fld fld_102_2 (et g0 rfl)) ?_
                                                      refine p_step (by exact rfl) (y_load1 one_100 (et g0 rfl) (atS (kS.cell (rS 9 _ rfl)))) ?_
                                                      refine p_step (by exact rfl) (y_moveV (et (gS rfl (gS rfl (gS rfl (gS rfl (gS rfl (gS rfl (gS rfl (gS rfl (gS rfl g0))))))))) rfl)) ?_
                                                      refine p_step (by exact rfl) (y_nil (et g0 rfl)) ?_
                                                      refine p_step (by exact rfl) (y_fld fld_102_2 (et g0 rfl)) ?_
                                                      refine p_step (by exact rfl) (y_load1 one_100 (et g0 rfl) (atS (kS.cell (rS 9 _ rfl)))) ?_
                                                      refine p_step (by exact rfl) (y_len Hvaa.underlying100 (et g0 rfl)) ?_
                                                      refine p_step (by exact rfl) (y_sub (et g0 rfl) rfl (subIN (y := 1) ?_ ?_)) ?_
                                                      omega
                                                      omega
                                                      refine p_step (by exact rfl) (y_idxSa rfl Hvaa.underlying100 sz_146 (et (gS rfl (gS rfl (gS rfl (gS rfl (gS rfl (gS rfl g0)))))) rfl) (et g0 rfl) ?_) ?_
                                                      omega
                                                      refine p_step (by exact rfl) (y_assignV (et g0 rfl)) ?_
                                                      refine p_nil ?_
                                                      refine hK49 _ _ ?_
                                                      refine fg6 1 6 7 8 2 10 (gS rfl (gS rfl (gS rfl (gS rfl (gS rfl (gS rfl (gS rfl (gS rfl (gS rfl (gS rfl (gS rfl (gS rfl (gS rfl (gS rfl (gS rfl (gS rfl g0)))))))))))))))) (gS rfl (gS rfl (gS rfl (gS rfl (gS rfl (gS rfl (gS rfl (gS rfl (gS rfl (gS rfl (gS rfl (gS rfl (gS rfl (gS rfl (gS rfl g0))))))))))))))) (gS rfl (gS rfl (gS rfl (gS rfl (gS rfl (gS rfl (gS rfl (gS rfl (gS rfl (gS rfl (gS rfl (gS rfl (gS rfl (gS rfl g0)))))))))))))) (gS rfl (gS rfl (gS rfl (gS rfl (gS rfl (gS rfl (gS rfl (gS rfl (gS rfl (gS rfl (gS rfl (gS rfl (gS rfl g0))))))))))))) (gS rfl (gS rfl (gS rfl (gS rfl (gS rfl (gS rfl (gS rfl (gS rfl (gS rfl (gS rfl (gS rfl (gS rfl g0)))))))))))) g0 (fun g => ?_)
                                                      refine c_seq (fun K51 hK51 => ?_)
                                                      exact (by
                                                        refine c_region ?_
                                                        refine l_step (y_moveV (et g0 rfl)) ?_
                                                        refine l_step (y_moveV (et (gS rfl g0) rfl)) ?_
                                                        refine l_step (y_nil (et g0 rfl)) ?_
                                                        refine l_step (y_fld fld_146_4 (et g0 rfl)) ?_
                                                        refine l_step (y_load1 one_95 (et g0 rfl) (at1 (kF.cell (rF 4 _ rfl)))) ?_
                                                        refine l_step (y_moveV (et (gS rfl (gS rfl (gS rfl (gS rfl (gS rfl (gS rfl (gS rfl (gS rfl g0)))))))) rfl)) ?_
                                                        refine l_eff (e_callV cal_34 (aC (et (gS rfl g0) rfl) (aC (et g0 rfl) aN)) (nat_add hF (hGa.mono hL0) n13 (bd_sm (bd_lt2 (b := 256 ^ 4) fo.gas (by decide)) (by decide)) (bd_sm (bd_lt2 (b := 256 ^ 4) (Nat.lt_of_le_of_lt hdl fo6.gas) (by decide)) (by decide)))) (fun v52 w52 h52 => ?_)
                                                        obtain ⟨H52, g52, n52⟩ := h52
                                                        have hlew52 := g52.le
                                                        replace nb3 := g52.nb nb3 k3.lt
                                                        replace nb22 := g52.nb nb22 k22.lt
                                                        replace nbS := g52.nb nbS kS.lt
                                                        replace nbF := g52.nb nbF kF.lt
                                                        replace nbM := g52.nb nbM (Nat.lt_of_lt_of_le lM U.size)
                                                        replace n13 := n13.mono hlew52
                                                        replace pa20 := pa20.mono hlew52
                                                        replace hP9 := hP9.mono hlew52
                                                        replace lv34 := lv34.mono hlew52
                                                        replace hL0 := hL0.trans hlew52
                                                        replace k3 := k3.up g52.up
                                                        replace k22 := k22.up g52.up
                                                        replace kS := kS.up g52.up
                                                        replace kF := kF.up g52.up
                                                        replace kL := kL.up g52.up
                                                        replace kM := kM.up g52.up
                                                        replace U := U.tr g52.up
                                                        replace G := G.tr g52
                                                        replace hF := g52.fz
                                                        have q52 := bd_add (c := 5) (bd_lt2 (b := 256 ^ 4) fo.gas (by decide)) (bd_lt2 (b := 256 ^ 4) (Nat.lt_of_le_of_lt hdl fo6.gas) (by decide)) (by decide)
                                                        refine l_step (y_nil (et (gS rfl (gS rfl (gS rfl (gS rfl (gS rfl (gS rfl g0)))))) rfl)) ?_
                                                        exact (by
                                                          refine l_step (y_fld fld_146_4 (et g0 rfl)) ?_
                                                          obtain ⟨sa53, sn53, sc53, rfl⟩ := n52.sl
                                                          have rl53 := RowIn.le rF (Nat.succ_pos _)
                                                          simp only [List.length_cons, List.length_nil, Nat.zero_add, Nat.reduceAdd] at rl53
                                                          refine l_effN (e_store sz_95 (et g0 rfl) (cellsV (et (gS rfl (gS rfl g0)) rfl) rfl) rfl (by first | exact one_bL _ | exact one_uL _ | (intro v hv; simp at hv; subst hv; rfl)) kF (by first | exact Nat.le_trans (by omega) rl53 | exact Nat.le_of_ble_eq_true rfl | (simp; done) | (simp; omega) | omega | (simp only [size_spl, Array.size_setIfInBounds, hs.size]; exact Nat.le_of_ble_eq_true rfl))) (fun v53 w53 h53 => ?_)
                                                          obtain ⟨rfl, x53⟩ := h53
                                                          replace k3 := k3.ch x53.ch (by omega)
                                                          replace k22 := k22.ch x53.ch (by omega)
                                                          replace kS := kS.ch x53.ch (by omega)
                                                          replace kL := kL.ch x53.ch (by intro q hq hm; have := dL q hq; omega)
                                                          replace kM := kM.ch x53.ch (by omega)
                                                          replace kF := x53.blk
                                                          replace G := G.wr x53 (.inl (by first | rfl | (simp; done))) nbF
                                                          replace hF := G.fz
                                                          replace U := U.st x53 (.inl (by first | rfl | (simp; done)))
                                                          replace oF := kF.oput oF (by omega) (by omega)
                                                          replace rF : RowIn _ _ [.int .u8 (f.kind : Nat), .int .u8 (f.ntv : Nat), .bool f.static, vpc, _, vval, voo, vol, .slice ka f.stack.length kc, vm, .slice ca f.code.length cc, .slice ia f.input.length ic] := kF.rput rF 4 rfl
                                                          replace rSe := kF.rputo rSe (by first | (left; omega) | (right; simp only [List.length_cons, List.length_nil, length_bL, length_be, hSv.len]; omega))
                                                          replace rCa := kF.rputo rCa (by first | (left; omega) | (right; simp only [List.length_cons, List.length_nil, length_bL, length_be, hSv.len]; omega))
                                                          replace rSv := kF.rputo rSv (by first | (left; omega) | (right; simp only [List.length_cons, List.length_nil, length_bL, length_be, hSv.len]; omega))
                                                          have hG : lvGas u q l = dp.1 := by rw [lvGas, if_neg (by rw [hS]; omega), if_pos ⟨hcr, hq0⟩, hdp.out]
                                                          have hOu : lvOut u q l = [] := by rw [lvOut, if_pos (.inr ⟨hcr, by rw [hS]; exact hd0⟩)]
                                                          have hW : lvW s u q l = { s.now with accts := putA s.now.accts (setCode (acctAt s.now.accts u.self) l) } := by rw [lvW, if_pos (by rw [hS]; exact hd0), if_pos ⟨hcr, hlp⟩]
                                                          have hS0 : lvSt u q l = 0 := by rw [hS]; exact hd0
                                                          have hgs := lp.gas
                                                          rw [hG] at hgs
                                                          have hfP : FC H52 _ _ { f with gas := f.gas + dp.1 } vm := ⟨⟨fo.kind, fo.ntv, fo.pc, hgs, fo.value, fo.outOff, fo.outLen, fo.self, fo.caller, fo.stack, fo.code, fo.input, fo.mem⟩, _, _, _, _, _, _, _, _, _, _, _, _, rF, rSe, rCa, rSv, hSv.mono hL0, (hPc.mono hL0), n52, (hVa.mono hL0), (hOf.mono hL0), (hOl.mono hL0), (hSt.mono hL0), (hCo.mono hL0), (hIn.mono hL0)⟩
                                                          refine l_nil ?_
                                                          refine hK51 _ _ ?_
                                                          refine fg5 1 6 8 2 10 (gS rfl (gS rfl (gS rfl (gS rfl (gS rfl (gS rfl (gS rfl (gS rfl (gS rfl (gS rfl (gS rfl (gS rfl (gS rfl (gS rfl g0)))))))))))))) (gS rfl (gS rfl (gS rfl (gS rfl (gS rfl (gS rfl (gS rfl (gS rfl (gS rfl (gS rfl (gS rfl (gS rfl (gS rfl g0))))))))))))) (gS rfl (gS rfl (gS rfl (gS rfl (gS rfl (gS rfl (gS rfl (gS rfl (gS rfl (gS rfl (gS rfl g0))))))))))) (gS rfl (gS rfl (gS rfl (gS rfl (gS rfl (gS rfl (gS rfl (gS rfl (gS rfl (gS rfl g0)))))))))) (gS rfl (gS rfl (gS rfl (gS rfl (gS rfl (gS rfl (gS rfl (gS rfl (gS rfl g0))))))))) (fun g => ?_)
                                                          refine c_seq (fun K54 hK54 => ?_)
                                                          exact (by
                                                            refine c_region ?_
                                                            refine l_step y_assignC ?_
                                                            refine l_nil ?_
                                                            refine hK54 _ _ ?_
                                                            refine c_seq (fun K55 hK55 => ?_)
                                                            refine c_seq (fun K56 hK56 => ?_)
                                                            exact (by
                                                              refine c_region ?_
                                                              refine l_step (y_moveV (et (gS rfl (gS rfl (gS rfl (gS rfl (gS rfl g0))))) rfl)) ?_
                                                              refine l_step (y_eql (et g0 rfl) rfl) ?_
                                                              refine l_nil ?_
                                                              refine hK56 _ _ ?_
                                                              refine fg6 6 8 2 10 11 132 (gS rfl (gS rfl (gS rfl (gS rfl (gS rfl (gS rfl g0)))))) (gS rfl (gS rfl (gS rfl (gS rfl (gS rfl g0))))) (gS rfl (gS rfl (gS rfl (gS rfl g0)))) (gS rfl (gS rfl (gS rfl g0))) (gS rfl (gS rfl g0)) g0 (fun g => ?_)
                                                              refine c_cond (et g0 rfl) (fun cB7 => ?_) (fun cB7 => ?_)
                                                              · skip
                                                                
                                                                refine c_seq (fun K58 hK58 => ?_)
                                                                exact (by
                                                                  refine c_region ?_
                                                                  refine l_eff (e_callV cal_32 (aC (v := .int .u64 ((1 : Nat) : Int)) rfl aN) (yp_num (x := 1) hF (by decide))) (fun v59 w59 h59 => ?_)
                                                                  obtain ⟨H59, g59, n59⟩ := h59
                                                                  have hlew59 := g59.le
                                                                  replace nb3 := g59.nb nb3 k3.lt
                                                                  replace nb22 := g59.nb nb22 k22.lt
                                                                  replace nbS := g59.nb nbS kS.lt
                                                                  replace nbF := g59.nb nbF kF.lt
                                                                  replace nbM := g59.nb nbM (Nat.lt_of_lt_of_le lM U.size)
                                                                  replace n13 := n13.mono hlew59
                                                                  replace pa20 := pa20.mono hlew59
                                                                  replace hP9 := hP9.mono hlew59
                                                                  replace lv34 := lv34.mono hlew59
                                                                  replace n52 := n52.mono hlew59
                                                                  replace hfP := hfP.mono hlew59
                                                                  replace hL0 := hL0.trans hlew59
                                                                  replace k3 := k3.up g59.up
                                                                  replace k22 := k22.up g59.up
                                                                  replace kS := kS.up g59.up
                                                                  replace kF := kF.up g59.up
                                                                  replace kL := kL.up g59.up
                                                                  replace kM := kM.up g59.up
                                                                  replace U := U.tr g59.up
                                                                  replace G := G.tr g59
                                                                  replace hF := g59.fz
                                                                  have q59 : 1 < 256 ^ 1 := by decide
                                                                  refine l_step (y_assignV (et g0 rfl)) ?_
                                                                  refine l_nil ?_
                                                                  refine hK58 _ _ ?_
                                                                  refine fg5 6 8 2 10 11 (gS rfl (gS rfl (gS rfl (gS rfl (gS rfl (gS rfl (gS rfl g0))))))) (gS rfl (gS rfl (gS rfl (gS rfl (gS rfl (gS rfl g0)))))) (gS rfl (gS rfl (gS rfl (gS rfl (gS rfl g0))))) (gS rfl (gS rfl (gS rfl (gS rfl g0)))) g0 (fun g => ?_)
                                                                  refine c_seq (fun K60 hK60 => ?_)
                                                                  exact (by
                                                                    refine c_region ?_
                                                                    refine l_step (y_moveV (et (gS rfl (gS rfl (gS rfl g0))) rfl)) ?_
                                                                    refine l_nil ?_
                                                                    refine hK60 _ _ ?_
                                                                    refine fg5 6 2 10 11 134 (gS rfl (gS rfl (gS rfl (gS rfl (gS rfl g0))))) (gS rfl (gS rfl (gS rfl g0))) (gS rfl (gS rfl g0)) (gS rfl g0) g0 (fun g => ?_)
                                                                    refine c_cond (et g0 rfl) (fun cB8 => ?_) (fun cB8 => ?_)
                                                                    · skip
                                                                      
                                                                      exact (by
                                                                        refine c_region ?_
                                                                        refine l_step (y_fld fld_146_12 (et (gS rfl (gS rfl (gS rfl (gS rfl g0)))) rfl)) ?_
                                                                        refine l_step (y_slA000 Hvaa.underlying25 sz_5 (et g0 rfl) ) ?_
                                                                        refine l_eff (e_callV cal_33 (aC (et g0 rfl) aN) (nat_fromRow hF (k3.row qSe) k3.lt (bd_A fo6.self) (by decide))) (fun v62 w62 h62 => ?_)
                                                                        obtain ⟨H62, g62, n62⟩ := h62
                                                                        have hlew62 := g62.le
                                                                        replace nb3 := g62.nb nb3 k3.lt
                                                                        replace nb22 := g62.nb nb22 k22.lt
                                                                        replace nbS := g62.nb nbS kS.lt
                                                                        replace nbF := g62.nb nbF kF.lt
                                                                        replace nbM := g62.nb nbM (Nat.lt_of_lt_of_le lM U.size)
                                                                        replace n13 := n13.mono hlew62
                                                                        replace pa20 := pa20.mono hlew62
                                                                        replace hP9 := hP9.mono hlew62
                                                                        replace lv34 := lv34.mono hlew62
                                                                        replace n52 := n52.mono hlew62
                                                                        replace hfP := hfP.mono hlew62
                                                                        replace n59 := n59.mono hlew62
                                                                        replace hL0 := hL0.trans hlew62
                                                                        replace k3 := k3.up g62.up
                                                                        replace k22 := k22.up g62.up
                                                                        replace kS := kS.up g62.up
                                                                        replace kF := kF.up g62.up
                                                                        replace kL := kL.up g62.up
                                                                        replace kM := kM.up g62.up
                                                                        replace U := U.tr g62.up
                                                                        replace G := G.tr g62
                                                                        replace hF := g62.fz
                                                                        refine l_step (y_assignV (et g0 rfl)) ?_
                                                                        refine l_nil ?_
                                                                        refine hK55 _ _ ?_
                                                                        refine fg3 2 10 11 (gS rfl (gS rfl (gS rfl (gS rfl (gS rfl (gS rfl (gS rfl g0))))))) (gS rfl (gS rfl (gS rfl (gS rfl (gS rfl (gS rfl g0)))))) g0 (fun g => ?_)
                                                                        refine c_seq (fun K63 hK63 => ?_)
                                                                        refine c_seq (fun K64 hK64 => ?_)
                                                                        exact (by
                                                                          refine c_region ?_
                                                                          refine l_step (y_moveV (et (gS rfl g0) rfl)) ?_
                                                                          refine l_step (y_nil (et g0 rfl)) ?_
                                                                          refine l_step (y_fld fld_146_7 (et g0 rfl)) ?_
                                                                          refine l_step (y_load1 one_95 (et g0 rfl) (at1 (kF.cell (rF 7 _ rfl)))) ?_
                                                                          refine l_eff (e_callV cal_24 (aC (et g0 rfl) aN) (yp_small hF (hOl.mono hL0) (bd_sm (bd_W fo.outLen) (by decide)))) (fun v65 w65 h65 => ?_)
                                                                          obtain ⟨rfl, u65⟩ := h65
                                                                          replace G := G.tr (Go.ofUp hF u65)
                                                                          replace hF := hF.up u65
                                                                          replace k3 := k3.up u65
                                                                          replace k22 := k22.up u65
                                                                          replace kS := kS.up u65
                                                                          replace kF := kF.up u65
                                                                          replace kL := kL.up u65
                                                                          replace kM := kM.up u65
                                                                          replace U := U.tr u65
                                                                          rw [lo_small lp.outl]
                                                                          refine l_step (y_moveV (et (gS rfl (gS rfl (gS rfl (gS rfl (gS rfl (gS rfl (gS rfl g0))))))) rfl)) ?_
                                                                          refine l_step (y_len Hvaa.underlying38 (et g0 rfl)) ?_
                                                                          refine l_step (y_conv Hvaa.underlying3 Hvaa.underlying26 (et g0 rfl) (wrapU_id uk64 ?_)) ?_
                                                                          (omega)
                                                                          refine l_step (y_minN (et (gS rfl (gS rfl (gS rfl g0))) rfl) (et g0 rfl)) ?_
                                                                          refine l_step (y_assignV (et g0 rfl)) ?_
                                                                          refine l_nil ?_
                                                                          refine hK64 _ _ ?_
                                                                          refine fg4 2 10 11 12 (gS rfl (gS rfl (gS rfl (gS rfl (gS rfl (gS rfl (gS rfl (gS rfl (gS rfl (gS rfl (gS rfl (gS rfl g0)))))))))))) (gS rfl (gS rfl (gS rfl (gS rfl (gS rfl (gS rfl (gS rfl (gS rfl (gS rfl (gS rfl (gS rfl g0))))))))))) (gS rfl (gS rfl (gS rfl (gS rfl (gS rfl (gS rfl (gS rfl (gS rfl (gS rfl (gS rfl g0)))))))))) g0 (fun g => ?_)
                                                                          refine c_seq (fun K66 hK66 => ?_)
                                                                          exact (by
                                                                            refine c_region ?_
                                                                            refine l_step (y_moveV (et g0 rfl)) ?_
                                                                            refine l_step (y_gtr (et g0 rfl) rfl) ?_
                                                                            refine l_nil ?_
                                                                            refine hK66 _ _ ?_
                                                                            refine fg5 2 10 11 12 148 (gS rfl (gS rfl (gS rfl (gS rfl (gS rfl g0))))) (gS rfl (gS rfl (gS rfl (gS rfl g0)))) (gS rfl (gS rfl (gS rfl g0))) (gS rfl (gS rfl g0)) g0 (fun g => ?_)
                                                                            refine c_cond (et g0 rfl) (fun cB9 => ?_) (fun cB9 => ?_)
                                                                            · skip
                                                                              
                                                                              have := of_decide_eq_true cB9; simp at this
                                                                            · skip
                                                                              
                                                                              have hb9 : ¬ 0 < min f.outLen ([] : List Nat).length := by simp
                                                                              refine c_skip ?_
                                                                              refine hK63 _ _ ?_
                                                                              refine fg2 10 11 (gS rfl (gS rfl (gS rfl g0))) (gS rfl (gS rfl g0)) (fun g => ?_)
                                                                              exact (by
                                                                                refine c_region ?_
                                                                                refine l_step (y_moveV (et (gS rfl g0) rfl)) ?_
                                                                                refine l_step (y_moveV (et (gS rfl g0) rfl)) ?_
                                                                                refine l_eff (e_callV cal_143 (aC (et (gS rfl g0) rfl) (aC (v := .int .i64 ((0 : Nat) : Int)) rfl (aC (et g0 rfl) aN))) (yp_answer hF _ _ _ _ _ kF hfP nbF 0 (Nat.zero_le _) lp.stk lp.pc n62 (W_bd (bd_up (bd_A fo6.self) (by decide))))) (fun v68 w68 h68 => ?_)
                                                                                obtain ⟨rfl, fs68, H68, g68, kf68, fc68, of68⟩ := h68
                                                                                have hlew68 := g68.le
                                                                                replace nb3 := g68.nb nb3 k3.lt
                                                                                replace nb22 := g68.nb nb22 k22.lt
                                                                                replace nbS := g68.nb nbS kS.lt
                                                                                replace nbF := g68.nb nbF kF.lt
                                                                                replace nbM := g68.nb nbM (Nat.lt_of_lt_of_le lM U.size)
                                                                                replace n13 := n13.mono hlew68
                                                                                replace pa20 := pa20.mono hlew68
                                                                                replace hP9 := hP9.mono hlew68
                                                                                replace lv34 := lv34.mono hlew68
                                                                                replace n52 := n52.mono hlew68
                                                                                replace hfP := hfP.mono hlew68
                                                                                replace n59 := n59.mono hlew68
                                                                                replace n62 := n62.mono hlew68
                                                                                replace hL0 := hL0.trans hlew68
                                                                                replace k3 := k3.ch g68.ch (by omega)
                                                                                replace k22 := k22.ch g68.ch (by omega)
                                                                                replace kS := kS.ch g68.ch (by omega)
                                                                                replace kL := kL.ch g68.ch (by intro q hq hm; have := dL q hq; omega)
                                                                                replace kM := kM.ch g68.ch (by omega)
                                                                                replace kF := kf68
                                                                                replace U := U.cc g68.ch (by intro b hb; first | omega | exact .inl hb | exact .inr (hb ▸ U))
                                                                                replace G := G.trans g68 (by intro b hb; first | omega | exact .inl hb | (simp at hb ⊢; omega))
                                                                                replace hF := g68.fz
                                                                                refine l_nil ?_
                                                                                refine end0 rfl ?_
                                                                                have hG : lvGas u q l = dp.1 := by rw [lvGas, if_neg (by rw [hS]; omega), if_pos ⟨hcr, hq0⟩, hdp.out]
                                                                                have hOu : lvOut u q l = [] := by rw [lvOut, if_pos (.inr ⟨hcr, by rw [hS]; exact hd0⟩)]
                                                                                have hW : lvW s u q l = { s.now with accts := putA s.now.accts (setCode (acctAt s.now.accts u.self) l) } := by rw [lvW, if_pos (by rw [hS]; exact hd0), if_pos ⟨hcr, hlp⟩]
                                                                                have hS0 : lvSt u q l = 0 := by rw [hS]; exact hd0
                                                                                have hFl : lvFlag u q l = u.self := by rw [lvFlag, if_pos hS0, if_pos hcr]
                                                                                have hMm : lvMem f u q l = f.mem := by rw [lvMem, hOu, if_neg hb9]
                                                                                have eP : lvP f u q l = ansN { f with gas := f.gas + dp.1, mem := f.mem } 0 u.self := by rw [lvP, hG, hMm, hFl]
                                                                                have eS : lvS2 s u q l = { s with now := { s.now with accts := putA s.now.accts (setCode (acctAt s.now.accts u.self) l) }, ret := [] } := by rw [lvS2, hW, hOu]
                                                                                rw [eS, hW, eP]
                                                                                exact ⟨rfl, _, _, _, _, G, kS, ⟨⟨(by show (putA s.now.accts (setCode (acctAt s.now.accts u.self) l)).length < _; have := putA_len s.now.accts (setCode (acctAt s.now.accts u.self) l); have := lh.accts; omega), so.warmA, so.warmS, so.refund, so.logs, so.temps, so.made, so.gone, so.start, (show 0 < 16777216 by decide), so.phase, so.status, so.applied, so.limit, so.txGas, so.left, so.price, so.total, so.origin, so.mad⟩, eC.mono hL0, (by simp only [size_spl, Array.size_setIfInBounds]; exact hs.size), _, _, _, _, _, _, _, _, _, _, _, _, _, _, _, _, _, _, _, _, _, _, _, _, rS, rOr, rMd, lv34, (hWA.mono hL0), (hWS.mono hL0), (hRf.mono hL0), (hTm.mono hL0), (hMd.mono hL0), (hGn.mono hL0), (hSr.mono hL0), (BV.nil _), (hLm.mono hL0), (hTx.mono hL0), (hLf.mono hL0), (hPr.mono hL0), (hTt.mono hL0)⟩, kF, fc68, oF.trans of68, kM, by rw [if_pos hS0]; exact kL.mono hL0, ((rS 4 _ rfl).trans (hv4.symm.trans hvl))⟩))))
                                                                    · skip
                                                                      
                                                                      rw [hcr] at cB8; cases cB8))
                                                              · skip
                                                                
                                                                have := of_decide_eq_false cB7; omega)))))))))))))))
                        · skip
                          
                          have hlp : ¬ 0 < l.length := by have := of_decide_eq_false cB3; omega
                          refine c_skip ?_
                          refine hK16 _ _ ?_
                          refine fg5 1 0 6 7 8 (gS rfl (gS rfl (gS rfl (gS rfl (gS rfl g0))))) (gS rfl (gS rfl (gS rfl (gS rfl g0)))) (gS rfl (gS rfl (gS rfl g0))) (gS rfl (gS rfl g0)) (gS rfl g0) (fun g => ?_)
                          refine c_region ?_
                          refine l_step y_assignC ?_
                          refine l_nil ?_
                          refine hK8 _ _ ?_
                          refine c_seq (fun K69 hK69 => ?_)
                          refine c_seq (fun K70 hK70 => ?_)
                          exact (by
                            refine c_region ?_
                            refine l_step (y_moveV (et (gS rfl (gS rfl (gS rfl (gS rfl (gS rfl g0))))) rfl)) ?_
                            refine l_step (y_neq (et g0 rfl) rfl) ?_
                            refine l_nil ?_
                            refine hK70 _ _ ?_
                            refine fg7 1 0 6 7 8 2 59 (gS rfl (gS rfl (gS rfl (gS rfl (gS rfl (gS rfl (gS rfl g0))))))) (gS rfl (gS rfl (gS rfl (gS rfl (gS rfl (gS rfl g0)))))) (gS rfl (gS rfl (gS rfl (gS rfl (gS rfl g0))))) (gS rfl (gS rfl (gS rfl (gS rfl g0)))) (gS rfl (gS rfl (gS rfl g0))) (gS rfl (gS rfl g0)) g0 (fun g => ?_)
                            refine c_cond (et g0 rfl) (fun cB4 => ?_) (fun cB4 => ?_)
                            · skip
                              
                              have := of_decide_eq_true cB4; omega
                            · skip
                              
                              refine c_skip ?_
                              refine hK69 _ _ ?_
                              refine fg6 1 0 6 7 8 2 (gS rfl (gS rfl (gS rfl (gS rfl (gS rfl (gS rfl g0)))))) (gS rfl (gS rfl (gS rfl (gS rfl (gS rfl g0))))) (gS rfl (gS rfl (gS rfl (gS rfl g0)))) (gS rfl (gS rfl (gS rfl g0))) (gS rfl (gS rfl g0)) (gS rfl g0) (fun g => ?_)
                              refine c_seq (fun K72 hK72 => ?_)
                              refine c_seq (fun K73 hK73 => ?_)
                              exact (by
                                refine c_region ?_
                                refine l_step (y_moveV (et (gS rfl (gS rfl (gS rfl (gS rfl (gS rfl g0))))) rfl)) ?_
                                refine l_step (y_gtr (et g0 rfl) rfl) ?_
                                refine l_nil ?_
                                refine hK73 _ _ ?_
                                refine fg7 1 0 6 7 8 2 66 (gS rfl (gS rfl (gS rfl (gS rfl (gS rfl (gS rfl (gS rfl g0))))))) (gS rfl (gS rfl (gS rfl (gS rfl (gS rfl (gS rfl g0)))))) (gS rfl (gS rfl (gS rfl (gS rfl (gS rfl g0))))) (gS rfl (gS rfl (gS rfl (gS rfl g0)))) (gS rfl (gS rfl (gS rfl g0))) (gS rfl (gS rfl g0)) g0 (fun g => ?_)
                                refine c_cond (et g0 rfl) (fun cB5 => ?_) (fun cB5 => ?_)
                                · skip
                                  
                                  have := of_decide_eq_true cB5; omega
                                · skip
                                  
                                  refine c_skip ?_
                                  refine hK72 _ _ ?_
                                  refine fg6 1 0 6 7 8 2 (gS rfl (gS rfl (gS rfl (gS rfl (gS rfl (gS rfl g0)))))) (gS rfl (gS rfl (gS rfl (gS rfl (gS rfl g0))))) (gS rfl (gS rfl (gS rfl (gS rfl g0)))) (gS rfl (gS rfl (gS rfl g0))) (gS rfl (gS rfl g0)) (gS rfl g0) (fun g => ?_)
                                  refine c_seq (fun K75 hK75 => ?_)
                                  exact (by
                                    refine c_region ?_
                                    refine l_step (y_moveV (et (gS rfl (gS rfl (gS rfl (gS rfl g0)))) rfl)) ?_
                                    refine l_step (y_moveV (et (gS rfl g0) rfl)) ?_
                                    refine l_step (y_nil (et (gS rfl g0) rfl)) ?_
                                    refine l_step (y_fld fld_102_3 (et g0 rfl)) ?_
                                    have rl76 := RowIn.le rS (Nat.succ_pos _)
                                    simp only [List.length_cons, List.length_nil, Nat.zero_add, Nat.reduceAdd] at rl76
                                    refine l_effN (e_store sz_38 (et g0 rfl) (cellsV (et (gS rfl (gS rfl g0)) rfl) rfl) rfl (by first | exact one_bL _ | exact one_uL _ | (intro v hv; simp at hv; subst hv; rfl)) kS (by first | exact Nat.le_trans (by omega) rl76 | exact Nat.le_of_ble_eq_true rfl | (simp; done) | (simp; omega) | omega | (simp only [size_spl, Array.size_setIfInBounds, hs.size]; exact Nat.le_of_ble_eq_true rfl))) (fun v76 w76 h76 => ?_)
                                    obtain ⟨rfl, x76⟩ := h76
                                    replace k3 := k3.ch x76.ch (by omega)
                                    replace kF := kF.ch x76.ch (by omega)
                                    replace kL := kL.ch x76.ch (by intro q hq hm; have := dL q hq; omega)
                                    replace kM := kM.ch x76.ch (by omega)
                                    replace kS := x76.blk
                                    replace G := G.wr x76 (.inl (by first | rfl | (simp; done))) nbS
                                    replace hF := G.fz
                                    replace U := U.st x76 (.inl (by first | rfl | (simp; done)))
                                    replace eC := kS.eput eC (by omega)
                                    replace rS : RowIn _ _ [.slice aa s.now.accts.length ac, .slice wa s.now.warmA.length wc, .slice sa s.now.warmS.length sc, vr, .slice la s.now.logs.length lc, .slice ta s.now.temps.length tc, .slice ma s.now.made.length mc, .slice ga s.now.gone.length gc, .slice oa s.start.length oc, .slice (some ⟨bf, 0, none⟩) N cap, _, .int .u8 (s.phase : Nat), .int .u8 (s.status : Nat), .int .u8 (s.applied : Nat), vlim, vtx, vleft, vpr, vtot] := kS.rput rS 10 rfl
                                    replace rOr := kS.rputo rOr (by first | (left; omega) | (right; simp only [List.length_cons, List.length_nil, length_bL, length_be]; omega))
                                    replace rMd := kS.rputo rMd (by first | (left; omega) | (right; simp only [List.length_cons, List.length_nil, length_bL, length_be]; omega))
                                    refine l_nil ?_
                                    refine hK75 _ _ ?_
                                    refine fg6 1 0 6 7 8 2 (gS rfl (gS rfl (gS rfl (gS rfl (gS rfl (gS rfl (gS rfl (gS rfl (gS rfl g0))))))))) (gS rfl (gS rfl (gS rfl (gS rfl (gS rfl (gS rfl (gS rfl (gS rfl g0)))))))) (gS rfl (gS rfl (gS rfl (gS rfl (gS rfl (gS rfl (gS rfl g0))))))) (gS rfl (gS rfl (gS rfl (gS rfl (gS rfl (gS rfl g0)))))) (gS rfl (gS rfl (gS rfl (gS rfl (gS rfl g0))))) (gS rfl (gS rfl (gS rfl (gS rfl g0)))) (fun g => ?_)
                                    refine c_seq (fun K77 hK77 => ?_)
                                    exact (by
                                      refine c_draw Up 20 [(0, true), (1, true), (2, true), (3, true), (4, true), (5, true), (6, true), (7, true), (8, true), (9, true), (10, true), (11, true), (12, true), (13, true), (14, true), (15, true), (16, true), (17, true), (18, true), (19, true), (20, false)] (by kernel_rfl) (fun w78 hu => ⟨Up.refl _, ?_⟩)
                                      replace G := G.tr (Go.ofUp hF hu)
                                      replace hF := hF.up hu
                                      replace k3 := k3.up hu
                                      replace kS := kS.up hu
                                      replace kF := kF.up hu
                                      replace kL := kL.up hu
                                      replace kM := kM.up hu
                                      replace U := U.tr hu
                                      have SU := Up.refl w78
                                      refine p_step (by exact rfl) (y_moveV (et (gS rfl (gS rfl (gS rfl (gS rfl g0)))) rfl)) ?_
                                      refine p_step (by exact rfl) (y_moveV (et (gS rfl (gS rfl (gS rfl (gS rfl (gS rfl g0))))) rfl)) ?_
                                      refine p_step (by exact rfl) (y_nil (et g0 rfl)) ?_
                                      refine p_step (by exact rfl) (y_fld fld_102_2 (et g0 rfl)) ?_
                                      refine p_step (by exact rfl) (y_load1 one_100 (et g0 rfl) (atS (kS.cell (rS 9 _ rfl)))) ?_
                                      refine p_step (by exact rfl) (y_moveV (et (gS rfl (gS rfl (gS rfl (gS rfl (gS rfl (gS rfl (gS rfl (gS rfl (gS rfl g0))))))))) rfl)) ?_
                                      refine p_step (by exact rfl) (y_nil (et g0 rfl)) ?_
                                      refine p_step (by exact rfl) (y_fld fld_102_2 (et g0 rfl)) ?_
                                      refine p_step (by exact rfl) (y_load1 one_100 (et g0 rfl) (atS (kS.cell (rS 9 _ rfl)))) ?_
                                      refine p_step (by exact rfl) (y_len Hvaa.underlying100 (et g0 rfl)) ?_
                                      refine p_step (by exact rfl) (y_sub (et g0 rfl) rfl (subIN (y := 1) ?_ ?_)) ?_
                                      omega
                                      omega
                                      refine p_step (by exact rfl) (y_moveV (et (gS rfl (gS rfl (gS rfl (gS rfl (gS rfl (gS rfl (gS rfl (gS rfl (gS rfl (gS rfl (gS rfl (gS rfl (gS rfl (gS rfl (gS rfl g0))))))))))))))) rfl)) ?_
                                      refine p_step (by exact rfl) (y_nil (et g0 rfl)) ?_
                                      refine p_step (by exact rfl) (y_fld fld_102_2 (et g0 rfl)) ?_
                                      refine p_step (by exact rfl) (y_load1 one_100 (et g0 rfl) (atS (kS.cell (rS 9 _ rfl)))) ?_
                                      refine p_step (by exact rfl) (y_len Hvaa.underlying100 (et g0 rfl)) ?_
                                      refine p_step (by exact rfl) (y_sub (et g0 rfl) rfl (subIN (y := 1) ?_ ?_)) ?_
                                      omega
                                      omega
                                      exact (by
                                        refine p_step (by exact rfl) (y_slS011n Hvaa.underlying100 sz_146 (et (gS rfl (gS rfl (gS rfl (gS rfl (gS rfl (gS rfl (gS rfl (gS rfl (gS rfl (gS rfl (gS rfl (gS rfl g0)))))))))))) rfl) (et (gS rfl (gS rfl (gS rfl (gS rfl (gS rfl (gS rfl g0)))))) rfl) (et g0 rfl) ?_ ?_) ?_
                                        omega
                                        omega
                                        refine p_step (by exact rfl) (y_nil (et (gS rfl (gS rfl (gS rfl (gS rfl (gS rfl (gS rfl (gS rfl (gS rfl (gS rfl (gS rfl (gS rfl (gS rfl (gS rfl (gS rfl (gS rfl (gS rfl (gS rfl g0))))))))))))))))) rfl)) ?_
                                        refine p_step (by exact rfl) (y_fld fld_102_2 (et g0 rfl)) ?_
                                        have rl79 := RowIn.le rS (Nat.succ_pos _)
                                        simp only [List.length_cons, List.length_nil, Nat.zero_add, Nat.reduceAdd] at rl79
                                        refine p_effN (by exact rfl) (e_store sz_100 (et g0 rfl) (cellsV (et (gS rfl (gS rfl g0)) rfl) rfl) rfl (by first | exact one_bL _ | exact one_uL _ | (intro v hv; simp at hv; subst hv; rfl)) kS (by first | exact Nat.le_trans (by omega) rl79 | exact Nat.le_of_ble_eq_true rfl | (simp; done) | (simp; omega) | omega | (simp only [size_spl, Array.size_setIfInBounds, hs.size]; exact Nat.le_of_ble_eq_true rfl))) (fun v79 w79 h79 => ?_)
                                        obtain ⟨rfl, x79⟩ := h79
                                        replace k3 := k3.ch x79.ch (by omega)
                                        replace kF := kF.ch x79.ch (by omega)
                                        replace kL := kL.ch x79.ch (by intro q hq hm; have := dL q hq; omega)
                                        replace kM := kM.ch x79.ch (by omega)
                                        replace kS := x79.blk
                                        replace G := G.wr x79 (.inl (by first | rfl | (simp; done))) nbS
                                        replace hF := G.fz
                                        replace U := U.st x79 (.inl (by first | rfl | (simp; done)))
                                        replace eC := kS.eput eC (by omega)
                                        replace rS : RowIn _ _ [.slice aa s.now.accts.length ac, .slice wa s.now.warmA.length wc, .slice sa s.now.warmS.length sc, vr, .slice la s.now.logs.length lc, .slice ta s.now.temps.length tc, .slice ma s.now.made.length mc, .slice ga s.now.gone.length gc, .slice oa s.start.length oc, .slice (some ⟨bf, 0, none⟩) (N - 1) (N - 1), _, .int .u8 (s.phase : Nat), .int .u8 (s.status : Nat), .int .u8 (s.applied : Nat), vlim, vtx, vleft, vpr, vtot] := kS.rput rS 9 rfl
                                        replace rOr := kS.rputo rOr (by first | (left; omega) | (right; simp only [List.length_cons, List.length_nil, length_bL, length_be]; omega))
                                        replace rMd := kS.rputo rMd (by first | (left; omega) | (right; simp only [List.length_cons, List.length_nil, length_bL, length_be]; omega))
                                        refine ⟨.inl rfl, ?_⟩
                                        refine p_nil ?_
                                        refine hK77 _ _ ?_
                                        refine fg6 1 0 6 7 8 2 (gS rfl (gS rfl (gS rfl (gS rfl (gS rfl (gS rfl (gS rfl (gS rfl (gS rfl (gS rfl (gS rfl (gS rfl (gS rfl (gS rfl (gS rfl (gS rfl (gS rfl (gS rfl (gS rfl (gS rfl (gS rfl (gS rfl (gS rfl (gS rfl (gS rfl g0))))))))))))))))))))))))) (gS rfl (gS rfl (gS rfl (gS rfl (gS rfl (gS rfl (gS rfl (gS rfl (gS rfl (gS rfl (gS rfl (gS rfl (gS rfl (gS rfl (gS rfl (gS rfl (gS rfl (gS rfl (gS rfl (gS rfl (gS rfl (gS rfl (gS rfl (gS rfl g0)))))))))))))))))))))))) (gS rfl (gS rfl (gS rfl (gS rfl (gS rfl (gS rfl (gS rfl (gS rfl (gS rfl (gS rfl (gS rfl (gS rfl (gS rfl (gS rfl (gS rfl (gS rfl (gS rfl (gS rfl (gS rfl (gS rfl (gS rfl (gS rfl (gS rfl g0))))))))))))))))))))))) (gS rfl (gS rfl (gS rfl (gS rfl (gS rfl (gS rfl (gS rfl (gS rfl (gS rfl (gS rfl (gS rfl (gS rfl (gS rfl (gS rfl (gS rfl (gS rfl (gS rfl (gS rfl (gS rfl (gS rfl (gS rfl (gS rfl g0)))))))))))))))))))))) (gS rfl (gS rfl (gS rfl (gS rfl (gS rfl (gS rfl (gS rfl (gS rfl (gS rfl (gS rfl (gS rfl (gS rfl (gS rfl (gS rfl (gS rfl (gS rfl (gS rfl (gS rfl (gS rfl (gS rfl (gS rfl g0))))))))))))))))))))) (gS rfl (gS rfl (gS rfl (gS rfl (gS rfl (gS rfl (gS rfl (gS rfl (gS rfl (gS rfl (gS rfl (gS rfl (gS rfl (gS rfl (gS rfl (gS rfl (gS rfl (gS rfl (gS rfl (gS rfl g0)))))))))))))))))))) (fun g => ?_)
                                        refine c_seq (fun K80 hK80 => ?_)
                                        refine c_seq (fun K81 hK81 => ?_)
                                        exact (by
                                          refine c_region ?_
                                          refine l_step (y_moveV (et (gS rfl (gS rfl (gS rfl (gS rfl g0)))) rfl)) ?_
                                          refine l_step (y_nil (et g0 rfl)) ?_
                                          refine l_step (y_fld fld_102_2 (et g0 rfl)) ?_
                                          refine l_step (y_load1 one_100 (et g0 rfl) (at1 (kS.cell (rS 9 _ rfl)))) ?_
                                          refine l_step (y_len Hvaa.underlying100 (et g0 rfl)) ?_
                                          refine l_step (y_eql (et g0 rfl) rfl) ?_
                                          refine l_nil ?_
                                          refine hK81 _ _ ?_
                                          refine fg7 1 0 6 7 8 2 96 (gS rfl (gS rfl (gS rfl (gS rfl (gS rfl (gS rfl (gS rfl (gS rfl (gS rfl (gS rfl (gS rfl g0))))))))))) (gS rfl (gS rfl (gS rfl (gS rfl (gS rfl (gS rfl (gS rfl (gS rfl (gS rfl (gS rfl g0)))))))))) (gS rfl (gS rfl (gS rfl (gS rfl (gS rfl (gS rfl (gS rfl (gS rfl (gS rfl g0))))))))) (gS rfl (gS rfl (gS rfl (gS rfl (gS rfl (gS rfl (gS rfl (gS rfl g0)))))))) (gS rfl (gS rfl (gS rfl (gS rfl (gS rfl (gS rfl (gS rfl g0))))))) (gS rfl (gS rfl (gS rfl (gS rfl (gS rfl (gS rfl g0)))))) g0 (fun g => ?_)
                                          refine c_cond (et g0 rfl) (fun cB6 => ?_) (fun cB6 => ?_)
                                          · skip
                                            
                                            have := of_decide_eq_true cB6; omega
                                          · skip
                                            
                                            refine c_skip ?_
                                            refine hK80 _ _ ?_
                                            refine fg6 1 0 6 7 8 2 (gS rfl (gS rfl (gS rfl (gS rfl (gS rfl (gS rfl g0)))))) (gS rfl (gS rfl (gS rfl (gS rfl (gS rfl g0))))) (gS rfl (gS rfl (gS rfl (gS rfl g0)))) (gS rfl (gS rfl (gS rfl g0))) (gS rfl (gS rfl g0)) (gS rfl g0) (fun g => ?_)
                                            refine c_seq (fun K83 hK83 => ?_)
                                            exact (by
                                              refine c_draw Up 12 [(0, true), (1, true), (2, true), (3, true), (4, true), (5, true), (6, true), (7, true), (8, true), (9, true), (10, true), (11, true)] (by kernel_rfl) (fun w84 hu => ⟨Up.refl _, ?_⟩)
                                              replace G := G.tr (Go.ofUp hF hu)
                                              replace hF := hF.up hu
                                              replace k3 := k3.up hu
                                              replace kS := kS.up hu
                                              replace kF := kF.up hu
                                              replace kL := kL.up hu
                                              replace kM := kM.up hu
                                              replace U := U.tr hu
                                              have SU := Up.refl w84
                                              refine p_step (by exact rfl) (y_moveV (et (gS rfl (gS rfl (gS rfl (gS rfl g0)))) rfl)) ?_
                                              refine p_step (by exact rfl) (y_nil (et g0 rfl)) ?_
                                              refine p_step (by exact rfl) (y_fld fld_102_2 (et g0 rfl)) ?_
                                              refine p_step (by exact rfl) (y_load1 one_100 (et g0 rfl) (atS (kS.cell (rS 9 _ rfl)))) ?_
                                              refine p_step (by exact rfl) (y_moveV (et (gS rfl (gS rfl (gS rfl (gS rfl (gS rfl (gS rfl (gS rfl (gS rfl g0)))))))) rfl)) ?_
                                              refine p_step (by exact rfl) (y_nil (et g0 rfl)) ?_
                                              refine p_step (by exact rfl) (y_fld fld_102_2 (et g0 rfl)) ?_
                                              refine p_step (by exact rfl) (y_load1 one_100 (et g0 rfl) (atS (kS.cell (rS 9 _ rfl)))) ?_
                                              refine p_step (by exact rfl) (y_len Hvaa.underlying100 (et g0 rfl)) ?_
                                              refine p_step (by exact rfl) (y_sub (et g0 rfl) rfl (subIN (y := 1) ?_ ?_)) ?_
                                              omega
                                              omega
                                              refine p_step (by exact rfl) (y_idxSa rfl Hvaa.underlying100 sz_146 (et (gS rfl (gS rfl (gS rfl (gS rfl (gS rfl (gS rfl g0)))))) rfl) (et g0 rfl) ?_) ?_
                                              omega
                                              refine p_step (by exact rfl) (y_assignV (et g0 rfl)) ?_
                                              refine p_nil ?_
                                              refine hK83 _ _ ?_
                                              refine fg6 1 6 7 8 2 10 (gS rfl (gS rfl (gS rfl (gS rfl (gS rfl (gS rfl (gS rfl (gS rfl (gS rfl (gS rfl (gS rfl (gS rfl (gS rfl (gS rfl (gS rfl (gS rfl (gS rfl g0))))))))))))))))) (gS rfl (gS rfl (gS rfl (gS rfl (gS rfl (gS rfl (gS rfl (gS rfl (gS rfl (gS rfl (gS rfl (gS rfl (gS rfl (gS rfl (gS rfl g0))))))))))))))) (gS rfl (gS rfl (gS rfl (gS rfl (gS rfl (gS rfl (gS rfl (gS rfl (gS rfl (gS rfl (gS rfl (gS rfl (gS rfl (gS rfl g0)))))))))))))) (gS rfl (gS rfl (gS rfl (gS rfl (gS rfl (gS rfl (gS rfl (gS rfl (gS rfl (gS rfl (gS rfl (gS rfl (gS rfl g0))))))))))))) (gS rfl (gS rfl (gS rfl (gS rfl (gS rfl (gS rfl (gS rfl (gS rfl (gS rfl (gS rfl (gS rfl (gS rfl g0)))))))))))) g0 (fun g => ?_)
                                              refine c_seq (fun K85 hK85 => ?_)
                                              exact (by
                                                refine c_region ?_
                                                refine l_step (y_moveV (et g0 rfl)) ?_
                                                refine l_step (y_moveV (et (gS rfl g0) rfl)) ?_
                                                refine l_step (y_nil (et g0 rfl)) ?_
                                                refine l_step (y_fld fld_146_4 (et g0 rfl)) ?_
                                                refine l_step (y_load1 one_95 (et g0 rfl) (at1 (kF.cell (rF 4 _ rfl)))) ?_
                                                refine l_step (y_moveV (et (gS rfl (gS rfl (gS rfl (gS rfl (gS rfl (gS rfl (gS rfl (gS rfl g0)))))))) rfl)) ?_
                                                refine l_eff (e_callV cal_34 (aC (et (gS rfl g0) rfl) (aC (et g0 rfl) aN)) (nat_add hF (hGa.mono hL0) n13 (bd_sm (bd_lt2 (b := 256 ^ 4) fo.gas (by decide)) (by decide)) (bd_sm (bd_lt2 (b := 256 ^ 4) (Nat.lt_of_le_of_lt hdl fo6.gas) (by decide)) (by decide)))) (fun v86 w86 h86 => ?_)
                                                obtain ⟨H86, g86, n86⟩ := h86
                                                have hlew86 := g86.le
                                                replace nb3 := g86.nb nb3 k3.lt
                                                replace nbS := g86.nb nbS kS.lt
                                                replace nbF := g86.nb nbF kF.lt
                                                replace nbM := g86.nb nbM (Nat.lt_of_lt_of_le lM U.size)
                                                replace n13 := n13.mono hlew86
                                                replace hL0 := hL0.trans hlew86
                                                replace k3 := k3.up g86.up
                                                replace kS := kS.up g86.up
                                                replace kF := kF.up g86.up
                                                replace kL := kL.up g86.up
                                                replace kM := kM.up g86.up
                                                replace U := U.tr g86.up
                                                replace G := G.tr g86
                                                replace hF := g86.fz
                                                have q86 := bd_add (c := 5) (bd_lt2 (b := 256 ^ 4) fo.gas (by decide)) (bd_lt2 (b := 256 ^ 4) (Nat.lt_of_le_of_lt hdl fo6.gas) (by decide)) (by decide)
                                                refine l_step (y_nil (et (gS rfl (gS rfl (gS rfl (gS rfl (gS rfl (gS rfl g0)))))) rfl)) ?_
                                                refine l_step (y_fld fld_146_4 (et g0 rfl)) ?_
                                                obtain ⟨sa87, sn87, sc87, rfl⟩ := n86.sl
                                                have rl87 := RowIn.le rF (Nat.succ_pos _)
                                                simp only [List.length_cons, List.length_nil, Nat.zero_add, Nat.reduceAdd] at rl87
                                                refine l_effN (e_store sz_95 (et g0 rfl) (cellsV (et (gS rfl (gS rfl g0)) rfl) rfl) rfl (by first | exact one_bL _ | exact one_uL _ | (intro v hv; simp at hv; subst hv; rfl)) kF (by first | exact Nat.le_trans (by omega) rl87 | exact Nat.le_of_ble_eq_true rfl | (simp; done) | (simp; omega) | omega | (simp only [size_spl, Array.size_setIfInBounds, hs.size]; exact Nat.le_of_ble_eq_true rfl))) (fun v87 w87 h87 => ?_)
                                                obtain ⟨rfl, x87⟩ := h87
                                                replace k3 := k3.ch x87.ch (by omega)
                                                replace kS := kS.ch x87.ch (by omega)
                                                replace kL := kL.ch x87.ch (by intro q hq hm; have := dL q hq; omega)
                                                replace kM := kM.ch x87.ch (by omega)
                                                replace kF := x87.blk
                                                replace G := G.wr x87 (.inl (by first | rfl | (simp; done))) nbF
                                                replace hF := G.fz
                                                replace U := U.st x87 (.inl (by first | rfl | (simp; done)))
                                                replace oF := kF.oput oF (by omega) (by omega)
                                                replace rF : RowIn _ _ [.int .u8 (f.kind : Nat), .int .u8 (f.ntv : Nat), .bool f.static, vpc, _, vval, voo, vol, .slice ka f.stack.length kc, vm, .slice ca f.code.length cc, .slice ia f.input.length ic] := kF.rput rF 4 rfl
                                                replace rSe := kF.rputo rSe (by first | (left; omega) | (right; simp only [List.length_cons, List.length_nil, length_bL, length_be, hSv.len]; omega))
                                                replace rCa := kF.rputo rCa (by first | (left; omega) | (right; simp only [List.length_cons, List.length_nil, length_bL, length_be, hSv.len]; omega))
                                                replace rSv := kF.rputo rSv (by first | (left; omega) | (right; simp only [List.length_cons, List.length_nil, length_bL, length_be, hSv.len]; omega))
                                                have hG : lvGas u q l = dp.1 := by rw [lvGas, if_neg (by rw [hS]; omega), if_pos ⟨hcr, hq0⟩, hdp.out]
                                                have hOu : lvOut u q l = [] := by rw [lvOut, if_pos (.inr ⟨hcr, by rw [hS]; exact hd0⟩)]
                                                have hW : lvW s u q l = s.now := by rw [lvW, if_pos (by rw [hS]; exact hd0), if_neg (fun h => hlp h.2)]
                                                have hS0 : lvSt u q l = 0 := by rw [hS]; exact hd0
                                                have hgs := lp.gas
                                                rw [hG] at hgs
                                                have hfP : FC H86 _ _ { f with gas := f.gas + dp.1 } vm := ⟨⟨fo.kind, fo.ntv, fo.pc, hgs, fo.value, fo.outOff, fo.outLen, fo.self, fo.caller, fo.stack, fo.code, fo.input, fo.mem⟩, _, _, _, _, _, _, _, _, _, _, _, _, rF, rSe, rCa, rSv, hSv.mono hL0, (hPc.mono hL0), n86, (hVa.mono hL0), (hOf.mono hL0), (hOl.mono hL0), (hSt.mono hL0), (hCo.mono hL0), (hIn.mono hL0)⟩
                                                refine l_nil ?_
                                                refine hK85 _ _ ?_
                                                refine fg5 1 6 8 2 10 (gS rfl (gS rfl (gS rfl (gS rfl (gS rfl (gS rfl (gS rfl (gS rfl (gS rfl (gS rfl (gS rfl (gS rfl (gS rfl (gS rfl g0)))))))))))))) (gS rfl (gS rfl (gS rfl (gS rfl (gS rfl (gS rfl (gS rfl (gS rfl (gS rfl (gS rfl (gS rfl (gS rfl (gS rfl g0))))))))))))) (gS rfl (gS rfl (gS rfl (gS rfl (gS rfl (gS rfl (gS rfl (gS rfl (gS rfl (gS rfl (gS rfl g0))))))))))) (gS rfl (gS rfl (gS rfl (gS rfl (gS rfl (gS rfl (gS rfl (gS rfl (gS rfl (gS rfl g0)))))))))) (gS rfl (gS rfl (gS rfl (gS rfl (gS rfl (gS rfl (gS rfl (gS rfl (gS rfl g0))))))))) (fun g => ?_)
                                                refine c_seq (fun K88 hK88 => ?_)
                                                exact (by
                                                  refine c_region ?_
                                                  refine l_step y_assignC ?_
                                                  refine l_nil ?_
                                                  refine hK88 _ _ ?_
                                                  refine c_seq (fun K89 hK89 => ?_)
                                                  refine c_seq (fun K90 hK90 => ?_)
                                                  exact (by
                                                    refine c_region ?_
                                                    refine l_step (y_moveV (et (gS rfl (gS rfl (gS rfl (gS rfl (gS rfl g0))))) rfl)) ?_
                                                    refine l_step (y_eql (et g0 rfl) rfl) ?_
                                                    refine l_nil ?_
                                                    refine hK90 _ _ ?_
                                                    refine fg6 6 8 2 10 11 132 (gS rfl (gS rfl (gS rfl (gS rfl (gS rfl (gS rfl g0)))))) (gS rfl (gS rfl (gS rfl (gS rfl (gS rfl g0))))) (gS rfl (gS rfl (gS rfl (gS rfl g0)))) (gS rfl (gS rfl (gS rfl g0))) (gS rfl (gS rfl g0)) g0 (fun g => ?_)
                                                    refine c_cond (et g0 rfl) (fun cB7 => ?_) (fun cB7 => ?_)
                                                    · skip
                                                      
                                                      refine c_seq (fun K92 hK92 => ?_)
                                                      exact (by
                                                        refine c_region ?_
                                                        refine l_eff (e_callV cal_32 (aC (v := .int .u64 ((1 : Nat) : Int)) rfl aN) (yp_num (x := 1) hF (by decide))) (fun v93 w93 h93 => ?_)
                                                        obtain ⟨H93, g93, n93⟩ := h93
                                                        have hlew93 := g93.le
                                                        replace nb3 := g93.nb nb3 k3.lt
                                                        replace nbS := g93.nb nbS kS.lt
                                                        replace nbF := g93.nb nbF kF.lt
                                                        replace nbM := g93.nb nbM (Nat.lt_of_lt_of_le lM U.size)
                                                        replace n13 := n13.mono hlew93
                                                        replace n86 := n86.mono hlew93
                                                        replace hfP := hfP.mono hlew93
                                                        replace hL0 := hL0.trans hlew93
                                                        replace k3 := k3.up g93.up
                                                        replace kS := kS.up g93.up
                                                        replace kF := kF.up g93.up
                                                        replace kL := kL.up g93.up
                                                        replace kM := kM.up g93.up
                                                        replace U := U.tr g93.up
                                                        replace G := G.tr g93
                                                        replace hF := g93.fz
                                                        have q93 : 1 < 256 ^ 1 := by decide
                                                        refine l_step (y_assignV (et g0 rfl)) ?_
                                                        refine l_nil ?_
                                                        refine hK92 _ _ ?_
                                                        refine fg5 6 8 2 10 11 (gS rfl (gS rfl (gS rfl (gS rfl (gS rfl (gS rfl (gS rfl g0))))))) (gS rfl (gS rfl (gS rfl (gS rfl (gS rfl (gS rfl g0)))))) (gS rfl (gS rfl (gS rfl (gS rfl (gS rfl g0))))) (gS rfl (gS rfl (gS rfl (gS rfl g0)))) g0 (fun g => ?_)
                                                        refine c_seq (fun K94 hK94 => ?_)
                                                        exact (by
                                                          refine c_region ?_
                                                          refine l_step (y_moveV (et (gS rfl (gS rfl (gS rfl g0))) rfl)) ?_
                                                          refine l_nil ?_
                                                          refine hK94 _ _ ?_
                                                          refine fg5 6 2 10 11 134 (gS rfl (gS rfl (gS rfl (gS rfl (gS rfl g0))))) (gS rfl (gS rfl (gS rfl g0))) (gS rfl (gS rfl g0)) (gS rfl g0) g0 (fun g => ?_)
                                                          refine c_cond (et g0 rfl) (fun cB8 => ?_) (fun cB8 => ?_)
                                                          · skip
                                                            
                                                            exact (by
                                                              refine c_region ?_
                                                              refine l_step (y_fld fld_146_12 (et (gS rfl (gS rfl (gS rfl (gS rfl g0)))) rfl)) ?_
                                                              refine l_step (y_slA000 Hvaa.underlying25 sz_5 (et g0 rfl) ) ?_
                                                              refine l_eff (e_callV cal_33 (aC (et g0 rfl) aN) (nat_fromRow hF (k3.row qSe) k3.lt (bd_A fo6.self) (by decide))) (fun v96 w96 h96 => ?_)
                                                              obtain ⟨H96, g96, n96⟩ := h96
                                                              have hlew96 := g96.le
                                                              replace nb3 := g96.nb nb3 k3.lt
                                                              replace nbS := g96.nb nbS kS.lt
                                                              replace nbF := g96.nb nbF kF.lt
                                                              replace nbM := g96.nb nbM (Nat.lt_of_lt_of_le lM U.size)
                                                              replace n13 := n13.mono hlew96
                                                              replace n86 := n86.mono hlew96
                                                              replace hfP := hfP.mono hlew96
                                                              replace n93 := n93.mono hlew96
                                                              replace hL0 := hL0.trans hlew96
                                                              replace k3 := k3.up g96.up
                                                              replace kS := kS.up g96.up
                                                              replace kF := kF.up g96.up
                                                              replace kL := kL.up g96.up
                                                              replace kM := kM.up g96.up
                                                              replace U := U.tr g96.up
                                                              replace G := G.tr g96
                                                              replace hF := g96.fz
                                                              refine l_step (y_assignV (et g0 rfl)) ?_
                                                              refine l_nil ?_
                                                              refine hK89 _ _ ?_
                                                              refine fg3 2 10 11 (gS rfl (gS rfl (gS rfl (gS rfl (gS rfl (gS rfl (gS rfl g0))))))) (gS rfl (gS rfl (gS rfl (gS rfl (gS rfl (gS rfl g0)))))) g0 (fun g => ?_)
                                                              refine c_seq (fun K97 hK97 => ?_)
                                                              refine c_seq (fun K98 hK98 => ?_)
                                                              exact (by
                                                                refine c_region ?_
                                                                refine l_step (y_moveV (et (gS rfl g0) rfl)) ?_
                                                                refine l_step (y_nil (et g0 rfl)) ?_
                                                                refine l_step (y_fld fld_146_7 (et g0 rfl)) ?_
                                                                refine l_step (y_load1 one_95 (et g0 rfl) (at1 (kF.cell (rF 7 _ rfl)))) ?_
                                                                refine l_eff (e_callV cal_24 (aC (et g0 rfl) aN) (yp_small hF (hOl.mono hL0) (bd_sm (bd_W fo.outLen) (by decide)))) (fun v99 w99 h99 => ?_)
                                                                obtain ⟨rfl, u99⟩ := h99
                                                                replace G := G.tr (Go.ofUp hF u99)
                                                                replace hF := hF.up u99
                                                                replace k3 := k3.up u99
                                                                replace kS := kS.up u99
                                                                replace kF := kF.up u99
                                                                replace kL := kL.up u99
                                                                replace kM := kM.up u99
                                                                replace U := U.tr u99
                                                                rw [lo_small lp.outl]
                                                                refine l_step (y_moveV (et (gS rfl (gS rfl (gS rfl (gS rfl (gS rfl (gS rfl (gS rfl g0))))))) rfl)) ?_
                                                                refine l_step (y_len Hvaa.underlying38 (et g0 rfl)) ?_
                                                                refine l_step (y_conv Hvaa.underlying3 Hvaa.underlying26 (et g0 rfl) (wrapU_id uk64 ?_)) ?_
                                                                (omega)
                                                                refine l_step (y_minN (et (gS rfl (gS rfl (gS rfl g0))) rfl) (et g0 rfl)) ?_
                                                                refine l_step (y_assignV (et g0 rfl)) ?_
                                                                refine l_nil ?_
                                                                refine hK98 _ _ ?_
                                                                refine fg4 2 10 11 12 (gS rfl (gS rfl (gS rfl (gS rfl (gS rfl (gS rfl (gS rfl (gS rfl (gS rfl (gS rfl (gS rfl (gS rfl g0)))))))))))) (gS rfl (gS rfl (gS rfl (gS rfl (gS rfl (gS rfl (gS rfl (gS rfl (gS rfl (gS rfl (gS rfl g0))))))))))) (gS rfl (gS rfl (gS rfl (gS rfl (gS rfl (gS rfl (gS rfl (gS rfl (gS rfl (gS rfl g0)))))))))) g0 (fun g => ?_)
                                                                refine c_seq (fun K100 hK100 => ?_)
                                                                exact (by
                                                                  refine c_region ?_
                                                                  refine l_step (y_moveV (et g0 rfl)) ?_
                                                                  refine l_step (y_gtr (et g0 rfl) rfl) ?_
                                                                  refine l_nil ?_
                                                                  refine hK100 _ _ ?_
                                                                  refine fg5 2 10 11 12 148 (gS rfl (gS rfl (gS rfl (gS rfl (gS rfl g0))))) (gS rfl (gS rfl (gS rfl (gS rfl g0)))) (gS rfl (gS rfl (gS rfl g0))) (gS rfl (gS rfl g0)) g0 (fun g => ?_)
                                                                  refine c_cond (et g0 rfl) (fun cB9 => ?_) (fun cB9 => ?_)
                                                                  · skip
                                                                    
                                                                    have := of_decide_eq_true cB9; simp at this
                                                                  · skip
                                                                    
                                                                    have hb9 : ¬ 0 < min f.outLen ([] : List Nat).length := by simp
                                                                    refine c_skip ?_
                                                                    refine hK97 _ _ ?_
                                                                    refine fg2 10 11 (gS rfl (gS rfl (gS rfl g0))) (gS rfl (gS rfl g0)) (fun g => ?_)
                                                                    exact (by
                                                                      refine c_region ?_
                                                                      refine l_step (y_moveV (et (gS rfl g0) rfl)) ?_
                                                                      refine l_step (y_moveV (et (gS rfl g0) rfl)) ?_
                                                                      refine l_eff (e_callV cal_143 (aC (et (gS rfl g0) rfl) (aC (v := .int .i64 ((0 : Nat) : Int)) rfl (aC (et g0 rfl) aN))) (yp_answer hF _ _ _ _ _ kF hfP nbF 0 (Nat.zero_le _) lp.stk lp.pc n96 (W_bd (bd_up (bd_A fo6.self) (by decide))))) (fun v102 w102 h102 => ?_)
                                                                      obtain ⟨rfl, fs102, H102, g102, kf102, fc102, of102⟩ := h102
                                                                      have hlew102 := g102.le
                                                                      replace nb3 := g102.nb nb3 k3.lt
                                                                      replace nbS := g102.nb nbS kS.lt
                                                                      replace nbF := g102.nb nbF kF.lt
                                                                      replace nbM := g102.nb nbM (Nat.lt_of_lt_of_le lM U.size)
                                                                      replace n13 := n13.mono hlew102
                                                                      replace n86 := n86.mono hlew102
                                                                      replace hfP := hfP.mono hlew102
                                                                      replace n93 := n93.mono hlew102
                                                                      replace n96 := n96.mono hlew102
                                                                      replace hL0 := hL0.trans hlew102
                                                                      replace k3 := k3.ch g102.ch (by omega)
                                                                      replace kS := kS.ch g102.ch (by omega)
                                                                      replace kL := kL.ch g102.ch (by intro q hq hm; have := dL q hq; omega)
                                                                      replace kM := kM.ch g102.ch (by omega)
                                                                      replace kF := kf102
                                                                      replace U := U.cc g102.ch (by intro b hb; first | omega | exact .inl hb | exact .inr (hb ▸ U))
                                                                      replace G := G.trans g102 (by intro b hb; first | omega | exact .inl hb | (simp at hb ⊢; omega))
                                                                      replace hF := g102.fz
                                                                      refine l_nil ?_
                                                                      refine end0 rfl ?_
                                                                      have hG : lvGas u q l = dp.1 := by rw [lvGas, if_neg (by rw [hS]; omega), if_pos ⟨hcr, hq0⟩, hdp.out]
                                                                      have hOu : lvOut u q l = [] := by rw [lvOut, if_pos (.inr ⟨hcr, by rw [hS]; exact hd0⟩)]
                                                                      have hW : lvW s u q l = s.now := by rw [lvW, if_pos (by rw [hS]; exact hd0), if_neg (fun h => hlp h.2)]
                                                                      have hS0 : lvSt u q l = 0 := by rw [hS]; exact hd0
                                                                      have hFl : lvFlag u q l = u.self := by rw [lvFlag, if_pos hS0, if_pos hcr]
                                                                      have hMm : lvMem f u q l = f.mem := by rw [lvMem, hOu, if_neg hb9]
                                                                      have eP : lvP f u q l = ansN { f with gas := f.gas + dp.1, mem := f.mem } 0 u.self := by rw [lvP, hG, hMm, hFl]
                                                                      have eS : lvS2 s u q l = { s with now := s.now, ret := [] } := by rw [lvS2, hW, hOu]
                                                                      rw [eS, hW, eP]
                                                                      exact ⟨rfl, _, _, _, _, G, kS, ⟨⟨so.accts, so.warmA, so.warmS, so.refund, so.logs, so.temps, so.made, so.gone, so.start, (show 0 < 16777216 by decide), so.phase, so.status, so.applied, so.limit, so.txGas, so.left, so.price, so.total, so.origin, so.mad⟩, eC.mono hL0, (by simp only [size_spl, Array.size_setIfInBounds]; exact hs.size), _, _, _, _, _, _, _, _, _, _, _, _, _, _, _, _, _, _, _, _, _, _, _, _, rS, rOr, rMd, (hAc.mono hL0), (hWA.mono hL0), (hWS.mono hL0), (hRf.mono hL0), (hTm.mono hL0), (hMd.mono hL0), (hGn.mono hL0), (hSr.mono hL0), (BV.nil _), (hLm.mono hL0), (hTx.mono hL0), (hLf.mono hL0), (hPr.mono hL0), (hTt.mono hL0)⟩, kF, fc102, oF.trans of102, kM, by rw [if_pos hS0]; exact kL.mono hL0, ((rS 4 _ rfl).trans (hv4.symm.trans hvl))⟩))))
                                                          · skip
                                                            
                                                            rw [hcr] at cB8; cases cB8))
                                                    · skip
                                                      
                                                      have := of_decide_eq_false cB7; omega)))))))))))
                    · skip
                      
                      have hd0 : dp.2 ≠ 0 := by have := of_decide_eq_false cB2; omega
                      refine c_skip ?_
                      refine hK8 _ _ ?_
                      refine fg6 2 1 0 6 7 8 (gS rfl (gS rfl (gS rfl (gS rfl (gS rfl (gS rfl g0)))))) (gS rfl (gS rfl (gS rfl (gS rfl (gS rfl g0))))) (gS rfl (gS rfl (gS rfl (gS rfl g0)))) (gS rfl (gS rfl (gS rfl g0))) (gS rfl (gS rfl g0)) (gS rfl g0) (fun g => ?_)
                      refine c_seq (fun K103 hK103 => ?_)
                      refine c_seq (fun K104 hK104 => ?_)
                      exact (by
                        refine c_region ?_
                        refine l_step (y_moveV (et (gS rfl (gS rfl (gS rfl (gS rfl g0)))) rfl)) ?_
                        refine l_step (y_neq (et g0 rfl) rfl) ?_
                        refine l_nil ?_
                        refine hK104 _ _ ?_
                        refine fg7 2 1 0 6 7 8 59 (gS rfl (gS rfl (gS rfl (gS rfl (gS rfl (gS rfl (gS rfl g0))))))) (gS rfl (gS rfl (gS rfl (gS rfl (gS rfl (gS rfl g0)))))) (gS rfl (gS rfl (gS rfl (gS rfl (gS rfl g0))))) (gS rfl (gS rfl (gS rfl (gS rfl g0)))) (gS rfl (gS rfl (gS rfl g0))) (gS rfl (gS rfl g0)) g0 (fun g => ?_)
                        refine c_cond (et g0 rfl) (fun cB4 => ?_) (fun cB4 => ?_)
                        · skip
                          
                          exact (by
                            refine c_region ?_
                            refine l_step (y_moveV (et (gS rfl (gS rfl (gS rfl (gS rfl g0)))) rfl)) ?_
                            refine l_step (y_fld fld_146_14 (et (gS rfl (gS rfl (gS rfl (gS rfl g0)))) rfl)) ?_
                            refine l_step (y_loadR agg_98 sz_98 (et g0 rfl) rfl (at1R (k3.row qSv))) ?_
                            refine l_step (y_nil (et (gS rfl (gS rfl g0)) rfl)) ?_
                            refine l_step (y_fld fld_102_0 (et g0 rfl)) ?_
                            have rl106 := RowIn.le rS (Nat.succ_pos _)
                            simp only [List.length_cons, List.length_nil, Nat.zero_add, Nat.reduceAdd] at rl106
                            refine l_effN (e_store sz_98 (et g0 rfl) (cellsV (et (gS rfl (gS rfl g0)) rfl) rfl) rfl (by intro v hv; simp only [List.mem_cons, List.not_mem_nil, or_false] at hv; rcases hv with rfl | rfl | rfl | rfl | rfl | rfl | rfl | rfl <;> rfl) kS (by omega)) (fun v106 w106 h106 => ?_)
                            obtain ⟨rfl, x106⟩ := h106
                            replace k3 := k3.ch x106.ch (by omega)
                            replace kF := kF.ch x106.ch (by omega)
                            replace kL := kL.ch x106.ch (by intro q hq hm; have := dL q hq; omega)
                            replace kM := kM.ch x106.ch (by omega)
                            replace kS := x106.blk
                            replace G := G.wr x106 (.inl (by first | rfl | (simp; done))) nbS
                            replace hF := G.fz
                            replace U := U.st x106 (.inl (by first | rfl | (simp; done)))
                            replace eC := kS.eputm eC (by first | omega | (simp only [length_bL, length_be, List.length_cons, List.length_nil]; omega)) (by first | omega | (simp only [length_bL, length_be, List.length_cons, List.length_nil]; omega))
                            replace rS : RowIn _ _ [.slice pa1 u.saved.accts.length pa2, .slice pwa1 u.saved.warmA.length pwa2, .slice pws1 u.saved.warmS.length pws2, .slice pr1 pr2 pr3, .slice pla u.saved.logs.length u.saved.logs.length, .slice pt1 u.saved.temps.length pt2, .slice pm1 u.saved.made.length pm2, .slice pg1 u.saved.gone.length pg2, .slice oa s.start.length oc, .slice (some ⟨bf, 0, none⟩) N cap, .slice ra s.ret.length rc, .int .u8 (s.phase : Nat), .int .u8 (s.status : Nat), .int .u8 (s.applied : Nat), vlim, vtx, vleft, vpr, vtot] := kS.rputm rS 0 (by first | omega | (simp only [length_bL, length_be, List.length_cons, List.length_nil]; omega)) rfl (Nat.le_of_ble_eq_true rfl)
                            replace rOr := kS.rputmo rOr (by first | omega | (simp only [length_bL, length_be, List.length_cons, List.length_nil]; omega)) (by first | omega | (simp only [length_bL, length_be, List.length_cons, List.length_nil]; omega))
                            replace rMd := kS.rputmo rMd (by first | omega | (simp only [length_bL, length_be, List.length_cons, List.length_nil]; omega)) (by first | omega | (simp only [length_bL, length_be, List.length_cons, List.length_nil]; omega))
                            refine l_nil ?_
                            refine hK103 _ _ ?_
                            refine fg6 2 1 0 6 7 8 (gS rfl (gS rfl (gS rfl (gS rfl (gS rfl (gS rfl (gS rfl (gS rfl (gS rfl (gS rfl (gS rfl g0))))))))))) (gS rfl (gS rfl (gS rfl (gS rfl (gS rfl (gS rfl (gS rfl (gS rfl (gS rfl (gS rfl g0)))))))))) (gS rfl (gS rfl (gS rfl (gS rfl (gS rfl (gS rfl (gS rfl (gS rfl (gS rfl g0))))))))) (gS rfl (gS rfl (gS rfl (gS rfl (gS rfl (gS rfl (gS rfl (gS rfl g0)))))))) (gS rfl (gS rfl (gS rfl (gS rfl (gS rfl (gS rfl (gS rfl g0))))))) (gS rfl (gS rfl (gS rfl (gS rfl (gS rfl (gS rfl g0)))))) (fun g => ?_)
                            refine c_seq (fun K107 hK107 => ?_)
                            refine c_seq (fun K108 hK108 => ?_)
                            exact (by
                              refine c_region ?_
                              refine l_step (y_moveV (et (gS rfl (gS rfl (gS rfl (gS rfl g0)))) rfl)) ?_
                              refine l_step (y_gtr (et g0 rfl) rfl) ?_
                              refine l_nil ?_
                              refine hK108 _ _ ?_
                              refine fg7 2 1 0 6 7 8 66 (gS rfl (gS rfl (gS rfl (gS rfl (gS rfl (gS rfl (gS rfl g0))))))) (gS rfl (gS rfl (gS rfl (gS rfl (gS rfl (gS rfl g0)))))) (gS rfl (gS rfl (gS rfl (gS rfl (gS rfl g0))))) (gS rfl (gS rfl (gS rfl (gS rfl g0)))) (gS rfl (gS rfl (gS rfl g0))) (gS rfl (gS rfl g0)) g0 (fun g => ?_)
                              refine c_cond (et g0 rfl) (fun cB5 => ?_) (fun cB5 => ?_)
                              · skip
                                
                                refine c_seq (fun K110 hK110 => ?_)
                                exact (by
                                  refine c_region ?_
                                  refine l_step y_assignC ?_
                                  refine l_nil ?_
                                  refine hK110 _ _ ?_
                                  refine fg5 1 0 6 7 8 (gS rfl (gS rfl (gS rfl (gS rfl (gS rfl (gS rfl g0)))))) (gS rfl (gS rfl (gS rfl (gS rfl (gS rfl g0))))) (gS rfl (gS rfl (gS rfl (gS rfl g0)))) g0 (gS rfl (gS rfl g0)) (fun g => ?_)
                                  refine c_region ?_
                                  refine l_step y_assignC ?_
                                  refine l_nil ?_
                                  refine hK107 _ _ ?_
                                  refine c_seq (fun K111 hK111 => ?_)
                                  exact (by
                                    refine c_region ?_
                                    refine l_step (y_moveV (et (gS rfl (gS rfl (gS rfl (gS rfl g0)))) rfl)) ?_
                                    refine l_step (y_moveV (et (gS rfl g0) rfl)) ?_
                                    refine l_step (y_nil (et (gS rfl g0) rfl)) ?_
                                    refine l_step (y_fld fld_102_3 (et g0 rfl)) ?_
                                    have rl112 := RowIn.le rS (Nat.succ_pos _)
                                    simp only [List.length_cons, List.length_nil, Nat.zero_add, Nat.reduceAdd] at rl112
                                    refine l_effN (e_store sz_38 (et g0 rfl) (cellsV (et (gS rfl (gS rfl g0)) rfl) rfl) rfl (by first | exact one_bL _ | exact one_uL _ | (intro v hv; simp at hv; subst hv; rfl)) kS (by first | exact Nat.le_trans (by omega) rl112 | exact Nat.le_of_ble_eq_true rfl | (simp; done) | (simp; omega) | omega | (simp only [size_spl, Array.size_setIfInBounds, hs.size]; exact Nat.le_of_ble_eq_true rfl))) (fun v112 w112 h112 => ?_)
                                    obtain ⟨rfl, x112⟩ := h112
                                    replace k3 := k3.ch x112.ch (by omega)
                                    replace kF := kF.ch x112.ch (by omega)
                                    replace kL := kL.ch x112.ch (by intro q hq hm; have := dL q hq; omega)
                                    replace kM := kM.ch x112.ch (by omega)
                                    replace kS := x112.blk
                                    replace G := G.wr x112 (.inl (by first | rfl | (simp; done))) nbS
                                    replace hF := G.fz
                                    replace U := U.st x112 (.inl (by first | rfl | (simp; done)))
                                    replace eC := kS.eput eC (by omega)
                                    replace rS : RowIn _ _ [.slice pa1 u.saved.accts.length pa2, .slice pwa1 u.saved.warmA.length pwa2, .slice pws1 u.saved.warmS.length pws2, .slice pr1 pr2 pr3, .slice pla u.saved.logs.length u.saved.logs.length, .slice pt1 u.saved.temps.length pt2, .slice pm1 u.saved.made.length pm2, .slice pg1 u.saved.gone.length pg2, .slice oa s.start.length oc, .slice (some ⟨bf, 0, none⟩) N cap, _, .int .u8 (s.phase : Nat), .int .u8 (s.status : Nat), .int .u8 (s.applied : Nat), vlim, vtx, vleft, vpr, vtot] := kS.rput rS 10 rfl
                                    replace rOr := kS.rputo rOr (by first | (left; omega) | (right; simp only [List.length_cons, List.length_nil, length_bL, length_be]; omega))
                                    replace rMd := kS.rputo rMd (by first | (left; omega) | (right; simp only [List.length_cons, List.length_nil, length_bL, length_be]; omega))
                                    refine l_nil ?_
                                    refine hK111 _ _ ?_
                                    refine fg6 1 0 6 7 8 2 (gS rfl (gS rfl (gS rfl (gS rfl (gS rfl (gS rfl (gS rfl (gS rfl (gS rfl g0))))))))) (gS rfl (gS rfl (gS rfl (gS rfl (gS rfl (gS rfl (gS rfl (gS rfl g0)))))))) (gS rfl (gS rfl (gS rfl (gS rfl (gS rfl (gS rfl (gS rfl g0))))))) (gS rfl (gS rfl (gS rfl (gS rfl (gS rfl (gS rfl g0)))))) (gS rfl (gS rfl (gS rfl (gS rfl (gS rfl g0))))) (gS rfl (gS rfl (gS rfl (gS rfl g0)))) (fun g => ?_)
                                    refine c_seq (fun K113 hK113 => ?_)
                                    exact (by
                                      refine c_draw Up 20 [(0, true), (1, true), (2, true), (3, true), (4, true), (5, true), (6, true), (7, true), (8, true), (9, true), (10, true), (11, true), (12, true), (13, true), (14, true), (15, true), (16, true), (17, true), (18, true), (19, true), (20, false)] (by kernel_rfl) (fun w114 hu => ⟨Up.refl _, ?_⟩)
                                      replace G := G.tr (Go.ofUp hF hu)
                                      replace hF := hF.up hu
                                      replace k3 := k3.up hu
                                      replace kS := kS.up hu
                                      replace kF := kF.up hu
                                      replace kL := kL.up hu
                                      replace kM := kM.up hu
                                      replace U := U.tr hu
                                      have SU := Up.refl w114
                                      refine p_step (by exact rfl) (y_moveV (et (gS rfl (gS rfl (gS rfl (gS rfl g0)))) rfl)) ?_
                                      refine p_step (by exact rfl) (y_moveV (et (gS rfl (gS rfl (gS rfl (gS rfl (gS rfl g0))))) rfl)) ?_
                                      refine p_step (by exact rfl) (y_nil (et g0 rfl)) ?_
                                      refine p_step (by exact rfl) (y_fld fld_102_2 (et g0 rfl)) ?_
                                      refine p_step (by exact rfl) (y_load1 one_100 (et g0 rfl) (atS (kS.cell (rS 9 _ rfl)))) ?_
                                      refine p_step (by exact rfl) (y_moveV (et (gS rfl (gS rfl (gS rfl (gS rfl (gS rfl (gS rfl (gS rfl (gS rfl (gS rfl g0))))))))) rfl)) ?_
                                      refine p_step (by exact rfl) (y_nil (et g0 rfl)) ?_
                                      refine p_step (by exact rfl) (y_fld fld_102_2 (et g0 rfl)) ?_
                                      refine p_step (by exact rfl) (y_load1 one_100 (et g0 rfl) (atS (kS.cell (rS 9 _ rfl)))) ?_
                                      refine p_step (by exact rfl) (y_len Hvaa.underlying100 (et g0 rfl)) ?_
                                      refine p_step (by exact rfl) (y_sub (et g0 rfl) rfl (subIN (y := 1) ?_ ?_)) ?_
                                      omega
                                      omega
                                      refine p_step (by exact rfl) (y_moveV (et (gS rfl (gS rfl (gS rfl (gS rfl (gS rfl (gS rfl (gS rfl (gS rfl (gS rfl (gS rfl (gS rfl (gS rfl (gS rfl (gS rfl (gS rfl g0))))))))))))))) rfl)) ?_
                                      refine p_step (by exact rfl) (y_nil (et g0 rfl)) ?_
                                      refine p_step (by exact rfl) (y_fld fld_102_2 (et g0 rfl)) ?_
                                      refine p_step (by exact rfl) (y_load1 one_100 (et g0 rfl) (atS (kS.cell (rS 9 _ rfl)))) ?_
                                      refine p_step (by exact rfl) (y_len Hvaa.underlying100 (et g0 rfl)) ?_
                                      refine p_step (by exact rfl) (y_sub (et g0 rfl) rfl (subIN (y := 1) ?_ ?_)) ?_
                                      omega
                                      omega
                                      exact (by
                                        refine p_step (by exact rfl) (y_slS011n Hvaa.underlying100 sz_146 (et (gS rfl (gS rfl (gS rfl (gS rfl (gS rfl (gS rfl (gS rfl (gS rfl (gS rfl (gS rfl (gS rfl (gS rfl g0)))))))))))) rfl) (et (gS rfl (gS rfl (gS rfl (gS rfl (gS rfl (gS rfl g0)))))) rfl) (et g0 rfl) ?_ ?_) ?_
                                        omega
                                        omega
                                        refine p_step (by exact rfl) (y_nil (et (gS rfl (gS rfl (gS rfl (gS rfl (gS rfl (gS rfl (gS rfl (gS rfl (gS rfl (gS rfl (gS rfl (gS rfl (gS rfl (gS rfl (gS rfl (gS rfl (gS rfl g0))))))))))))))))) rfl)) ?_
                                        refine p_step (by exact rfl) (y_fld fld_102_2 (et g0 rfl)) ?_
                                        have rl115 := RowIn.le rS (Nat.succ_pos _)
                                        simp only [List.length_cons, List.length_nil, Nat.zero_add, Nat.reduceAdd] at rl115
                                        refine p_effN (by exact rfl) (e_store sz_100 (et g0 rfl) (cellsV (et (gS rfl (gS rfl g0)) rfl) rfl) rfl (by first | exact one_bL _ | exact one_uL _ | (intro v hv; simp at hv; subst hv; rfl)) kS (by first | exact Nat.le_trans (by omega) rl115 | exact Nat.le_of_ble_eq_true rfl | (simp; done) | (simp; omega) | omega | (simp only [size_spl, Array.size_setIfInBounds, hs.size]; exact Nat.le_of_ble_eq_true rfl))) (fun v115 w115 h115 => ?_)
                                        obtain ⟨rfl, x115⟩ := h115
                                        replace k3 := k3.ch x115.ch (by omega)
                                        replace kF := kF.ch x115.ch (by omega)
                                        replace kL := kL.ch x115.ch (by intro q hq hm; have := dL q hq; omega)
                                        replace kM := kM.ch x115.ch (by omega)
                                        replace kS := x115.blk
                                        replace G := G.wr x115 (.inl (by first | rfl | (simp; done))) nbS
                                        replace hF := G.fz
                                        replace U := U.st x115 (.inl (by first | rfl | (simp; done)))
                                        replace eC := kS.eput eC (by omega)
                                        replace rS : RowIn _ _ [.slice pa1 u.saved.accts.length pa2, .slice pwa1 u.saved.warmA.length pwa2, .slice pws1 u.saved.warmS.length pws2, .slice pr1 pr2 pr3, .slice pla u.saved.logs.length u.saved.logs.length, .slice pt1 u.saved.temps.length pt2, .slice pm1 u.saved.made.length pm2, .slice pg1 u.saved.gone.length pg2, .slice oa s.start.length oc, .slice (some ⟨bf, 0, none⟩) (N - 1) (N - 1), _, .int .u8 (s.phase : Nat), .int .u8 (s.status : Nat), .int .u8 (s.applied : Nat), vlim, vtx, vleft, vpr, vtot] := kS.rput rS 9 rfl
                                        replace rOr := kS.rputo rOr (by first | (left; omega) | (right; simp only [List.length_cons, List.length_nil, length_bL, length_be]; omega))
                                        replace rMd := kS.rputo rMd (by first | (left; omega) | (right; simp only [List.length_cons, List.length_nil, length_bL, length_be]; omega))
                                        refine ⟨.inl rfl, ?_⟩
                                        refine p_nil ?_
                                        refine hK113 _ _ ?_
                                        refine fg6 1 0 6 7 8 2 (gS rfl (gS rfl (gS rfl (gS rfl (gS rfl (gS rfl (gS rfl (gS rfl (gS rfl (gS rfl (gS rfl (gS rfl (gS rfl (gS rfl (gS rfl (gS rfl (gS rfl (gS rfl (gS rfl (gS rfl (gS rfl (gS rfl (gS rfl (gS rfl (gS rfl g0))))))))))))))))))))))))) (gS rfl (gS rfl (gS rfl (gS rfl (gS rfl (gS rfl (gS rfl (gS rfl (gS rfl (gS rfl (gS rfl (gS rfl (gS rfl (gS rfl (gS rfl (gS rfl (gS rfl (gS rfl (gS rfl (gS rfl (gS rfl (gS rfl (gS rfl (gS rfl g0)))))))))))))))))))))))) (gS rfl (gS rfl (gS rfl (gS rfl (gS rfl (gS rfl (gS rfl (gS rfl (gS rfl (gS rfl (gS rfl (gS rfl (gS rfl (gS rfl (gS rfl (gS rfl (gS rfl (gS rfl (gS rfl (gS rfl (gS rfl (gS rfl (gS rfl g0))))))))))))))))))))))) (gS rfl (gS rfl (gS rfl (gS rfl (gS rfl (gS rfl (gS rfl (gS rfl (gS rfl (gS rfl (gS rfl (gS rfl (gS rfl (gS rfl (gS rfl (gS rfl (gS rfl (gS rfl (gS rfl (gS rfl (gS rfl (gS rfl g0)))))))))))))))))))))) (gS rfl (gS rfl (gS rfl (gS rfl (gS rfl (gS rfl (gS rfl (gS rfl (gS rfl (gS rfl (gS rfl (gS rfl (gS rfl (gS rfl (gS rfl (gS rfl (gS rfl (gS rfl (gS rfl (gS rfl (gS rfl g0))))))))))))))))))))) (gS rfl (gS rfl (gS rfl (gS rfl (gS rfl (gS rfl (gS rfl (gS rfl (gS rfl (gS rfl (gS rfl (gS rfl (gS rfl (gS rfl (gS rfl (gS rfl (gS rfl (gS rfl (gS rfl (gS rfl g0)))))))))))))))))))) (fun g => ?_)
                                        refine c_seq (fun K116 hK116 => ?_)
                                        refine c_seq (fun K117 hK117 => ?_)
                                        exact (by
                                          refine c_region ?_
                                          refine l_step (y_moveV (et (gS rfl (gS rfl (gS rfl (gS rfl g0)))) rfl)) ?_
                                          refine l_step (y_nil (et g0 rfl)) ?_
                                          refine l_step (y_fld fld_102_2 (et g0 rfl)) ?_
                                          refine l_step (y_load1 one_100 (et g0 rfl) (at1 (kS.cell (rS 9 _ rfl)))) ?_
                                          refine l_step (y_len Hvaa.underlying100 (et g0 rfl)) ?_
                                          refine l_step (y_eql (et g0 rfl) rfl) ?_
                                          refine l_nil ?_
                                          refine hK117 _ _ ?_
                                          refine fg7 1 0 6 7 8 2 96 (gS rfl (gS rfl (gS rfl (gS rfl (gS rfl (gS rfl (gS rfl (gS rfl (gS rfl (gS rfl (gS rfl g0))))))))))) (gS rfl (gS rfl (gS rfl (gS rfl (gS rfl (gS rfl (gS rfl (gS rfl (gS rfl (gS rfl g0)))))))))) (gS rfl (gS rfl (gS rfl (gS rfl (gS rfl (gS rfl (gS rfl (gS rfl (gS rfl g0))))))))) (gS rfl (gS rfl (gS rfl (gS rfl (gS rfl (gS rfl (gS rfl (gS rfl g0)))))))) (gS rfl (gS rfl (gS rfl (gS rfl (gS rfl (gS rfl (gS rfl g0))))))) (gS rfl (gS rfl (gS rfl (gS rfl (gS rfl (gS rfl g0)))))) g0 (fun g => ?_)
                                          refine c_cond (et g0 rfl) (fun cB6 => ?_) (fun cB6 => ?_)
                                          · skip
                                            
                                            have := of_decide_eq_true cB6; omega
                                          · skip
                                            
                                            refine c_skip ?_
                                            refine hK116 _ _ ?_
                                            refine fg6 1 0 6 7 8 2 (gS rfl (gS rfl (gS rfl (gS rfl (gS rfl (gS rfl g0)))))) (gS rfl (gS rfl (gS rfl (gS rfl (gS rfl g0))))) (gS rfl (gS rfl (gS rfl (gS rfl g0)))) (gS rfl (gS rfl (gS rfl g0))) (gS rfl (gS rfl g0)) (gS rfl g0) (fun g => ?_)
                                            refine c_seq (fun K119 hK119 => ?_)
                                            exact (by
                                              refine c_draw Up 12 [(0, true), (1, true), (2, true), (3, true), (4, true), (5, true), (6, true), (7, true), (8, true), (9, true), (10, true), (11, true)] (by kernel_rfl) (fun w120 hu => ⟨Up.refl _, ?_⟩)
                                              replace G := G.tr (Go.ofUp hF hu)
                                              replace hF := hF.up hu
                                              replace k3 := k3.up hu
                                              replace kS := kS.up hu
                                              replace kF := kF.up hu
                                              replace kL := kL.up hu
                                              replace kM := kM.up hu
                                              replace U := U.tr hu
                                              have SU := Up.refl w120
                                              refine p_step (by exact rfl) (y_moveV (et (gS rfl (gS rfl (gS rfl (gS rfl g0)))) rfl)) ?_
                                              refine p_step (by exact rfl) (y_nil (et g0 rfl)) ?_
                                              refine p_step (by exact rfl) (y_fld fld_102_2 (et g0 rfl)) ?_
                                              refine p_step (by exact rfl) (y_load1 one_100 (et g0 rfl) (atS (kS.cell (rS 9 _ rfl)))) ?_
                                              refine p_step (by exact rfl) (y_moveV (et (gS rfl (gS rfl (gS rfl (gS rfl (gS rfl (gS rfl (gS rfl (gS rfl g0)))))))) rfl)) ?_
                                              refine p_step (by exact rfl) (y_nil (et g0 rfl)) ?_
                                              refine p_step (by exact rfl) (y_fld fld_102_2 (et g0 rfl)) ?_
                                              refine p_step (by exact rfl) (y_load1 one_100 (et g0 rfl) (atS (kS.cell (rS 9 _ rfl)))) ?_
                                              refine p_step (by exact rfl) (y_len Hvaa.underlying100 (et g0 rfl)) ?_
                                              refine p_step (by exact rfl) (y_sub (et g0 rfl) rfl (subIN (y := 1) ?_ ?_)) ?_
                                              omega
                                              omega
                                              refine p_step (by exact rfl) (y_idxSa rfl Hvaa.underlying100 sz_146 (et (gS rfl (gS rfl (gS rfl (gS rfl (gS rfl (gS rfl g0)))))) rfl) (et g0 rfl) ?_) ?_
                                              omega
                                              refine p_step (by exact rfl) (y_assignV (et g0 rfl)) ?_
                                              refine p_nil ?_
                                              refine hK119 _ _ ?_
                                              refine fg6 1 6 7 8 2 10 (gS rfl (gS rfl (gS rfl (gS rfl (gS rfl (gS rfl (gS rfl (gS rfl (gS rfl (gS rfl (gS rfl (gS rfl (gS rfl (gS rfl (gS rfl (gS rfl (gS rfl g0))))))))))))))))) (gS rfl (gS rfl (gS rfl (gS rfl (gS rfl (gS rfl (gS rfl (gS rfl (gS rfl (gS rfl (gS rfl (gS rfl (gS rfl (gS rfl (gS rfl g0))))))))))))))) (gS rfl (gS rfl (gS rfl (gS rfl (gS rfl (gS rfl (gS rfl (gS rfl (gS rfl (gS rfl (gS rfl (gS rfl (gS rfl (gS rfl g0)))))))))))))) (gS rfl (gS rfl (gS rfl (gS rfl (gS rfl (gS rfl (gS rfl (gS rfl (gS rfl (gS rfl (gS rfl (gS rfl (gS rfl g0))))))))))))) (gS rfl (gS rfl (gS rfl (gS rfl (gS rfl (gS rfl (gS rfl (gS rfl (gS rfl (gS rfl (gS rfl (gS rfl g0)))))))))))) g0 (fun g => ?_)
                                              refine c_seq (fun K121 hK121 => ?_)
                                              exact (by
                                                refine c_region ?_
                                                refine l_step (y_moveV (et g0 rfl)) ?_
                                                refine l_step (y_moveV (et (gS rfl g0) rfl)) ?_
                                                refine l_step (y_nil (et g0 rfl)) ?_
                                                refine l_step (y_fld fld_146_4 (et g0 rfl)) ?_
                                                refine l_step (y_load1 one_95 (et g0 rfl) (at1 (kF.cell (rF 4 _ rfl)))) ?_
                                                refine l_step (y_moveV (et (gS rfl (gS rfl (gS rfl (gS rfl (gS rfl (gS rfl (gS rfl (gS rfl g0)))))))) rfl)) ?_
                                                refine l_eff (e_callV cal_34 (aC (et (gS rfl g0) rfl) (aC (et g0 rfl) aN)) (nat_add hF (hGa.mono hL0) (NV.nil _) (bd_sm (bd_lt2 (b := 256 ^ 4) fo.gas (by decide)) (by decide)) (bd_sm bd_zero (by decide)))) (fun v122 w122 h122 => ?_)
                                                obtain ⟨H122, g122, n122⟩ := h122
                                                have hlew122 := g122.le
                                                replace nb3 := g122.nb nb3 k3.lt
                                                replace nbS := g122.nb nbS kS.lt
                                                replace nbF := g122.nb nbF kF.lt
                                                replace nbM := g122.nb nbM (Nat.lt_of_lt_of_le lM U.size)
                                                replace n13 := n13.mono hlew122
                                                replace hL0 := hL0.trans hlew122
                                                replace k3 := k3.up g122.up
                                                replace kS := kS.up g122.up
                                                replace kF := kF.up g122.up
                                                replace kL := kL.up g122.up
                                                replace kM := kM.up g122.up
                                                replace U := U.tr g122.up
                                                replace G := G.tr g122
                                                replace hF := g122.fz
                                                have q122 := bd_add (c := 5) (bd_lt2 (b := 256 ^ 4) fo.gas (by decide)) bd_zero (by decide)
                                                refine l_step (y_nil (et (gS rfl (gS rfl (gS rfl (gS rfl (gS rfl (gS rfl g0)))))) rfl)) ?_
                                                refine l_step (y_fld fld_146_4 (et g0 rfl)) ?_
                                                obtain ⟨sa123, sn123, sc123, rfl⟩ := n122.sl
                                                have rl123 := RowIn.le rF (Nat.succ_pos _)
                                                simp only [List.length_cons, List.length_nil, Nat.zero_add, Nat.reduceAdd] at rl123
                                                refine l_effN (e_store sz_95 (et g0 rfl) (cellsV (et (gS rfl (gS rfl g0)) rfl) rfl) rfl (by first | exact one_bL _ | exact one_uL _ | (intro v hv; simp at hv; subst hv; rfl)) kF (by first | exact Nat.le_trans (by omega) rl123 | exact Nat.le_of_ble_eq_true rfl | (simp; done) | (simp; omega) | omega | (simp only [size_spl, Array.size_setIfInBounds, hs.size]; exact Nat.le_of_ble_eq_true rfl))) (fun v123 w123 h123 => ?_)
                                                obtain ⟨rfl, x123⟩ := h123
                                                replace k3 := k3.ch x123.ch (by omega)
                                                replace kS := kS.ch x123.ch (by omega)
                                                replace kL := kL.ch x123.ch (by intro q hq hm; have := dL q hq; omega)
                                                replace kM := kM.ch x123.ch (by omega)
                                                replace kF := x123.blk
                                                replace G := G.wr x123 (.inl (by first | rfl | (simp; done))) nbF
                                                replace hF := G.fz
                                                replace U := U.st x123 (.inl (by first | rfl | (simp; done)))
                                                replace oF := kF.oput oF (by omega) (by omega)
                                                replace rF : RowIn _ _ [.int .u8 (f.kind : Nat), .int .u8 (f.ntv : Nat), .bool f.static, vpc, _, vval, voo, vol, .slice ka f.stack.length kc, vm, .slice ca f.code.length cc, .slice ia f.input.length ic] := kF.rput rF 4 rfl
                                                replace rSe := kF.rputo rSe (by first | (left; omega) | (right; simp only [List.length_cons, List.length_nil, length_bL, length_be, hSv.len]; omega))
                                                replace rCa := kF.rputo rCa (by first | (left; omega) | (right; simp only [List.length_cons, List.length_nil, length_bL, length_be, hSv.len]; omega))
                                                replace rSv := kF.rputo rSv (by first | (left; omega) | (right; simp only [List.length_cons, List.length_nil, length_bL, length_be, hSv.len]; omega))
                                                have hG : lvGas u q l = 0 := by rw [lvGas, if_pos (by rw [hS]; have := hds.out; omega)]
                                                have hOu : lvOut u q l = [] := by rw [lvOut, if_pos (.inl (by rw [hS]; have := hds.out; omega))]
                                                have hW : lvW s u q l = u.saved := by rw [lvW, if_neg (by rw [hS]; omega)]
                                                have hS0 : lvSt u q l ≠ 0 := by rw [hS]; omega
                                                have hgs := lp.gas
                                                rw [hG] at hgs
                                                have hfP : FC H122 _ _ { f with gas := f.gas + 0 } vm := ⟨⟨fo.kind, fo.ntv, fo.pc, hgs, fo.value, fo.outOff, fo.outLen, fo.self, fo.caller, fo.stack, fo.code, fo.input, fo.mem⟩, _, _, _, _, _, _, _, _, _, _, _, _, rF, rSe, rCa, rSv, hSv.mono hL0, (hPc.mono hL0), n122, (hVa.mono hL0), (hOf.mono hL0), (hOl.mono hL0), (hSt.mono hL0), (hCo.mono hL0), (hIn.mono hL0)⟩
                                                refine l_nil ?_
                                                refine hK121 _ _ ?_
                                                refine fg5 1 6 8 2 10 (gS rfl (gS rfl (gS rfl (gS rfl (gS rfl (gS rfl (gS rfl (gS rfl (gS rfl (gS rfl (gS rfl (gS rfl (gS rfl (gS rfl g0)))))))))))))) (gS rfl (gS rfl (gS rfl (gS rfl (gS rfl (gS rfl (gS rfl (gS rfl (gS rfl (gS rfl (gS rfl (gS rfl (gS rfl g0))))))))))))) (gS rfl (gS rfl (gS rfl (gS rfl (gS rfl (gS rfl (gS rfl (gS rfl (gS rfl (gS rfl (gS rfl g0))))))))))) (gS rfl (gS rfl (gS rfl (gS rfl (gS rfl (gS rfl (gS rfl (gS rfl (gS rfl (gS rfl g0)))))))))) (gS rfl (gS rfl (gS rfl (gS rfl (gS rfl (gS rfl (gS rfl (gS rfl (gS rfl g0))))))))) (fun g => ?_)
                                                refine c_seq (fun K124 hK124 => ?_)
                                                exact (by
                                                  refine c_region ?_
                                                  refine l_step y_assignC ?_
                                                  refine l_nil ?_
                                                  refine hK124 _ _ ?_
                                                  refine c_seq (fun K125 hK125 => ?_)
                                                  refine c_seq (fun K126 hK126 => ?_)
                                                  exact (by
                                                    refine c_region ?_
                                                    refine l_step (y_moveV (et (gS rfl (gS rfl (gS rfl (gS rfl (gS rfl g0))))) rfl)) ?_
                                                    refine l_step (y_eql (et g0 rfl) rfl) ?_
                                                    refine l_nil ?_
                                                    refine hK126 _ _ ?_
                                                    refine fg6 6 8 2 10 11 132 (gS rfl (gS rfl (gS rfl (gS rfl (gS rfl (gS rfl g0)))))) (gS rfl (gS rfl (gS rfl (gS rfl (gS rfl g0))))) (gS rfl (gS rfl (gS rfl (gS rfl g0)))) (gS rfl (gS rfl (gS rfl g0))) (gS rfl (gS rfl g0)) g0 (fun g => ?_)
                                                    refine c_cond (et g0 rfl) (fun cB7 => ?_) (fun cB7 => ?_)
                                                    · skip
                                                      
                                                      have := of_decide_eq_true cB7; omega
                                                    · skip
                                                      
                                                      refine c_skip ?_
                                                      refine hK125 _ _ ?_
                                                      refine fg3 2 10 11 (gS rfl (gS rfl (gS rfl g0))) (gS rfl (gS rfl g0)) (gS rfl g0) (fun g => ?_)
                                                      refine c_seq (fun K128 hK128 => ?_)
                                                      refine c_seq (fun K129 hK129 => ?_)
                                                      exact (by
                                                        refine c_region ?_
                                                        refine l_step (y_moveV (et (gS rfl g0) rfl)) ?_
                                                        refine l_step (y_nil (et g0 rfl)) ?_
                                                        refine l_step (y_fld fld_146_7 (et g0 rfl)) ?_
                                                        refine l_step (y_load1 one_95 (et g0 rfl) (at1 (kF.cell (rF 7 _ rfl)))) ?_
                                                        refine l_eff (e_callV cal_24 (aC (et g0 rfl) aN) (yp_small hF (hOl.mono hL0) (bd_sm (bd_W fo.outLen) (by decide)))) (fun v130 w130 h130 => ?_)
                                                        obtain ⟨rfl, u130⟩ := h130
                                                        replace G := G.tr (Go.ofUp hF u130)
                                                        replace hF := hF.up u130
                                                        replace k3 := k3.up u130
                                                        replace kS := kS.up u130
                                                        replace kF := kF.up u130
                                                        replace kL := kL.up u130
                                                        replace kM := kM.up u130
                                                        replace U := U.tr u130
                                                        rw [lo_small lp.outl]
                                                        refine l_step (y_moveV (et (gS rfl (gS rfl (gS rfl (gS rfl (gS rfl (gS rfl (gS rfl g0))))))) rfl)) ?_
                                                        refine l_step (y_len Hvaa.underlying38 (et g0 rfl)) ?_
                                                        refine l_step (y_conv Hvaa.underlying3 Hvaa.underlying26 (et g0 rfl) (wrapU_id uk64 ?_)) ?_
                                                        (omega)
                                                        refine l_step (y_minN (et (gS rfl (gS rfl (gS rfl g0))) rfl) (et g0 rfl)) ?_
                                                        refine l_step (y_assignV (et g0 rfl)) ?_
                                                        refine l_nil ?_
                                                        refine hK129 _ _ ?_
                                                        refine fg4 2 10 11 12 (gS rfl (gS rfl (gS rfl (gS rfl (gS rfl (gS rfl (gS rfl (gS rfl (gS rfl (gS rfl (gS rfl (gS rfl g0)))))))))))) (gS rfl (gS rfl (gS rfl (gS rfl (gS rfl (gS rfl (gS rfl (gS rfl (gS rfl (gS rfl (gS rfl g0))))))))))) (gS rfl (gS rfl (gS rfl (gS rfl (gS rfl (gS rfl (gS rfl (gS rfl (gS rfl (gS rfl g0)))))))))) g0 (fun g => ?_)
                                                        refine c_seq (fun K131 hK131 => ?_)
                                                        exact (by
                                                          refine c_region ?_
                                                          refine l_step (y_moveV (et g0 rfl)) ?_
                                                          refine l_step (y_gtr (et g0 rfl) rfl) ?_
                                                          refine l_nil ?_
                                                          refine hK131 _ _ ?_
                                                          refine fg5 2 10 11 12 148 (gS rfl (gS rfl (gS rfl (gS rfl (gS rfl g0))))) (gS rfl (gS rfl (gS rfl (gS rfl g0)))) (gS rfl (gS rfl (gS rfl g0))) (gS rfl (gS rfl g0)) g0 (fun g => ?_)
                                                          refine c_cond (et g0 rfl) (fun cB9 => ?_) (fun cB9 => ?_)
                                                          · skip
                                                            
                                                            have := of_decide_eq_true cB9; simp at this
                                                          · skip
                                                            
                                                            have hb9 : ¬ 0 < min f.outLen ([] : List Nat).length := by simp
                                                            refine c_skip ?_
                                                            refine hK128 _ _ ?_
                                                            refine fg2 10 11 (gS rfl (gS rfl (gS rfl g0))) (gS rfl (gS rfl g0)) (fun g => ?_)
                                                            exact (by
                                                              refine c_region ?_
                                                              refine l_step (y_moveV (et (gS rfl g0) rfl)) ?_
                                                              refine l_step (y_moveV (et (gS rfl g0) rfl)) ?_
                                                              refine l_eff (e_callV cal_143 (aC (et (gS rfl g0) rfl) (aC (v := .int .i64 ((0 : Nat) : Int)) rfl (aC (et g0 rfl) aN))) (yp_answer hF _ _ _ _ _ kF hfP nbF 0 (Nat.zero_le _) lp.stk lp.pc (NV.nil _) (W_bd (bd_up bd_zero (by decide))))) (fun v133 w133 h133 => ?_)
                                                              obtain ⟨rfl, fs133, H133, g133, kf133, fc133, of133⟩ := h133
                                                              have hlew133 := g133.le
                                                              replace nb3 := g133.nb nb3 k3.lt
                                                              replace nbS := g133.nb nbS kS.lt
                                                              replace nbF := g133.nb nbF kF.lt
                                                              replace nbM := g133.nb nbM (Nat.lt_of_lt_of_le lM U.size)
                                                              replace n13 := n13.mono hlew133
                                                              replace n122 := n122.mono hlew133
                                                              replace hfP := hfP.mono hlew133
                                                              replace hL0 := hL0.trans hlew133
                                                              replace k3 := k3.ch g133.ch (by omega)
                                                              replace kS := kS.ch g133.ch (by omega)
                                                              replace kL := kL.ch g133.ch (by intro q hq hm; have := dL q hq; omega)
                                                              replace kM := kM.ch g133.ch (by omega)
                                                              replace kF := kf133
                                                              replace U := U.cc g133.ch (by intro b hb; first | omega | exact .inl hb | exact .inr (hb ▸ U))
                                                              replace G := G.trans g133 (by intro b hb; first | omega | exact .inl hb | (simp at hb ⊢; omega))
                                                              replace hF := g133.fz
                                                              refine l_nil ?_
                                                              refine end0 rfl ?_
                                                              have hG : lvGas u q l = 0 := by rw [lvGas, if_pos (by rw [hS]; have := hds.out; omega)]
                                                              have hOu : lvOut u q l = [] := by rw [lvOut, if_pos (.inl (by rw [hS]; have := hds.out; omega))]
                                                              have hW : lvW s u q l = u.saved := by rw [lvW, if_neg (by rw [hS]; omega)]
                                                              have hS0 : lvSt u q l ≠ 0 := by rw [hS]; omega
                                                              have hFl : lvFlag u q l = 0 := by rw [lvFlag, if_neg hS0]
                                                              have hMm : lvMem f u q l = f.mem := by rw [lvMem, hOu, if_neg hb9]
                                                              have eP : lvP f u q l = ansN { f with gas := f.gas + 0, mem := f.mem } 0 0 := by rw [lvP, hG, hMm, hFl]
                                                              have eS : lvS2 s u q l = { s with now := u.saved, ret := [] } := by rw [lvS2, hW, hOu]
                                                              rw [eS, hW, eP]
                                                              exact ⟨rfl, _, _, _, _, G, kS, ⟨⟨sv.accts, sv.warmA, sv.warmS, zrb, sv.logs, sv.temps, sv.made, sv.gone, so.start, (show 0 < 16777216 by decide), so.phase, so.status, so.applied, so.limit, so.txGas, so.left, so.price, so.total, so.origin, so.mad⟩, eC.mono hL0, (by simp only [size_spl, Array.size_setIfInBounds]; exact hs.size), _, _, _, _, _, _, _, _, _, _, _, _, _, _, _, _, _, _, _, _, _, _, _, _, rS, rOr, rMd, (zAc.mono hL0), (zWA.mono hL0), (zWS.mono hL0), (zRf.mono hL0), (zTm.mono hL0), (zMd.mono hL0), (zGn.mono hL0), (hSr.mono hL0), (BV.nil _), (hLm.mono hL0), (hTx.mono hL0), (hLf.mono hL0), (hPr.mono hL0), (hTt.mono hL0)⟩, kF, fc133, oF.trans of133, kM, by rw [if_neg hS0]; exact ⟨.inl ⟨rfl, zLg.mono hL0, _, _, rfl⟩⟩, (rS 4 _ rfl)⟩))))))))))))
                              · skip
                                
                                have := of_decide_eq_false cB5; have := hds.out; omega))
                        · skip
                          
                          have := of_decide_eq_false cB4; omega)))
              · skip
                
                have hq0 : q ≠ 0 := by have := of_decide_eq_false cB1; omega
                have hS : lvSt u q l = q := by rw [lvSt, if_neg (fun h => hq0 h.2)]
                refine c_skip ?_
                refine hK8 _ _ ?_
                refine fg6 2 1 0 6 7 8 (gS rfl (gS rfl (gS rfl (gS rfl (gS rfl (gS rfl g0)))))) (gS rfl (gS rfl (gS rfl (gS rfl (gS rfl g0))))) (gS rfl (gS rfl (gS rfl (gS rfl g0)))) (gS rfl (gS rfl (gS rfl g0))) (gS rfl (gS rfl g0)) (gS rfl g0) (fun g => ?_)
                refine c_seq (fun K134 hK134 => ?_)
                refine c_seq (fun K135 hK135 => ?_)
                exact (by
                  refine c_region ?_
                  refine l_step (y_moveV (et (gS rfl (gS rfl (gS rfl (gS rfl g0)))) rfl)) ?_
                  refine l_step (y_neq (et g0 rfl) rfl) ?_
                  refine l_nil ?_
                  refine hK135 _ _ ?_
                  refine fg7 2 1 0 6 7 8 59 (gS rfl (gS rfl (gS rfl (gS rfl (gS rfl (gS rfl (gS rfl g0))))))) (gS rfl (gS rfl (gS rfl (gS rfl (gS rfl (gS rfl g0)))))) (gS rfl (gS rfl (gS rfl (gS rfl (gS rfl g0))))) (gS rfl (gS rfl (gS rfl (gS rfl g0)))) (gS rfl (gS rfl (gS rfl g0))) (gS rfl (gS rfl g0)) g0 (fun g => ?_)
                  refine c_cond (et g0 rfl) (fun cB4 => ?_) (fun cB4 => ?_)
                  · skip
                    
                    have hq4 : q ≠ 0 := by have := of_decide_eq_true cB4; omega
                    exact (by
                      refine c_region ?_
                      refine l_step (y_moveV (et (gS rfl (gS rfl (gS rfl (gS rfl g0)))) rfl)) ?_
                      refine l_step (y_fld fld_146_14 (et (gS rfl (gS rfl (gS rfl (gS rfl g0)))) rfl)) ?_
                      refine l_step (y_loadR agg_98 sz_98 (et g0 rfl) rfl (at1R (k3.row qSv))) ?_
                      refine l_step (y_nil (et (gS rfl (gS rfl g0)) rfl)) ?_
                      refine l_step (y_fld fld_102_0 (et g0 rfl)) ?_
                      have rl137 := RowIn.le rS (Nat.succ_pos _)
                      simp only [List.length_cons, List.length_nil, Nat.zero_add, Nat.reduceAdd] at rl137
                      refine l_effN (e_store sz_98 (et g0 rfl) (cellsV (et (gS rfl (gS rfl g0)) rfl) rfl) rfl (by intro v hv; simp only [List.mem_cons, List.not_mem_nil, or_false] at hv; rcases hv with rfl | rfl | rfl | rfl | rfl | rfl | rfl | rfl <;> rfl) kS (by omega)) (fun v137 w137 h137 => ?_)
                      obtain ⟨rfl, x137⟩ := h137
                      replace k3 := k3.ch x137.ch (by omega)
                      replace kF := kF.ch x137.ch (by omega)
                      replace kL := kL.ch x137.ch (by intro q hq hm; have := dL q hq; omega)
                      replace kM := kM.ch x137.ch (by omega)
                      replace kS := x137.blk
                      replace G := G.wr x137 (.inl (by first | rfl | (simp; done))) nbS
                      replace hF := G.fz
                      replace U := U.st x137 (.inl (by first | rfl | (simp; done)))
                      replace eC := kS.eputm eC (by first | omega | (simp only [length_bL, length_be, List.length_cons, List.length_nil]; omega)) (by first | omega | (simp only [length_bL, length_be, List.length_cons, List.length_nil]; omega))
                      replace rS : RowIn _ _ [.slice pa1 u.saved.accts.length pa2, .slice pwa1 u.saved.warmA.length pwa2, .slice pws1 u.saved.warmS.length pws2, .slice pr1 pr2 pr3, .slice pla u.saved.logs.length u.saved.logs.length, .slice pt1 u.saved.temps.length pt2, .slice pm1 u.saved.made.length pm2, .slice pg1 u.saved.gone.length pg2, .slice oa s.start.length oc, .slice (some ⟨bf, 0, none⟩) N cap, .slice ra s.ret.length rc, .int .u8 (s.phase : Nat), .int .u8 (s.status : Nat), .int .u8 (s.applied : Nat), vlim, vtx, vleft, vpr, vtot] := kS.rputm rS 0 (by first | omega | (simp only [length_bL, length_be, List.length_cons, List.length_nil]; omega)) rfl (Nat.le_of_ble_eq_true rfl)
                      replace rOr := kS.rputmo rOr (by first | omega | (simp only [length_bL, length_be, List.length_cons, List.length_nil]; omega)) (by first | omega | (simp only [length_bL, length_be, List.length_cons, List.length_nil]; omega))
                      replace rMd := kS.rputmo rMd (by first | omega | (simp only [length_bL, length_be, List.length_cons, List.length_nil]; omega)) (by first | omega | (simp only [length_bL, length_be, List.length_cons, List.length_nil]; omega))
                      refine l_nil ?_
                      refine hK134 _ _ ?_
                      refine fg6 2 1 0 6 7 8 (gS rfl (gS rfl (gS rfl (gS rfl (gS rfl (gS rfl (gS rfl (gS rfl (gS rfl (gS rfl (gS rfl g0))))))))))) (gS rfl (gS rfl (gS rfl (gS rfl (gS rfl (gS rfl (gS rfl (gS rfl (gS rfl (gS rfl g0)))))))))) (gS rfl (gS rfl (gS rfl (gS rfl (gS rfl (gS rfl (gS rfl (gS rfl (gS rfl g0))))))))) (gS rfl (gS rfl (gS rfl (gS rfl (gS rfl (gS rfl (gS rfl (gS rfl g0)))))))) (gS rfl (gS rfl (gS rfl (gS rfl (gS rfl (gS rfl (gS rfl g0))))))) (gS rfl (gS rfl (gS rfl (gS rfl (gS rfl (gS rfl g0)))))) (fun g => ?_)
                      refine c_seq (fun K138 hK138 => ?_)
                      refine c_seq (fun K139 hK139 => ?_)
                      exact (by
                        refine c_region ?_
                        refine l_step (y_moveV (et (gS rfl (gS rfl (gS rfl (gS rfl g0)))) rfl)) ?_
                        refine l_step (y_gtr (et g0 rfl) rfl) ?_
                        refine l_nil ?_
                        refine hK139 _ _ ?_
                        refine fg7 2 1 0 6 7 8 66 (gS rfl (gS rfl (gS rfl (gS rfl (gS rfl (gS rfl (gS rfl g0))))))) (gS rfl (gS rfl (gS rfl (gS rfl (gS rfl (gS rfl g0)))))) (gS rfl (gS rfl (gS rfl (gS rfl (gS rfl g0))))) (gS rfl (gS rfl (gS rfl (gS rfl g0)))) (gS rfl (gS rfl (gS rfl g0))) (gS rfl (gS rfl g0)) g0 (fun g => ?_)
                        refine c_cond (et g0 rfl) (fun cB5 => ?_) (fun cB5 => ?_)
                        · skip
                          
                          have hq5 : 1 < q := by have := of_decide_eq_true cB5; omega
                          refine c_seq (fun K141 hK141 => ?_)
                          exact (by
                            refine c_region ?_
                            refine l_step y_assignC ?_
                            refine l_nil ?_
                            refine hK141 _ _ ?_
                            refine fg5 1 0 6 7 8 (gS rfl (gS rfl (gS rfl (gS rfl (gS rfl (gS rfl g0)))))) (gS rfl (gS rfl (gS rfl (gS rfl (gS rfl g0))))) (gS rfl (gS rfl (gS rfl (gS rfl g0)))) g0 (gS rfl (gS rfl g0)) (fun g => ?_)
                            refine c_region ?_
                            refine l_step y_assignC ?_
                            refine l_nil ?_
                            refine hK138 _ _ ?_
                            refine c_seq (fun K142 hK142 => ?_)
                            exact (by
                              refine c_region ?_
                              refine l_step (y_moveV (et (gS rfl (gS rfl (gS rfl (gS rfl g0)))) rfl)) ?_
                              refine l_step (y_moveV (et (gS rfl g0) rfl)) ?_
                              refine l_step (y_nil (et (gS rfl g0) rfl)) ?_
                              refine l_step (y_fld fld_102_3 (et g0 rfl)) ?_
                              have rl143 := RowIn.le rS (Nat.succ_pos _)
                              simp only [List.length_cons, List.length_nil, Nat.zero_add, Nat.reduceAdd] at rl143
                              refine l_effN (e_store sz_38 (et g0 rfl) (cellsV (et (gS rfl (gS rfl g0)) rfl) rfl) rfl (by first | exact one_bL _ | exact one_uL _ | (intro v hv; simp at hv; subst hv; rfl)) kS (by first | exact Nat.le_trans (by omega) rl143 | exact Nat.le_of_ble_eq_true rfl | (simp; done) | (simp; omega) | omega | (simp only [size_spl, Array.size_setIfInBounds, hs.size]; exact Nat.le_of_ble_eq_true rfl))) (fun v143 w143 h143 => ?_)
                              obtain ⟨rfl, x143⟩ := h143
                              replace k3 := k3.ch x143.ch (by omega)
                              replace kF := kF.ch x143.ch (by omega)
                              replace kL := kL.ch x143.ch (by intro q hq hm; have := dL q hq; omega)
                              replace kM := kM.ch x143.ch (by omega)
                              replace kS := x143.blk
                              replace G := G.wr x143 (.inl (by first | rfl | (simp; done))) nbS
                              replace hF := G.fz
                              replace U := U.st x143 (.inl (by first | rfl | (simp; done)))
                              replace eC := kS.eput eC (by omega)
                              replace rS : RowIn _ _ [.slice pa1 u.saved.accts.length pa2, .slice pwa1 u.saved.warmA.length pwa2, .slice pws1 u.saved.warmS.length pws2, .slice pr1 pr2 pr3, .slice pla u.saved.logs.length u.saved.logs.length, .slice pt1 u.saved.temps.length pt2, .slice pm1 u.saved.made.length pm2, .slice pg1 u.saved.gone.length pg2, .slice oa s.start.length oc, .slice (some ⟨bf, 0, none⟩) N cap, _, .int .u8 (s.phase : Nat), .int .u8 (s.status : Nat), .int .u8 (s.applied : Nat), vlim, vtx, vleft, vpr, vtot] := kS.rput rS 10 rfl
                              replace rOr := kS.rputo rOr (by first | (left; omega) | (right; simp only [List.length_cons, List.length_nil, length_bL, length_be]; omega))
                              replace rMd := kS.rputo rMd (by first | (left; omega) | (right; simp only [List.length_cons, List.length_nil, length_bL, length_be]; omega))
                              refine l_nil ?_
                              refine hK142 _ _ ?_
                              refine fg6 1 0 6 7 8 2 (gS rfl (gS rfl (gS rfl (gS rfl (gS rfl (gS rfl (gS rfl (gS rfl (gS rfl g0))))))))) (gS rfl (gS rfl (gS rfl (gS rfl (gS rfl (gS rfl (gS rfl (gS rfl g0)))))))) (gS rfl (gS rfl (gS rfl (gS rfl (gS rfl (gS rfl (gS rfl g0))))))) (gS rfl (gS rfl (gS rfl (gS rfl (gS rfl (gS rfl g0)))))) (gS rfl (gS rfl (gS rfl (gS rfl (gS rfl g0))))) (gS rfl (gS rfl (gS rfl (gS rfl g0)))) (fun g => ?_)
                              refine c_seq (fun K144 hK144 => ?_)
                              exact (by
                                refine c_draw Up 20 [(0, true), (1, true), (2, true), (3, true), (4, true), (5, true), (6, true), (7, true), (8, true), (9, true), (10, true), (11, true), (12, true), (13, true), (14, true), (15, true), (16, true), (17, true), (18, true), (19, true), (20, false)] (by kernel_rfl) (fun w145 hu => ⟨Up.refl _, ?_⟩)
                                replace G := G.tr (Go.ofUp hF hu)
                                replace hF := hF.up hu
                                replace k3 := k3.up hu
                                replace kS := kS.up hu
                                replace kF := kF.up hu
                                replace kL := kL.up hu
                                replace kM := kM.up hu
                                replace U := U.tr hu
                                have SU := Up.refl w145
                                refine p_step (by exact rfl) (y_moveV (et (gS rfl (gS rfl (gS rfl (gS rfl g0)))) rfl)) ?_
                                refine p_step (by exact rfl) (y_moveV (et (gS rfl (gS rfl (gS rfl (gS rfl (gS rfl g0))))) rfl)) ?_
                                refine p_step (by exact rfl) (y_nil (et g0 rfl)) ?_
                                refine p_step (by exact rfl) (y_fld fld_102_2 (et g0 rfl)) ?_
                                refine p_step (by exact rfl) (y_load1 one_100 (et g0 rfl) (atS (kS.cell (rS 9 _ rfl)))) ?_
                                refine p_step (by exact rfl) (y_moveV (et (gS rfl (gS rfl (gS rfl (gS rfl (gS rfl (gS rfl (gS rfl (gS rfl (gS rfl g0))))))))) rfl)) ?_
                                refine p_step (by exact rfl) (y_nil (et g0 rfl)) ?_
                                refine p_step (by exact rfl) (y_fld fld_102_2 (et g0 rfl)) ?_
                                refine p_step (by exact rfl) (y_load1 one_100 (et g0 rfl) (atS (kS.cell (rS 9 _ rfl)))) ?_
                                refine p_step (by exact rfl) (y_len Hvaa.underlying100 (et g0 rfl)) ?_
                                refine p_step (by exact rfl) (y_sub (et g0 rfl) rfl (subIN (y := 1) ?_ ?_)) ?_
                                omega
                                omega
                                refine p_step (by exact rfl) (y_moveV (et (gS rfl (gS rfl (gS rfl (gS rfl (gS rfl (gS rfl (gS rfl (gS rfl (gS rfl (gS rfl (gS rfl (gS rfl (gS rfl (gS rfl (gS rfl g0))))))))))))))) rfl)) ?_
                                refine p_step (by exact rfl) (y_nil (et g0 rfl)) ?_
                                refine p_step (by exact rfl) (y_fld fld_102_2 (et g0 rfl)) ?_
                                refine p_step (by exact rfl) (y_load1 one_100 (et g0 rfl) (atS (kS.cell (rS 9 _ rfl)))) ?_
                                refine p_step (by exact rfl) (y_len Hvaa.underlying100 (et g0 rfl)) ?_
                                refine p_step (by exact rfl) (y_sub (et g0 rfl) rfl (subIN (y := 1) ?_ ?_)) ?_
                                omega
                                omega
                                exact (by
                                  refine p_step (by exact rfl) (y_slS011n Hvaa.underlying100 sz_146 (et (gS rfl (gS rfl (gS rfl (gS rfl (gS rfl (gS rfl (gS rfl (gS rfl (gS rfl (gS rfl (gS rfl (gS rfl g0)))))))))))) rfl) (et (gS rfl (gS rfl (gS rfl (gS rfl (gS rfl (gS rfl g0)))))) rfl) (et g0 rfl) ?_ ?_) ?_
                                  omega
                                  omega
                                  refine p_step (by exact rfl) (y_nil (et (gS rfl (gS rfl (gS rfl (gS rfl (gS rfl (gS rfl (gS rfl (gS rfl (gS rfl (gS rfl (gS rfl (gS rfl (gS rfl (gS rfl (gS rfl (gS rfl (gS rfl g0))))))))))))))))) rfl)) ?_
                                  refine p_step (by exact rfl) (y_fld fld_102_2 (et g0 rfl)) ?_
                                  have rl146 := RowIn.le rS (Nat.succ_pos _)
                                  simp only [List.length_cons, List.length_nil, Nat.zero_add, Nat.reduceAdd] at rl146
                                  refine p_effN (by exact rfl) (e_store sz_100 (et g0 rfl) (cellsV (et (gS rfl (gS rfl g0)) rfl) rfl) rfl (by first | exact one_bL _ | exact one_uL _ | (intro v hv; simp at hv; subst hv; rfl)) kS (by first | exact Nat.le_trans (by omega) rl146 | exact Nat.le_of_ble_eq_true rfl | (simp; done) | (simp; omega) | omega | (simp only [size_spl, Array.size_setIfInBounds, hs.size]; exact Nat.le_of_ble_eq_true rfl))) (fun v146 w146 h146 => ?_)
                                  obtain ⟨rfl, x146⟩ := h146
                                  replace k3 := k3.ch x146.ch (by omega)
                                  replace kF := kF.ch x146.ch (by omega)
                                  replace kL := kL.ch x146.ch (by intro q hq hm; have := dL q hq; omega)
                                  replace kM := kM.ch x146.ch (by omega)
                                  replace kS := x146.blk
                                  replace G := G.wr x146 (.inl (by first | rfl | (simp; done))) nbS
                                  replace hF := G.fz
                                  replace U := U.st x146 (.inl (by first | rfl | (simp; done)))
                                  replace eC := kS.eput eC (by omega)
                                  replace rS : RowIn _ _ [.slice pa1 u.saved.accts.length pa2, .slice pwa1 u.saved.warmA.length pwa2, .slice pws1 u.saved.warmS.length pws2, .slice pr1 pr2 pr3, .slice pla u.saved.logs.length u.saved.logs.length, .slice pt1 u.saved.temps.length pt2, .slice pm1 u.saved.made.length pm2, .slice pg1 u.saved.gone.length pg2, .slice oa s.start.length oc, .slice (some ⟨bf, 0, none⟩) (N - 1) (N - 1), _, .int .u8 (s.phase : Nat), .int .u8 (s.status : Nat), .int .u8 (s.applied : Nat), vlim, vtx, vleft, vpr, vtot] := kS.rput rS 9 rfl
                                  replace rOr := kS.rputo rOr (by first | (left; omega) | (right; simp only [List.length_cons, List.length_nil, length_bL, length_be]; omega))
                                  replace rMd := kS.rputo rMd (by first | (left; omega) | (right; simp only [List.length_cons, List.length_nil, length_bL, length_be]; omega))
                                  refine ⟨.inl rfl, ?_⟩
                                  refine p_nil ?_
                                  refine hK144 _ _ ?_
                                  refine fg6 1 0 6 7 8 2 (gS rfl (gS rfl (gS rfl (gS rfl (gS rfl (gS rfl (gS rfl (gS rfl (gS rfl (gS rfl (gS rfl (gS rfl (gS rfl (gS rfl (gS rfl (gS rfl (gS rfl (gS rfl (gS rfl (gS rfl (gS rfl (gS rfl (gS rfl (gS rfl (gS rfl g0))))))))))))))))))))))))) (gS rfl (gS rfl (gS rfl (gS rfl (gS rfl (gS rfl (gS rfl (gS rfl (gS rfl (gS rfl (gS rfl (gS rfl (gS rfl (gS rfl (gS rfl (gS rfl (gS rfl (gS rfl (gS rfl (gS rfl (gS rfl (gS rfl (gS rfl (gS rfl g0)))))))))))))))))))))))) (gS rfl (gS rfl (gS rfl (gS rfl (gS rfl (gS rfl (gS rfl (gS rfl (gS rfl (gS rfl (gS rfl (gS rfl (gS rfl (gS rfl (gS rfl (gS rfl (gS rfl (gS rfl (gS rfl (gS rfl (gS rfl (gS rfl (gS rfl g0))))))))))))))))))))))) (gS rfl (gS rfl (gS rfl (gS rfl (gS rfl (gS rfl (gS rfl (gS rfl (gS rfl (gS rfl (gS rfl (gS rfl (gS rfl (gS rfl (gS rfl (gS rfl (gS rfl (gS rfl (gS rfl (gS rfl (gS rfl (gS rfl g0)))))))))))))))))))))) (gS rfl (gS rfl (gS rfl (gS rfl (gS rfl (gS rfl (gS rfl (gS rfl (gS rfl (gS rfl (gS rfl (gS rfl (gS rfl (gS rfl (gS rfl (gS rfl (gS rfl (gS rfl (gS rfl (gS rfl (gS rfl g0))))))))))))))))))))) (gS rfl (gS rfl (gS rfl (gS rfl (gS rfl (gS rfl (gS rfl (gS rfl (gS rfl (gS rfl (gS rfl (gS rfl (gS rfl (gS rfl (gS rfl (gS rfl (gS rfl (gS rfl (gS rfl (gS rfl g0)))))))))))))))))))) (fun g => ?_)
                                  refine c_seq (fun K147 hK147 => ?_)
                                  refine c_seq (fun K148 hK148 => ?_)
                                  exact (by
                                    refine c_region ?_
                                    refine l_step (y_moveV (et (gS rfl (gS rfl (gS rfl (gS rfl g0)))) rfl)) ?_
                                    refine l_step (y_nil (et g0 rfl)) ?_
                                    refine l_step (y_fld fld_102_2 (et g0 rfl)) ?_
                                    refine l_step (y_load1 one_100 (et g0 rfl) (at1 (kS.cell (rS 9 _ rfl)))) ?_
                                    refine l_step (y_len Hvaa.underlying100 (et g0 rfl)) ?_
                                    refine l_step (y_eql (et g0 rfl) rfl) ?_
                                    refine l_nil ?_
                                    refine hK148 _ _ ?_
                                    refine fg7 1 0 6 7 8 2 96 (gS rfl (gS rfl (gS rfl (gS rfl (gS rfl (gS rfl (gS rfl (gS rfl (gS rfl (gS rfl (gS rfl g0))))))))))) (gS rfl (gS rfl (gS rfl (gS rfl (gS rfl (gS rfl (gS rfl (gS rfl (gS rfl (gS rfl g0)))))))))) (gS rfl (gS rfl (gS rfl (gS rfl (gS rfl (gS rfl (gS rfl (gS rfl (gS rfl g0))))))))) (gS rfl (gS rfl (gS rfl (gS rfl (gS rfl (gS rfl (gS rfl (gS rfl g0)))))))) (gS rfl (gS rfl (gS rfl (gS rfl (gS rfl (gS rfl (gS rfl g0))))))) (gS rfl (gS rfl (gS rfl (gS rfl (gS rfl (gS rfl g0)))))) g0 (fun g => ?_)
                                    refine c_cond (et g0 rfl) (fun cB6 => ?_) (fun cB6 => ?_)
                                    · skip
                                      
                                      have := of_decide_eq_true cB6; omega
                                    · skip
                                      
                                      refine c_skip ?_
                                      refine hK147 _ _ ?_
                                      refine fg6 1 0 6 7 8 2 (gS rfl (gS rfl (gS rfl (gS rfl (gS rfl (gS rfl g0)))))) (gS rfl (gS rfl (gS rfl (gS rfl (gS rfl g0))))) (gS rfl (gS rfl (gS rfl (gS rfl g0)))) (gS rfl (gS rfl (gS rfl g0))) (gS rfl (gS rfl g0)) (gS rfl g0) (fun g => ?_)
                                      refine c_seq (fun K150 hK150 => ?_)
                                      exact (by
                                        refine c_draw Up 12 [(0, true), (1, true), (2, true), (3, true), (4, true), (5, true), (6, true), (7, true), (8, true), (9, true), (10, true), (11, true)] (by kernel_rfl) (fun w151 hu => ⟨Up.refl _, ?_⟩)
                                        replace G := G.tr (Go.ofUp hF hu)
                                        replace hF := hF.up hu
                                        replace k3 := k3.up hu
                                        replace kS := kS.up hu
                                        replace kF := kF.up hu
                                        replace kL := kL.up hu
                                        replace kM := kM.up hu
                                        replace U := U.tr hu
                                        have SU := Up.refl w151
                                        refine p_step (by exact rfl) (y_moveV (et (gS rfl (gS rfl (gS rfl (gS rfl g0)))) rfl)) ?_
                                        refine p_step (by exact rfl) (y_nil (et g0 rfl)) ?_
                                        refine p_step (by exact rfl) (y_fld fld_102_2 (et g0 rfl)) ?_
                                        refine p_step (by exact rfl) (y_load1 one_100 (et g0 rfl) (atS (kS.cell (rS 9 _ rfl)))) ?_
                                        refine p_step (by exact rfl) (y_moveV (et (gS rfl (gS rfl (gS rfl (gS rfl (gS rfl (gS rfl (gS rfl (gS rfl g0)))))))) rfl)) ?_
                                        refine p_step (by exact rfl) (y_nil (et g0 rfl)) ?_
                                        refine p_step (by exact rfl) (y_fld fld_102_2 (et g0 rfl)) ?_
                                        refine p_step (by exact rfl) (y_load1 one_100 (et g0 rfl) (atS (kS.cell (rS 9 _ rfl)))) ?_
                                        refine p_step (by exact rfl) (y_len Hvaa.underlying100 (et g0 rfl)) ?_
                                        refine p_step (by exact rfl) (y_sub (et g0 rfl) rfl (subIN (y := 1) ?_ ?_)) ?_
                                        omega
                                        omega
                                        refine p_step (by exact rfl) (y_idxSa rfl Hvaa.underlying100 sz_146 (et (gS rfl (gS rfl (gS rfl (gS rfl (gS rfl (gS rfl g0)))))) rfl) (et g0 rfl) ?_) ?_
                                        omega
                                        refine p_step (by exact rfl) (y_assignV (et g0 rfl)) ?_
                                        refine p_nil ?_
                                        refine hK150 _ _ ?_
                                        refine fg6 1 6 7 8 2 10 (gS rfl (gS rfl (gS rfl (gS rfl (gS rfl (gS rfl (gS rfl (gS rfl (gS rfl (gS rfl (gS rfl (gS rfl (gS rfl (gS rfl (gS rfl (gS rfl (gS rfl g0))))))))))))))))) (gS rfl (gS rfl (gS rfl (gS rfl (gS rfl (gS rfl (gS rfl (gS rfl (gS rfl (gS rfl (gS rfl (gS rfl (gS rfl (gS rfl (gS rfl g0))))))))))))))) (gS rfl (gS rfl (gS rfl (gS rfl (gS rfl (gS rfl (gS rfl (gS rfl (gS rfl (gS rfl (gS rfl (gS rfl (gS rfl (gS rfl g0)))))))))))))) (gS rfl (gS rfl (gS rfl (gS rfl (gS rfl (gS rfl (gS rfl (gS rfl (gS rfl (gS rfl (gS rfl (gS rfl (gS rfl g0))))))))))))) (gS rfl (gS rfl (gS rfl (gS rfl (gS rfl (gS rfl (gS rfl (gS rfl (gS rfl (gS rfl (gS rfl (gS rfl g0)))))))))))) g0 (fun g => ?_)
                                        refine c_seq (fun K152 hK152 => ?_)
                                        exact (by
                                          refine c_region ?_
                                          refine l_step (y_moveV (et g0 rfl)) ?_
                                          refine l_step (y_moveV (et (gS rfl g0) rfl)) ?_
                                          refine l_step (y_nil (et g0 rfl)) ?_
                                          refine l_step (y_fld fld_146_4 (et g0 rfl)) ?_
                                          refine l_step (y_load1 one_95 (et g0 rfl) (at1 (kF.cell (rF 4 _ rfl)))) ?_
                                          refine l_step (y_moveV (et (gS rfl (gS rfl (gS rfl (gS rfl (gS rfl (gS rfl (gS rfl (gS rfl g0)))))))) rfl)) ?_
                                          refine l_eff (e_callV cal_34 (aC (et (gS rfl g0) rfl) (aC (et g0 rfl) aN)) (nat_add hF (hGa.mono hL0) (NV.nil _) (bd_sm (bd_lt2 (b := 256 ^ 4) fo.gas (by decide)) (by decide)) (bd_sm bd_zero (by decide)))) (fun v153 w153 h153 => ?_)
                                          obtain ⟨H153, g153, n153⟩ := h153
                                          have hlew153 := g153.le
                                          replace nb3 := g153.nb nb3 k3.lt
                                          replace nbS := g153.nb nbS kS.lt
                                          replace nbF := g153.nb nbF kF.lt
                                          replace nbM := g153.nb nbM (Nat.lt_of_lt_of_le lM U.size)
                                          replace hL0 := hL0.trans hlew153
                                          replace k3 := k3.up g153.up
                                          replace kS := kS.up g153.up
                                          replace kF := kF.up g153.up
                                          replace kL := kL.up g153.up
                                          replace kM := kM.up g153.up
                                          replace U := U.tr g153.up
                                          replace G := G.tr g153
                                          replace hF := g153.fz
                                          have q153 := bd_add (c := 5) (bd_lt2 (b := 256 ^ 4) fo.gas (by decide)) bd_zero (by decide)
                                          refine l_step (y_nil (et (gS rfl (gS rfl (gS rfl (gS rfl (gS rfl (gS rfl g0)))))) rfl)) ?_
                                          refine l_step (y_fld fld_146_4 (et g0 rfl)) ?_
                                          obtain ⟨sa154, sn154, sc154, rfl⟩ := n153.sl
                                          have rl154 := RowIn.le rF (Nat.succ_pos _)
                                          simp only [List.length_cons, List.length_nil, Nat.zero_add, Nat.reduceAdd] at rl154
                                          refine l_effN (e_store sz_95 (et g0 rfl) (cellsV (et (gS rfl (gS rfl g0)) rfl) rfl) rfl (by first | exact one_bL _ | exact one_uL _ | (intro v hv; simp at hv; subst hv; rfl)) kF (by first | exact Nat.le_trans (by omega) rl154 | exact Nat.le_of_ble_eq_true rfl | (simp; done) | (simp; omega) | omega | (simp only [size_spl, Array.size_setIfInBounds, hs.size]; exact Nat.le_of_ble_eq_true rfl))) (fun v154 w154 h154 => ?_)
                                          obtain ⟨rfl, x154⟩ := h154
                                          replace k3 := k3.ch x154.ch (by omega)
                                          replace kS := kS.ch x154.ch (by omega)
                                          replace kL := kL.ch x154.ch (by intro q hq hm; have := dL q hq; omega)
                                          replace kM := kM.ch x154.ch (by omega)
                                          replace kF := x154.blk
                                          replace G := G.wr x154 (.inl (by first | rfl | (simp; done))) nbF
                                          replace hF := G.fz
                                          replace U := U.st x154 (.inl (by first | rfl | (simp; done)))
                                          replace oF := kF.oput oF (by omega) (by omega)
                                          replace rF : RowIn _ _ [.int .u8 (f.kind : Nat), .int .u8 (f.ntv : Nat), .bool f.static, vpc, _, vval, voo, vol, .slice ka f.stack.length kc, vm, .slice ca f.code.length cc, .slice ia f.input.length ic] := kF.rput rF 4 rfl
                                          replace rSe := kF.rputo rSe (by first | (left; omega) | (right; simp only [List.length_cons, List.length_nil, length_bL, length_be, hSv.len]; omega))
                                          replace rCa := kF.rputo rCa (by first | (left; omega) | (right; simp only [List.length_cons, List.length_nil, length_bL, length_be, hSv.len]; omega))
                                          replace rSv := kF.rputo rSv (by first | (left; omega) | (right; simp only [List.length_cons, List.length_nil, length_bL, length_be, hSv.len]; omega))
                                          have hG : lvGas u q l = 0 := by rw [lvGas, if_pos (by rw [hS]; have := hds.out; omega)]
                                          have hOu : lvOut u q l = [] := by rw [lvOut, if_pos (.inl (by rw [hS]; have := hds.out; omega))]
                                          have hW : lvW s u q l = u.saved := by rw [lvW, if_neg (by rw [hS]; omega)]
                                          have hS0 : lvSt u q l ≠ 0 := by rw [hS]; omega
                                          have hgs := lp.gas
                                          rw [hG] at hgs
                                          have hfP : FC H153 _ _ { f with gas := f.gas + 0 } vm := ⟨⟨fo.kind, fo.ntv, fo.pc, hgs, fo.value, fo.outOff, fo.outLen, fo.self, fo.caller, fo.stack, fo.code, fo.input, fo.mem⟩, _, _, _, _, _, _, _, _, _, _, _, _, rF, rSe, rCa, rSv, hSv.mono hL0, (hPc.mono hL0), n153, (hVa.mono hL0), (hOf.mono hL0), (hOl.mono hL0), (hSt.mono hL0), (hCo.mono hL0), (hIn.mono hL0)⟩
                                          refine l_nil ?_
                                          refine hK152 _ _ ?_
                                          refine fg5 1 6 8 2 10 (gS rfl (gS rfl (gS rfl (gS rfl (gS rfl (gS rfl (gS rfl (gS rfl (gS rfl (gS rfl (gS rfl (gS rfl (gS rfl (gS rfl g0)))))))))))))) (gS rfl (gS rfl (gS rfl (gS rfl (gS rfl (gS rfl (gS rfl (gS rfl (gS rfl (gS rfl (gS rfl (gS rfl (gS rfl g0))))))))))))) (gS rfl (gS rfl (gS rfl (gS rfl (gS rfl (gS rfl (gS rfl (gS rfl (gS rfl (gS rfl (gS rfl g0))))))))))) (gS rfl (gS rfl (gS rfl (gS rfl (gS rfl (gS rfl (gS rfl (gS rfl (gS rfl (gS rfl g0)))))))))) (gS rfl (gS rfl (gS rfl (gS rfl (gS rfl (gS rfl (gS rfl (gS rfl (gS rfl g0))))))))) (fun g => ?_)
                                          refine c_seq (fun K155 hK155 => ?_)
                                          exact (by
                                            refine c_region ?_
                                            refine l_step y_assignC ?_
                                            refine l_nil ?_
                                            refine hK155 _ _ ?_
                                            refine c_seq (fun K156 hK156 => ?_)
                                            refine c_seq (fun K157 hK157 => ?_)
                                            exact (by
                                              refine c_region ?_
                                              refine l_step (y_moveV (et (gS rfl (gS rfl (gS rfl (gS rfl (gS rfl g0))))) rfl)) ?_
                                              refine l_step (y_eql (et g0 rfl) rfl) ?_
                                              refine l_nil ?_
                                              refine hK157 _ _ ?_
                                              refine fg6 6 8 2 10 11 132 (gS rfl (gS rfl (gS rfl (gS rfl (gS rfl (gS rfl g0)))))) (gS rfl (gS rfl (gS rfl (gS rfl (gS rfl g0))))) (gS rfl (gS rfl (gS rfl (gS rfl g0)))) (gS rfl (gS rfl (gS rfl g0))) (gS rfl (gS rfl g0)) g0 (fun g => ?_)
                                              refine c_cond (et g0 rfl) (fun cB7 => ?_) (fun cB7 => ?_)
                                              · skip
                                                
                                                have := of_decide_eq_true cB7; omega
                                              · skip
                                                
                                                refine c_skip ?_
                                                refine hK156 _ _ ?_
                                                refine fg3 2 10 11 (gS rfl (gS rfl (gS rfl g0))) (gS rfl (gS rfl g0)) (gS rfl g0) (fun g => ?_)
                                                refine c_seq (fun K159 hK159 => ?_)
                                                refine c_seq (fun K160 hK160 => ?_)
                                                exact (by
                                                  refine c_region ?_
                                                  refine l_step (y_moveV (et (gS rfl g0) rfl)) ?_
                                                  refine l_step (y_nil (et g0 rfl)) ?_
                                                  refine l_step (y_fld fld_146_7 (et g0 rfl)) ?_
                                                  refine l_step (y_load1 one_95 (et g0 rfl) (at1 (kF.cell (rF 7 _ rfl)))) ?_
                                                  refine l_eff (e_callV cal_24 (aC (et g0 rfl) aN) (yp_small hF (hOl.mono hL0) (bd_sm (bd_W fo.outLen) (by decide)))) (fun v161 w161 h161 => ?_)
                                                  obtain ⟨rfl, u161⟩ := h161
                                                  replace G := G.tr (Go.ofUp hF u161)
                                                  replace hF := hF.up u161
                                                  replace k3 := k3.up u161
                                                  replace kS := kS.up u161
                                                  replace kF := kF.up u161
                                                  replace kL := kL.up u161
                                                  replace kM := kM.up u161
                                                  replace U := U.tr u161
                                                  rw [lo_small lp.outl]
                                                  refine l_step (y_moveV (et (gS rfl (gS rfl (gS rfl (gS rfl (gS rfl (gS rfl (gS rfl g0))))))) rfl)) ?_
                                                  refine l_step (y_len Hvaa.underlying38 (et g0 rfl)) ?_
                                                  refine l_step (y_conv Hvaa.underlying3 Hvaa.underlying26 (et g0 rfl) (wrapU_id uk64 ?_)) ?_
                                                  (omega)
                                                  refine l_step (y_minN (et (gS rfl (gS rfl (gS rfl g0))) rfl) (et g0 rfl)) ?_
                                                  refine l_step (y_assignV (et g0 rfl)) ?_
                                                  refine l_nil ?_
                                                  refine hK160 _ _ ?_
                                                  refine fg4 2 10 11 12 (gS rfl (gS rfl (gS rfl (gS rfl (gS rfl (gS rfl (gS rfl (gS rfl (gS rfl (gS rfl (gS rfl (gS rfl g0)))))))))))) (gS rfl (gS rfl (gS rfl (gS rfl (gS rfl (gS rfl (gS rfl (gS rfl (gS rfl (gS rfl (gS rfl g0))))))))))) (gS rfl (gS rfl (gS rfl (gS rfl (gS rfl (gS rfl (gS rfl (gS rfl (gS rfl (gS rfl g0)))))))))) g0 (fun g => ?_)
                                                  refine c_seq (fun K162 hK162 => ?_)
                                                  exact (by
                                                    refine c_region ?_
                                                    refine l_step (y_moveV (et g0 rfl)) ?_
                                                    refine l_step (y_gtr (et g0 rfl) rfl) ?_
                                                    refine l_nil ?_
                                                    refine hK162 _ _ ?_
                                                    refine fg5 2 10 11 12 148 (gS rfl (gS rfl (gS rfl (gS rfl (gS rfl g0))))) (gS rfl (gS rfl (gS rfl (gS rfl g0)))) (gS rfl (gS rfl (gS rfl g0))) (gS rfl (gS rfl g0)) g0 (fun g => ?_)
                                                    refine c_cond (et g0 rfl) (fun cB9 => ?_) (fun cB9 => ?_)
                                                    · skip
                                                      
                                                      have := of_decide_eq_true cB9; simp at this
                                                    · skip
                                                      
                                                      have hb9 : ¬ 0 < min f.outLen ([] : List Nat).length := by simp
                                                      refine c_skip ?_
                                                      refine hK159 _ _ ?_
                                                      refine fg2 10 11 (gS rfl (gS rfl (gS rfl g0))) (gS rfl (gS rfl g0)) (fun g => ?_)
                                                      exact (by
                                                        refine c_region ?_
                                                        refine l_step (y_moveV (et (gS rfl g0) rfl)) ?_
                                                        refine l_step (y_moveV (et (gS rfl g0) rfl)) ?_
                                                        refine l_eff (e_callV cal_143 (aC (et (gS rfl g0) rfl) (aC (v := .int .i64 ((0 : Nat) : Int)) rfl (aC (et g0 rfl) aN))) (yp_answer hF _ _ _ _ _ kF hfP nbF 0 (Nat.zero_le _) lp.stk lp.pc (NV.nil _) (W_bd (bd_up bd_zero (by decide))))) (fun v164 w164 h164 => ?_)
                                                        obtain ⟨rfl, fs164, H164, g164, kf164, fc164, of164⟩ := h164
                                                        have hlew164 := g164.le
                                                        replace nb3 := g164.nb nb3 k3.lt
                                                        replace nbS := g164.nb nbS kS.lt
                                                        replace nbF := g164.nb nbF kF.lt
                                                        replace nbM := g164.nb nbM (Nat.lt_of_lt_of_le lM U.size)
                                                        replace n153 := n153.mono hlew164
                                                        replace hfP := hfP.mono hlew164
                                                        replace hL0 := hL0.trans hlew164
                                                        replace k3 := k3.ch g164.ch (by omega)
                                                        replace kS := kS.ch g164.ch (by omega)
                                                        replace kL := kL.ch g164.ch (by intro q hq hm; have := dL q hq; omega)
                                                        replace kM := kM.ch g164.ch (by omega)
                                                        replace kF := kf164
                                                        replace U := U.cc g164.ch (by intro b hb; first | omega | exact .inl hb | exact .inr (hb ▸ U))
                                                        replace G := G.trans g164 (by intro b hb; first | omega | exact .inl hb | (simp at hb ⊢; omega))
                                                        replace hF := g164.fz
                                                        refine l_nil ?_
                                                        refine end0 rfl ?_
                                                        have hG : lvGas u q l = 0 := by rw [lvGas, if_pos (by rw [hS]; have := hds.out; omega)]
                                                        have hOu : lvOut u q l = [] := by rw [lvOut, if_pos (.inl (by rw [hS]; have := hds.out; omega))]
                                                        have hW : lvW s u q l = u.saved := by rw [lvW, if_neg (by rw [hS]; omega)]
                                                        have hS0 : lvSt u q l ≠ 0 := by rw [hS]; omega
                                                        have hFl : lvFlag u q l = 0 := by rw [lvFlag, if_neg hS0]
                                                        have hMm : lvMem f u q l = f.mem := by rw [lvMem, hOu, if_neg hb9]
                                                        have eP : lvP f u q l = ansN { f with gas := f.gas + 0, mem := f.mem } 0 0 := by rw [lvP, hG, hMm, hFl]
                                                        have eS : lvS2 s u q l = { s with now := u.saved, ret := [] } := by rw [lvS2, hW, hOu]
                                                        rw [eS, hW, eP]
                                                        exact ⟨rfl, _, _, _, _, G, kS, ⟨⟨sv.accts, sv.warmA, sv.warmS, zrb, sv.logs, sv.temps, sv.made, sv.gone, so.start, (show 0 < 16777216 by decide), so.phase, so.status, so.applied, so.limit, so.txGas, so.left, so.price, so.total, so.origin, so.mad⟩, eC.mono hL0, (by simp only [size_spl, Array.size_setIfInBounds]; exact hs.size), _, _, _, _, _, _, _, _, _, _, _, _, _, _, _, _, _, _, _, _, _, _, _, _, rS, rOr, rMd, (zAc.mono hL0), (zWA.mono hL0), (zWS.mono hL0), (zRf.mono hL0), (zTm.mono hL0), (zMd.mono hL0), (zGn.mono hL0), (hSr.mono hL0), (BV.nil _), (hLm.mono hL0), (hTx.mono hL0), (hLf.mono hL0), (hPr.mono hL0), (hTt.mono hL0)⟩, kF, fc164, oF.trans of164, kM, by rw [if_neg hS0]; exact ⟨.inl ⟨rfl, zLg.mono hL0, _, _, rfl⟩⟩, (rS 4 _ rfl)⟩))))))))))))
                        · skip
                          
                          have hq5 : ¬ 1 < q := by have := of_decide_eq_false cB5; omega
                          refine c_skip ?_
                          refine hK138 _ _ ?_
                          refine fg6 2 1 0 6 7 8 (gS rfl (gS rfl (gS rfl (gS rfl (gS rfl (gS rfl g0)))))) (gS rfl (gS rfl (gS rfl (gS rfl (gS rfl g0))))) (gS rfl (gS rfl (gS rfl (gS rfl g0)))) (gS rfl (gS rfl (gS rfl g0))) (gS rfl (gS rfl g0)) (gS rfl g0) (fun g => ?_)
                          refine c_seq (fun K165 hK165 => ?_)
                          exact (by
                            refine c_region ?_
                            refine l_step (y_moveV (et (gS rfl (gS rfl (gS rfl g0))) rfl)) ?_
                            refine l_step (y_moveV (et (gS rfl (gS rfl (gS rfl (gS rfl (gS rfl (gS rfl g0)))))) rfl)) ?_
                            refine l_step (y_nil (et (gS rfl g0) rfl)) ?_
                            refine l_step (y_fld fld_102_3 (et g0 rfl)) ?_
                            have rl166 := RowIn.le rS (Nat.succ_pos _)
                            simp only [List.length_cons, List.length_nil, Nat.zero_add, Nat.reduceAdd] at rl166
                            refine l_effN (e_store sz_38 (et g0 rfl) (cellsV (et (gS rfl (gS rfl g0)) rfl) rfl) rfl (by first | exact one_bL _ | exact one_uL _ | (intro v hv; simp at hv; subst hv; rfl)) kS (by first | exact Nat.le_trans (by omega) rl166 | exact Nat.le_of_ble_eq_true rfl | (simp; done) | (simp; omega) | omega | (simp only [size_spl, Array.size_setIfInBounds, hs.size]; exact Nat.le_of_ble_eq_true rfl))) (fun v166 w166 h166 => ?_)
                            obtain ⟨rfl, x166⟩ := h166
                            replace k3 := k3.ch x166.ch (by omega)
                            replace kF := kF.ch x166.ch (by omega)
                            replace kL := kL.ch x166.ch (by intro q hq hm; have := dL q hq; omega)
                            replace kM := kM.ch x166.ch (by omega)
                            replace kS := x166.blk
                            replace G := G.wr x166 (.inl (by first | rfl | (simp; done))) nbS
                            replace hF := G.fz
                            replace U := U.st x166 (.inl (by first | rfl | (simp; done)))
                            replace eC := kS.eput eC (by omega)
                            replace rS : RowIn _ _ [.slice pa1 u.saved.accts.length pa2, .slice pwa1 u.saved.warmA.length pwa2, .slice pws1 u.saved.warmS.length pws2, .slice pr1 pr2 pr3, .slice pla u.saved.logs.length u.saved.logs.length, .slice pt1 u.saved.temps.length pt2, .slice pm1 u.saved.made.length pm2, .slice pg1 u.saved.gone.length pg2, .slice oa s.start.length oc, .slice (some ⟨bf, 0, none⟩) N cap, _, .int .u8 (s.phase : Nat), .int .u8 (s.status : Nat), .int .u8 (s.applied : Nat), vlim, vtx, vleft, vpr, vtot] := kS.rput rS 10 rfl
                            replace rOr := kS.rputo rOr (by first | (left; omega) | (right; simp only [List.length_cons, List.length_nil, length_bL, length_be]; omega))
                            replace rMd := kS.rputo rMd (by first | (left; omega) | (right; simp only [List.length_cons, List.length_nil, length_bL, length_be]; omega))
                            refine l_nil ?_
                            refine hK165 _ _ ?_
                            refine fg6 2 1 0 6 7 8 (gS rfl (gS rfl (gS rfl (gS rfl (gS rfl (gS rfl (gS rfl (gS rfl (gS rfl g0))))))))) (gS rfl (gS rfl (gS rfl (gS rfl (gS rfl (gS rfl (gS rfl (gS rfl g0)))))))) (gS rfl (gS rfl (gS rfl (gS rfl (gS rfl (gS rfl (gS rfl g0))))))) (gS rfl (gS rfl (gS rfl (gS rfl (gS rfl (gS rfl g0)))))) (gS rfl (gS rfl (gS rfl (gS rfl (gS rfl g0))))) (gS rfl (gS rfl (gS rfl (gS rfl g0)))) (fun g => ?_)
                            refine c_seq (fun K167 hK167 => ?_)
                            exact (by
                              refine c_draw Up 20 [(0, true), (1, true), (2, true), (3, true), (4, true), (5, true), (6, true), (7, true), (8, true), (9, true), (10, true), (11, true), (12, true), (13, true), (14, true), (15, true), (16, true), (17, true), (18, true), (19, true), (20, false)] (by kernel_rfl) (fun w168 hu => ⟨Up.refl _, ?_⟩)
                              replace G := G.tr (Go.ofUp hF hu)
                              replace hF := hF.up hu
                              replace k3 := k3.up hu
                              replace kS := kS.up hu
                              replace kF := kF.up hu
                              replace kL := kL.up hu
                              replace kM := kM.up hu
                              replace U := U.tr hu
                              have SU := Up.refl w168
                              refine p_step (by exact rfl) (y_moveV (et (gS rfl (gS rfl (gS rfl g0))) rfl)) ?_
                              refine p_step (by exact rfl) (y_moveV (et (gS rfl (gS rfl (gS rfl (gS rfl g0)))) rfl)) ?_
                              refine p_step (by exact rfl) (y_nil (et g0 rfl)) ?_
                              refine p_step (by exact rfl) (y_fld fld_102_2 (et g0 rfl)) ?_
                              refine p_step (by exact rfl) (y_load1 one_100 (et g0 rfl) (atS (kS.cell (rS 9 _ rfl)))) ?_
                              refine p_step (by exact rfl) (y_moveV (et (gS rfl (gS rfl (gS rfl (gS rfl (gS rfl (gS rfl (gS rfl (gS rfl g0)))))))) rfl)) ?_
                              refine p_step (by exact rfl) (y_nil (et g0 rfl)) ?_
                              refine p_step (by exact rfl) (y_fld fld_102_2 (et g0 rfl)) ?_
                              refine p_step (by exact rfl) (y_load1 one_100 (et g0 rfl) (atS (kS.cell (rS 9 _ rfl)))) ?_
                              refine p_step (by exact rfl) (y_len Hvaa.underlying100 (et g0 rfl)) ?_
                              refine p_step (by exact rfl) (y_sub (et g0 rfl) rfl (subIN (y := 1) ?_ ?_)) ?_
                              omega
                              omega
                              refine p_step (by exact rfl) (y_moveV (et (gS rfl (gS rfl (gS rfl (gS rfl (gS rfl (gS rfl (gS rfl (gS rfl (gS rfl (gS rfl (gS rfl (gS rfl (gS rfl (gS rfl g0)))))))))))))) rfl)) ?_
                              refine p_step (by exact rfl) (y_nil (et g0 rfl)) ?_
                              refine p_step (by exact rfl) (y_fld fld_102_2 (et g0 rfl)) ?_
                              refine p_step (by exact rfl) (y_load1 one_100 (et g0 rfl) (atS (kS.cell (rS 9 _ rfl)))) ?_
                              refine p_step (by exact rfl) (y_len Hvaa.underlying100 (et g0 rfl)) ?_
                              refine p_step (by exact rfl) (y_sub (et g0 rfl) rfl (subIN (y := 1) ?_ ?_)) ?_
                              omega
                              omega
                              exact (by
                                refine p_step (by exact rfl) (y_slS011n Hvaa.underlying100 sz_146 (et (gS rfl (gS rfl (gS rfl (gS rfl (gS rfl (gS rfl (gS rfl (gS rfl (gS rfl (gS rfl (gS rfl (gS rfl g0)))))))))))) rfl) (et (gS rfl (gS rfl (gS rfl (gS rfl (gS rfl (gS rfl g0)))))) rfl) (et g0 rfl) ?_ ?_) ?_
                                omega
                                omega
                                refine p_step (by exact rfl) (y_nil (et (gS rfl (gS rfl (gS rfl (gS rfl (gS rfl (gS rfl (gS rfl (gS rfl (gS rfl (gS rfl (gS rfl (gS rfl (gS rfl (gS rfl (gS rfl (gS rfl (gS rfl g0))))))))))))))))) rfl)) ?_
                                refine p_step (by exact rfl) (y_fld fld_102_2 (et g0 rfl)) ?_
                                have rl169 := RowIn.le rS (Nat.succ_pos _)
                                simp only [List.length_cons, List.length_nil, Nat.zero_add, Nat.reduceAdd] at rl169
                                refine p_effN (by exact rfl) (e_store sz_100 (et g0 rfl) (cellsV (et (gS rfl (gS rfl g0)) rfl) rfl) rfl (by first | exact one_bL _ | exact one_uL _ | (intro v hv; simp at hv; subst hv; rfl)) kS (by first | exact Nat.le_trans (by omega) rl169 | exact Nat.le_of_ble_eq_true rfl | (simp; done) | (simp; omega) | omega | (simp only [size_spl, Array.size_setIfInBounds, hs.size]; exact Nat.le_of_ble_eq_true rfl))) (fun v169 w169 h169 => ?_)
                                obtain ⟨rfl, x169⟩ := h169
                                replace k3 := k3.ch x169.ch (by omega)
                                replace kF := kF.ch x169.ch (by omega)
                                replace kL := kL.ch x169.ch (by intro q hq hm; have := dL q hq; omega)
                                replace kM := kM.ch x169.ch (by omega)
                                replace kS := x169.blk
                                replace G := G.wr x169 (.inl (by first | rfl | (simp; done))) nbS
                                replace hF := G.fz
                                replace U := U.st x169 (.inl (by first | rfl | (simp; done)))
                                replace eC := kS.eput eC (by omega)
                                replace rS : RowIn _ _ [.slice pa1 u.saved.accts.length pa2, .slice pwa1 u.saved.warmA.length pwa2, .slice pws1 u.saved.warmS.length pws2, .slice pr1 pr2 pr3, .slice pla u.saved.logs.length u.saved.logs.length, .slice pt1 u.saved.temps.length pt2, .slice pm1 u.saved.made.length pm2, .slice pg1 u.saved.gone.length pg2, .slice oa s.start.length oc, .slice (some ⟨bf, 0, none⟩) (N - 1) (N - 1), _, .int .u8 (s.phase : Nat), .int .u8 (s.status : Nat), .int .u8 (s.applied : Nat), vlim, vtx, vleft, vpr, vtot] := kS.rput rS 9 rfl
                                replace rOr := kS.rputo rOr (by first | (left; omega) | (right; simp only [List.length_cons, List.length_nil, length_bL, length_be]; omega))
                                replace rMd := kS.rputo rMd (by first | (left; omega) | (right; simp only [List.length_cons, List.length_nil, length_bL, length_be]; omega))
                                refine ⟨.inl rfl, ?_⟩
                                refine p_nil ?_
                                refine hK167 _ _ ?_
                                refine fg6 2 1 0 6 7 8 (gS rfl (gS rfl (gS rfl (gS rfl (gS rfl (gS rfl (gS rfl (gS rfl (gS rfl (gS rfl (gS rfl (gS rfl (gS rfl (gS rfl (gS rfl (gS rfl (gS rfl (gS rfl (gS rfl (gS rfl (gS rfl (gS rfl (gS rfl (gS rfl (gS rfl g0))))))))))))))))))))))))) (gS rfl (gS rfl (gS rfl (gS rfl (gS rfl (gS rfl (gS rfl (gS rfl (gS rfl (gS rfl (gS rfl (gS rfl (gS rfl (gS rfl (gS rfl (gS rfl (gS rfl (gS rfl (gS rfl (gS rfl (gS rfl (gS rfl (gS rfl (gS rfl g0)))))))))))))))))))))))) (gS rfl (gS rfl (gS rfl (gS rfl (gS rfl (gS rfl (gS rfl (gS rfl (gS rfl (gS rfl (gS rfl (gS rfl (gS rfl (gS rfl (gS rfl (gS rfl (gS rfl (gS rfl (gS rfl (gS rfl (gS rfl (gS rfl (gS rfl g0))))))))))))))))))))))) (gS rfl (gS rfl (gS rfl (gS rfl (gS rfl (gS rfl (gS rfl (gS rfl (gS rfl (gS rfl (gS rfl (gS rfl (gS rfl (gS rfl (gS rfl (gS rfl (gS rfl (gS rfl (gS rfl (gS rfl (gS rfl (gS rfl g0)))))))))))))))))))))) (gS rfl (gS rfl (gS rfl (gS rfl (gS rfl (gS rfl (gS rfl (gS rfl (gS rfl (gS rfl (gS rfl (gS rfl (gS rfl (gS rfl (gS rfl (gS rfl (gS rfl (gS rfl (gS rfl (gS rfl (gS rfl g0))))))))))))))))))))) (gS rfl (gS rfl (gS rfl (gS rfl (gS rfl (gS rfl (gS rfl (gS rfl (gS rfl (gS rfl (gS rfl (gS rfl (gS rfl (gS rfl (gS rfl (gS rfl (gS rfl (gS rfl (gS rfl (gS rfl g0)))))))))))))))))))) (fun g => ?_)
                                refine c_seq (fun K170 hK170 => ?_)
                                refine c_seq (fun K171 hK171 => ?_)
                                exact (by
                                  refine c_region ?_
                                  refine l_step (y_moveV (et (gS rfl (gS rfl (gS rfl g0))) rfl)) ?_
                                  refine l_step (y_nil (et g0 rfl)) ?_
                                  refine l_step (y_fld fld_102_2 (et g0 rfl)) ?_
                                  refine l_step (y_load1 one_100 (et g0 rfl) (at1 (kS.cell (rS 9 _ rfl)))) ?_
                                  refine l_step (y_len Hvaa.underlying100 (et g0 rfl)) ?_
                                  refine l_step (y_eql (et g0 rfl) rfl) ?_
                                  refine l_nil ?_
                                  refine hK171 _ _ ?_
                                  refine fg7 2 1 0 6 7 8 96 (gS rfl (gS rfl (gS rfl (gS rfl (gS rfl (gS rfl (gS rfl (gS rfl (gS rfl (gS rfl (gS rfl g0))))))))))) (gS rfl (gS rfl (gS rfl (gS rfl (gS rfl (gS rfl (gS rfl (gS rfl (gS rfl (gS rfl g0)))))))))) (gS rfl (gS rfl (gS rfl (gS rfl (gS rfl (gS rfl (gS rfl (gS rfl (gS rfl g0))))))))) (gS rfl (gS rfl (gS rfl (gS rfl (gS rfl (gS rfl (gS rfl (gS rfl g0)))))))) (gS rfl (gS rfl (gS rfl (gS rfl (gS rfl (gS rfl (gS rfl g0))))))) (gS rfl (gS rfl (gS rfl (gS rfl (gS rfl (gS rfl g0)))))) g0 (fun g => ?_)
                                  refine c_cond (et g0 rfl) (fun cB6 => ?_) (fun cB6 => ?_)
                                  · skip
                                    
                                    have := of_decide_eq_true cB6; omega
                                  · skip
                                    
                                    refine c_skip ?_
                                    refine hK170 _ _ ?_
                                    refine fg6 2 1 0 6 7 8 (gS rfl (gS rfl (gS rfl (gS rfl (gS rfl (gS rfl g0)))))) (gS rfl (gS rfl (gS rfl (gS rfl (gS rfl g0))))) (gS rfl (gS rfl (gS rfl (gS rfl g0)))) (gS rfl (gS rfl (gS rfl g0))) (gS rfl (gS rfl g0)) (gS rfl g0) (fun g => ?_)
                                    refine c_seq (fun K173 hK173 => ?_)
                                    exact (by
                                      refine c_draw Up 12 [(0, true), (1, true), (2, true), (3, true), (4, true), (5, true), (6, true), (7, true), (8, true), (9, true), (10, true), (11, true)] (by kernel_rfl) (fun w174 hu => ⟨Up.refl _, ?_⟩)
                                      replace G := G.tr (Go.ofUp hF hu)
                                      replace hF := hF.up hu
                                      replace k3 := k3.up hu
                                      replace kS := kS.up hu
                                      replace kF := kF.up hu
                                      replace kL := kL.up hu
                                      replace kM := kM.up hu
                                      replace U := U.tr hu
                                      have SU := Up.refl w174
                                      refine p_step (by exact rfl) (y_moveV (et (gS rfl (gS rfl (gS rfl g0))) rfl)) ?_
                                      refine p_step (by exact rfl) (y_nil (et g0 rfl)) ?_
                                      refine p_step (by exact rfl) (y_fld fld_102_2 (et g0 rfl)) ?_
                                      refine p_step (by exact rfl) (y_load1 one_100 (et g0 rfl) (atS (kS.cell (rS 9 _ rfl)))) ?_
                                      refine p_step (by exact rfl) (y_moveV (et (gS rfl (gS rfl (gS rfl (gS rfl (gS rfl (gS rfl (gS rfl g0))))))) rfl)) ?_
                                      refine p_step (by exact rfl) (y_nil (et g0 rfl)) ?_
                                      refine p_step (by exact rfl) (y_fld fld_102_2 (et g0 rfl)) ?_
                                      refine p_step (by exact rfl) (y_load1 one_100 (et g0 rfl) (atS (kS.cell (rS 9 _ rfl)))) ?_
                                      refine p_step (by exact rfl) (y_len Hvaa.underlying100 (et g0 rfl)) ?_
                                      refine p_step (by exact rfl) (y_sub (et g0 rfl) rfl (subIN (y := 1) ?_ ?_)) ?_
                                      omega
                                      omega
                                      refine p_step (by exact rfl) (y_idxSa rfl Hvaa.underlying100 sz_146 (et (gS rfl (gS rfl (gS rfl (gS rfl (gS rfl (gS rfl g0)))))) rfl) (et g0 rfl) ?_) ?_
                                      omega
                                      refine p_step (by exact rfl) (y_assignV (et g0 rfl)) ?_
                                      refine p_nil ?_
                                      refine hK173 _ _ ?_
                                      refine fg6 2 1 6 7 8 10 (gS rfl (gS rfl (gS rfl (gS rfl (gS rfl (gS rfl (gS rfl (gS rfl (gS rfl (gS rfl (gS rfl (gS rfl (gS rfl (gS rfl (gS rfl (gS rfl (gS rfl g0))))))))))))))))) (gS rfl (gS rfl (gS rfl (gS rfl (gS rfl (gS rfl (gS rfl (gS rfl (gS rfl (gS rfl (gS rfl (gS rfl (gS rfl (gS rfl (gS rfl (gS rfl g0)))))))))))))))) (gS rfl (gS rfl (gS rfl (gS rfl (gS rfl (gS rfl (gS rfl (gS rfl (gS rfl (gS rfl (gS rfl (gS rfl (gS rfl (gS rfl g0)))))))))))))) (gS rfl (gS rfl (gS rfl (gS rfl (gS rfl (gS rfl (gS rfl (gS rfl (gS rfl (gS rfl (gS rfl (gS rfl (gS rfl g0))))))))))))) (gS rfl (gS rfl (gS rfl (gS rfl (gS rfl (gS rfl (gS rfl (gS rfl (gS rfl (gS rfl (gS rfl (gS rfl g0)))))))))))) g0 (fun g => ?_)
                                      refine c_seq (fun K175 hK175 => ?_)
                                      exact (by
                                        refine c_region ?_
                                        refine l_step (y_moveV (et g0 rfl)) ?_
                                        refine l_step (y_moveV (et (gS rfl g0) rfl)) ?_
                                        refine l_step (y_nil (et g0 rfl)) ?_
                                        refine l_step (y_fld fld_146_4 (et g0 rfl)) ?_
                                        refine l_step (y_load1 one_95 (et g0 rfl) (at1 (kF.cell (rF 4 _ rfl)))) ?_
                                        refine l_step (y_moveV (et (gS rfl (gS rfl (gS rfl (gS rfl (gS rfl (gS rfl (gS rfl g0))))))) rfl)) ?_
                                        refine l_eff (e_callV cal_34 (aC (et (gS rfl g0) rfl) (aC (et g0 rfl) aN)) (nat_add hF (hGa.mono hL0) (yGa.mono hL0) (bd_sm (bd_lt2 (b := 256 ^ 4) fo.gas (by decide)) (by decide)) (bd_sm (bd_lt2 (b := 256 ^ 4) fo6.gas (by decide)) (by decide)))) (fun v176 w176 h176 => ?_)
                                        obtain ⟨H176, g176, n176⟩ := h176
                                        have hlew176 := g176.le
                                        replace nb3 := g176.nb nb3 k3.lt
                                        replace nbS := g176.nb nbS kS.lt
                                        replace nbF := g176.nb nbF kF.lt
                                        replace nbM := g176.nb nbM (Nat.lt_of_lt_of_le lM U.size)
                                        replace hL0 := hL0.trans hlew176
                                        replace k3 := k3.up g176.up
                                        replace kS := kS.up g176.up
                                        replace kF := kF.up g176.up
                                        replace kL := kL.up g176.up
                                        replace kM := kM.up g176.up
                                        replace U := U.tr g176.up
                                        replace G := G.tr g176
                                        replace hF := g176.fz
                                        have q176 := bd_add (c := 5) (bd_lt2 (b := 256 ^ 4) fo.gas (by decide)) (bd_lt2 (b := 256 ^ 4) fo6.gas (by decide)) (by decide)
                                        refine l_step (y_nil (et (gS rfl (gS rfl (gS rfl (gS rfl (gS rfl (gS rfl g0)))))) rfl)) ?_
                                        refine l_step (y_fld fld_146_4 (et g0 rfl)) ?_
                                        obtain ⟨sa177, sn177, sc177, rfl⟩ := n176.sl
                                        have rl177 := RowIn.le rF (Nat.succ_pos _)
                                        simp only [List.length_cons, List.length_nil, Nat.zero_add, Nat.reduceAdd] at rl177
                                        refine l_effN (e_store sz_95 (et g0 rfl) (cellsV (et (gS rfl (gS rfl g0)) rfl) rfl) rfl (by first | exact one_bL _ | exact one_uL _ | (intro v hv; simp at hv; subst hv; rfl)) kF (by first | exact Nat.le_trans (by omega) rl177 | exact Nat.le_of_ble_eq_true rfl | (simp; done) | (simp; omega) | omega | (simp only [size_spl, Array.size_setIfInBounds, hs.size]; exact Nat.le_of_ble_eq_true rfl))) (fun v177 w177 h177 => ?_)
                                        obtain ⟨rfl, x177⟩ := h177
                                        replace k3 := k3.ch x177.ch (by omega)
                                        replace kS := kS.ch x177.ch (by omega)
                                        replace kL := kL.ch x177.ch (by intro q hq hm; have := dL q hq; omega)
                                        replace kM := kM.ch x177.ch (by omega)
                                        replace kF := x177.blk
                                        replace G := G.wr x177 (.inl (by first | rfl | (simp; done))) nbF
                                        replace hF := G.fz
                                        replace U := U.st x177 (.inl (by first | rfl | (simp; done)))
                                        replace oF := kF.oput oF (by omega) (by omega)
                                        replace rF : RowIn _ _ [.int .u8 (f.kind : Nat), .int .u8 (f.ntv : Nat), .bool f.static, vpc, _, vval, voo, vol, .slice ka f.stack.length kc, vm, .slice ca f.code.length cc, .slice ia f.input.length ic] := kF.rput rF 4 rfl
                                        replace rSe := kF.rputo rSe (by first | (left; omega) | (right; simp only [List.length_cons, List.length_nil, length_bL, length_be, hSv.len]; omega))
                                        replace rCa := kF.rputo rCa (by first | (left; omega) | (right; simp only [List.length_cons, List.length_nil, length_bL, length_be, hSv.len]; omega))
                                        replace rSv := kF.rputo rSv (by first | (left; omega) | (right; simp only [List.length_cons, List.length_nil, length_bL, length_be, hSv.len]; omega))
                                        have hG : lvGas u q l = u.gas := by rw [lvGas, if_neg (by rw [hS]; exact hq5), if_neg (fun h => absurd h.2 hq0)]
                                        have hOu : lvOut u q l = l := by rw [lvOut, if_neg (by rw [hS]; rintro (h | h); exact hq5 h; exact absurd h.2 hq0)]
                                        have hW : lvW s u q l = u.saved := by rw [lvW, if_neg (by rw [hS]; omega)]
                                        have hS0 : lvSt u q l ≠ 0 := by rw [hS]; omega
                                        have hgs := lp.gas
                                        rw [hG] at hgs
                                        have hfP : FC H176 _ _ { f with gas := f.gas + u.gas } vm := ⟨⟨fo.kind, fo.ntv, fo.pc, hgs, fo.value, fo.outOff, fo.outLen, fo.self, fo.caller, fo.stack, fo.code, fo.input, fo.mem⟩, _, _, _, _, _, _, _, _, _, _, _, _, rF, rSe, rCa, rSv, hSv.mono hL0, (hPc.mono hL0), n176, (hVa.mono hL0), (hOf.mono hL0), (hOl.mono hL0), (hSt.mono hL0), (hCo.mono hL0), (hIn.mono hL0)⟩
                                        refine l_nil ?_
                                        refine hK175 _ _ ?_
                                        refine fg5 2 1 6 8 10 (gS rfl (gS rfl (gS rfl (gS rfl (gS rfl (gS rfl (gS rfl (gS rfl (gS rfl (gS rfl (gS rfl (gS rfl (gS rfl (gS rfl g0)))))))))))))) (gS rfl (gS rfl (gS rfl (gS rfl (gS rfl (gS rfl (gS rfl (gS rfl (gS rfl (gS rfl (gS rfl (gS rfl (gS rfl g0))))))))))))) (gS rfl (gS rfl (gS rfl (gS rfl (gS rfl (gS rfl (gS rfl (gS rfl (gS rfl (gS rfl (gS rfl (gS rfl g0)))))))))))) (gS rfl (gS rfl (gS rfl (gS rfl (gS rfl (gS rfl (gS rfl (gS rfl (gS rfl (gS rfl g0)))))))))) (gS rfl (gS rfl (gS rfl (gS rfl (gS rfl (gS rfl (gS rfl (gS rfl (gS rfl g0))))))))) (fun g => ?_)
                                        refine c_seq (fun K178 hK178 => ?_)
                                        exact (by
                                          refine c_region ?_
                                          refine l_step y_assignC ?_
                                          refine l_nil ?_
                                          refine hK178 _ _ ?_
                                          refine c_seq (fun K179 hK179 => ?_)
                                          refine c_seq (fun K180 hK180 => ?_)
                                          exact (by
                                            refine c_region ?_
                                            refine l_step (y_moveV (et (gS rfl (gS rfl (gS rfl (gS rfl g0)))) rfl)) ?_
                                            refine l_step (y_eql (et g0 rfl) rfl) ?_
                                            refine l_nil ?_
                                            refine hK180 _ _ ?_
                                            refine fg6 2 6 8 10 11 132 (gS rfl (gS rfl (gS rfl (gS rfl (gS rfl (gS rfl (gS rfl g0))))))) (gS rfl (gS rfl (gS rfl (gS rfl (gS rfl g0))))) (gS rfl (gS rfl (gS rfl (gS rfl g0)))) (gS rfl (gS rfl (gS rfl g0))) (gS rfl (gS rfl g0)) g0 (fun g => ?_)
                                            refine c_cond (et g0 rfl) (fun cB7 => ?_) (fun cB7 => ?_)
                                            · skip
                                              
                                              have := of_decide_eq_true cB7; omega
                                            · skip
                                              
                                              refine c_skip ?_
                                              refine hK179 _ _ ?_
                                              refine fg3 2 10 11 (gS rfl (gS rfl (gS rfl (gS rfl (gS rfl g0))))) (gS rfl (gS rfl g0)) (gS rfl g0) (fun g => ?_)
                                              refine c_seq (fun K182 hK182 => ?_)
                                              refine c_seq (fun K183 hK183 => ?_)
                                              exact (by
                                                refine c_region ?_
                                                refine l_step (y_moveV (et (gS rfl g0) rfl)) ?_
                                                refine l_step (y_nil (et g0 rfl)) ?_
                                                refine l_step (y_fld fld_146_7 (et g0 rfl)) ?_
                                                refine l_step (y_load1 one_95 (et g0 rfl) (at1 (kF.cell (rF 7 _ rfl)))) ?_
                                                refine l_eff (e_callV cal_24 (aC (et g0 rfl) aN) (yp_small hF (hOl.mono hL0) (bd_sm (bd_W fo.outLen) (by decide)))) (fun v184 w184 h184 => ?_)
                                                obtain ⟨rfl, u184⟩ := h184
                                                replace G := G.tr (Go.ofUp hF u184)
                                                replace hF := hF.up u184
                                                replace k3 := k3.up u184
                                                replace kS := kS.up u184
                                                replace kF := kF.up u184
                                                replace kL := kL.up u184
                                                replace kM := kM.up u184
                                                replace U := U.tr u184
                                                rw [lo_small lp.outl]
                                                refine l_step (y_moveV (et (gS rfl (gS rfl (gS rfl (gS rfl (gS rfl (gS rfl (gS rfl g0))))))) rfl)) ?_
                                                refine l_step (y_len Hvaa.underlying38 (et g0 rfl)) ?_
                                                refine l_step (y_conv Hvaa.underlying3 Hvaa.underlying26 (et g0 rfl) (wrapU_id uk64 ?_)) ?_
                                                (omega)
                                                refine l_step (y_minN (et (gS rfl (gS rfl (gS rfl g0))) rfl) (et g0 rfl)) ?_
                                                refine l_step (y_assignV (et g0 rfl)) ?_
                                                refine l_nil ?_
                                                refine hK183 _ _ ?_
                                                refine fg4 2 10 11 12 (gS rfl (gS rfl (gS rfl (gS rfl (gS rfl (gS rfl (gS rfl (gS rfl (gS rfl (gS rfl (gS rfl (gS rfl g0)))))))))))) (gS rfl (gS rfl (gS rfl (gS rfl (gS rfl (gS rfl (gS rfl (gS rfl (gS rfl (gS rfl (gS rfl g0))))))))))) (gS rfl (gS rfl (gS rfl (gS rfl (gS rfl (gS rfl (gS rfl (gS rfl (gS rfl (gS rfl g0)))))))))) g0 (fun g => ?_)
                                                refine c_seq (fun K185 hK185 => ?_)
                                                exact (by
                                                  refine c_region ?_
                                                  refine l_step (y_moveV (et g0 rfl)) ?_
                                                  refine l_step (y_gtr (et g0 rfl) rfl) ?_
                                                  refine l_nil ?_
                                                  refine hK185 _ _ ?_
                                                  refine fg5 2 10 11 12 148 (gS rfl (gS rfl (gS rfl (gS rfl (gS rfl g0))))) (gS rfl (gS rfl (gS rfl (gS rfl g0)))) (gS rfl (gS rfl (gS rfl g0))) (gS rfl (gS rfl g0)) g0 (fun g => ?_)
                                                  refine c_cond (et g0 rfl) (fun cB9 => ?_) (fun cB9 => ?_)
                                                  · skip
                                                    
                                                    have hb9 : 0 < min f.outLen l.length := by have := of_decide_eq_true cB9; omega
                                                    exact (by
                                                      refine c_draw Up 8 [(0, true), (1, true), (2, true), (3, true), (4, true), (5, true), (6, true), (7, true), (8, false)] (by kernel_rfl) (fun w187 hu => ⟨Up.refl _, ?_⟩)
                                                      replace G := G.tr (Go.ofUp hF hu)
                                                      replace hF := hF.up hu
                                                      replace k3 := k3.up hu
                                                      replace kS := kS.up hu
                                                      replace kF := kF.up hu
                                                      replace kL := kL.up hu
                                                      replace kM := kM.up hu
                                                      replace U := U.tr hu
                                                      have SU := Up.refl w187
                                                      refine p_step (by exact rfl) (y_moveV (et (gS rfl (gS rfl (gS rfl g0))) rfl)) ?_
                                                      refine p_step (by exact rfl) (y_moveV (et (gS rfl (gS rfl (gS rfl (gS rfl g0)))) rfl)) ?_
                                                      refine p_step (by exact rfl) (y_nil (et g0 rfl)) ?_
                                                      refine p_step (by exact rfl) (y_fld fld_146_6 (et g0 rfl)) ?_
                                                      refine p_step (by exact rfl) (y_load1 one_95 (et g0 rfl) (atS (kF.cell (rF 6 _ rfl)))) ?_
                                                      refine p_step (by exact rfl) (y_moveV (et (gS rfl (gS rfl (gS rfl (gS rfl (gS rfl (gS rfl (gS rfl (gS rfl (gS rfl g0))))))))) rfl)) ?_
                                                      refine p_step (by exact rfl) (y_moveV (et (gS rfl (gS rfl (gS rfl (gS rfl (gS rfl (gS rfl (gS rfl g0))))))) rfl)) ?_
                                                      refine p_step (by exact rfl) (y_slS010n Hvaa.underlying38 sz_5 (et (gS rfl g0) rfl) (et g0 rfl) ?_) ?_
                                                      omega
                                                      refine p_eff (by exact rfl) (e_callV cal_142 (aC (et (gS rfl (gS rfl (gS rfl (gS rfl (gS rfl (gS rfl (gS rfl g0))))))) rfl) (aC (et (gS rfl (gS rfl (gS rfl g0))) rfl) (aC (et g0 rfl) aN))) (yp_write hF _ _ _ _ _ kF hfP _ kM (Nat.lt_of_lt_of_le lM U.size) dMF nbM (hOf.mono hL0) (bd_up (bd_W fo.outOff) (by decide)) ((hO.mono hL0).take (Nat.min_le_right _ _)))) (fun v188 w188 h188 => ?_)
                                                      obtain ⟨rfl, H188, g188, mb188⟩ := h188
                                                      have hlew188 := g188.le
                                                      replace nb3 := g188.nb nb3 k3.lt
                                                      replace nbS := g188.nb nbS kS.lt
                                                      replace nbF := g188.nb nbF kF.lt
                                                      replace nbM := g188.nb nbM (Nat.lt_of_lt_of_le lM U.size)
                                                      replace n176 := n176.mono hlew188
                                                      replace hfP := hfP.mono hlew188
                                                      replace hL0 := hL0.trans hlew188
                                                      replace k3 := k3.ch g188.ch (by omega)
                                                      replace kS := kS.ch g188.ch (by omega)
                                                      replace kF := kF.ch g188.ch (by omega)
                                                      replace kL := kL.ch g188.ch (by intro q hq hm; have := dL q hq; omega)
                                                      replace kM := mb188
                                                      replace U := U.cc g188.ch (by intro b hb; first | omega | exact .inl hb | exact .inr (hb ▸ U))
                                                      replace G := G.trans g188 (by intro b hb; first | omega | exact .inl hb | (simp at hb ⊢; omega))
                                                      replace hF := g188.fz
                                                      have hfQ := hfP.setmem (m := wrN f.mem f.outOff (List.take (min f.outLen l.length) l)) (by rw [len_wr]; exact fo.mem)
                                                      refine ⟨.inl rfl, ?_⟩
                                                      refine p_nil ?_
                                                      refine hK182 _ _ ?_
                                                      refine fg2 10 11 (gS rfl (gS rfl (gS rfl (gS rfl (gS rfl (gS rfl (gS rfl (gS rfl (gS rfl (gS rfl (gS rfl (gS rfl g0)))))))))))) (gS rfl (gS rfl (gS rfl (gS rfl (gS rfl (gS rfl (gS rfl (gS rfl (gS rfl (gS rfl (gS rfl g0))))))))))) (fun g => ?_)
                                                      refine c_region ?_
                                                      exact (by
                                                        refine l_step (y_moveV (et (gS rfl g0) rfl)) ?_
                                                        refine l_step (y_moveV (et (gS rfl g0) rfl)) ?_
                                                        refine l_eff (e_callV cal_143 (aC (et (gS rfl g0) rfl) (aC (v := .int .i64 ((0 : Nat) : Int)) rfl (aC (et g0 rfl) aN))) (yp_answer hF _ _ _ _ _ kF hfQ nbF 0 (Nat.zero_le _) lp.stk lp.pc (NV.nil _) (W_bd (bd_up bd_zero (by decide))))) (fun v189 w189 h189 => ?_)
                                                        obtain ⟨rfl, fs189, H189, g189, kf189, fc189, of189⟩ := h189
                                                        have hlew189 := g189.le
                                                        replace nb3 := g189.nb nb3 k3.lt
                                                        replace nbS := g189.nb nbS kS.lt
                                                        replace nbF := g189.nb nbF kF.lt
                                                        replace nbM := g189.nb nbM (Nat.lt_of_lt_of_le lM U.size)
                                                        replace n176 := n176.mono hlew189
                                                        replace hfP := hfP.mono hlew189
                                                        replace hfQ := hfQ.mono hlew189
                                                        replace hL0 := hL0.trans hlew189
                                                        replace k3 := k3.ch g189.ch (by omega)
                                                        replace kS := kS.ch g189.ch (by omega)
                                                        replace kL := kL.ch g189.ch (by intro q hq hm; have := dL q hq; omega)
                                                        replace kM := kM.ch g189.ch (by omega)
                                                        replace kF := kf189
                                                        replace U := U.cc g189.ch (by intro b hb; first | omega | exact .inl hb | exact .inr (hb ▸ U))
                                                        replace G := G.trans g189 (by intro b hb; first | omega | exact .inl hb | (simp at hb ⊢; omega))
                                                        replace hF := g189.fz
                                                        refine l_nil ?_
                                                        refine end0 rfl ?_
                                                        have hG : lvGas u q l = u.gas := by rw [lvGas, if_neg (by rw [hS]; exact hq5), if_neg (fun h => absurd h.2 hq0)]
                                                        have hOu : lvOut u q l = l := by rw [lvOut, if_neg (by rw [hS]; rintro (h | h); exact hq5 h; exact absurd h.2 hq0)]
                                                        have hW : lvW s u q l = u.saved := by rw [lvW, if_neg (by rw [hS]; omega)]
                                                        have hS0 : lvSt u q l ≠ 0 := by rw [hS]; omega
                                                        have hFl : lvFlag u q l = 0 := by rw [lvFlag, if_neg hS0]
                                                        have hMm : lvMem f u q l = (wrN f.mem f.outOff (List.take (min f.outLen l.length) l)) := by rw [lvMem, hOu, if_pos hb9]
                                                        have eP : lvP f u q l = ansN { f with gas := f.gas + u.gas, mem := (wrN f.mem f.outOff (List.take (min f.outLen l.length) l)) } 0 0 := by rw [lvP, hG, hMm, hFl]
                                                        have eS : lvS2 s u q l = { s with now := u.saved, ret := l } := by rw [lvS2, hW, hOu]
                                                        rw [eS, hW, eP]
                                                        exact ⟨rfl, _, _, _, _, G, kS, ⟨⟨sv.accts, sv.warmA, sv.warmS, zrb, sv.logs, sv.temps, sv.made, sv.gone, so.start, hl9, so.phase, so.status, so.applied, so.limit, so.txGas, so.left, so.price, so.total, so.origin, so.mad⟩, eC.mono hL0, (by simp only [size_spl, Array.size_setIfInBounds]; exact hs.size), _, _, _, _, _, _, _, _, _, _, _, _, _, _, _, _, _, _, _, _, _, _, _, _, rS, rOr, rMd, (zAc.mono hL0), (zWA.mono hL0), (zWS.mono hL0), (zRf.mono hL0), (zTm.mono hL0), (zMd.mono hL0), (zGn.mono hL0), (hSr.mono hL0), (hO.mono hL0), (hLm.mono hL0), (hTx.mono hL0), (hLf.mono hL0), (hPr.mono hL0), (hTt.mono hL0)⟩, kF, fc189, oF.trans of189, kM, by rw [if_neg hS0]; exact ⟨.inl ⟨rfl, zLg.mono hL0, _, _, rfl⟩⟩, (rS 4 _ rfl)⟩))
                                                  · skip
                                                    
                                                    have hb9 : ¬ 0 < min f.outLen l.length := by have := of_decide_eq_false cB9; omega
                                                    refine c_skip ?_
                                                    refine hK182 _ _ ?_
                                                    refine fg2 10 11 (gS rfl (gS rfl (gS rfl g0))) (gS rfl (gS rfl g0)) (fun g => ?_)
                                                    refine c_region ?_
                                                    refine l_step (y_moveV (et (gS rfl g0) rfl)) ?_
                                                    refine l_step (y_moveV (et (gS rfl g0) rfl)) ?_
                                                    refine l_eff (e_callV cal_143 (aC (et (gS rfl g0) rfl) (aC (v := .int .i64 ((0 : Nat) : Int)) rfl (aC (et g0 rfl) aN))) (yp_answer hF _ _ _ _ _ kF hfP nbF 0 (Nat.zero_le _) lp.stk lp.pc (NV.nil _) (W_bd (bd_up bd_zero (by decide))))) (fun v190 w190 h190 => ?_)
                                                    obtain ⟨rfl, fs190, H190, g190, kf190, fc190, of190⟩ := h190
                                                    have hlew190 := g190.le
                                                    replace nb3 := g190.nb nb3 k3.lt
                                                    replace nbS := g190.nb nbS kS.lt
                                                    replace nbF := g190.nb nbF kF.lt
                                                    replace nbM := g190.nb nbM (Nat.lt_of_lt_of_le lM U.size)
                                                    replace n176 := n176.mono hlew190
                                                    replace hfP := hfP.mono hlew190
                                                    replace hL0 := hL0.trans hlew190
                                                    replace k3 := k3.ch g190.ch (by omega)
                                                    replace kS := kS.ch g190.ch (by omega)
                                                    replace kL := kL.ch g190.ch (by intro q hq hm; have := dL q hq; omega)
                                                    replace kM := kM.ch g190.ch (by omega)
                                                    replace kF := kf190
                                                    replace U := U.cc g190.ch (by intro b hb; first | omega | exact .inl hb | exact .inr (hb ▸ U))
                                                    replace G := G.trans g190 (by intro b hb; first | omega | exact .inl hb | (simp at hb ⊢; omega))
                                                    replace hF := g190.fz
                                                    refine l_nil ?_
                                                    refine end0 rfl ?_
                                                    have hG : lvGas u q l = u.gas := by rw [lvGas, if_neg (by rw [hS]; exact hq5), if_neg (fun h => absurd h.2 hq0)]
                                                    have hOu : lvOut u q l = l := by rw [lvOut, if_neg (by rw [hS]; rintro (h | h); exact hq5 h; exact absurd h.2 hq0)]
                                                    have hW : lvW s u q l = u.saved := by rw [lvW, if_neg (by rw [hS]; omega)]
                                                    have hS0 : lvSt u q l ≠ 0 := by rw [hS]; omega
                                                    have hFl : lvFlag u q l = 0 := by rw [lvFlag, if_neg hS0]
                                                    have hMm : lvMem f u q l = f.mem := by rw [lvMem, hOu, if_neg hb9]
                                                    have eP : lvP f u q l = ansN { f with gas := f.gas + u.gas, mem := f.mem } 0 0 := by rw [lvP, hG, hMm, hFl]
                                                    have eS : lvS2 s u q l = { s with now := u.saved, ret := l } := by rw [lvS2, hW, hOu]
                                                    rw [eS, hW, eP]
                                                    exact ⟨rfl, _, _, _, _, G, kS, ⟨⟨sv.accts, sv.warmA, sv.warmS, zrb, sv.logs, sv.temps, sv.made, sv.gone, so.start, hl9, so.phase, so.status, so.applied, so.limit, so.txGas, so.left, so.price, so.total, so.origin, so.mad⟩, eC.mono hL0, (by simp only [size_spl, Array.size_setIfInBounds]; exact hs.size), _, _, _, _, _, _, _, _, _, _, _, _, _, _, _, _, _, _, _, _, _, _, _, _, rS, rOr, rMd, (zAc.mono hL0), (zWA.mono hL0), (zWS.mono hL0), (zRf.mono hL0), (zTm.mono hL0), (zMd.mono hL0), (zGn.mono hL0), (hSr.mono hL0), (hO.mono hL0), (hLm.mono hL0), (hTx.mono hL0), (hLf.mono hL0), (hPr.mono hL0), (hTt.mono hL0)⟩, kF, fc190, oF.trans of190, kM, by rw [if_neg hS0]; exact ⟨.inl ⟨rfl, zLg.mono hL0, _, _, rfl⟩⟩, (rS 4 _ rfl)⟩))))))))))))
                  · skip
                    
                    have := of_decide_eq_false cB4; omega)
            · skip
              have hcr : crN u.kind = false := by simpa using q10
              refine l_gskip (j := 1) (t := 31) (by exact rfl) (by exact rfl) (et g0 rfl) (by decide) (by decide) ?_
              refine l_gskip (j := 1) (t := 31) (by exact rfl) (by exact rfl) (et (gS rfl g0) rfl) (by decide) (by decide) ?_
              refine l_step (y_pickF (et (gS rfl (gS rfl g0)) rfl) rfl) ?_
              refine l_nil ?_
              refine hK9 _ _ ?_
              refine fg7 2 1 0 6 7 8 34 (gS rfl (gS rfl (gS rfl (gS rfl (gS rfl (gS rfl (gS rfl (gS rfl (gS rfl (gS rfl (gS rfl g0))))))))))) (gS rfl (gS rfl (gS rfl (gS rfl (gS rfl (gS rfl (gS rfl (gS rfl (gS rfl (gS rfl g0)))))))))) (gS rfl (gS rfl (gS rfl (gS rfl (gS rfl (gS rfl (gS rfl (gS rfl (gS rfl g0))))))))) (gS rfl (gS rfl (gS rfl (gS rfl (gS rfl (gS rfl (gS rfl (gS rfl g0)))))))) (gS rfl (gS rfl (gS rfl (gS rfl (gS rfl (gS rfl (gS rfl g0))))))) (gS rfl (gS rfl (gS rfl (gS rfl (gS rfl (gS rfl g0)))))) g0 (fun g => ?_)
              refine c_false (et g0 rfl) rfl ?_
              refine c_skip ?_
              refine hK8 _ _ ?_
              refine fg6 2 1 0 6 7 8 (gS rfl (gS rfl (gS rfl (gS rfl (gS rfl (gS rfl g0)))))) (gS rfl (gS rfl (gS rfl (gS rfl (gS rfl g0))))) (gS rfl (gS rfl (gS rfl (gS rfl g0)))) (gS rfl (gS rfl (gS rfl g0))) (gS rfl (gS rfl g0)) (gS rfl g0) (fun g => ?_)
              refine c_seq (fun K192 hK192 => ?_)
              refine c_seq (fun K193 hK193 => ?_)
              exact (by
                refine c_region ?_
                refine l_step (y_moveV (et (gS rfl (gS rfl (gS rfl (gS rfl g0)))) rfl)) ?_
                refine l_step (y_neq (et g0 rfl) rfl) ?_
                refine l_nil ?_
                refine hK193 _ _ ?_
                refine fg7 2 1 0 6 7 8 59 (gS rfl (gS rfl (gS rfl (gS rfl (gS rfl (gS rfl (gS rfl g0))))))) (gS rfl (gS rfl (gS rfl (gS rfl (gS rfl (gS rfl g0)))))) (gS rfl (gS rfl (gS rfl (gS rfl (gS rfl g0))))) (gS rfl (gS rfl (gS rfl (gS rfl g0)))) (gS rfl (gS rfl (gS rfl g0))) (gS rfl (gS rfl g0)) g0 (fun g => ?_)
                refine c_cond (et g0 rfl) (fun cB4 => ?_) (fun cB4 => ?_)
                · skip
                  
                  have hq4 : q ≠ 0 := by have := of_decide_eq_true cB4; omega
                  exact (by
                    refine c_region ?_
                    refine l_step (y_moveV (et (gS rfl (gS rfl (gS rfl (gS rfl g0)))) rfl)) ?_
                    refine l_step (y_fld fld_146_14 (et (gS rfl (gS rfl (gS rfl (gS rfl g0)))) rfl)) ?_
                    refine l_step (y_loadR agg_98 sz_98 (et g0 rfl) rfl (at1R (k3.row qSv))) ?_
                    refine l_step (y_nil (et (gS rfl (gS rfl g0)) rfl)) ?_
                    refine l_step (y_fld fld_102_0 (et g0 rfl)) ?_
                    have rl195 := RowIn.le rS (Nat.succ_pos _)
                    simp only [List.length_cons, List.length_nil, Nat.zero_add, Nat.reduceAdd] at rl195
                    refine l_effN (e_store sz_98 (et g0 rfl) (cellsV (et (gS rfl (gS rfl g0)) rfl) rfl) rfl (by intro v hv; simp only [List.mem_cons, List.not_mem_nil, or_false] at hv; rcases hv with rfl | rfl | rfl | rfl | rfl | rfl | rfl | rfl <;> rfl) kS (by omega)) (fun v195 w195 h195 => ?_)
                    obtain ⟨rfl, x195⟩ := h195
                    replace k3 := k3.ch x195.ch (by omega)
                    replace kF := kF.ch x195.ch (by omega)
                    replace kL := kL.ch x195.ch (by intro q hq hm; have := dL q hq; omega)
                    replace kM := kM.ch x195.ch (by omega)
                    replace kS := x195.blk
                    replace G := G.wr x195 (.inl (by first | rfl | (simp; done))) nbS
                    replace hF := G.fz
                    replace U := U.st x195 (.inl (by first | rfl | (simp; done)))
                    replace eC := kS.eputm eC (by first | omega | (simp only [length_bL, length_be, List.length_cons, List.length_nil]; omega)) (by first | omega | (simp only [length_bL, length_be, List.length_cons, List.length_nil]; omega))
                    replace rS : RowIn _ _ [.slice pa1 u.saved.accts.length pa2, .slice pwa1 u.saved.warmA.length pwa2, .slice pws1 u.saved.warmS.length pws2, .slice pr1 pr2 pr3, .slice pla u.saved.logs.length u.saved.logs.length, .slice pt1 u.saved.temps.length pt2, .slice pm1 u.saved.made.length pm2, .slice pg1 u.saved.gone.length pg2, .slice oa s.start.length oc, .slice (some ⟨bf, 0, none⟩) N cap, .slice ra s.ret.length rc, .int .u8 (s.phase : Nat), .int .u8 (s.status : Nat), .int .u8 (s.applied : Nat), vlim, vtx, vleft, vpr, vtot] := kS.rputm rS 0 (by first | omega | (simp only [length_bL, length_be, List.length_cons, List.length_nil]; omega)) rfl (Nat.le_of_ble_eq_true rfl)
                    replace rOr := kS.rputmo rOr (by first | omega | (simp only [length_bL, length_be, List.length_cons, List.length_nil]; omega)) (by first | omega | (simp only [length_bL, length_be, List.length_cons, List.length_nil]; omega))
                    replace rMd := kS.rputmo rMd (by first | omega | (simp only [length_bL, length_be, List.length_cons, List.length_nil]; omega)) (by first | omega | (simp only [length_bL, length_be, List.length_cons, List.length_nil]; omega))
                    refine l_nil ?_
                    refine hK192 _ _ ?_
                    refine fg6 2 1 0 6 7 8 (gS rfl (gS rfl (gS rfl (gS rfl (gS rfl (gS rfl (gS rfl (gS rfl (gS rfl (gS rfl (gS rfl g0))))))))))) (gS rfl (gS rfl (gS rfl (gS rfl (gS rfl (gS rfl (gS rfl (gS rfl (gS rfl (gS rfl g0)))))))))) (gS rfl (gS rfl (gS rfl (gS rfl (gS rfl (gS rfl (gS rfl (gS rfl (gS rfl g0))))))))) (gS rfl (gS rfl (gS rfl (gS rfl (gS rfl (gS rfl (gS rfl (gS rfl g0)))))))) (gS rfl (gS rfl (gS rfl (gS rfl (gS rfl (gS rfl (gS rfl g0))))))) (gS rfl (gS rfl (gS rfl (gS rfl (gS rfl (gS rfl g0)))))) (fun g => ?_)
                    refine c_seq (fun K196 hK196 => ?_)
                    refine c_seq (fun K197 hK197 => ?_)
                    exact (by
                      refine c_region ?_
                      refine l_step (y_moveV (et (gS rfl (gS rfl (gS rfl (gS rfl g0)))) rfl)) ?_
                      refine l_step (y_gtr (et g0 rfl) rfl) ?_
                      refine l_nil ?_
                      refine hK197 _ _ ?_
                      refine fg7 2 1 0 6 7 8 66 (gS rfl (gS rfl (gS rfl (gS rfl (gS rfl (gS rfl (gS rfl g0))))))) (gS rfl (gS rfl (gS rfl (gS rfl (gS rfl (gS rfl g0)))))) (gS rfl (gS rfl (gS rfl (gS rfl (gS rfl g0))))) (gS rfl (gS rfl (gS rfl (gS rfl g0)))) (gS rfl (gS rfl (gS rfl g0))) (gS rfl (gS rfl g0)) g0 (fun g => ?_)
                      refine c_cond (et g0 rfl) (fun cB5 => ?_) (fun cB5 => ?_)
                      · skip
                        
                        have hq5 : 1 < q := by have := of_decide_eq_true cB5; omega
                        refine c_seq (fun K199 hK199 => ?_)
                        exact (by
                          refine c_region ?_
                          refine l_step y_assignC ?_
                          refine l_nil ?_
                          refine hK199 _ _ ?_
                          refine fg5 1 0 6 7 8 (gS rfl (gS rfl (gS rfl (gS rfl (gS rfl (gS rfl g0)))))) (gS rfl (gS rfl (gS rfl (gS rfl (gS rfl g0))))) (gS rfl (gS rfl (gS rfl (gS rfl g0)))) g0 (gS rfl (gS rfl g0)) (fun g => ?_)
                          refine c_region ?_
                          refine l_step y_assignC ?_
                          refine l_nil ?_
                          refine hK196 _ _ ?_
                          refine c_seq (fun K200 hK200 => ?_)
                          exact (by
                            refine c_region ?_
                            refine l_step (y_moveV (et (gS rfl (gS rfl (gS rfl (gS rfl g0)))) rfl)) ?_
                            refine l_step (y_moveV (et (gS rfl g0) rfl)) ?_
                            refine l_step (y_nil (et (gS rfl g0) rfl)) ?_
                            refine l_step (y_fld fld_102_3 (et g0 rfl)) ?_
                            have rl201 := RowIn.le rS (Nat.succ_pos _)
                            simp only [List.length_cons, List.length_nil, Nat.zero_add, Nat.reduceAdd] at rl201
                            refine l_effN (e_store sz_38 (et g0 rfl) (cellsV (et (gS rfl (gS rfl g0)) rfl) rfl) rfl (by first | exact one_bL _ | exact one_uL _ | (intro v hv; simp at hv; subst hv; rfl)) kS (by first | exact Nat.le_trans (by omega) rl201 | exact Nat.le_of_ble_eq_true rfl | (simp; done) | (simp; omega) | omega | (simp only [size_spl, Array.size_setIfInBounds, hs.size]; exact Nat.le_of_ble_eq_true rfl))) (fun v201 w201 h201 => ?_)
                            obtain ⟨rfl, x201⟩ := h201
                            replace k3 := k3.ch x201.ch (by omega)
                            replace kF := kF.ch x201.ch (by omega)
                            replace kL := kL.ch x201.ch (by intro q hq hm; have := dL q hq; omega)
                            replace kM := kM.ch x201.ch (by omega)
                            replace kS := x201.blk
                            replace G := G.wr x201 (.inl (by first | rfl | (simp; done))) nbS
                            replace hF := G.fz
                            replace U := U.st x201 (.inl (by first | rfl | (simp; done)))
                            replace eC := kS.eput eC (by omega)
                            replace rS : RowIn _ _ [.slice pa1 u.saved.accts.length pa2, .slice pwa1 u.saved.warmA.length pwa2, .slice pws1 u.saved.warmS.length pws2, .slice pr1 pr2 pr3, .slice pla u.saved.logs.length u.saved.logs.length, .slice pt1 u.saved.temps.length pt2, .slice pm1 u.saved.made.length pm2, .slice pg1 u.saved.gone.length pg2, .slice oa s.start.length oc, .slice (some ⟨bf, 0, none⟩) N cap, _, .int .u8 (s.phase : Nat), .int .u8 (s.status : Nat), .int .u8 (s.applied : Nat), vlim, vtx, vleft, vpr, vtot] := kS.rput rS 10 rfl
                            replace rOr := kS.rputo rOr (by first | (left; omega) | (right; simp only [List.length_cons, List.length_nil, length_bL, length_be]; omega))
                            replace rMd := kS.rputo rMd (by first | (left; omega) | (right; simp only [List.length_cons, List.length_nil, length_bL, length_be]; omega))
                            refine l_nil ?_
                            refine hK200 _ _ ?_
                            refine fg6 1 0 6 7 8 2 (gS rfl (gS rfl (gS rfl (gS rfl (gS rfl (gS rfl (gS rfl (gS rfl (gS rfl g0))))))))) (gS rfl (gS rfl (gS rfl (gS rfl (gS rfl (gS rfl (gS rfl (gS rfl g0)))))))) (gS rfl (gS rfl (gS rfl (gS rfl (gS rfl (gS rfl (gS rfl g0))))))) (gS rfl (gS rfl (gS rfl (gS rfl (gS rfl (gS rfl g0)))))) (gS rfl (gS rfl (gS rfl (gS rfl (gS rfl g0))))) (gS rfl (gS rfl (gS rfl (gS rfl g0)))) (fun g => ?_)
                            refine c_seq (fun K202 hK202 => ?_)
                            exact (by
                              refine c_draw Up 20 [(0, true), (1, true), (2, true), (3, true), (4, true), (5, true), (6, true), (7, true), (8, true), (9, true), (10, true), (11, true), (12, true), (13, true), (14, true), (15, true), (16, true), (17, true), (18, true), (19, true), (20, false)] (by kernel_rfl) (fun w203 hu => ⟨Up.refl _, ?_⟩)
                              replace G := G.tr (Go.ofUp hF hu)
                              replace hF := hF.up hu
                              replace k3 := k3.up hu
                              replace kS := kS.up hu
                              replace kF := kF.up hu
                              replace kL := kL.up hu
                              replace kM := kM.up hu
                              replace U := U.tr hu
                              have SU := Up.refl w203
                              refine p_step (by exact rfl) (y_moveV (et (gS rfl (gS rfl (gS rfl (gS rfl g0)))) rfl)) ?_
                              refine p_step (by exact rfl) (y_moveV (et (gS rfl (gS rfl (gS rfl (gS rfl (gS rfl g0))))) rfl)) ?_
                              refine p_step (by exact rfl) (y_nil (et g0 rfl)) ?_
                              refine p_step (by exact rfl) (y_fld fld_102_2 (et g0 rfl)) ?_
                              refine p_step (by exact rfl) (y_load1 one_100 (et g0 rfl) (atS (kS.cell (rS 9 _ rfl)))) ?_
                              refine p_step (by exact rfl) (y_moveV (et (gS rfl (gS rfl (gS rfl (gS rfl (gS rfl (gS rfl (gS rfl (gS rfl (gS rfl g0))))))))) rfl)) ?_
                              refine p_step (by exact rfl) (y_nil (et g0 rfl)) ?_
                              refine p_step (by exact rfl) (y_fld fld_102_2 (et g0 rfl)) ?_
                              refine p_step (by exact rfl) (y_load1 one_100 (et g0 rfl) (atS (kS.cell (rS 9 _ rfl)))) ?_
                              refine p_step (by exact rfl) (y_len Hvaa.underlying100 (et g0 rfl)) ?_
                              refine p_step (by exact rfl) (y_sub (et g0 rfl) rfl (subIN (y := 1) ?_ ?_)) ?_
                              omega
                              omega
                              refine p_step (by exact rfl) (y_moveV (et (gS rfl (gS rfl (gS rfl (gS rfl (gS rfl (gS rfl (gS rfl (gS rfl (gS rfl (gS rfl (gS rfl (gS rfl (gS rfl (gS rfl (gS rfl g0))))))))))))))) rfl)) ?_
                              refine p_step (by exact rfl) (y_nil (et g0 rfl)) ?_
                              refine p_step (by exact rfl) (y_fld fld_102_2 (et g0 rfl)) ?_
                              refine p_step (by exact rfl) (y_load1 one_100 (et g0 rfl) (atS (kS.cell (rS 9 _ rfl)))) ?_
                              refine p_step (by exact rfl) (y_len Hvaa.underlying100 (et g0 rfl)) ?_
                              refine p_step (by exact rfl) (y_sub (et g0 rfl) rfl (subIN (y := 1) ?_ ?_)) ?_
                              omega
                              omega
                              exact (by
                                refine p_step (by exact rfl) (y_slS011n Hvaa.underlying100 sz_146 (et (gS rfl (gS rfl (gS rfl (gS rfl (gS rfl (gS rfl (gS rfl (gS rfl (gS rfl (gS rfl (gS rfl (gS rfl g0)))))))))))) rfl) (et (gS rfl (gS rfl (gS rfl (gS rfl (gS rfl (gS rfl g0)))))) rfl) (et g0 rfl) ?_ ?_) ?_
                                omega
                                omega
                                refine p_step (by exact rfl) (y_nil (et (gS rfl (gS rfl (gS rfl (gS rfl (gS rfl (gS rfl (gS rfl (gS rfl (gS rfl (gS rfl (gS rfl (gS rfl (gS rfl (gS rfl (gS rfl (gS rfl (gS rfl g0))))))))))))))))) rfl)) ?_
                                refine p_step (by exact rfl) (y_fld fld_102_2 (et g0 rfl)) ?_
                                have rl204 := RowIn.le rS (Nat.succ_pos _)
                                simp only [List.length_cons, List.length_nil, Nat.zero_add, Nat.reduceAdd] at rl204
                                refine p_effN (by exact rfl) (e_store sz_100 (et g0 rfl) (cellsV (et (gS rfl (gS rfl g0)) rfl) rfl) rfl (by first | exact one_bL _ | exact one_uL _ | (intro v hv; simp at hv; subst hv; rfl)) kS (by first | exact Nat.le_trans (by omega) rl204 | exact Nat.le_of_ble_eq_true rfl | (simp; done) | (simp; omega) | omega | (simp only [size_spl, Array.size_setIfInBounds, hs.size]; exact Nat.le_of_ble_eq_true rfl))) (fun v204 w204 h204 => ?_)
                                obtain ⟨rfl, x204⟩ := h204
                                replace k3 := k3.ch x204.ch (by omega)
                                replace kF := kF.ch x204.ch (by omega)
                                replace kL := kL.ch x204.ch (by intro q hq hm; have := dL q hq; omega)
                                replace kM := kM.ch x204.ch (by omega)
                                replace kS := x204.blk
                                replace G := G.wr x204 (.inl (by first | rfl | (simp; done))) nbS
                                replace hF := G.fz
                                replace U := U.st x204 (.inl (by first | rfl | (simp; done)))
                                replace eC := kS.eput eC (by omega)
                                replace rS : RowIn _ _ [.slice pa1 u.saved.accts.length pa2, .slice pwa1 u.saved.warmA.length pwa2, .slice pws1 u.saved.warmS.length pws2, .slice pr1 pr2 pr3, .slice pla u.saved.logs.length u.saved.logs.length, .slice pt1 u.saved.temps.length pt2, .slice pm1 u.saved.made.length pm2, .slice pg1 u.saved.gone.length pg2, .slice oa s.start.length oc, .slice (some ⟨bf, 0, none⟩) (N - 1) (N - 1), _, .int .u8 (s.phase : Nat), .int .u8 (s.status : Nat), .int .u8 (s.applied : Nat), vlim, vtx, vleft, vpr, vtot] := kS.rput rS 9 rfl
                                replace rOr := kS.rputo rOr (by first | (left; omega) | (right; simp only [List.length_cons, List.length_nil, length_bL, length_be]; omega))
                                replace rMd := kS.rputo rMd (by first | (left; omega) | (right; simp only [List.length_cons, List.length_nil, length_bL, length_be]; omega))
                                refine ⟨.inl rfl, ?_⟩
                                refine p_nil ?_
                                refine hK202 _ _ ?_
                                refine fg6 1 0 6 7 8 2 (gS rfl (gS rfl (gS rfl (gS rfl (gS rfl (gS rfl (gS rfl (gS rfl (gS rfl (gS rfl (gS rfl (gS rfl (gS rfl (gS rfl (gS rfl (gS rfl (gS rfl (gS rfl (gS rfl (gS rfl (gS rfl (gS rfl (gS rfl (gS rfl (gS rfl g0))))))))))))))))))))))))) (gS rfl (gS rfl (gS rfl (gS rfl (gS rfl (gS rfl (gS rfl (gS rfl (gS rfl (gS rfl (gS rfl (gS rfl (gS rfl (gS rfl (gS rfl (gS rfl (gS rfl (gS rfl (gS rfl (gS rfl (gS rfl (gS rfl (gS rfl (gS rfl g0)))))))))))))))))))))))) (gS rfl (gS rfl (gS rfl (gS rfl (gS rfl (gS rfl (gS rfl (gS rfl (gS rfl (gS rfl (gS rfl (gS rfl (gS rfl (gS rfl (gS rfl (gS rfl (gS rfl (gS rfl (gS rfl (gS rfl (gS rfl (gS rfl (gS rfl g0))))))))))))))))))))))) (gS rfl (gS rfl (gS rfl (gS rfl (gS rfl (gS rfl (gS rfl (gS rfl (gS rfl (gS rfl (gS rfl (gS rfl (gS rfl (gS rfl (gS rfl (gS rfl (gS rfl (gS rfl (gS rfl (gS rfl (gS rfl (gS rfl g0)))))))))))))))))))))) (gS rfl (gS rfl (gS rfl (gS rfl (gS rfl (gS rfl (gS rfl (gS rfl (gS rfl (gS rfl (gS rfl (gS rfl (gS rfl (gS rfl (gS rfl (gS rfl (gS rfl (gS rfl (gS rfl (gS rfl (gS rfl g0))))))))))))))))))))) (gS rfl (gS rfl (gS rfl (gS rfl (gS rfl (gS rfl (gS rfl (gS rfl (gS rfl (gS rfl (gS rfl (gS rfl (gS rfl (gS rfl (gS rfl (gS rfl (gS rfl (gS rfl (gS rfl (gS rfl g0)))))))))))))))))))) (fun g => ?_)
                                refine c_seq (fun K205 hK205 => ?_)
                                refine c_seq (fun K206 hK206 => ?_)
                                exact (by
                                  refine c_region ?_
                                  refine l_step (y_moveV (et (gS rfl (gS rfl (gS rfl (gS rfl g0)))) rfl)) ?_
                                  refine l_step (y_nil (et g0 rfl)) ?_
                                  refine l_step (y_fld fld_102_2 (et g0 rfl)) ?_
                                  refine l_step (y_load1 one_100 (et g0 rfl) (at1 (kS.cell (rS 9 _ rfl)))) ?_
                                  refine l_step (y_len Hvaa.underlying100 (et g0 rfl)) ?_
                                  refine l_step (y_eql (et g0 rfl) rfl) ?_
                                  refine l_nil ?_
                                  refine hK206 _ _ ?_
                                  refine fg7 1 0 6 7 8 2 96 (gS rfl (gS rfl (gS rfl (gS rfl (gS rfl (gS rfl (gS rfl (gS rfl (gS rfl (gS rfl (gS rfl g0))))))))))) (gS rfl (gS rfl (gS rfl (gS rfl (gS rfl (gS rfl (gS rfl (gS rfl (gS rfl (gS rfl g0)))))))))) (gS rfl (gS rfl (gS rfl (gS rfl (gS rfl (gS rfl (gS rfl (gS rfl (gS rfl g0))))))))) (gS rfl (gS rfl (gS rfl (gS rfl (gS rfl (gS rfl (gS rfl (gS rfl g0)))))))) (gS rfl (gS rfl (gS rfl (gS rfl (gS rfl (gS rfl (gS rfl g0))))))) (gS rfl (gS rfl (gS rfl (gS rfl (gS rfl (gS rfl g0)))))) g0 (fun g => ?_)
                                  refine c_cond (et g0 rfl) (fun cB6 => ?_) (fun cB6 => ?_)
                                  · skip
                                    
                                    have := of_decide_eq_true cB6; omega
                                  · skip
                                    
                                    refine c_skip ?_
                                    refine hK205 _ _ ?_
                                    refine fg6 1 0 6 7 8 2 (gS rfl (gS rfl (gS rfl (gS rfl (gS rfl (gS rfl g0)))))) (gS rfl (gS rfl (gS rfl (gS rfl (gS rfl g0))))) (gS rfl (gS rfl (gS rfl (gS rfl g0)))) (gS rfl (gS rfl (gS rfl g0))) (gS rfl (gS rfl g0)) (gS rfl g0) (fun g => ?_)
                                    refine c_seq (fun K208 hK208 => ?_)
                                    exact (by
                                      refine c_draw Up 12 [(0, true), (1, true), (2, true), (3, true), (4, true), (5, true), (6, true), (7, true), (8, true), (9, true), (10, true), (11, true)] (by kernel_rfl) (fun w209 hu => ⟨Up.refl _, ?_⟩)
                                      replace G := G.tr (Go.ofUp hF hu)
                                      replace hF := hF.up hu
                                      replace k3 := k3.up hu
                                      replace kS := kS.up hu
                                      replace kF := kF.up hu
                                      replace kL := kL.up hu
                                      replace kM := kM.up hu
                                      replace U := U.tr hu
                                      have SU := Up.refl w209
                                      refine p_step (by exact rfl) (y_moveV (et (gS rfl (gS rfl (gS rfl (gS rfl g0)))) rfl)) ?_
                                      refine p_step (by exact rfl) (y_nil (et g0 rfl)) ?_
                                      refine p_step (by exact rfl) (y_fld fld_102_2 (et g0 rfl)) ?_
                                      refine p_step (by exact rfl) (y_load1 one_100 (et g0 rfl) (atS (kS.cell (rS 9 _ rfl)))) ?_
                                      refine p_step (by exact rfl) (y_moveV (et (gS rfl (gS rfl (gS rfl (gS rfl (gS rfl (gS rfl (gS rfl (gS rfl g0)))))))) rfl)) ?_
                                      refine p_step (by exact rfl) (y_nil (et g0 rfl)) ?_
                                      refine p_step (by exact rfl) (y_fld fld_102_2 (et g0 rfl)) ?_
                                      refine p_step (by exact rfl) (y_load1 one_100 (et g0 rfl) (atS (kS.cell (rS 9 _ rfl)))) ?_
                                      refine p_step (by exact rfl) (y_len Hvaa.underlying100 (et g0 rfl)) ?_
                                      refine p_step (by exact rfl) (y_sub (et g0 rfl) rfl (subIN (y := 1) ?_ ?_)) ?_
                                      omega
                                      omega
                                      refine p_step (by exact rfl) (y_idxSa rfl Hvaa.underlying100 sz_146 (et (gS rfl (gS rfl (gS rfl (gS rfl (gS rfl (gS rfl g0)))))) rfl) (et g0 rfl) ?_) ?_
                                      omega
                                      refine p_step (by exact rfl) (y_assignV (et g0 rfl)) ?_
                                      refine p_nil ?_
                                      refine hK208 _ _ ?_
                                      refine fg6 1 6 7 8 2 10 (gS rfl (gS rfl (gS rfl (gS rfl (gS rfl (gS rfl (gS rfl (gS rfl (gS rfl (gS rfl (gS rfl (gS rfl (gS rfl (gS rfl (gS rfl (gS rfl (gS rfl g0))))))))))))))))) (gS rfl (gS rfl (gS rfl (gS rfl (gS rfl (gS rfl (gS rfl (gS rfl (gS rfl (gS rfl (gS rfl (gS rfl (gS rfl (gS rfl (gS rfl g0))))))))))))))) (gS rfl (gS rfl (gS rfl (gS rfl (gS rfl (gS rfl (gS rfl (gS rfl (gS rfl (gS rfl (gS rfl (gS rfl (gS rfl (gS rfl g0)))))))))))))) (gS rfl (gS rfl (gS rfl (gS rfl (gS rfl (gS rfl (gS rfl (gS rfl (gS rfl (gS rfl (gS rfl (gS rfl (gS rfl g0))))))))))))) (gS rfl (gS rfl (gS rfl (gS rfl (gS rfl (gS rfl (gS rfl (gS rfl (gS rfl (gS rfl (gS rfl (gS rfl g0)))))))))))) g0 (fun g => ?_)
                                      refine c_seq (fun K210 hK210 => ?_)
                                      exact (by
                                        refine c_region ?_
                                        refine l_step (y_moveV (et g0 rfl)) ?_
                                        refine l_step (y_moveV (et (gS rfl g0) rfl)) ?_
                                        refine l_step (y_nil (et g0 rfl)) ?_
                                        refine l_step (y_fld fld_146_4 (et g0 rfl)) ?_
                                        refine l_step (y_load1 one_95 (et g0 rfl) (at1 (kF.cell (rF 4 _ rfl)))) ?_
                                        refine l_step (y_moveV (et (gS rfl (gS rfl (gS rfl (gS rfl (gS rfl (gS rfl (gS rfl (gS rfl g0)))))))) rfl)) ?_
                                        refine l_eff (e_callV cal_34 (aC (et (gS rfl g0) rfl) (aC (et g0 rfl) aN)) (nat_add hF (hGa.mono hL0) (NV.nil _) (bd_sm (bd_lt2 (b := 256 ^ 4) fo.gas (by decide)) (by decide)) (bd_sm bd_zero (by decide)))) (fun v211 w211 h211 => ?_)
                                        obtain ⟨H211, g211, n211⟩ := h211
                                        have hlew211 := g211.le
                                        replace nb3 := g211.nb nb3 k3.lt
                                        replace nbS := g211.nb nbS kS.lt
                                        replace nbF := g211.nb nbF kF.lt
                                        replace nbM := g211.nb nbM (Nat.lt_of_lt_of_le lM U.size)
                                        replace hL0 := hL0.trans hlew211
                                        replace k3 := k3.up g211.up
                                        replace kS := kS.up g211.up
                                        replace kF := kF.up g211.up
                                        replace kL := kL.up g211.up
                                        replace kM := kM.up g211.up
                                        replace U := U.tr g211.up
                                        replace G := G.tr g211
                                        replace hF := g211.fz
                                        have q211 := bd_add (c := 5) (bd_lt2 (b := 256 ^ 4) fo.gas (by decide)) bd_zero (by decide)
                                        refine l_step (y_nil (et (gS rfl (gS rfl (gS rfl (gS rfl (gS rfl (gS rfl g0)))))) rfl)) ?_
                                        refine l_step (y_fld fld_146_4 (et g0 rfl)) ?_
                                        obtain ⟨sa212, sn212, sc212, rfl⟩ := n211.sl
                                        have rl212 := RowIn.le rF (Nat.succ_pos _)
                                        simp only [List.length_cons, List.length_nil, Nat.zero_add, Nat.reduceAdd] at rl212
                                        refine l_effN (e_store sz_95 (et g0 rfl) (cellsV (et (gS rfl (gS rfl g0)) rfl) rfl) rfl (by first | exact one_bL _ | exact one_uL _ | (intro v hv; simp at hv; subst hv; rfl)) kF (by first | exact Nat.le_trans (by omega) rl212 | exact Nat.le_of_ble_eq_true rfl | (simp; done) | (simp; omega) | omega | (simp only [size_spl, Array.size_setIfInBounds, hs.size]; exact Nat.le_of_ble_eq_true rfl))) (fun v212 w212 h212 => ?_)
                                        obtain ⟨rfl, x212⟩ := h212
                                        replace k3 := k3.ch x212.ch (by omega)
                                        replace kS := kS.ch x212.ch (by omega)
                                        replace kL := kL.ch x212.ch (by intro q hq hm; have := dL q hq; omega)
                                        replace kM := kM.ch x212.ch (by omega)
                                        replace kF := x212.blk
                                        replace G := G.wr x212 (.inl (by first | rfl | (simp; done))) nbF
                                        replace hF := G.fz
                                        replace U := U.st x212 (.inl (by first | rfl | (simp; done)))
                                        replace oF := kF.oput oF (by omega) (by omega)
                                        replace rF : RowIn _ _ [.int .u8 (f.kind : Nat), .int .u8 (f.ntv : Nat), .bool f.static, vpc, _, vval, voo, vol, .slice ka f.stack.length kc, vm, .slice ca f.code.length cc, .slice ia f.input.length ic] := kF.rput rF 4 rfl
                                        replace rSe := kF.rputo rSe (by first | (left; omega) | (right; simp only [List.length_cons, List.length_nil, length_bL, length_be, hSv.len]; omega))
                                        replace rCa := kF.rputo rCa (by first | (left; omega) | (right; simp only [List.length_cons, List.length_nil, length_bL, length_be, hSv.len]; omega))
                                        replace rSv := kF.rputo rSv (by first | (left; omega) | (right; simp only [List.length_cons, List.length_nil, length_bL, length_be, hSv.len]; omega))
                                        have hS : lvSt u q l = q := by rw [lvSt, if_neg (fun h => by rw [hcr] at h; exact Bool.false_ne_true h.1)]
                                        have hG : lvGas u q l = 0 := by rw [lvGas, if_pos (by rw [hS]; have := hds.out; omega)]
                                        have hOu : lvOut u q l = [] := by rw [lvOut, if_pos (.inl (by rw [hS]; have := hds.out; omega))]
                                        have hW : lvW s u q l = u.saved := by rw [lvW, if_neg (by rw [hS]; omega)]
                                        have hS0 : lvSt u q l ≠ 0 := by rw [hS]; omega
                                        have hgs := lp.gas
                                        rw [hG] at hgs
                                        have hfP : FC H211 _ _ { f with gas := f.gas + 0 } vm := ⟨⟨fo.kind, fo.ntv, fo.pc, hgs, fo.value, fo.outOff, fo.outLen, fo.self, fo.caller, fo.stack, fo.code, fo.input, fo.mem⟩, _, _, _, _, _, _, _, _, _, _, _, _, rF, rSe, rCa, rSv, hSv.mono hL0, (hPc.mono hL0), n211, (hVa.mono hL0), (hOf.mono hL0), (hOl.mono hL0), (hSt.mono hL0), (hCo.mono hL0), (hIn.mono hL0)⟩
                                        refine l_nil ?_
                                        refine hK210 _ _ ?_
                                        refine fg5 1 6 8 2 10 (gS rfl (gS rfl (gS rfl (gS rfl (gS rfl (gS rfl (gS rfl (gS rfl (gS rfl (gS rfl (gS rfl (gS rfl (gS rfl (gS rfl g0)))))))))))))) (gS rfl (gS rfl (gS rfl (gS rfl (gS rfl (gS rfl (gS rfl (gS rfl (gS rfl (gS rfl (gS rfl (gS rfl (gS rfl g0))))))))))))) (gS rfl (gS rfl (gS rfl (gS rfl (gS rfl (gS rfl (gS rfl (gS rfl (gS rfl (gS rfl (gS rfl g0))))))))))) (gS rfl (gS rfl (gS rfl (gS rfl (gS rfl (gS rfl (gS rfl (gS rfl (gS rfl (gS rfl g0)))))))))) (gS rfl (gS rfl (gS rfl (gS rfl (gS rfl (gS rfl (gS rfl (gS rfl (gS rfl g0))))))))) (fun g => ?_)
                                        refine c_seq (fun K213 hK213 => ?_)
                                        exact (by
                                          refine c_region ?_
                                          refine l_step y_assignC ?_
                                          refine l_nil ?_
                                          refine hK213 _ _ ?_
                                          refine c_seq (fun K214 hK214 => ?_)
                                          refine c_seq (fun K215 hK215 => ?_)
                                          exact (by
                                            refine c_region ?_
                                            refine l_step (y_moveV (et (gS rfl (gS rfl (gS rfl (gS rfl (gS rfl g0))))) rfl)) ?_
                                            refine l_step (y_eql (et g0 rfl) rfl) ?_
                                            refine l_nil ?_
                                            refine hK215 _ _ ?_
                                            refine fg6 6 8 2 10 11 132 (gS rfl (gS rfl (gS rfl (gS rfl (gS rfl (gS rfl g0)))))) (gS rfl (gS rfl (gS rfl (gS rfl (gS rfl g0))))) (gS rfl (gS rfl (gS rfl (gS rfl g0)))) (gS rfl (gS rfl (gS rfl g0))) (gS rfl (gS rfl g0)) g0 (fun g => ?_)
                                            refine c_cond (et g0 rfl) (fun cB7 => ?_) (fun cB7 => ?_)
                                            · skip
                                              
                                              have := of_decide_eq_true cB7; omega
                                            · skip
                                              
                                              refine c_skip ?_
                                              refine hK214 _ _ ?_
                                              refine fg3 2 10 11 (gS rfl (gS rfl (gS rfl g0))) (gS rfl (gS rfl g0)) (gS rfl g0) (fun g => ?_)
                                              refine c_seq (fun K217 hK217 => ?_)
                                              refine c_seq (fun K218 hK218 => ?_)
                                              exact (by
                                                refine c_region ?_
                                                refine l_step (y_moveV (et (gS rfl g0) rfl)) ?_
                                                refine l_step (y_nil (et g0 rfl)) ?_
                                                refine l_step (y_fld fld_146_7 (et g0 rfl)) ?_
                                                refine l_step (y_load1 one_95 (et g0 rfl) (at1 (kF.cell (rF 7 _ rfl)))) ?_
                                                refine l_eff (e_callV cal_24 (aC (et g0 rfl) aN) (yp_small hF (hOl.mono hL0) (bd_sm (bd_W fo.outLen) (by decide)))) (fun v219 w219 h219 => ?_)
                                                obtain ⟨rfl, u219⟩ := h219
                                                replace G := G.tr (Go.ofUp hF u219)
                                                replace hF := hF.up u219
                                                replace k3 := k3.up u219
                                                replace kS := kS.up u219
                                                replace kF := kF.up u219
                                                replace kL := kL.up u219
                                                replace kM := kM.up u219
                                                replace U := U.tr u219
                                                rw [lo_small lp.outl]
                                                refine l_step (y_moveV (et (gS rfl (gS rfl (gS rfl (gS rfl (gS rfl (gS rfl (gS rfl g0))))))) rfl)) ?_
                                                refine l_step (y_len Hvaa.underlying38 (et g0 rfl)) ?_
                                                refine l_step (y_conv Hvaa.underlying3 Hvaa.underlying26 (et g0 rfl) (wrapU_id uk64 ?_)) ?_
                                                (omega)
                                                refine l_step (y_minN (et (gS rfl (gS rfl (gS rfl g0))) rfl) (et g0 rfl)) ?_
                                                refine l_step (y_assignV (et g0 rfl)) ?_
                                                refine l_nil ?_
                                                refine hK218 _ _ ?_
                                                refine fg4 2 10 11 12 (gS rfl (gS rfl (gS rfl (gS rfl (gS rfl (gS rfl (gS rfl (gS rfl (gS rfl (gS rfl (gS rfl (gS rfl g0)))))))))))) (gS rfl (gS rfl (gS rfl (gS rfl (gS rfl (gS rfl (gS rfl (gS rfl (gS rfl (gS rfl (gS rfl g0))))))))))) (gS rfl (gS rfl (gS rfl (gS rfl (gS rfl (gS rfl (gS rfl (gS rfl (gS rfl (gS rfl g0)))))))))) g0 (fun g => ?_)
                                                refine c_seq (fun K220 hK220 => ?_)
                                                exact (by
                                                  refine c_region ?_
                                                  refine l_step (y_moveV (et g0 rfl)) ?_
                                                  refine l_step (y_gtr (et g0 rfl) rfl) ?_
                                                  refine l_nil ?_
                                                  refine hK220 _ _ ?_
                                                  refine fg5 2 10 11 12 148 (gS rfl (gS rfl (gS rfl (gS rfl (gS rfl g0))))) (gS rfl (gS rfl (gS rfl (gS rfl g0)))) (gS rfl (gS rfl (gS rfl g0))) (gS rfl (gS rfl g0)) g0 (fun g => ?_)
                                                  refine c_cond (et g0 rfl) (fun cB9 => ?_) (fun cB9 => ?_)
                                                  · skip
                                                    
                                                    have := of_decide_eq_true cB9; simp at this
                                                  · skip
                                                    
                                                    have hb9 : ¬ 0 < min f.outLen ([] : List Nat).length := by simp
                                                    refine c_skip ?_
                                                    refine hK217 _ _ ?_
                                                    refine fg2 10 11 (gS rfl (gS rfl (gS rfl g0))) (gS rfl (gS rfl g0)) (fun g => ?_)
                                                    exact (by
                                                      refine c_region ?_
                                                      refine l_step (y_moveV (et (gS rfl g0) rfl)) ?_
                                                      refine l_step (y_moveV (et (gS rfl g0) rfl)) ?_
                                                      refine l_eff (e_callV cal_143 (aC (et (gS rfl g0) rfl) (aC (v := .int .i64 ((0 : Nat) : Int)) rfl (aC (et g0 rfl) aN))) (yp_answer hF _ _ _ _ _ kF hfP nbF 0 (Nat.zero_le _) lp.stk lp.pc (NV.nil _) (W_bd (bd_up bd_zero (by decide))))) (fun v222 w222 h222 => ?_)
                                                      obtain ⟨rfl, fs222, H222, g222, kf222, fc222, of222⟩ := h222
                                                      have hlew222 := g222.le
                                                      replace nb3 := g222.nb nb3 k3.lt
                                                      replace nbS := g222.nb nbS kS.lt
                                                      replace nbF := g222.nb nbF kF.lt
                                                      replace nbM := g222.nb nbM (Nat.lt_of_lt_of_le lM U.size)
                                                      replace n211 := n211.mono hlew222
                                                      replace hfP := hfP.mono hlew222
                                                      replace hL0 := hL0.trans hlew222
                                                      replace k3 := k3.ch g222.ch (by omega)
                                                      replace kS := kS.ch g222.ch (by omega)
                                                      replace kL := kL.ch g222.ch (by intro q hq hm; have := dL q hq; omega)
                                                      replace kM := kM.ch g222.ch (by omega)
                                                      replace kF := kf222
                                                      replace U := U.cc g222.ch (by intro b hb; first | omega | exact .inl hb | exact .inr (hb ▸ U))
                                                      replace G := G.trans g222 (by intro b hb; first | omega | exact .inl hb | (simp at hb ⊢; omega))
                                                      replace hF := g222.fz
                                                      refine l_nil ?_
                                                      refine end0 rfl ?_
                                                      have hS : lvSt u q l = q := by rw [lvSt, if_neg (fun h => by rw [hcr] at h; exact Bool.false_ne_true h.1)]
                                                      have hG : lvGas u q l = 0 := by rw [lvGas, if_pos (by rw [hS]; have := hds.out; omega)]
                                                      have hOu : lvOut u q l = [] := by rw [lvOut, if_pos (.inl (by rw [hS]; have := hds.out; omega))]
                                                      have hW : lvW s u q l = u.saved := by rw [lvW, if_neg (by rw [hS]; omega)]
                                                      have hS0 : lvSt u q l ≠ 0 := by rw [hS]; omega
                                                      have hFl : lvFlag u q l = 0 := by rw [lvFlag, if_neg hS0]
                                                      have hMm : lvMem f u q l = f.mem := by rw [lvMem, hOu, if_neg hb9]
                                                      have eP : lvP f u q l = ansN { f with gas := f.gas + 0, mem := f.mem } 0 0 := by rw [lvP, hG, hMm, hFl]
                                                      have eS : lvS2 s u q l = { s with now := u.saved, ret := [] } := by rw [lvS2, hW, hOu]
                                                      rw [eS, hW, eP]
                                                      exact ⟨rfl, _, _, _, _, G, kS, ⟨⟨sv.accts, sv.warmA, sv.warmS, zrb, sv.logs, sv.temps, sv.made, sv.gone, so.start, (show 0 < 16777216 by decide), so.phase, so.status, so.applied, so.limit, so.txGas, so.left, so.price, so.total, so.origin, so.mad⟩, eC.mono hL0, (by simp only [size_spl, Array.size_setIfInBounds]; exact hs.size), _, _, _, _, _, _, _, _, _, _, _, _, _, _, _, _, _, _, _, _, _, _, _, _, rS, rOr, rMd, (zAc.mono hL0), (zWA.mono hL0), (zWS.mono hL0), (zRf.mono hL0), (zTm.mono hL0), (zMd.mono hL0), (zGn.mono hL0), (hSr.mono hL0), (BV.nil _), (hLm.mono hL0), (hTx.mono hL0), (hLf.mono hL0), (hPr.mono hL0), (hTt.mono hL0)⟩, kF, fc222, oF.trans of222, kM, by rw [if_neg hS0]; exact ⟨.inl ⟨rfl, zLg.mono hL0, _, _, rfl⟩⟩, (rS 4 _ rfl)⟩))))))))))))
                      · skip
                        
                        have hq5 : ¬ 1 < q := by have := of_decide_eq_false cB5; omega
                        refine c_skip ?_
                        refine hK196 _ _ ?_
                        refine fg6 2 1 0 6 7 8 (gS rfl (gS rfl (gS rfl (gS rfl (gS rfl (gS rfl g0)))))) (gS rfl (gS rfl (gS rfl (gS rfl (gS rfl g0))))) (gS rfl (gS rfl (gS rfl (gS rfl g0)))) (gS rfl (gS rfl (gS rfl g0))) (gS rfl (gS rfl g0)) (gS rfl g0) (fun g => ?_)
                        refine c_seq (fun K223 hK223 => ?_)
                        exact (by
                          refine c_region ?_
                          refine l_step (y_moveV (et (gS rfl (gS rfl (gS rfl g0))) rfl)) ?_
                          refine l_step (y_moveV (et (gS rfl (gS rfl (gS rfl (gS rfl (gS rfl (gS rfl g0)))))) rfl)) ?_
                          refine l_step (y_nil (et (gS rfl g0) rfl)) ?_
                          refine l_step (y_fld fld_102_3 (et g0 rfl)) ?_
                          have rl224 := RowIn.le rS (Nat.succ_pos _)
                          simp only [List.length_cons, List.length_nil, Nat.zero_add, Nat.reduceAdd] at rl224
                          refine l_effN (e_store sz_38 (et g0 rfl) (cellsV (et (gS rfl (gS rfl g0)) rfl) rfl) rfl (by first | exact one_bL _ | exact one_uL _ | (intro v hv; simp at hv; subst hv; rfl)) kS (by first | exact Nat.le_trans (by omega) rl224 | exact Nat.le_of_ble_eq_true rfl | (simp; done) | (simp; omega) | omega | (simp only [size_spl, Array.size_setIfInBounds, hs.size]; exact Nat.le_of_ble_eq_true rfl))) (fun v224 w224 h224 => ?_)
                          obtain ⟨rfl, x224⟩ := h224
                          replace k3 := k3.ch x224.ch (by omega)
                          replace kF := kF.ch x224.ch (by omega)
                          replace kL := kL.ch x224.ch (by intro q hq hm; have := dL q hq; omega)
                          replace kM := kM.ch x224.ch (by omega)
                          replace kS := x224.blk
                          replace G := G.wr x224 (.inl (by first | rfl | (simp; done))) nbS
                          replace hF := G.fz
                          replace U := U.st x224 (.inl (by first | rfl | (simp; done)))
                          replace eC := kS.eput eC (by omega)
                          replace rS : RowIn _ _ [.slice pa1 u.saved.accts.length pa2, .slice pwa1 u.saved.warmA.length pwa2, .slice pws1 u.saved.warmS.length pws2, .slice pr1 pr2 pr3, .slice pla u.saved.logs.length u.saved.logs.length, .slice pt1 u.saved.temps.length pt2, .slice pm1 u.saved.made.length pm2, .slice pg1 u.saved.gone.length pg2, .slice oa s.start.length oc, .slice (some ⟨bf, 0, none⟩) N cap, _, .int .u8 (s.phase : Nat), .int .u8 (s.status : Nat), .int .u8 (s.applied : Nat), vlim, vtx, vleft, vpr, vtot] := kS.rput rS 10 rfl
                          replace rOr := kS.rputo rOr (by first | (left; omega) | (right; simp only [List.length_cons, List.length_nil, length_bL, length_be]; omega))
                          replace rMd := kS.rputo rMd (by first | (left; omega) | (right; simp only [List.length_cons, List.length_nil, length_bL, length_be]; omega))
                          refine l_nil ?_
                          refine hK223 _ _ ?_
                          refine fg6 2 1 0 6 7 8 (gS rfl (gS rfl (gS rfl (gS rfl (gS rfl (gS rfl (gS rfl (gS rfl (gS rfl g0))))))))) (gS rfl (gS rfl (gS rfl (gS rfl (gS rfl (gS rfl (gS rfl (gS rfl g0)))))))) (gS rfl (gS rfl (gS rfl (gS rfl (gS rfl (gS rfl (gS rfl g0))))))) (gS rfl (gS rfl (gS rfl (gS rfl (gS rfl (gS rfl g0)))))) (gS rfl (gS rfl (gS rfl (gS rfl (gS rfl g0))))) (gS rfl (gS rfl (gS rfl (gS rfl g0)))) (fun g => ?_)
                          refine c_seq (fun K225 hK225 => ?_)
                          exact (by
                            refine c_draw Up 20 [(0, true), (1, true), (2, true), (3, true), (4, true), (5, true), (6, true), (7, true), (8, true), (9, true), (10, true), (11, true), (12, true), (13, true), (14, true), (15, true), (16, true), (17, true), (18, true), (19, true), (20, false)] (by kernel_rfl) (fun w226 hu => ⟨Up.refl _, ?_⟩)
                            replace G := G.tr (Go.ofUp hF hu)
                            replace hF := hF.up hu
                            replace k3 := k3.up hu
                            replace kS := kS.up hu
                            replace kF := kF.up hu
                            replace kL := kL.up hu
                            replace kM := kM.up hu
                            replace U := U.tr hu
                            have SU := Up.refl w226
                            refine p_step (by exact rfl) (y_moveV (et (gS rfl (gS rfl (gS rfl g0))) rfl)) ?_
                            refine p_step (by exact rfl) (y_moveV (et (gS rfl (gS rfl (gS rfl (gS rfl g0)))) rfl)) ?_
                            refine p_step (by exact rfl) (y_nil (et g0 rfl)) ?_
                            refine p_step (by exact rfl) (y_fld fld_102_2 (et g0 rfl)) ?_
                            refine p_step (by exact rfl) (y_load1 one_100 (et g0 rfl) (atS (kS.cell (rS 9 _ rfl)))) ?_
                            refine p_step (by exact rfl) (y_moveV (et (gS rfl (gS rfl (gS rfl (gS rfl (gS rfl (gS rfl (gS rfl (gS rfl g0)))))))) rfl)) ?_
                            refine p_step (by exact rfl) (y_nil (et g0 rfl)) ?_
                            refine p_step (by exact rfl) (y_fld fld_102_2 (et g0 rfl)) ?_
                            refine p_step (by exact rfl) (y_load1 one_100 (et g0 rfl) (atS (kS.cell (rS 9 _ rfl)))) ?_
                            refine p_step (by exact rfl) (y_len Hvaa.underlying100 (et g0 rfl)) ?_
                            refine p_step (by exact rfl) (y_sub (et g0 rfl) rfl (subIN (y := 1) ?_ ?_)) ?_
                            omega
                            omega
                            refine p_step (by exact rfl) (y_moveV (et (gS rfl (gS rfl (gS rfl (gS rfl (gS rfl (gS rfl (gS rfl (gS rfl (gS rfl (gS rfl (gS rfl (gS rfl (gS rfl (gS rfl g0)))))))))))))) rfl)) ?_
                            refine p_step (by exact rfl) (y_nil (et g0 rfl)) ?_
                            refine p_step (by exact rfl) (y_fld fld_102_2 (et g0 rfl)) ?_
                            refine p_step (by exact rfl) (y_load1 one_100 (et g0 rfl) (atS (kS.cell (rS 9 _ rfl)))) ?_
                            refine p_step (by exact rfl) (y_len Hvaa.underlying100 (et g0 rfl)) ?_
                            refine p_step (by exact rfl) (y_sub (et g0 rfl) rfl (subIN (y := 1) ?_ ?_)) ?_
                            omega
                            omega
                            exact (by
                              refine p_step (by exact rfl) (y_slS011n Hvaa.underlying100 sz_146 (et (gS rfl (gS rfl (gS rfl (gS rfl (gS rfl (gS rfl (gS rfl (gS rfl (gS rfl (gS rfl (gS rfl (gS rfl g0)))))))))))) rfl) (et (gS rfl (gS rfl (gS rfl (gS rfl (gS rfl (gS rfl g0)))))) rfl) (et g0 rfl) ?_ ?_) ?_
                              omega
                              omega
                              refine p_step (by exact rfl) (y_nil (et (gS rfl (gS rfl (gS rfl (gS rfl (gS rfl (gS rfl (gS rfl (gS rfl (gS rfl (gS rfl (gS rfl (gS rfl (gS rfl (gS rfl (gS rfl (gS rfl (gS rfl g0))))))))))))))))) rfl)) ?_
                              refine p_step (by exact rfl) (y_fld fld_102_2 (et g0 rfl)) ?_
                              have rl227 := RowIn.le rS (Nat.succ_pos _)
                              simp only [List.length_cons, List.length_nil, Nat.zero_add, Nat.reduceAdd] at rl227
                              refine p_effN (by exact rfl) (e_store sz_100 (et g0 rfl) (cellsV (et (gS rfl (gS rfl g0)) rfl) rfl) rfl (by first | exact one_bL _ | exact one_uL _ | (intro v hv; simp at hv; subst hv; rfl)) kS (by first | exact Nat.le_trans (by omega) rl227 | exact Nat.le_of_ble_eq_true rfl | (simp; done) | (simp; omega) | omega | (simp only [size_spl, Array.size_setIfInBounds, hs.size]; exact Nat.le_of_ble_eq_true rfl))) (fun v227 w227 h227 => ?_)
                              obtain ⟨rfl, x227⟩ := h227
                              replace k3 := k3.ch x227.ch (by omega)
                              replace kF := kF.ch x227.ch (by omega)
                              replace kL := kL.ch x227.ch (by intro q hq hm; have := dL q hq; omega)
                              replace kM := kM.ch x227.ch (by omega)
                              replace kS := x227.blk
                              replace G := G.wr x227 (.inl (by first | rfl | (simp; done))) nbS
                              replace hF := G.fz
                              replace U := U.st x227 (.inl (by first | rfl | (simp; done)))
                              replace eC := kS.eput eC (by omega)
                              replace rS : RowIn _ _ [.slice pa1 u.saved.accts.length pa2, .slice pwa1 u.saved.warmA.length pwa2, .slice pws1 u.saved.warmS.length pws2, .slice pr1 pr2 pr3, .slice pla u.saved.logs.length u.saved.logs.length, .slice pt1 u.saved.temps.length pt2, .slice pm1 u.saved.made.length pm2, .slice pg1 u.saved.gone.length pg2, .slice oa s.start.length oc, .slice (some ⟨bf, 0, none⟩) (N - 1) (N - 1), _, .int .u8 (s.phase : Nat), .int .u8 (s.status : Nat), .int .u8 (s.applied : Nat), vlim, vtx, vleft, vpr, vtot] := kS.rput rS 9 rfl
                              replace rOr := kS.rputo rOr (by first | (left; omega) | (right; simp only [List.length_cons, List.length_nil, length_bL, length_be]; omega))
                              replace rMd := kS.rputo rMd (by first | (left; omega) | (right; simp only [List.length_cons, List.length_nil, length_bL, length_be]; omega))
                              refine ⟨.inl rfl, ?_⟩
                              refine p_nil ?_
                              refine hK225 _ _ ?_
                              refine fg6 2 1 0 6 7 8 (gS rfl (gS rfl (gS rfl (gS rfl (gS rfl (gS rfl (gS rfl (gS rfl (gS rfl (gS rfl (gS rfl (gS rfl (gS rfl (gS rfl (gS rfl (gS rfl (gS rfl (gS rfl (gS rfl (gS rfl (gS rfl (gS rfl (gS rfl (gS rfl (gS rfl g0))))))))))))))))))))))))) (gS rfl (gS rfl (gS rfl (gS rfl (gS rfl (gS rfl (gS rfl (gS rfl (gS rfl (gS rfl (gS rfl (gS rfl (gS rfl (gS rfl (gS rfl (gS rfl (gS rfl (gS rfl (gS rfl (gS rfl (gS rfl (gS rfl (gS rfl (gS rfl g0)))))))))))))))))))))))) (gS rfl (gS rfl (gS rfl (gS rfl (gS rfl (gS rfl (gS rfl (gS rfl (gS rfl (gS rfl (gS rfl (gS rfl (gS rfl (gS rfl (gS rfl (gS rfl (gS rfl (gS rfl (gS rfl (gS rfl (gS rfl (gS rfl (gS rfl g0))))))))))))))))))))))) (gS rfl (gS rfl (gS rfl (gS rfl (gS rfl (gS rfl (gS rfl (gS rfl (gS rfl (gS rfl (gS rfl (gS rfl (gS rfl (gS rfl (gS rfl (gS rfl (gS rfl (gS rfl (gS rfl (gS rfl (gS rfl (gS rfl g0)))))))))))))))))))))) (gS rfl (gS rfl (gS rfl (gS rfl (gS rfl (gS rfl (gS rfl (gS rfl (gS rfl (gS rfl (gS rfl (gS rfl (gS rfl (gS rfl (gS rfl (gS rfl (gS rfl (gS rfl (gS rfl (gS rfl (gS rfl g0))))))))))))))))))))) (gS rfl (gS rfl (gS rfl (gS rfl (gS rfl (gS rfl (gS rfl (gS rfl (gS rfl (gS rfl (gS rfl (gS rfl (gS rfl (gS rfl (gS rfl (gS rfl (gS rfl (gS rfl (gS rfl (gS rfl g0)))))))))))))))))))) (fun g => ?_)
                              refine c_seq (fun K228 hK228 => ?_)
                              refine c_seq (fun K229 hK229 => ?_)
                              exact (by
                                refine c_region ?_
                                refine l_step (y_moveV (et (gS rfl (gS rfl (gS rfl g0))) rfl)) ?_
                                refine l_step (y_nil (et g0 rfl)) ?_
                                refine l_step (y_fld fld_102_2 (et g0 rfl)) ?_
                                refine l_step (y_load1 one_100 (et g0 rfl) (at1 (kS.cell (rS 9 _ rfl)))) ?_
                                refine l_step (y_len Hvaa.underlying100 (et g0 rfl)) ?_
                                refine l_step (y_eql (et g0 rfl) rfl) ?_
                                refine l_nil ?_
                                refine hK229 _ _ ?_
                                refine fg7 2 1 0 6 7 8 96 (gS rfl (gS rfl (gS rfl (gS rfl (gS rfl (gS rfl (gS rfl (gS rfl (gS rfl (gS rfl (gS rfl g0))))))))))) (gS rfl (gS rfl (gS rfl (gS rfl (gS rfl (gS rfl (gS rfl (gS rfl (gS rfl (gS rfl g0)))))))))) (gS rfl (gS rfl (gS rfl (gS rfl (gS rfl (gS rfl (gS rfl (gS rfl (gS rfl g0))))))))) (gS rfl (gS rfl (gS rfl (gS rfl (gS rfl (gS rfl (gS rfl (gS rfl g0)))))))) (gS rfl (gS rfl (gS rfl (gS rfl (gS rfl (gS rfl (gS rfl g0))))))) (gS rfl (gS rfl (gS rfl (gS rfl (gS rfl (gS rfl g0)))))) g0 (fun g => ?_)
                                refine c_cond (et g0 rfl) (fun cB6 => ?_) (fun cB6 => ?_)
                                · skip
                                  
                                  have := of_decide_eq_true cB6; omega
                                · skip
                                  
                                  refine c_skip ?_
                                  refine hK228 _ _ ?_
                                  refine fg6 2 1 0 6 7 8 (gS rfl (gS rfl (gS rfl (gS rfl (gS rfl (gS rfl g0)))))) (gS rfl (gS rfl (gS rfl (gS rfl (gS rfl g0))))) (gS rfl (gS rfl (gS rfl (gS rfl g0)))) (gS rfl (gS rfl (gS rfl g0))) (gS rfl (gS rfl g0)) (gS rfl g0) (fun g => ?_)
                                  refine c_seq (fun K231 hK231 => ?_)
                                  exact (by
                                    refine c_draw Up 12 [(0, true), (1, true), (2, true), (3, true), (4, true), (5, true), (6, true), (7, true), (8, true), (9, true), (10, true), (11, true)] (by kernel_rfl) (fun w232 hu => ⟨Up.refl _, ?_⟩)
                                    replace G := G.tr (Go.ofUp hF hu)
                                    replace hF := hF.up hu
                                    replace k3 := k3.up hu
                                    replace kS := kS.up hu
                                    replace kF := kF.up hu
                                    replace kL := kL.up hu
                                    replace kM := kM.up hu
                                    replace U := U.tr hu
                                    have SU := Up.refl w232
                                    refine p_step (by exact rfl) (y_moveV (et (gS rfl (gS rfl (gS rfl g0))) rfl)) ?_
                                    refine p_step (by exact rfl) (y_nil (et g0 rfl)) ?_
                                    refine p_step (by exact rfl) (y_fld fld_102_2 (et g0 rfl)) ?_
                                    refine p_step (by exact rfl) (y_load1 one_100 (et g0 rfl) (atS (kS.cell (rS 9 _ rfl)))) ?_
                                    refine p_step (by exact rfl) (y_moveV (et (gS rfl (gS rfl (gS rfl (gS rfl (gS rfl (gS rfl (gS rfl g0))))))) rfl)) ?_
                                    refine p_step (by exact rfl) (y_nil (et g0 rfl)) ?_
                                    refine p_step (by exact rfl) (y_fld fld_102_2 (et g0 rfl)) ?_
                                    refine p_step (by exact rfl) (y_load1 one_100 (et g0 rfl) (atS (kS.cell (rS 9 _ rfl)))) ?_
                                    refine p_step (by exact rfl) (y_len Hvaa.underlying100 (et g0 rfl)) ?_
                                    refine p_step (by exact rfl) (y_sub (et g0 rfl) rfl (subIN (y := 1) ?_ ?_)) ?_
                                    omega
                                    omega
                                    refine p_step (by exact rfl) (y_idxSa rfl Hvaa.underlying100 sz_146 (et (gS rfl (gS rfl (gS rfl (gS rfl (gS rfl (gS rfl g0)))))) rfl) (et g0 rfl) ?_) ?_
                                    omega
                                    refine p_step (by exact rfl) (y_assignV (et g0 rfl)) ?_
                                    refine p_nil ?_
                                    refine hK231 _ _ ?_
                                    refine fg6 2 1 6 7 8 10 (gS rfl (gS rfl (gS rfl (gS rfl (gS rfl (gS rfl (gS rfl (gS rfl (gS rfl (gS rfl (gS rfl (gS rfl (gS rfl (gS rfl (gS rfl (gS rfl (gS rfl g0))))))))))))))))) (gS rfl (gS rfl (gS rfl (gS rfl (gS rfl (gS rfl (gS rfl (gS rfl (gS rfl (gS rfl (gS rfl (gS rfl (gS rfl (gS rfl (gS rfl (gS rfl g0)))))))))))))))) (gS rfl (gS rfl (gS rfl (gS rfl (gS rfl (gS rfl (gS rfl (gS rfl (gS rfl (gS rfl (gS rfl (gS rfl (gS rfl (gS rfl g0)))))))))))))) (gS rfl (gS rfl (gS rfl (gS rfl (gS rfl (gS rfl (gS rfl (gS rfl (gS rfl (gS rfl (gS rfl (gS rfl (gS rfl g0))))))))))))) (gS rfl (gS rfl (gS rfl (gS rfl (gS rfl (gS rfl (gS rfl (gS rfl (gS rfl (gS rfl (gS rfl (gS rfl g0)))))))))))) g0 (fun g => ?_)
                                    refine c_seq (fun K233 hK233 => ?_)
                                    exact (by
                                      refine c_region ?_
                                      refine l_step (y_moveV (et g0 rfl)) ?_
                                      refine l_step (y_moveV (et (gS rfl g0) rfl)) ?_
                                      refine l_step (y_nil (et g0 rfl)) ?_
                                      refine l_step (y_fld fld_146_4 (et g0 rfl)) ?_
                                      refine l_step (y_load1 one_95 (et g0 rfl) (at1 (kF.cell (rF 4 _ rfl)))) ?_
                                      refine l_step (y_moveV (et (gS rfl (gS rfl (gS rfl (gS rfl (gS rfl (gS rfl (gS rfl g0))))))) rfl)) ?_
                                      refine l_eff (e_callV cal_34 (aC (et (gS rfl g0) rfl) (aC (et g0 rfl) aN)) (nat_add hF (hGa.mono hL0) (yGa.mono hL0) (bd_sm (bd_lt2 (b := 256 ^ 4) fo.gas (by decide)) (by decide)) (bd_sm (bd_lt2 (b := 256 ^ 4) fo6.gas (by decide)) (by decide)))) (fun v234 w234 h234 => ?_)
                                      obtain ⟨H234, g234, n234⟩ := h234
                                      have hlew234 := g234.le
                                      replace nb3 := g234.nb nb3 k3.lt
                                      replace nbS := g234.nb nbS kS.lt
                                      replace nbF := g234.nb nbF kF.lt
                                      replace nbM := g234.nb nbM (Nat.lt_of_lt_of_le lM U.size)
                                      replace hL0 := hL0.trans hlew234
                                      replace k3 := k3.up g234.up
                                      replace kS := kS.up g234.up
                                      replace kF := kF.up g234.up
                                      replace kL := kL.up g234.up
                                      replace kM := kM.up g234.up
                                      replace U := U.tr g234.up
                                      replace G := G.tr g234
                                      replace hF := g234.fz
                                      have q234 := bd_add (c := 5) (bd_lt2 (b := 256 ^ 4) fo.gas (by decide)) (bd_lt2 (b := 256 ^ 4) fo6.gas (by decide)) (by decide)
                                      refine l_step (y_nil (et (gS rfl (gS rfl (gS rfl (gS rfl (gS rfl (gS rfl g0)))))) rfl)) ?_
                                      refine l_step (y_fld fld_146_4 (et g0 rfl)) ?_
                                      obtain ⟨sa235, sn235, sc235, rfl⟩ := n234.sl
                                      have rl235 := RowIn.le rF (Nat.succ_pos _)
                                      simp only [List.length_cons, List.length_nil, Nat.zero_add, Nat.reduceAdd] at rl235
                                      refine l_effN (e_store sz_95 (et g0 rfl) (cellsV (et (gS rfl (gS rfl g0)) rfl) rfl) rfl (by first | exact one_bL _ | exact one_uL _ | (intro v hv; simp at hv; subst hv; rfl)) kF (by first | exact Nat.le_trans (by omega) rl235 | exact Nat.le_of_ble_eq_true rfl | (simp; done) | (simp; omega) | omega | (simp only [size_spl, Array.size_setIfInBounds, hs.size]; exact Nat.le_of_ble_eq_true rfl))) (fun v235 w235 h235 => ?_)
                                      obtain ⟨rfl, x235⟩ := h235
                                      replace k3 := k3.ch x235.ch (by omega)
                                      replace kS := kS.ch x235.ch (by omega)
                                      replace kL := kL.ch x235.ch (by intro q hq hm; have := dL q hq; omega)
                                      replace kM := kM.ch x235.ch (by omega)
                                      replace kF := x235.blk
                                      replace G := G.wr x235 (.inl (by first | rfl | (simp; done))) nbF
                                      replace hF := G.fz
                                      replace U := U.st x235 (.inl (by first | rfl | (simp; done)))
                                      replace oF := kF.oput oF (by omega) (by omega)
                                      replace rF : RowIn _ _ [.int .u8 (f.kind : Nat), .int .u8 (f.ntv : Nat), .bool f.static, vpc, _, vval, voo, vol, .slice ka f.stack.length kc, vm, .slice ca f.code.length cc, .slice ia f.input.length ic] := kF.rput rF 4 rfl
                                      replace rSe := kF.rputo rSe (by first | (left; omega) | (right; simp only [List.length_cons, List.length_nil, length_bL, length_be, hSv.len]; omega))
                                      replace rCa := kF.rputo rCa (by first | (left; omega) | (right; simp only [List.length_cons, List.length_nil, length_bL, length_be, hSv.len]; omega))
                                      replace rSv := kF.rputo rSv (by first | (left; omega) | (right; simp only [List.length_cons, List.length_nil, length_bL, length_be, hSv.len]; omega))
                                      have hS : lvSt u q l = q := by rw [lvSt, if_neg (fun h => by rw [hcr] at h; exact Bool.false_ne_true h.1)]
                                      have hG : lvGas u q l = u.gas := by rw [lvGas, if_neg (by rw [hS]; exact hq5), if_neg (fun h => by rw [hcr] at h; exact Bool.false_ne_true h.1)]
                                      have hOu : lvOut u q l = l := by rw [lvOut, if_neg (by rw [hS]; rintro (h | h); exact hq5 h; rw [hcr] at h; exact Bool.false_ne_true h.1)]
                                      have hW : lvW s u q l = u.saved := by rw [lvW, if_neg (by rw [hS]; omega)]
                                      have hS0 : lvSt u q l ≠ 0 := by rw [hS]; omega
                                      have hgs := lp.gas
                                      rw [hG] at hgs
                                      have hfP : FC H234 _ _ { f with gas := f.gas + u.gas } vm := ⟨⟨fo.kind, fo.ntv, fo.pc, hgs, fo.value, fo.outOff, fo.outLen, fo.self, fo.caller, fo.stack, fo.code, fo.input, fo.mem⟩, _, _, _, _, _, _, _, _, _, _, _, _, rF, rSe, rCa, rSv, hSv.mono hL0, (hPc.mono hL0), n234, (hVa.mono hL0), (hOf.mono hL0), (hOl.mono hL0), (hSt.mono hL0), (hCo.mono hL0), (hIn.mono hL0)⟩
                                      refine l_nil ?_
                                      refine hK233 _ _ ?_
                                      refine fg5 2 1 6 8 10 (gS rfl (gS rfl (gS rfl (gS rfl (gS rfl (gS rfl (gS rfl (gS rfl (gS rfl (gS rfl (gS rfl (gS rfl (gS rfl (gS rfl g0)))))))))))))) (gS rfl (gS rfl (gS rfl (gS rfl (gS rfl (gS rfl (gS rfl (gS rfl (gS rfl (gS rfl (gS rfl (gS rfl (gS rfl g0))))))))))))) (gS rfl (gS rfl (gS rfl (gS rfl (gS rfl (gS rfl (gS rfl (gS rfl (gS rfl (gS rfl (gS rfl (gS rfl g0)))))))))))) (gS rfl (gS rfl (gS rfl (gS rfl (gS rfl (gS rfl (gS rfl (gS rfl (gS rfl (gS rfl g0)))))))))) (gS rfl (gS rfl (gS rfl (gS rfl (gS rfl (gS rfl (gS rfl (gS rfl (gS rfl g0))))))))) (fun g => ?_)
                                      refine c_seq (fun K236 hK236 => ?_)
                                      exact (by
                                        refine c_region ?_
                                        refine l_step y_assignC ?_
                                        refine l_nil ?_
                                        refine hK236 _ _ ?_
                                        refine c_seq (fun K237 hK237 => ?_)
                                        refine c_seq (fun K238 hK238 => ?_)
                                        exact (by
                                          refine c_region ?_
                                          refine l_step (y_moveV (et (gS rfl (gS rfl (gS rfl (gS rfl g0)))) rfl)) ?_
                                          refine l_step (y_eql (et g0 rfl) rfl) ?_
                                          refine l_nil ?_
                                          refine hK238 _ _ ?_
                                          refine fg6 2 6 8 10 11 132 (gS rfl (gS rfl (gS rfl (gS rfl (gS rfl (gS rfl (gS rfl g0))))))) (gS rfl (gS rfl (gS rfl (gS rfl (gS rfl g0))))) (gS rfl (gS rfl (gS rfl (gS rfl g0)))) (gS rfl (gS rfl (gS rfl g0))) (gS rfl (gS rfl g0)) g0 (fun g => ?_)
                                          refine c_cond (et g0 rfl) (fun cB7 => ?_) (fun cB7 => ?_)
                                          · skip
                                            
                                            have := of_decide_eq_true cB7; omega
                                          · skip
                                            
                                            refine c_skip ?_
                                            refine hK237 _ _ ?_
                                            refine fg3 2 10 11 (gS rfl (gS rfl (gS rfl (gS rfl (gS rfl g0))))) (gS rfl (gS rfl g0)) (gS rfl g0) (fun g => ?_)
                                            refine c_seq (fun K240 hK240 => ?_)
                                            refine c_seq (fun K241 hK241 => ?_)
                                            exact (by
                                              refine c_region ?_
                                              refine l_step (y_moveV (et (gS rfl g0) rfl)) ?_
                                              refine l_step (y_nil (et g0 rfl)) ?_
                                              refine l_step (y_fld fld_146_7 (et g0 rfl)) ?_
                                              refine l_step (y_load1 one_95 (et g0 rfl) (at1 (kF.cell (rF 7 _ rfl)))) ?_
                                              refine l_eff (e_callV cal_24 (aC (et g0 rfl) aN) (yp_small hF (hOl.mono hL0) (bd_sm (bd_W fo.outLen) (by decide)))) (fun v242 w242 h242 => ?_)
                                              obtain ⟨rfl, u242⟩ := h242
                                              replace G := G.tr (Go.ofUp hF u242)
                                              replace hF := hF.up u242
                                              replace k3 := k3.up u242
                                              replace kS := kS.up u242
                                              replace kF := kF.up u242
                                              replace kL := kL.up u242
                                              replace kM := kM.up u242
                                              replace U := U.tr u242
                                              rw [lo_small lp.outl]
                                              refine l_step (y_moveV (et (gS rfl (gS rfl (gS rfl (gS rfl (gS rfl (gS rfl (gS rfl g0))))))) rfl)) ?_
                                              refine l_step (y_len Hvaa.underlying38 (et g0 rfl)) ?_
                                              refine l_step (y_conv Hvaa.underlying3 Hvaa.underlying26 (et g0 rfl) (wrapU_id uk64 ?_)) ?_
                                              (omega)
                                              refine l_step (y_minN (et (gS rfl (gS rfl (gS rfl g0))) rfl) (et g0 rfl)) ?_
                                              refine l_step (y_assignV (et g0 rfl)) ?_
                                              refine l_nil ?_
                                              refine hK241 _ _ ?_
                                              refine fg4 2 10 11 12 (gS rfl (gS rfl (gS rfl (gS rfl (gS rfl (gS rfl (gS rfl (gS rfl (gS rfl (gS rfl (gS rfl (gS rfl g0)))))))))))) (gS rfl (gS rfl (gS rfl (gS rfl (gS rfl (gS rfl (gS rfl (gS rfl (gS rfl (gS rfl (gS rfl g0))))))))))) (gS rfl (gS rfl (gS rfl (gS rfl (gS rfl (gS rfl (gS rfl (gS rfl (gS rfl (gS rfl g0)))))))))) g0 (fun g => ?_)
                                              refine c_seq (fun K243 hK243 => ?_)
                                              exact (by
                                                refine c_region ?_
                                                refine l_step (y_moveV (et g0 rfl)) ?_
                                                refine l_step (y_gtr (et g0 rfl) rfl) ?_
                                                refine l_nil ?_
                                                refine hK243 _ _ ?_
                                                refine fg5 2 10 11 12 148 (gS rfl (gS rfl (gS rfl (gS rfl (gS rfl g0))))) (gS rfl (gS rfl (gS rfl (gS rfl g0)))) (gS rfl (gS rfl (gS rfl g0))) (gS rfl (gS rfl g0)) g0 (fun g => ?_)
                                                refine c_cond (et g0 rfl) (fun cB9 => ?_) (fun cB9 => ?_)
                                                · skip
                                                  
                                                  have hb9 : 0 < min f.outLen l.length := by have := of_decide_eq_true cB9; omega
                                                  exact (by
                                                    refine c_draw Up 8 [(0, true), (1, true), (2, true), (3, true), (4, true), (5, true), (6, true), (7, true), (8, false)] (by kernel_rfl) (fun w245 hu => ⟨Up.refl _, ?_⟩)
                                                    replace G := G.tr (Go.ofUp hF hu)
                                                    replace hF := hF.up hu
                                                    replace k3 := k3.up hu
                                                    replace kS := kS.up hu
                                                    replace kF := kF.up hu
                                                    replace kL := kL.up hu
                                                    replace kM := kM.up hu
                                                    replace U := U.tr hu
                                                    have SU := Up.refl w245
                                                    refine p_step (by exact rfl) (y_moveV (et (gS rfl (gS rfl (gS rfl g0))) rfl)) ?_
                                                    refine p_step (by exact rfl) (y_moveV (et (gS rfl (gS rfl (gS rfl (gS rfl g0)))) rfl)) ?_
                                                    refine p_step (by exact rfl) (y_nil (et g0 rfl)) ?_
                                                    refine p_step (by exact rfl) (y_fld fld_146_6 (et g0 rfl)) ?_
                                                    refine p_step (by exact rfl) (y_load1 one_95 (et g0 rfl) (atS (kF.cell (rF 6 _ rfl)))) ?_
                                                    refine p_step (by exact rfl) (y_moveV (et (gS rfl (gS rfl (gS rfl (gS rfl (gS rfl (gS rfl (gS rfl (gS rfl (gS rfl g0))))))))) rfl)) ?_
                                                    refine p_step (by exact rfl) (y_moveV (et (gS rfl (gS rfl (gS rfl (gS rfl (gS rfl (gS rfl (gS rfl g0))))))) rfl)) ?_
                                                    refine p_step (by exact rfl) (y_slS010n Hvaa.underlying38 sz_5 (et (gS rfl g0) rfl) (et g0 rfl) ?_) ?_
                                                    omega
                                                    refine p_eff (by exact rfl) (e_callV cal_142 (aC (et (gS rfl (gS rfl (gS rfl (gS rfl (gS rfl (gS rfl (gS rfl g0))))))) rfl) (aC (et (gS rfl (gS rfl (gS rfl g0))) rfl) (aC (et g0 rfl) aN))) (yp_write hF _ _ _ _ _ kF hfP _ kM (Nat.lt_of_lt_of_le lM U.size) dMF nbM (hOf.mono hL0) (bd_up (bd_W fo.outOff) (by decide)) ((hO.mono hL0).take (Nat.min_le_right _ _)))) (fun v246 w246 h246 => ?_)
                                                    obtain ⟨rfl, H246, g246, mb246⟩ := h246
                                                    have hlew246 := g246.le
                                                    replace nb3 := g246.nb nb3 k3.lt
                                                    replace nbS := g246.nb nbS kS.lt
                                                    replace nbF := g246.nb nbF kF.lt
                                                    replace nbM := g246.nb nbM (Nat.lt_of_lt_of_le lM U.size)
                                                    replace n234 := n234.mono hlew246
                                                    replace hfP := hfP.mono hlew246
                                                    replace hL0 := hL0.trans hlew246
                                                    replace k3 := k3.ch g246.ch (by omega)
                                                    replace kS := kS.ch g246.ch (by omega)
                                                    replace kF := kF.ch g246.ch (by omega)
                                                    replace kL := kL.ch g246.ch (by intro q hq hm; have := dL q hq; omega)
                                                    replace kM := mb246
                                                    replace U := U.cc g246.ch (by intro b hb; first | omega | exact .inl hb | exact .inr (hb ▸ U))
                                                    replace G := G.trans g246 (by intro b hb; first | omega | exact .inl hb | (simp at hb ⊢; omega))
                                                    replace hF := g246.fz
                                                    have hfQ := hfP.setmem (m := wrN f.mem f.outOff (List.take (min f.outLen l.length) l)) (by rw [len_wr]; exact fo.mem)
                                                    refine ⟨.inl rfl, ?_⟩
                                                    refine p_nil ?_
                                                    refine hK240 _ _ ?_
                                                    refine fg2 10 11 (gS rfl (gS rfl (gS rfl (gS rfl (gS rfl (gS rfl (gS rfl (gS rfl (gS rfl (gS rfl (gS rfl (gS rfl g0)))))))))))) (gS rfl (gS rfl (gS rfl (gS rfl (gS rfl (gS rfl (gS rfl (gS rfl (gS rfl (gS rfl (gS rfl g0))))))))))) (fun g => ?_)
                                                    refine c_region ?_
                                                    exact (by
                                                      refine l_step (y_moveV (et (gS rfl g0) rfl)) ?_
                                                      refine l_step (y_moveV (et (gS rfl g0) rfl)) ?_
                                                      refine l_eff (e_callV cal_143 (aC (et (gS rfl g0) rfl) (aC (v := .int .i64 ((0 : Nat) : Int)) rfl (aC (et g0 rfl) aN))) (yp_answer hF _ _ _ _ _ kF hfQ nbF 0 (Nat.zero_le _) lp.stk lp.pc (NV.nil _) (W_bd (bd_up bd_zero (by decide))))) (fun v247 w247 h247 => ?_)
                                                      obtain ⟨rfl, fs247, H247, g247, kf247, fc247, of247⟩ := h247
                                                      have hlew247 := g247.le
                                                      replace nb3 := g247.nb nb3 k3.lt
                                                      replace nbS := g247.nb nbS kS.lt
                                                      replace nbF := g247.nb nbF kF.lt
                                                      replace nbM := g247.nb nbM (Nat.lt_of_lt_of_le lM U.size)
                                                      replace n234 := n234.mono hlew247
                                                      replace hfP := hfP.mono hlew247
                                                      replace hfQ := hfQ.mono hlew247
                                                      replace hL0 := hL0.trans hlew247
                                                      replace k3 := k3.ch g247.ch (by omega)
                                                      replace kS := kS.ch g247.ch (by omega)
                                                      replace kL := kL.ch g247.ch (by intro q hq hm; have := dL q hq; omega)
                                                      replace kM := kM.ch g247.ch (by omega)
                                                      replace kF := kf247
                                                      replace U := U.cc g247.ch (by intro b hb; first | omega | exact .inl hb | exact .inr (hb ▸ U))
                                                      replace G := G.trans g247 (by intro b hb; first | omega | exact .inl hb | (simp at hb ⊢; omega))
                                                      replace hF := g247.fz
                                                      refine l_nil ?_
                                                      refine end0 rfl ?_
                                                      have hS : lvSt u q l = q := by rw [lvSt, if_neg (fun h => by rw [hcr] at h; exact Bool.false_ne_true h.1)]
                                                      have hG : lvGas u q l = u.gas := by rw [lvGas, if_neg (by rw [hS]; exact hq5), if_neg (fun h => by rw [hcr] at h; exact Bool.false_ne_true h.1)]
                                                      have hOu : lvOut u q l = l := by rw [lvOut, if_neg (by rw [hS]; rintro (h | h); exact hq5 h; rw [hcr] at h; exact Bool.false_ne_true h.1)]
                                                      have hW : lvW s u q l = u.saved := by rw [lvW, if_neg (by rw [hS]; omega)]
                                                      have hS0 : lvSt u q l ≠ 0 := by rw [hS]; omega
                                                      have hFl : lvFlag u q l = 0 := by rw [lvFlag, if_neg hS0]
                                                      have hMm : lvMem f u q l = (wrN f.mem f.outOff (List.take (min f.outLen l.length) l)) := by rw [lvMem, hOu, if_pos hb9]
                                                      have eP : lvP f u q l = ansN { f with gas := f.gas + u.gas, mem := (wrN f.mem f.outOff (List.take (min f.outLen l.length) l)) } 0 0 := by rw [lvP, hG, hMm, hFl]
                                                      have eS : lvS2 s u q l = { s with now := u.saved, ret := l } := by rw [lvS2, hW, hOu]
                                                      rw [eS, hW, eP]
                                                      exact ⟨rfl, _, _, _, _, G, kS, ⟨⟨sv.accts, sv.warmA, sv.warmS, zrb, sv.logs, sv.temps, sv.made, sv.gone, so.start, hl9, so.phase, so.status, so.applied, so.limit, so.txGas, so.left, so.price, so.total, so.origin, so.mad⟩, eC.mono hL0, (by simp only [size_spl, Array.size_setIfInBounds]; exact hs.size), _, _, _, _, _, _, _, _, _, _, _, _, _, _, _, _, _, _, _, _, _, _, _, _, rS, rOr, rMd, (zAc.mono hL0), (zWA.mono hL0), (zWS.mono hL0), (zRf.mono hL0), (zTm.mono hL0), (zMd.mono hL0), (zGn.mono hL0), (hSr.mono hL0), (hO.mono hL0), (hLm.mono hL0), (hTx.mono hL0), (hLf.mono hL0), (hPr.mono hL0), (hTt.mono hL0)⟩, kF, fc247, oF.trans of247, kM, by rw [if_neg hS0]; exact ⟨.inl ⟨rfl, zLg.mono hL0, _, _, rfl⟩⟩, (rS 4 _ rfl)⟩))
                                                · skip
                                                  
                                                  have hb9 : ¬ 0 < min f.outLen l.length := by have := of_decide_eq_false cB9; omega
                                                  refine c_skip ?_
                                                  refine hK240 _ _ ?_
                                                  refine fg2 10 11 (gS rfl (gS rfl (gS rfl g0))) (gS rfl (gS rfl g0)) (fun g => ?_)
                                                  refine c_region ?_
                                                  refine l_step (y_moveV (et (gS rfl g0) rfl)) ?_
                                                  refine l_step (y_moveV (et (gS rfl g0) rfl)) ?_
                                                  refine l_eff (e_callV cal_143 (aC (et (gS rfl g0) rfl) (aC (v := .int .i64 ((0 : Nat) : Int)) rfl (aC (et g0 rfl) aN))) (yp_answer hF _ _ _ _ _ kF hfP nbF 0 (Nat.zero_le _) lp.stk lp.pc (NV.nil _) (W_bd (bd_up bd_zero (by decide))))) (fun v248 w248 h248 => ?_)
                                                  obtain ⟨rfl, fs248, H248, g248, kf248, fc248, of248⟩ := h248
                                                  have hlew248 := g248.le
                                                  replace nb3 := g248.nb nb3 k3.lt
                                                  replace nbS := g248.nb nbS kS.lt
                                                  replace nbF := g248.nb nbF kF.lt
                                                  replace nbM := g248.nb nbM (Nat.lt_of_lt_of_le lM U.size)
                                                  replace n234 := n234.mono hlew248
                                                  replace hfP := hfP.mono hlew248
                                                  replace hL0 := hL0.trans hlew248
                                                  replace k3 := k3.ch g248.ch (by omega)
                                                  replace kS := kS.ch g248.ch (by omega)
                                                  replace kL := kL.ch g248.ch (by intro q hq hm; have := dL q hq; omega)
                                                  replace kM := kM.ch g248.ch (by omega)
                                                  replace kF := kf248
                                                  replace U := U.cc g248.ch (by intro b hb; first | omega | exact .inl hb | exact .inr (hb ▸ U))
                                                  replace G := G.trans g248 (by intro b hb; first | omega | exact .inl hb | (simp at hb ⊢; omega))
                                                  replace hF := g248.fz
                                                  refine l_nil ?_
                                                  refine end0 rfl ?_
                                                  have hS : lvSt u q l = q := by rw [lvSt, if_neg (fun h => by rw [hcr] at h; exact Bool.false_ne_true h.1)]
                                                  have hG : lvGas u q l = u.gas := by rw [lvGas, if_neg (by rw [hS]; exact hq5), if_neg (fun h => by rw [hcr] at h; exact Bool.false_ne_true h.1)]
                                                  have hOu : lvOut u q l = l := by rw [lvOut, if_neg (by rw [hS]; rintro (h | h); exact hq5 h; rw [hcr] at h; exact Bool.false_ne_true h.1)]
                                                  have hW : lvW s u q l = u.saved := by rw [lvW, if_neg (by rw [hS]; omega)]
                                                  have hS0 : lvSt u q l ≠ 0 := by rw [hS]; omega
                                                  have hFl : lvFlag u q l = 0 := by rw [lvFlag, if_neg hS0]
                                                  have hMm : lvMem f u q l = f.mem := by rw [lvMem, hOu, if_neg hb9]
                                                  have eP : lvP f u q l = ansN { f with gas := f.gas + u.gas, mem := f.mem } 0 0 := by rw [lvP, hG, hMm, hFl]
                                                  have eS : lvS2 s u q l = { s with now := u.saved, ret := l } := by rw [lvS2, hW, hOu]
                                                  rw [eS, hW, eP]
                                                  exact ⟨rfl, _, _, _, _, G, kS, ⟨⟨sv.accts, sv.warmA, sv.warmS, zrb, sv.logs, sv.temps, sv.made, sv.gone, so.start, hl9, so.phase, so.status, so.applied, so.limit, so.txGas, so.left, so.price, so.total, so.origin, so.mad⟩, eC.mono hL0, (by simp only [size_spl, Array.size_setIfInBounds]; exact hs.size), _, _, _, _, _, _, _, _, _, _, _, _, _, _, _, _, _, _, _, _, _, _, _, _, rS, rOr, rMd, (zAc.mono hL0), (zWA.mono hL0), (zWS.mono hL0), (zRf.mono hL0), (zTm.mono hL0), (zMd.mono hL0), (zGn.mono hL0), (hSr.mono hL0), (hO.mono hL0), (hLm.mono hL0), (hTx.mono hL0), (hLf.mono hL0), (hPr.mono hL0), (hTt.mono hL0)⟩, kF, fc248, oF.trans of248, kM, by rw [if_neg hS0]; exact ⟨.inl ⟨rfl, zLg.mono hL0, _, _, rfl⟩⟩, (rS 4 _ rfl)⟩))))))))))))
                · skip
                  
                  have hq4 : q = 0 := by have := of_decide_eq_false cB4; omega
                  refine c_skip ?_
                  refine hK192 _ _ ?_
                  refine fg6 2 1 0 6 7 8 (gS rfl (gS rfl (gS rfl (gS rfl (gS rfl (gS rfl g0)))))) (gS rfl (gS rfl (gS rfl (gS rfl (gS rfl g0))))) (gS rfl (gS rfl (gS rfl (gS rfl g0)))) (gS rfl (gS rfl (gS rfl g0))) (gS rfl (gS rfl g0)) (gS rfl g0) (fun g => ?_)
                  refine c_seq (fun K249 hK249 => ?_)
                  refine c_seq (fun K250 hK250 => ?_)
                  exact (by
                    refine c_region ?_
                    refine l_step (y_moveV (et (gS rfl (gS rfl (gS rfl (gS rfl g0)))) rfl)) ?_
                    refine l_step (y_gtr (et g0 rfl) rfl) ?_
                    refine l_nil ?_
                    refine hK250 _ _ ?_
                    refine fg7 2 1 0 6 7 8 66 (gS rfl (gS rfl (gS rfl (gS rfl (gS rfl (gS rfl (gS rfl g0))))))) (gS rfl (gS rfl (gS rfl (gS rfl (gS rfl (gS rfl g0)))))) (gS rfl (gS rfl (gS rfl (gS rfl (gS rfl g0))))) (gS rfl (gS rfl (gS rfl (gS rfl g0)))) (gS rfl (gS rfl (gS rfl g0))) (gS rfl (gS rfl g0)) g0 (fun g => ?_)
                    refine c_cond (et g0 rfl) (fun cB5 => ?_) (fun cB5 => ?_)
                    · skip
                      
                      have := of_decide_eq_true cB5; omega
                    · skip
                      
                      have hq5 : ¬ 1 < q := by have := of_decide_eq_false cB5; omega
                      refine c_skip ?_
                      refine hK249 _ _ ?_
                      refine fg6 2 1 0 6 7 8 (gS rfl (gS rfl (gS rfl (gS rfl (gS rfl (gS rfl g0)))))) (gS rfl (gS rfl (gS rfl (gS rfl (gS rfl g0))))) (gS rfl (gS rfl (gS rfl (gS rfl g0)))) (gS rfl (gS rfl (gS rfl g0))) (gS rfl (gS rfl g0)) (gS rfl g0) (fun g => ?_)
                      refine c_seq (fun K252 hK252 => ?_)
                      exact (by
                        refine c_region ?_
                        refine l_step (y_moveV (et (gS rfl (gS rfl (gS rfl g0))) rfl)) ?_
                        refine l_step (y_moveV (et (gS rfl (gS rfl (gS rfl (gS rfl (gS rfl (gS rfl g0)))))) rfl)) ?_
                        refine l_step (y_nil (et (gS rfl g0) rfl)) ?_
                        refine l_step (y_fld fld_102_3 (et g0 rfl)) ?_
                        have rl253 := RowIn.le rS (Nat.succ_pos _)
                        simp only [List.length_cons, List.length_nil, Nat.zero_add, Nat.reduceAdd] at rl253
                        refine l_effN (e_store sz_38 (et g0 rfl) (cellsV (et (gS rfl (gS rfl g0)) rfl) rfl) rfl (by first | exact one_bL _ | exact one_uL _ | (intro v hv; simp at hv; subst hv; rfl)) kS (by first | exact Nat.le_trans (by omega) rl253 | exact Nat.le_of_ble_eq_true rfl | (simp; done) | (simp; omega) | omega | (simp only [size_spl, Array.size_setIfInBounds, hs.size]; exact Nat.le_of_ble_eq_true rfl))) (fun v253 w253 h253 => ?_)
                        obtain ⟨rfl, x253⟩ := h253
                        replace k3 := k3.ch x253.ch (by omega)
                        replace kF := kF.ch x253.ch (by omega)
                        replace kL := kL.ch x253.ch (by intro q hq hm; have := dL q hq; omega)
                        replace kM := kM.ch x253.ch (by omega)
                        replace kS := x253.blk
                        replace G := G.wr x253 (.inl (by first | rfl | (simp; done))) nbS
                        replace hF := G.fz
                        replace U := U.st x253 (.inl (by first | rfl | (simp; done)))
                        replace eC := kS.eput eC (by omega)
                        replace rS : RowIn _ _ [.slice aa s.now.accts.length ac, .slice wa s.now.warmA.length wc, .slice sa s.now.warmS.length sc, vr, .slice la s.now.logs.length lc, .slice ta s.now.temps.length tc, .slice ma s.now.made.length mc, .slice ga s.now.gone.length gc, .slice oa s.start.length oc, .slice (some ⟨bf, 0, none⟩) N cap, _, .int .u8 (s.phase : Nat), .int .u8 (s.status : Nat), .int .u8 (s.applied : Nat), vlim, vtx, vleft, vpr, vtot] := kS.rput rS 10 rfl
                        replace rOr := kS.rputo rOr (by first | (left; omega) | (right; simp only [List.length_cons, List.length_nil, length_bL, length_be]; omega))
                        replace rMd := kS.rputo rMd (by first | (left; omega) | (right; simp only [List.length_cons, List.length_nil, length_bL, length_be]; omega))
                        refine l_nil ?_
                        refine hK252 _ _ ?_
                        refine fg6 2 1 0 6 7 8 (gS rfl (gS rfl (gS rfl (gS rfl (gS rfl (gS rfl (gS rfl (gS rfl (gS rfl g0))))))))) (gS rfl (gS rfl (gS rfl (gS rfl (gS rfl (gS rfl (gS rfl (gS rfl g0)))))))) (gS rfl (gS rfl (gS rfl (gS rfl (gS rfl (gS rfl (gS rfl g0))))))) (gS rfl (gS rfl (gS rfl (gS rfl (gS rfl (gS rfl g0)))))) (gS rfl (gS rfl (gS rfl (gS rfl (gS rfl g0))))) (gS rfl (gS rfl (gS rfl (gS rfl g0)))) (fun g => ?_)
                        refine c_seq (fun K254 hK254 => ?_)
                        exact (by
                          refine c_draw Up 20 [(0, true), (1, true), (2, true), (3, true), (4, true), (5, true), (6, true), (7, true), (8, true), (9, true), (10, true), (11, true), (12, true), (13, true), (14, true), (15, true), (16, true), (17, true), (18, true), (19, true), (20, false)] (by kernel_rfl) (fun w255 hu => ⟨Up.refl _, ?_⟩)
                          replace G := G.tr (Go.ofUp hF hu)
                          replace hF := hF.up hu
                          replace k3 := k3.up hu
                          replace kS := kS.up hu
                          replace kF := kF.up hu
                          replace kL := kL.up hu
                          replace kM := kM.up hu
                          replace U := U.tr hu
                          have SU := Up.refl w255
                          refine p_step (by exact rfl) (y_moveV (et (gS rfl (gS rfl (gS rfl g0))) rfl)) ?_
                          refine p_step (by exact rfl) (y_moveV (et (gS rfl (gS rfl (gS rfl (gS rfl g0)))) rfl)) ?_
                          refine p_step (by exact rfl) (y_nil (et g0 rfl)) ?_
                          refine p_step (by exact rfl) (y_fld fld_102_2 (et g0 rfl)) ?_
                          refine p_step (by exact rfl) (y_load1 one_100 (et g0 rfl) (atS (kS.cell (rS 9 _ rfl)))) ?_
                          refine p_step (by exact rfl) (y_moveV (et (gS rfl (gS rfl (gS rfl (gS rfl (gS rfl (gS rfl (gS rfl (gS rfl g0)))))))) rfl)) ?_
                          refine p_step (by exact rfl) (y_nil (et g0 rfl)) ?_
                          refine p_step (by exact rfl) (y_fld fld_102_2 (et g0 rfl)) ?_
                          refine p_step (by exact rfl) (y_load1 one_100 (et g0 rfl) (atS (kS.cell (rS 9 _ rfl)))) ?_
                          refine p_step (by exact rfl) (y_len Hvaa.underlying100 (et g0 rfl)) ?_
                          refine p_step (by exact rfl) (y_sub (et g0 rfl) rfl (subIN (y := 1) ?_ ?_)) ?_
                          omega
                          omega
                          refine p_step (by exact rfl) (y_moveV (et (gS rfl (gS rfl (gS rfl (gS rfl (gS rfl (gS rfl (gS rfl (gS rfl (gS rfl (gS rfl (gS rfl (gS rfl (gS rfl (gS rfl g0)))))))))))))) rfl)) ?_
                          refine p_step (by exact rfl) (y_nil (et g0 rfl)) ?_
                          refine p_step (by exact rfl) (y_fld fld_102_2 (et g0 rfl)) ?_
                          refine p_step (by exact rfl) (y_load1 one_100 (et g0 rfl) (atS (kS.cell (rS 9 _ rfl)))) ?_
                          refine p_step (by exact rfl) (y_len Hvaa.underlying100 (et g0 rfl)) ?_
                          refine p_step (by exact rfl) (y_sub (et g0 rfl) rfl (subIN (y := 1) ?_ ?_)) ?_
                          omega
                          omega
                          exact (by
                            refine p_step (by exact rfl) (y_slS011n Hvaa.underlying100 sz_146 (et (gS rfl (gS rfl (gS rfl (gS rfl (gS rfl (gS rfl (gS rfl (gS rfl (gS rfl (gS rfl (gS rfl (gS rfl g0)))))))))))) rfl) (et (gS rfl (gS rfl (gS rfl (gS rfl (gS rfl (gS rfl g0)))))) rfl) (et g0 rfl) ?_ ?_) ?_
                            omega
                            omega
                            refine p_step (by exact rfl) (y_nil (et (gS rfl (gS rfl (gS rfl (gS rfl (gS rfl (gS rfl (gS rfl (gS rfl (gS rfl (gS rfl (gS rfl (gS rfl (gS rfl (gS rfl (gS rfl (gS rfl (gS rfl g0))))))))))))))))) rfl)) ?_
                            refine p_step (by exact rfl) (y_fld fld_102_2 (et g0 rfl)) ?_
                            have rl256 := RowIn.le rS (Nat.succ_pos _)
                            simp only [List.length_cons, List.length_nil, Nat.zero_add, Nat.reduceAdd] at rl256
                            refine p_effN (by exact rfl) (e_store sz_100 (et g0 rfl) (cellsV (et (gS rfl (gS rfl g0)) rfl) rfl) rfl (by first | exact one_bL _ | exact one_uL _ | (intro v hv; simp at hv; subst hv; rfl)) kS (by first | exact Nat.le_trans (by omega) rl256 | exact Nat.le_of_ble_eq_true rfl | (simp; done) | (simp; omega) | omega | (simp only [size_spl, Array.size_setIfInBounds, hs.size]; exact Nat.le_of_ble_eq_true rfl))) (fun v256 w256 h256 => ?_)
                            obtain ⟨rfl, x256⟩ := h256
                            replace k3 := k3.ch x256.ch (by omega)
                            replace kF := kF.ch x256.ch (by omega)
                            replace kL := kL.ch x256.ch (by intro q hq hm; have := dL q hq; omega)
                            replace kM := kM.ch x256.ch (by omega)
                            replace kS := x256.blk
                            replace G := G.wr x256 (.inl (by first | rfl | (simp; done))) nbS
                            replace hF := G.fz
                            replace U := U.st x256 (.inl (by first | rfl | (simp; done)))
                            replace eC := kS.eput eC (by omega)
                            replace rS : RowIn _ _ [.slice aa s.now.accts.length ac, .slice wa s.now.warmA.length wc, .slice sa s.now.warmS.length sc, vr, .slice la s.now.logs.length lc, .slice ta s.now.temps.length tc, .slice ma s.now.made.length mc, .slice ga s.now.gone.length gc, .slice oa s.start.length oc, .slice (some ⟨bf, 0, none⟩) (N - 1) (N - 1), _, .int .u8 (s.phase : Nat), .int .u8 (s.status : Nat), .int .u8 (s.applied : Nat), vlim, vtx, vleft, vpr, vtot] := kS.rput rS 9 rfl
                            replace rOr := kS.rputo rOr (by first | (left; omega) | (right; simp only [List.length_cons, List.length_nil, length_bL, length_be]; omega))
                            replace rMd := kS.rputo rMd (by first | (left; omega) | (right; simp only [List.length_cons, List.length_nil, length_bL, length_be]; omega))
                            refine ⟨.inl rfl, ?_⟩
                            refine p_nil ?_
                            refine hK254 _ _ ?_
                            refine fg6 2 1 0 6 7 8 (gS rfl (gS rfl (gS rfl (gS rfl (gS rfl (gS rfl (gS rfl (gS rfl (gS rfl (gS rfl (gS rfl (gS rfl (gS rfl (gS rfl (gS rfl (gS rfl (gS rfl (gS rfl (gS rfl (gS rfl (gS rfl (gS rfl (gS rfl (gS rfl (gS rfl g0))))))))))))))))))))))))) (gS rfl (gS rfl (gS rfl (gS rfl (gS rfl (gS rfl (gS rfl (gS rfl (gS rfl (gS rfl (gS rfl (gS rfl (gS rfl (gS rfl (gS rfl (gS rfl (gS rfl (gS rfl (gS rfl (gS rfl (gS rfl (gS rfl (gS rfl (gS rfl g0)))))))))))))))))))))))) (gS rfl (gS rfl (gS rfl (gS rfl (gS rfl (gS rfl (gS rfl (gS rfl (gS rfl (gS rfl (gS rfl (gS rfl (gS rfl (gS rfl (gS rfl (gS rfl (gS rfl (gS rfl (gS rfl (gS rfl (gS rfl (gS rfl (gS rfl g0))))))))))))))))))))))) (gS rfl (gS rfl (gS rfl (gS rfl (gS rfl (gS rfl (gS rfl (gS rfl (gS rfl (gS rfl (gS rfl (gS rfl (gS rfl (gS rfl (gS rfl (gS rfl (gS rfl (gS rfl (gS rfl (gS rfl (gS rfl (gS rfl g0)))))))))))))))))))))) (gS rfl (gS rfl (gS rfl (gS rfl (gS rfl (gS rfl (gS rfl (gS rfl (gS rfl (gS rfl (gS rfl (gS rfl (gS rfl (gS rfl (gS rfl (gS rfl (gS rfl (gS rfl (gS rfl (gS rfl (gS rfl g0))))))))))))))))))))) (gS rfl (gS rfl (gS rfl (gS rfl (gS rfl (gS rfl (gS rfl (gS rfl (gS rfl (gS rfl (gS rfl (gS rfl (gS rfl (gS rfl (gS rfl (gS rfl (gS rfl (gS rfl (gS rfl (gS rfl g0)))))))))))))))))))) (fun g => ?_)
                            refine c_seq (fun K257 hK257 => ?_)
                            refine c_seq (fun K258 hK258 => ?_)
                            exact (by
                              refine c_region ?_
                              refine l_step (y_moveV (et (gS rfl (gS rfl (gS rfl g0))) rfl)) ?_
                              refine l_step (y_nil (et g0 rfl)) ?_
                              refine l_step (y_fld fld_102_2 (et g0 rfl)) ?_
                              refine l_step (y_load1 one_100 (et g0 rfl) (at1 (kS.cell (rS 9 _ rfl)))) ?_
                              refine l_step (y_len Hvaa.underlying100 (et g0 rfl)) ?_
                              refine l_step (y_eql (et g0 rfl) rfl) ?_
                              refine l_nil ?_
                              refine hK258 _ _ ?_
                              refine fg7 2 1 0 6 7 8 96 (gS rfl (gS rfl (gS rfl (gS rfl (gS rfl (gS rfl (gS rfl (gS rfl (gS rfl (gS rfl (gS rfl g0))))))))))) (gS rfl (gS rfl (gS rfl (gS rfl (gS rfl (gS rfl (gS rfl (gS rfl (gS rfl (gS rfl g0)))))))))) (gS rfl (gS rfl (gS rfl (gS rfl (gS rfl (gS rfl (gS rfl (gS rfl (gS rfl g0))))))))) (gS rfl (gS rfl (gS rfl (gS rfl (gS rfl (gS rfl (gS rfl (gS rfl g0)))))))) (gS rfl (gS rfl (gS rfl (gS rfl (gS rfl (gS rfl (gS rfl g0))))))) (gS rfl (gS rfl (gS rfl (gS rfl (gS rfl (gS rfl g0)))))) g0 (fun g => ?_)
                              refine c_cond (et g0 rfl) (fun cB6 => ?_) (fun cB6 => ?_)
                              · skip
                                
                                have := of_decide_eq_true cB6; omega
                              · skip
                                
                                refine c_skip ?_
                                refine hK257 _ _ ?_
                                refine fg6 2 1 0 6 7 8 (gS rfl (gS rfl (gS rfl (gS rfl (gS rfl (gS rfl g0)))))) (gS rfl (gS rfl (gS rfl (gS rfl (gS rfl g0))))) (gS rfl (gS rfl (gS rfl (gS rfl g0)))) (gS rfl (gS rfl (gS rfl g0))) (gS rfl (gS rfl g0)) (gS rfl g0) (fun g => ?_)
                                refine c_seq (fun K260 hK260 => ?_)
                                exact (by
                                  refine c_draw Up 12 [(0, true), (1, true), (2, true), (3, true), (4, true), (5, true), (6, true), (7, true), (8, true), (9, true), (10, true), (11, true)] (by kernel_rfl) (fun w261 hu => ⟨Up.refl _, ?_⟩)
                                  replace G := G.tr (Go.ofUp hF hu)
                                  replace hF := hF.up hu
                                  replace k3 := k3.up hu
                                  replace kS := kS.up hu
                                  replace kF := kF.up hu
                                  replace kL := kL.up hu
                                  replace kM := kM.up hu
                                  replace U := U.tr hu
                                  have SU := Up.refl w261
                                  refine p_step (by exact rfl) (y_moveV (et (gS rfl (gS rfl (gS rfl g0))) rfl)) ?_
                                  refine p_step (by exact rfl) (y_nil (et g0 rfl)) ?_
                                  refine p_step (by exact rfl) (y_fld fld_102_2 (et g0 rfl)) ?_
                                  refine p_step (by exact rfl) (y_load1 one_100 (et g0 rfl) (atS (kS.cell (rS 9 _ rfl)))) ?_
                                  refine p_step (by exact rfl) (y_moveV (et (gS rfl (gS rfl (gS rfl (gS rfl (gS rfl (gS rfl (gS rfl g0))))))) rfl)) ?_
                                  refine p_step (by exact rfl) (y_nil (et g0 rfl)) ?_
                                  refine p_step (by exact rfl) (y_fld fld_102_2 (et g0 rfl)) ?_
                                  refine p_step (by exact rfl) (y_load1 one_100 (et g0 rfl) (atS (kS.cell (rS 9 _ rfl)))) ?_
                                  refine p_step (by exact rfl) (y_len Hvaa.underlying100 (et g0 rfl)) ?_
                                  refine p_step (by exact rfl) (y_sub (et g0 rfl) rfl (subIN (y := 1) ?_ ?_)) ?_
                                  omega
                                  omega
                                  refine p_step (by exact rfl) (y_idxSa rfl Hvaa.underlying100 sz_146 (et (gS rfl (gS rfl (gS rfl (gS rfl (gS rfl (gS rfl g0)))))) rfl) (et g0 rfl) ?_) ?_
                                  omega
                                  refine p_step (by exact rfl) (y_assignV (et g0 rfl)) ?_
                                  refine p_nil ?_
                                  refine hK260 _ _ ?_
                                  refine fg6 2 1 6 7 8 10 (gS rfl (gS rfl (gS rfl (gS rfl (gS rfl (gS rfl (gS rfl (gS rfl (gS rfl (gS rfl (gS rfl (gS rfl (gS rfl (gS rfl (gS rfl (gS rfl (gS rfl g0))))))))))))))))) (gS rfl (gS rfl (gS rfl (gS rfl (gS rfl (gS rfl (gS rfl (gS rfl (gS rfl (gS rfl (gS rfl (gS rfl (gS rfl (gS rfl (gS rfl (gS rfl g0)))))))))))))))) (gS rfl (gS rfl (gS rfl (gS rfl (gS rfl (gS rfl (gS rfl (gS rfl (gS rfl (gS rfl (gS rfl (gS rfl (gS rfl (gS rfl g0)))))))))))))) (gS rfl (gS rfl (gS rfl (gS rfl (gS rfl (gS rfl (gS rfl (gS rfl (gS rfl (gS rfl (gS rfl (gS rfl (gS rfl g0))))))))))))) (gS rfl (gS rfl (gS rfl (gS rfl (gS rfl (gS rfl (gS rfl (gS rfl (gS rfl (gS rfl (gS rfl (gS rfl g0)))))))))))) g0 (fun g => ?_)
                                  refine c_seq (fun K262 hK262 => ?_)
                                  exact (by
                                    refine c_region ?_
                                    refine l_step (y_moveV (et g0 rfl)) ?_
                                    refine l_step (y_moveV (et (gS rfl g0) rfl)) ?_
                                    refine l_step (y_nil (et g0 rfl)) ?_
                                    refine l_step (y_fld fld_146_4 (et g0 rfl)) ?_
                                    refine l_step (y_load1 one_95 (et g0 rfl) (at1 (kF.cell (rF 4 _ rfl)))) ?_
                                    refine l_step (y_moveV (et (gS rfl (gS rfl (gS rfl (gS rfl (gS rfl (gS rfl (gS rfl g0))))))) rfl)) ?_
                                    refine l_eff (e_callV cal_34 (aC (et (gS rfl g0) rfl) (aC (et g0 rfl) aN)) (nat_add hF (hGa.mono hL0) (yGa.mono hL0) (bd_sm (bd_lt2 (b := 256 ^ 4) fo.gas (by decide)) (by decide)) (bd_sm (bd_lt2 (b := 256 ^ 4) fo6.gas (by decide)) (by decide)))) (fun v263 w263 h263 => ?_)
                                    obtain ⟨H263, g263, n263⟩ := h263
                                    have hlew263 := g263.le
                                    replace nb3 := g263.nb nb3 k3.lt
                                    replace nbS := g263.nb nbS kS.lt
                                    replace nbF := g263.nb nbF kF.lt
                                    replace nbM := g263.nb nbM (Nat.lt_of_lt_of_le lM U.size)
                                    replace hL0 := hL0.trans hlew263
                                    replace k3 := k3.up g263.up
                                    replace kS := kS.up g263.up
                                    replace kF := kF.up g263.up
                                    replace kL := kL.up g263.up
                                    replace kM := kM.up g263.up
                                    replace U := U.tr g263.up
                                    replace G := G.tr g263
                                    replace hF := g263.fz
                                    have q263 := bd_add (c := 5) (bd_lt2 (b := 256 ^ 4) fo.gas (by decide)) (bd_lt2 (b := 256 ^ 4) fo6.gas (by decide)) (by decide)
                                    refine l_step (y_nil (et (gS rfl (gS rfl (gS rfl (gS rfl (gS rfl (gS rfl g0)))))) rfl)) ?_
                                    refine l_step (y_fld fld_146_4 (et g0 rfl)) ?_
                                    obtain ⟨sa264, sn264, sc264, rfl⟩ := n263.sl
                                    have rl264 := RowIn.le rF (Nat.succ_pos _)
                                    simp only [List.length_cons, List.length_nil, Nat.zero_add, Nat.reduceAdd] at rl264
                                    refine l_effN (e_store sz_95 (et g0 rfl) (cellsV (et (gS rfl (gS rfl g0)) rfl) rfl) rfl (by first | exact one_bL _ | exact one_uL _ | (intro v hv; simp at hv; subst hv; rfl)) kF (by first | exact Nat.le_trans (by omega) rl264 | exact Nat.le_of_ble_eq_true rfl | (simp; done) | (simp; omega) | omega | (simp only [size_spl, Array.size_setIfInBounds, hs.size]; exact Nat.le_of_ble_eq_true rfl))) (fun v264 w264 h264 => ?_)
                                    obtain ⟨rfl, x264⟩ := h264
                                    replace k3 := k3.ch x264.ch (by omega)
                                    replace kS := kS.ch x264.ch (by omega)
                                    replace kL := kL.ch x264.ch (by intro q hq hm; have := dL q hq; omega)
                                    replace kM := kM.ch x264.ch (by omega)
                                    replace kF := x264.blk
                                    replace G := G.wr x264 (.inl (by first | rfl | (simp; done))) nbF
                                    replace hF := G.fz
                                    replace U := U.st x264 (.inl (by first | rfl | (simp; done)))
                                    replace oF := kF.oput oF (by omega) (by omega)
                                    replace rF : RowIn _ _ [.int .u8 (f.kind : Nat), .int .u8 (f.ntv : Nat), .bool f.static, vpc, _, vval, voo, vol, .slice ka f.stack.length kc, vm, .slice ca f.code.length cc, .slice ia f.input.length ic] := kF.rput rF 4 rfl
                                    replace rSe := kF.rputo rSe (by first | (left; omega) | (right; simp only [List.length_cons, List.length_nil, length_bL, length_be, hSv.len]; omega))
                                    replace rCa := kF.rputo rCa (by first | (left; omega) | (right; simp only [List.length_cons, List.length_nil, length_bL, length_be, hSv.len]; omega))
                                    replace rSv := kF.rputo rSv (by first | (left; omega) | (right; simp only [List.length_cons, List.length_nil, length_bL, length_be, hSv.len]; omega))
                                    have hS : lvSt u q l = q := by rw [lvSt, if_neg (fun h => by rw [hcr] at h; exact Bool.false_ne_true h.1)]
                                    have hG : lvGas u q l = u.gas := by rw [lvGas, if_neg (by rw [hS]; exact hq5), if_neg (fun h => by rw [hcr] at h; exact Bool.false_ne_true h.1)]
                                    have hOu : lvOut u q l = l := by rw [lvOut, if_neg (by rw [hS]; rintro (h | h); exact hq5 h; rw [hcr] at h; exact Bool.false_ne_true h.1)]
                                    have hW : lvW s u q l = s.now := by rw [lvW, if_pos (by rw [hS]; exact hq4), if_neg (fun h => by rw [hcr] at h; exact Bool.false_ne_true h.1)]
                                    have hS0 : lvSt u q l = 0 := by rw [hS]; exact hq4
                                    have hgs := lp.gas
                                    rw [hG] at hgs
                                    have hfP : FC H263 _ _ { f with gas := f.gas + u.gas } vm := ⟨⟨fo.kind, fo.ntv, fo.pc, hgs, fo.value, fo.outOff, fo.outLen, fo.self, fo.caller, fo.stack, fo.code, fo.input, fo.mem⟩, _, _, _, _, _, _, _, _, _, _, _, _, rF, rSe, rCa, rSv, hSv.mono hL0, (hPc.mono hL0), n263, (hVa.mono hL0), (hOf.mono hL0), (hOl.mono hL0), (hSt.mono hL0), (hCo.mono hL0), (hIn.mono hL0)⟩
                                    refine l_nil ?_
                                    refine hK262 _ _ ?_
                                    refine fg5 2 1 6 8 10 (gS rfl (gS rfl (gS rfl (gS rfl (gS rfl (gS rfl (gS rfl (gS rfl (gS rfl (gS rfl (gS rfl (gS rfl (gS rfl (gS rfl g0)))))))))))))) (gS rfl (gS rfl (gS rfl (gS rfl (gS rfl (gS rfl (gS rfl (gS rfl (gS rfl (gS rfl (gS rfl (gS rfl (gS rfl g0))))))))))))) (gS rfl (gS rfl (gS rfl (gS rfl (gS rfl (gS rfl (gS rfl (gS rfl (gS rfl (gS rfl (gS rfl (gS rfl g0)))))))))))) (gS rfl (gS rfl (gS rfl (gS rfl (gS rfl (gS rfl (gS rfl (gS rfl (gS rfl (gS rfl g0)))))))))) (gS rfl (gS rfl (gS rfl (gS rfl (gS rfl (gS rfl (gS rfl (gS rfl (gS rfl g0))))))))) (fun g => ?_)
                                    refine c_seq (fun K265 hK265 => ?_)
                                    exact (by
                                      refine c_region ?_
                                      refine l_step y_assignC ?_
                                      refine l_nil ?_
                                      refine hK265 _ _ ?_
                                      refine c_seq (fun K266 hK266 => ?_)
                                      refine c_seq (fun K267 hK267 => ?_)
                                      exact (by
                                        refine c_region ?_
                                        refine l_step (y_moveV (et (gS rfl (gS rfl (gS rfl (gS rfl g0)))) rfl)) ?_
                                        refine l_step (y_eql (et g0 rfl) rfl) ?_
                                        refine l_nil ?_
                                        refine hK267 _ _ ?_
                                        refine fg6 2 6 8 10 11 132 (gS rfl (gS rfl (gS rfl (gS rfl (gS rfl (gS rfl (gS rfl g0))))))) (gS rfl (gS rfl (gS rfl (gS rfl (gS rfl g0))))) (gS rfl (gS rfl (gS rfl (gS rfl g0)))) (gS rfl (gS rfl (gS rfl g0))) (gS rfl (gS rfl g0)) g0 (fun g => ?_)
                                        refine c_cond (et g0 rfl) (fun cB7 => ?_) (fun cB7 => ?_)
                                        · skip
                                          
                                          refine c_seq (fun K269 hK269 => ?_)
                                          exact (by
                                            refine c_region ?_
                                            refine l_eff (e_callV cal_32 (aC (v := .int .u64 ((1 : Nat) : Int)) rfl aN) (yp_num (x := 1) hF (by decide))) (fun v270 w270 h270 => ?_)
                                            obtain ⟨H270, g270, n270⟩ := h270
                                            have hlew270 := g270.le
                                            replace nb3 := g270.nb nb3 k3.lt
                                            replace nbS := g270.nb nbS kS.lt
                                            replace nbF := g270.nb nbF kF.lt
                                            replace nbM := g270.nb nbM (Nat.lt_of_lt_of_le lM U.size)
                                            replace n263 := n263.mono hlew270
                                            replace hfP := hfP.mono hlew270
                                            replace hL0 := hL0.trans hlew270
                                            replace k3 := k3.up g270.up
                                            replace kS := kS.up g270.up
                                            replace kF := kF.up g270.up
                                            replace kL := kL.up g270.up
                                            replace kM := kM.up g270.up
                                            replace U := U.tr g270.up
                                            replace G := G.tr g270
                                            replace hF := g270.fz
                                            have q270 : 1 < 256 ^ 1 := by decide
                                            refine l_step (y_assignV (et g0 rfl)) ?_
                                            refine l_nil ?_
                                            refine hK269 _ _ ?_
                                            refine fg5 2 6 8 10 11 (gS rfl (gS rfl (gS rfl (gS rfl (gS rfl (gS rfl (gS rfl g0))))))) (gS rfl (gS rfl (gS rfl (gS rfl (gS rfl (gS rfl g0)))))) (gS rfl (gS rfl (gS rfl (gS rfl (gS rfl g0))))) (gS rfl (gS rfl (gS rfl (gS rfl g0)))) g0 (fun g => ?_)
                                            refine c_seq (fun K271 hK271 => ?_)
                                            exact (by
                                              refine c_region ?_
                                              refine l_step (y_moveV (et (gS rfl (gS rfl g0)) rfl)) ?_
                                              refine l_nil ?_
                                              refine hK271 _ _ ?_
                                              refine fg5 2 6 10 11 134 (gS rfl (gS rfl (gS rfl (gS rfl (gS rfl g0))))) (gS rfl (gS rfl (gS rfl (gS rfl g0)))) (gS rfl (gS rfl g0)) (gS rfl g0) g0 (fun g => ?_)
                                              refine c_cond (et g0 rfl) (fun cB8 => ?_) (fun cB8 => ?_)
                                              · skip
                                                
                                                rw [hcr] at cB8; cases cB8
                                              · skip
                                                
                                                refine c_skip ?_
                                                refine hK266 _ _ ?_
                                                refine fg3 2 10 11 (gS rfl (gS rfl (gS rfl (gS rfl g0)))) (gS rfl (gS rfl g0)) (gS rfl g0) (fun g => ?_)
                                                refine c_seq (fun K273 hK273 => ?_)
                                                refine c_seq (fun K274 hK274 => ?_)
                                                exact (by
                                                  refine c_region ?_
                                                  refine l_step (y_moveV (et (gS rfl g0) rfl)) ?_
                                                  refine l_step (y_nil (et g0 rfl)) ?_
                                                  refine l_step (y_fld fld_146_7 (et g0 rfl)) ?_
                                                  refine l_step (y_load1 one_95 (et g0 rfl) (at1 (kF.cell (rF 7 _ rfl)))) ?_
                                                  refine l_eff (e_callV cal_24 (aC (et g0 rfl) aN) (yp_small hF (hOl.mono hL0) (bd_sm (bd_W fo.outLen) (by decide)))) (fun v275 w275 h275 => ?_)
                                                  obtain ⟨rfl, u275⟩ := h275
                                                  replace G := G.tr (Go.ofUp hF u275)
                                                  replace hF := hF.up u275
                                                  replace k3 := k3.up u275
                                                  replace kS := kS.up u275
                                                  replace kF := kF.up u275
                                                  replace kL := kL.up u275
                                                  replace kM := kM.up u275
                                                  replace U := U.tr u275
                                                  rw [lo_small lp.outl]
                                                  refine l_step (y_moveV (et (gS rfl (gS rfl (gS rfl (gS rfl (gS rfl (gS rfl (gS rfl g0))))))) rfl)) ?_
                                                  refine l_step (y_len Hvaa.underlying38 (et g0 rfl)) ?_
                                                  refine l_step (y_conv Hvaa.underlying3 Hvaa.underlying26 (et g0 rfl) (wrapU_id uk64 ?_)) ?_
                                                  (omega)
                                                  refine l_step (y_minN (et (gS rfl (gS rfl (gS rfl g0))) rfl) (et g0 rfl)) ?_
                                                  refine l_step (y_assignV (et g0 rfl)) ?_
                                                  refine l_nil ?_
                                                  refine hK274 _ _ ?_
                                                  refine fg4 2 10 11 12 (gS rfl (gS rfl (gS rfl (gS rfl (gS rfl (gS rfl (gS rfl (gS rfl (gS rfl (gS rfl (gS rfl (gS rfl g0)))))))))))) (gS rfl (gS rfl (gS rfl (gS rfl (gS rfl (gS rfl (gS rfl (gS rfl (gS rfl (gS rfl (gS rfl g0))))))))))) (gS rfl (gS rfl (gS rfl (gS rfl (gS rfl (gS rfl (gS rfl (gS rfl (gS rfl (gS rfl g0)))))))))) g0 (fun g => ?_)
                                                  refine c_seq (fun K276 hK276 => ?_)
                                                  exact (by
                                                    refine c_region ?_
                                                    refine l_step (y_moveV (et g0 rfl)) ?_
                                                    refine l_step (y_gtr (et g0 rfl) rfl) ?_
                                                    refine l_nil ?_
                                                    refine hK276 _ _ ?_
                                                    refine fg5 2 10 11 12 148 (gS rfl (gS rfl (gS rfl (gS rfl (gS rfl g0))))) (gS rfl (gS rfl (gS rfl (gS rfl g0)))) (gS rfl (gS rfl (gS rfl g0))) (gS rfl (gS rfl g0)) g0 (fun g => ?_)
                                                    refine c_cond (et g0 rfl) (fun cB9 => ?_) (fun cB9 => ?_)
                                                    · skip
                                                      
                                                      have hb9 : 0 < min f.outLen l.length := by have := of_decide_eq_true cB9; omega
                                                      exact (by
                                                        refine c_draw Up 8 [(0, true), (1, true), (2, true), (3, true), (4, true), (5, true), (6, true), (7, true), (8, false)] (by kernel_rfl) (fun w278 hu => ⟨Up.refl _, ?_⟩)
                                                        replace G := G.tr (Go.ofUp hF hu)
                                                        replace hF := hF.up hu
                                                        replace k3 := k3.up hu
                                                        replace kS := kS.up hu
                                                        replace kF := kF.up hu
                                                        replace kL := kL.up hu
                                                        replace kM := kM.up hu
                                                        replace U := U.tr hu
                                                        have SU := Up.refl w278
                                                        refine p_step (by exact rfl) (y_moveV (et (gS rfl (gS rfl (gS rfl g0))) rfl)) ?_
                                                        refine p_step (by exact rfl) (y_moveV (et (gS rfl (gS rfl (gS rfl (gS rfl g0)))) rfl)) ?_
                                                        refine p_step (by exact rfl) (y_nil (et g0 rfl)) ?_
                                                        refine p_step (by exact rfl) (y_fld fld_146_6 (et g0 rfl)) ?_
                                                        refine p_step (by exact rfl) (y_load1 one_95 (et g0 rfl) (atS (kF.cell (rF 6 _ rfl)))) ?_
                                                        refine p_step (by exact rfl) (y_moveV (et (gS rfl (gS rfl (gS rfl (gS rfl (gS rfl (gS rfl (gS rfl (gS rfl (gS rfl g0))))))))) rfl)) ?_
                                                        refine p_step (by exact rfl) (y_moveV (et (gS rfl (gS rfl (gS rfl (gS rfl (gS rfl (gS rfl (gS rfl g0))))))) rfl)) ?_
                                                        refine p_step (by exact rfl) (y_slS010n Hvaa.underlying38 sz_5 (et (gS rfl g0) rfl) (et g0 rfl) ?_) ?_
                                                        omega
                                                        refine p_eff (by exact rfl) (e_callV cal_142 (aC (et (gS rfl (gS rfl (gS rfl (gS rfl (gS rfl (gS rfl (gS rfl g0))))))) rfl) (aC (et (gS rfl (gS rfl (gS rfl g0))) rfl) (aC (et g0 rfl) aN))) (yp_write hF _ _ _ _ _ kF hfP _ kM (Nat.lt_of_lt_of_le lM U.size) dMF nbM (hOf.mono hL0) (bd_up (bd_W fo.outOff) (by decide)) ((hO.mono hL0).take (Nat.min_le_right _ _)))) (fun v279 w279 h279 => ?_)
                                                        obtain ⟨rfl, H279, g279, mb279⟩ := h279
                                                        have hlew279 := g279.le
                                                        replace nb3 := g279.nb nb3 k3.lt
                                                        replace nbS := g279.nb nbS kS.lt
                                                        replace nbF := g279.nb nbF kF.lt
                                                        replace nbM := g279.nb nbM (Nat.lt_of_lt_of_le lM U.size)
                                                        replace n263 := n263.mono hlew279
                                                        replace hfP := hfP.mono hlew279
                                                        replace n270 := n270.mono hlew279
                                                        replace hL0 := hL0.trans hlew279
                                                        replace k3 := k3.ch g279.ch (by omega)
                                                        replace kS := kS.ch g279.ch (by omega)
                                                        replace kF := kF.ch g279.ch (by omega)
                                                        replace kL := kL.ch g279.ch (by intro q hq hm; have := dL q hq; omega)
                                                        replace kM := mb279
                                                        replace U := U.cc g279.ch (by intro b hb; first | omega | exact .inl hb | exact .inr (hb ▸ U))
                                                        replace G := G.trans g279 (by intro b hb; first | omega | exact .inl hb | (simp at hb ⊢; omega))
                                                        replace hF := g279.fz
                                                        have hfQ := hfP.setmem (m := wrN f.mem f.outOff (List.take (min f.outLen l.length) l)) (by rw [len_wr]; exact fo.mem)
                                                        refine ⟨.inl rfl, ?_⟩
                                                        refine p_nil ?_
                                                        refine hK273 _ _ ?_
                                                        refine fg2 10 11 (gS rfl (gS rfl (gS rfl (gS rfl (gS rfl (gS rfl (gS rfl (gS rfl (gS rfl (gS rfl (gS rfl (gS rfl g0)))))))))))) (gS rfl (gS rfl (gS rfl (gS rfl (gS rfl (gS rfl (gS rfl (gS rfl (gS rfl (gS rfl (gS rfl g0))))))))))) (fun g => ?_)
                                                        refine c_region ?_
                                                        exact (by
                                                          refine l_step (y_moveV (et (gS rfl g0) rfl)) ?_
                                                          refine l_step (y_moveV (et (gS rfl g0) rfl)) ?_
                                                          refine l_eff (e_callV cal_143 (aC (et (gS rfl g0) rfl) (aC (v := .int .i64 ((0 : Nat) : Int)) rfl (aC (et g0 rfl) aN))) (yp_answer hF _ _ _ _ _ kF hfQ nbF 0 (Nat.zero_le _) lp.stk lp.pc n270 (W_bd (bd_up q270 (by decide))))) (fun v280 w280 h280 => ?_)
                                                          obtain ⟨rfl, fs280, H280, g280, kf280, fc280, of280⟩ := h280
                                                          have hlew280 := g280.le
                                                          replace nb3 := g280.nb nb3 k3.lt
                                                          replace nbS := g280.nb nbS kS.lt
                                                          replace nbF := g280.nb nbF kF.lt
                                                          replace nbM := g280.nb nbM (Nat.lt_of_lt_of_le lM U.size)
                                                          replace n263 := n263.mono hlew280
                                                          replace hfP := hfP.mono hlew280
                                                          replace n270 := n270.mono hlew280
                                                          replace hfQ := hfQ.mono hlew280
                                                          replace hL0 := hL0.trans hlew280
                                                          replace k3 := k3.ch g280.ch (by omega)
                                                          replace kS := kS.ch g280.ch (by omega)
                                                          replace kL := kL.ch g280.ch (by intro q hq hm; have := dL q hq; omega)
                                                          replace kM := kM.ch g280.ch (by omega)
                                                          replace kF := kf280
                                                          replace U := U.cc g280.ch (by intro b hb; first | omega | exact .inl hb | exact .inr (hb ▸ U))
                                                          replace G := G.trans g280 (by intro b hb; first | omega | exact .inl hb | (simp at hb ⊢; omega))
                                                          replace hF := g280.fz
                                                          refine l_nil ?_
                                                          refine end0 rfl ?_
                                                          have hS : lvSt u q l = q := by rw [lvSt, if_neg (fun h => by rw [hcr] at h; exact Bool.false_ne_true h.1)]
                                                          have hG : lvGas u q l = u.gas := by rw [lvGas, if_neg (by rw [hS]; exact hq5), if_neg (fun h => by rw [hcr] at h; exact Bool.false_ne_true h.1)]
                                                          have hOu : lvOut u q l = l := by rw [lvOut, if_neg (by rw [hS]; rintro (h | h); exact hq5 h; rw [hcr] at h; exact Bool.false_ne_true h.1)]
                                                          have hW : lvW s u q l = s.now := by rw [lvW, if_pos (by rw [hS]; exact hq4), if_neg (fun h => by rw [hcr] at h; exact Bool.false_ne_true h.1)]
                                                          have hS0 : lvSt u q l = 0 := by rw [hS]; exact hq4
                                                          have hFl : lvFlag u q l = 1 := by rw [lvFlag, if_pos hS0, if_neg (by rw [hcr]; exact Bool.false_ne_true)]
                                                          have hMm : lvMem f u q l = (wrN f.mem f.outOff (List.take (min f.outLen l.length) l)) := by rw [lvMem, hOu, if_pos hb9]
                                                          have eP : lvP f u q l = ansN { f with gas := f.gas + u.gas, mem := (wrN f.mem f.outOff (List.take (min f.outLen l.length) l)) } 0 1 := by rw [lvP, hG, hMm, hFl]
                                                          have eS : lvS2 s u q l = { s with now := s.now, ret := l } := by rw [lvS2, hW, hOu]
                                                          rw [eS, hW, eP]
                                                          exact ⟨rfl, _, _, _, _, G, kS, ⟨⟨so.accts, so.warmA, so.warmS, so.refund, so.logs, so.temps, so.made, so.gone, so.start, hl9, so.phase, so.status, so.applied, so.limit, so.txGas, so.left, so.price, so.total, so.origin, so.mad⟩, eC.mono hL0, (by simp only [size_spl, Array.size_setIfInBounds]; exact hs.size), _, _, _, _, _, _, _, _, _, _, _, _, _, _, _, _, _, _, _, _, _, _, _, _, rS, rOr, rMd, (hAc.mono hL0), (hWA.mono hL0), (hWS.mono hL0), (hRf.mono hL0), (hTm.mono hL0), (hMd.mono hL0), (hGn.mono hL0), (hSr.mono hL0), (hO.mono hL0), (hLm.mono hL0), (hTx.mono hL0), (hLf.mono hL0), (hPr.mono hL0), (hTt.mono hL0)⟩, kF, fc280, oF.trans of280, kM, by rw [if_pos hS0]; exact kL.mono hL0, ((rS 4 _ rfl).trans (hv4.symm.trans hvl))⟩))
                                                    · skip
                                                      
                                                      have hb9 : ¬ 0 < min f.outLen l.length := by have := of_decide_eq_false cB9; omega
                                                      refine c_skip ?_
                                                      refine hK273 _ _ ?_
                                                      refine fg2 10 11 (gS rfl (gS rfl (gS rfl g0))) (gS rfl (gS rfl g0)) (fun g => ?_)
                                                      refine c_region ?_
                                                      refine l_step (y_moveV (et (gS rfl g0) rfl)) ?_
                                                      refine l_step (y_moveV (et (gS rfl g0) rfl)) ?_
                                                      refine l_eff (e_callV cal_143 (aC (et (gS rfl g0) rfl) (aC (v := .int .i64 ((0 : Nat) : Int)) rfl (aC (et g0 rfl) aN))) (yp_answer hF _ _ _ _ _ kF hfP nbF 0 (Nat.zero_le _) lp.stk lp.pc n270 (W_bd (bd_up q270 (by decide))))) (fun v281 w281 h281 => ?_)
                                                      obtain ⟨rfl, fs281, H281, g281, kf281, fc281, of281⟩ := h281
                                                      have hlew281 := g281.le
                                                      replace nb3 := g281.nb nb3 k3.lt
                                                      replace nbS := g281.nb nbS kS.lt
                                                      replace nbF := g281.nb nbF kF.lt
                                                      replace nbM := g281.nb nbM (Nat.lt_of_lt_of_le lM U.size)
                                                      replace n263 := n263.mono hlew281
                                                      replace hfP := hfP.mono hlew281
                                                      replace n270 := n270.mono hlew281
                                                      replace hL0 := hL0.trans hlew281
                                                      replace k3 := k3.ch g281.ch (by omega)
                                                      replace kS := kS.ch g281.ch (by omega)
                                                      replace kL := kL.ch g281.ch (by intro q hq hm; have := dL q hq; omega)
                                                      replace kM := kM.ch g281.ch (by omega)
                                                      replace kF := kf281
                                                      replace U := U.cc g281.ch (by intro b hb; first | omega | exact .inl hb | exact .inr (hb ▸ U))
                                                      replace G := G.trans g281 (by intro b hb; first | omega | exact .inl hb | (simp at hb ⊢; omega))
                                                      replace hF := g281.fz
                                                      refine l_nil ?_
                                                      refine end0 rfl ?_
                                                      have hS : lvSt u q l = q := by rw [lvSt, if_neg (fun h => by rw [hcr] at h; exact Bool.false_ne_true h.1)]
                                                      have hG : lvGas u q l = u.gas := by rw [lvGas, if_neg (by rw [hS]; exact hq5), if_neg (fun h => by rw [hcr] at h; exact Bool.false_ne_true h.1)]
                                                      have hOu : lvOut u q l = l := by rw [lvOut, if_neg (by rw [hS]; rintro (h | h); exact hq5 h; rw [hcr] at h; exact Bool.false_ne_true h.1)]
                                                      have hW : lvW s u q l = s.now := by rw [lvW, if_pos (by rw [hS]; exact hq4), if_neg (fun h => by rw [hcr] at h; exact Bool.false_ne_true h.1)]
                                                      have hS0 : lvSt u q l = 0 := by rw [hS]; exact hq4
                                                      have hFl : lvFlag u q l = 1 := by rw [lvFlag, if_pos hS0, if_neg (by rw [hcr]; exact Bool.false_ne_true)]
                                                      have hMm : lvMem f u q l = f.mem := by rw [lvMem, hOu, if_neg hb9]
                                                      have eP : lvP f u q l = ansN { f with gas := f.gas + u.gas, mem := f.mem } 0 1 := by rw [lvP, hG, hMm, hFl]
                                                      have eS : lvS2 s u q l = { s with now := s.now, ret := l } := by rw [lvS2, hW, hOu]
                                                      rw [eS, hW, eP]
                                                      exact ⟨rfl, _, _, _, _, G, kS, ⟨⟨so.accts, so.warmA, so.warmS, so.refund, so.logs, so.temps, so.made, so.gone, so.start, hl9, so.phase, so.status, so.applied, so.limit, so.txGas, so.left, so.price, so.total, so.origin, so.mad⟩, eC.mono hL0, (by simp only [size_spl, Array.size_setIfInBounds]; exact hs.size), _, _, _, _, _, _, _, _, _, _, _, _, _, _, _, _, _, _, _, _, _, _, _, _, rS, rOr, rMd, (hAc.mono hL0), (hWA.mono hL0), (hWS.mono hL0), (hRf.mono hL0), (hTm.mono hL0), (hMd.mono hL0), (hGn.mono hL0), (hSr.mono hL0), (hO.mono hL0), (hLm.mono hL0), (hTx.mono hL0), (hLf.mono hL0), (hPr.mono hL0), (hTt.mono hL0)⟩, kF, fc281, oF.trans of281, kM, by rw [if_pos hS0]; exact kL.mono hL0, ((rS 4 _ rfl).trans (hv4.symm.trans hvl))⟩))))
                                        · skip
                                          
                                          have := of_decide_eq_false cB7; omega)))))))))))))))
end Go.Proofs.YgvaawGreat
