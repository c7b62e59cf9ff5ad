import Derived.Test.YgvaawGreatY38
set_option maxRecDepth 100000
set_option maxHeartbeats 4000000
set_option linter.unusedSimpArgs false
set_option linter.unusedVariables false
namespace Go.Proofs.YgvaawGreat
open Go
/-- SELFDESTRUCT -/
def desT (f : YF) : Nat := argN f.stack 0 % A160
def desA (s : YSt) (f : YF) : List YAcct := if desT f ≠ f.self then moveA s.now.accts f.self (desT f) (acctAt s.now.accts f.self).bal else s.now.accts
def desS (s : YSt) (f : YF) : YSt := { s with now := { s.now with warmA := withA s.now.warmA (desT f), accts := desA s f, gone := if f.self ∈ s.now.made then withA s.now.gone f.self else s.now.gone } }
structure DesH (s : YSt) (f : YF) (low : List YF) : Prop where
  len : low.length < 59998
  warmA : s.now.warmA.length < 1000000
  accts : s.now.accts.length < 1000000
  gone : s.now.gone.length < 1000000
  sum : desT f ≠ f.self → (acctAt (takeB s.now.accts f.self (acctAt s.now.accts f.self).bal) (desT f)).bal + (acctAt s.now.accts f.self).bal < W256
  b1 : LvH (desS s f) f []
  p1 : ∀ p, low.getLast? = some p → LvP p f 0 []
theorem yp_destroys {w : World} {H : Store} (hF : Fz w H) {bs bf : Nat} {s : YSt} {Y : Nat → Prop} {low : List YF} {f : YF} (hY : YM w H bs s Y bf) (hfr : s.frames = low ++ [f]) (nh : DesH s f low) :
    Ret 64 [.pointer (some ⟨bs, 0, none⟩), .pointer (some ⟨bf, low.length * 60, none⟩)] w (fun v w' => v = .tuple #[] ∧ ∃ H' bf', Go Y w H w' H' ∧ YM w' H' bs (lvY (desS s f) f 0 [] low) (fun b => Y b ∨ w.heap.size ≤ b) bf') := by
  obtain ⟨cs, fs, cap, vm, bm, msl, ol, vl, yt⟩ := hY.top hfr
  have kS := yt.kS
  have hs := yt.hs
  have kF := yt.kF
  have hf := yt.hf
  have kM := yt.kM
  have kR := yt.kR
  have kL := yt.kL
  have hvl := yt.hvl
  have nbS := yt.nbS
  have nbF := yt.nbF
  have nbM := yt.nbM
  have lM := yt.lM
  have dSF := yt.dSF
  have dMF := yt.dMF
  have dSM := yt.dSM
  have dL := yt.dL
  have dR := yt.dR
  have hcp := yt.hc.1
  have yOwn : ∀ b, (b = bs ∨ b = bf ∨ b = bm ∨ ol = some b) → Y b := fun b hb => hb.elim (fun e => e ▸ yt.yS) (fun hb => hb.elim (fun e => e ▸ yt.yF) (fun hb => hb.elim (fun e => e ▸ yt.yM) (yt.yL b)))
  obtain ⟨am, rfl⟩ := kM.val
  obtain ⟨aa, ac, wa, wc, sa, sc, vr, la, lc, ta, tc, ma, mc, ga, gc, oa, oc, ra, rc, vlim, vtx, vleft, vpr, vtot, rS, rOr, rMd, hAc, hWA, hWS, hRf, hTm, hMd, hGn, hSr, hRt, hLm, hTx, hLf, hPr, hTt⟩ := hs.ex
  have so := hs.ok
  have so1 := so.accts
  have so2 := so.warmA
  have so3 := so.warmS
  have so4 := so.temps
  have so5 := so.start
  have so6 := so.logs
  have so7 := so.made
  have so8 := so.gone
  have so9 := so.ret
  have eC := hs.env
  obtain ⟨vpc, vgas, vval, voo, vol, ka, kc, ca, cc, ia, ic, svc, rF, rSe, rCa, rSv, hSv, hPc, hGa, hVa, hOf, hOl, hSt, hCo, hIn⟩ := hf.ex
  have fo := hf.ok
  have fo1 := fo.stack
  have fo2 := fo.code
  have fo3 := fo.input
  have fo4 := fo.mem
  have lS := kS.lt
  have lF := kF.lt
  have hv4 := rS 4 _ rfl
  have oF := Out.refl fs (low.length * 60) 60
  refine enter (n := 63) Hvaa.func64 rfl rfl (Nat.le_of_ble_eq_true rfl) ?_
  have U : Ch (fun k => Y k) w w := Ch.refl _ w
  have G : Go (fun k => Y k) w H w H := Go.refl hF
  have hL0 : Le H H := Le.refl H
  refine c_seq (fun K1 hK1 => ?_)
  exact (by
    refine c_region ?_
    refine l_step (y_moveV (et (gS rfl g0) rfl)) ?_
    refine l_eff (e_callV cal_63 (aC (et g0 rfl) (aC (v := .int .i64 ((0 : Nat) : Int)) rfl aN)) (yp_arg _ _ 0 _ _ _ _ _ _ hF kF (rF 8 _ rfl) (hSt.mono hL0) (by omega) (by first | decide | omega))) (fun v2 w2 h2 => ?_)
    obtain ⟨u2, n2, q2⟩ := h2
    replace G := G.tr (Go.ofUp hF u2)
    replace hF := hF.up u2
    replace kS := kS.up u2
    replace kF := kF.up u2
    replace kM := kM.up u2
    replace kL := kL.up u2
    replace kR := kR.up u2
    replace U := U.tr u2
    refine l_eff (e_callV cal_147 (aC (et g0 rfl) aN) (yp_addrOf hF n2 (bd_up (bd_W q2) (by decide)))) (fun v3 w3 h3 => ?_)
    obtain ⟨rfl, u3⟩ := h3
    replace G := G.tr (Go.ofUp hF u3)
    replace hF := hF.up u3
    replace kS := kS.up u3
    replace kF := kF.up u3
    replace kM := kM.up u3
    replace kL := kL.up u3
    replace kR := kR.up u3
    replace U := U.tr u3
    refine l_eff (e_alloc zr_25) (fun v4 w4 h4 => ?_)
    obtain ⟨b4, rfl, n4⟩ := h4
    have f4 : w.heap.size ≤ b4 := Nat.le_trans U.size n4.fresh
    have nb4 := hF.nb n4.fresh
    replace G := G.tr (Go.ofUp hF n4.up)
    replace hF := hF.up n4.up
    replace kS := kS.up n4.up
    replace kF := kF.up n4.up
    replace kM := kM.up n4.up
    replace kL := kL.up n4.up
    replace kR := kR.up n4.up
    replace U := U.tr n4.up
    have k4 := n4.blk
    exact (by
      refine l_effN (e_store sz_25 (et g0 rfl) (cellsV (et (gS rfl g0) rfl) rfl) (by rw [length_bL, length_be]) (by exact one_bL _) k4 (by exact Nat.le_of_ble_eq_true rfl)) (fun v5 w5 h5 => ?_)
      obtain ⟨rfl, x5⟩ := h5
      replace kS := kS.ch x5.ch (by first | omega | (omega))
      replace kF := kF.ch x5.ch (by first | omega | (omega))
      replace kM := kM.ch x5.ch (by first | omega | (omega))
      replace kL := kL.ch x5.ch (by first | omega | (intro q hq hm; have := dL q hq; omega))
      replace kR := kR.ch x5.ch (by first | omega | (intro m hm; have := dR m hm; omega))
      replace k4 := x5.blk.full (by rw [length_bL, length_be]; rfl)
      replace G := G.wr x5 (by first | exact .inr f4 | omega | (simp; omega)) nb4
      replace hF := G.fz
      replace U := U.st x5 (.inr f4)
      refine l_nil ?_
      refine hK1 _ _ ?_
      refine fg3 1 0 4 (gS rfl (gS rfl (gS rfl (gS rfl (gS rfl g0))))) (gS rfl (gS rfl (gS rfl (gS rfl g0)))) g0 (fun g => ?_)
      refine c_seq (fun K6 hK6 => ?_)
      exact (by
        refine c_draw Up 4 [(0, true), (1, true), (2, true), (3, true), (4, false)] (by kernel_rfl) (fun w7 hu => ⟨Up.refl _, ?_⟩)
        replace G := G.tr (Go.ofUp hF hu)
        replace hF := hF.up hu
        replace k4 := k4.up hu
        replace kS := kS.up hu
        replace kF := kF.up hu
        replace kM := kM.up hu
        replace kL := kL.up hu
        replace kR := kR.up hu
        replace U := U.tr hu
        have SU := Up.refl w7
        refine p_step (by exact rfl) (y_moveV (et (gS rfl g0) rfl)) ?_
        refine p_step (by exact rfl) (y_nil (et g0 rfl)) ?_
        refine p_step (by exact rfl) (y_fld fld_102_0 (et g0 rfl)) ?_
        refine p_step (by exact rfl) (y_loadB agg_25 sz_25 (et (gS rfl (gS rfl (gS rfl g0))) rfl) (by rw [List.size_toArray, length_bL, length_be]) (atSB k4)) ?_
        refine p_eff (by exact rfl) (e_callV cal_51 (aC (et (gS rfl g0) rfl) (aC (et g0 rfl) aN)) (yp_warm _ _ _ _ _ _ _ _ _ hF kS nbS (rS 1 _ rfl) (hWA.mono hL0) (Nat.mod_lt _ A160_pos) (by omega))) (fun v8 w8 h8 => ?_)
        obtain ⟨rfl, z8, H8, g8, lv8, kx8⟩ := h8
        have hlew8 := g8.le
        replace nb4 := g8.nb nb4 k4.lt
        replace nbS := g8.nb nbS kS.lt
        replace nbF := g8.nb nbF kF.lt
        replace nbM := g8.nb nbM (Nat.lt_of_lt_of_le lM U.size)
        replace n2 := n2.mono hlew8
        replace hL0 := hL0.trans hlew8
        replace k4 := k4.ch g8.ch (by omega)
        replace kF := kF.ch g8.ch (by omega)
        replace kM := kM.ch g8.ch (by omega)
        replace kL := kL.ch g8.ch (by intro q hq hm; have := dL q hq; omega)
        replace kR := kR.ch g8.ch (by intro m hm; have := dR m hm; omega)
        replace kS := kx8
        replace U := U.cc g8.ch (by intro b hb; first | exact .inl hb | exact .inl (yOwn b (.inl hb)) | exact .inl (yOwn b (.inr (.inl hb))) | exact .inl (yOwn b (.inr (.inr (.inl hb)))) | exact .inl (yOwn b (.inr (.inr (.inr hb)))) | exact .inl (yOwn b hb) | exact .inl (yOwn b (hb.elim .inl (fun e => .inr (.inr (.inr e))))) | exact hb | exact .inr (by omega))
        replace G := G.trans g8 (by intro b hb; first | exact .inl hb | exact .inl (yOwn b (.inl hb)) | exact .inl (yOwn b (.inr (.inl hb))) | exact .inl (yOwn b (.inr (.inr (.inl hb)))) | exact .inl (yOwn b (.inr (.inr (.inr hb)))) | exact .inl (yOwn b hb) | exact .inl (yOwn b (hb.elim .inl (fun e => .inr (.inr (.inr e))))) | exact hb | exact .inr (by omega))
        replace hF := g8.fz
        obtain ⟨xa8, xc8, rfl, hxl8, hxc8⟩ := lv8.val
        replace eC := kS.eset eC (by omega)
        replace rS : RowIn _ _ [.slice aa s.now.accts.length ac, _, .slice sa s.now.warmS.length sc, vr, .slice la s.now.logs.length lc, .slice ta s.now.temps.length tc, .slice ma s.now.made.length mc, .slice ga s.now.gone.length gc, .slice oa s.start.length oc, .slice (some ⟨bf, 0, none⟩) (low.length + 1) cap, .slice ra s.ret.length rc, .int .u8 (s.phase : Nat), .int .u8 (s.status : Nat), .int .u8 (s.applied : Nat), vlim, vtx, vleft, vpr, vtot] := kS.rset rS 1 rfl
        replace rOr := kS.rseto rOr (by first | (left; omega) | (right; simp only [List.length_cons, List.length_nil, length_bL, length_be]; omega))
        replace rMd := kS.rseto rMd (by first | (left; omega) | (right; simp only [List.length_cons, List.length_nil, length_bL, length_be]; omega))
        refine ⟨.inl rfl, ?_⟩
        refine p_nil ?_
        refine hK6 _ _ ?_
        refine fg3 1 0 4 (gS rfl (gS rfl (gS rfl (gS rfl (gS rfl (gS rfl (gS rfl g0))))))) (gS rfl (gS rfl (gS rfl (gS rfl (gS rfl (gS rfl g0)))))) (gS rfl (gS rfl (gS rfl (gS rfl (gS rfl g0))))) (fun g => ?_)
        refine c_seq (fun K9 hK9 => ?_)
        refine c_seq (fun K10 hK10 => ?_)
        exact (by
          refine c_draw Up 6 [(0, true), (1, true), (2, true), (3, true), (4, true), (5, true)] (by kernel_rfl) (fun w11 hu => ⟨Up.refl _, ?_⟩)
          replace G := G.tr (Go.ofUp hF hu)
          replace hF := hF.up hu
          replace k4 := k4.up hu
          replace kS := kS.up hu
          replace kF := kF.up hu
          replace kM := kM.up hu
          replace kL := kL.up hu
          replace kR := kR.up hu
          replace U := U.tr hu
          have SU := Up.refl w11
          refine p_step (by exact rfl) (y_loadB agg_25 sz_25 (et g0 rfl) (by rw [List.size_toArray, length_bL, length_be]) (atSB k4)) ?_
          refine p_step (by exact rfl) (y_moveV (et (gS rfl (gS rfl (gS rfl g0))) rfl)) ?_
          refine p_step (by exact rfl) (y_nil (et g0 rfl)) ?_
          refine p_step (by exact rfl) (y_fld fld_146_12 (et g0 rfl)) ?_
          refine p_step (by exact rfl) (y_loadR agg_25 sz_25 (et g0 rfl) (by rw [length_bL, length_be]) (atSR (kF.row rSe))) ?_
          refine p_step (by exact rfl) (y_neqAddr (Nat.mod_lt _ A160_pos) fo.self (et (gS rfl (gS rfl (gS rfl (gS rfl g0)))) rfl) (et g0 rfl)) ?_
          refine p_nil ?_
          refine hK10 _ _ ?_
          refine fg4 1 0 4 18 (gS rfl (gS rfl (gS rfl (gS rfl (gS rfl (gS rfl (gS rfl (gS rfl g0)))))))) (gS rfl (gS rfl (gS rfl (gS rfl (gS rfl (gS rfl (gS rfl g0))))))) (gS rfl (gS rfl (gS rfl (gS rfl (gS rfl (gS rfl g0)))))) g0 (fun g => ?_)
          refine c_cond (et g0 rfl) (fun cB1 => ?_) (fun cB1 => ?_)
          · skip
            
            have hts : desT f ≠ f.self := by simp at cB1; exact cB1
            exact (by
              refine c_draw Up 17 [(0, true), (1, true), (2, true), (3, true), (4, true), (5, true), (6, true), (7, true), (8, true), (9, true), (10, true), (11, true), (12, true), (13, true), (14, true), (15, false), (16, true), (17, false)] (by kernel_rfl) (fun w13 hu => ⟨Up.refl _, ?_⟩)
              replace G := G.tr (Go.ofUp hF hu)
              replace hF := hF.up hu
              replace k4 := k4.up hu
              replace kS := kS.up hu
              replace kF := kF.up hu
              replace kM := kM.up hu
              replace kL := kL.up hu
              replace kR := kR.up hu
              replace U := U.tr hu
              have SU := Up.refl w13
              refine p_step (by exact rfl) (y_moveV (et (gS rfl (gS rfl g0)) rfl)) ?_
              refine p_step (by exact rfl) (y_nil (et g0 rfl)) ?_
              refine p_step (by exact rfl) (y_fld fld_102_0 (et g0 rfl)) ?_
              refine p_step (by exact rfl) (y_moveV (et (gS rfl (gS rfl (gS rfl (gS rfl (gS rfl (gS rfl g0)))))) rfl)) ?_
              refine p_step (by exact rfl) (y_nil (et g0 rfl)) ?_
              refine p_step (by exact rfl) (y_fld fld_146_12 (et g0 rfl)) ?_
              refine p_step (by exact rfl) (y_loadR agg_25 sz_25 (et g0 rfl) (by rw [length_bL, length_be]) (atSR (kF.row rSe))) ?_
              refine p_step (by exact rfl) (y_loadB agg_25 sz_25 (et (gS rfl (gS rfl (gS rfl (gS rfl (gS rfl (gS rfl (gS rfl (gS rfl g0)))))))) rfl) (by rw [List.size_toArray, length_bL, length_be]) (atSB k4)) ?_
              refine p_step (by exact rfl) (y_moveV (et (gS rfl (gS rfl (gS rfl (gS rfl (gS rfl (gS rfl (gS rfl (gS rfl (gS rfl (gS rfl g0)))))))))) rfl)) ?_
              refine p_step (by exact rfl) (y_nil (et g0 rfl)) ?_
              refine p_step (by exact rfl) (y_fld fld_102_0 (et g0 rfl)) ?_
              refine p_step (by exact rfl) (y_moveV (et (gS rfl (gS rfl (gS rfl (gS rfl (gS rfl (gS rfl (gS rfl (gS rfl (gS rfl (gS rfl (gS rfl (gS rfl (gS rfl (gS rfl g0)))))))))))))) rfl)) ?_
              refine p_step (by exact rfl) (y_nil (et g0 rfl)) ?_
              refine p_step (by exact rfl) (y_fld fld_146_12 (et g0 rfl)) ?_
              refine p_step (by exact rfl) (y_loadR agg_25 sz_25 (et g0 rfl) (by rw [length_bL, length_be]) (atSR (kF.row rSe))) ?_
              refine p_eff (by exact rfl) (e_callV cal_43 (aC (et (gS rfl (gS rfl (gS rfl (gS rfl g0)))) rfl) (aC (et g0 rfl) aN)) (yp_account _ _ _ _ _ _ _ _ _ hF kS (rS 0 _ rfl) (hAc.mono hL0) fo.self (by omega))) (fun v14 w14 h14 => ?_)
              obtain ⟨c14, rfl, p14, u14⟩ := h14
              replace G := G.tr (Go.ofUp hF u14)
              replace hF := hF.up u14
              replace k4 := k4.up u14
              replace kS := kS.up u14
              replace kF := kF.up u14
              replace kM := kM.up u14
              replace kL := kL.up u14
              replace kR := kR.up u14
              replace U := U.tr u14
              replace p14 : PA _ _ _ := ⟨p14⟩
              refine ⟨.inr (SU.tr u14), ?_⟩
              replace SU := SU.tr u14
              exact (by
                obtain ⟨vn15, vb15, vc15, vs15, hc15, hn15, hbb15, hcd15, hb115, hb215⟩ := acct_form p14.p
                rw [hc15]
                refine p_step (by exact rfl) (y_fldV (f := 2) Hvaa.underlying107 rfl rfl rfl one_95 (et g0 rfl) ((app20 (i := 1) rfl).trans rfl)) ?_
                refine p_eff (by exact rfl) (e_callV cal_133 (aC (et (gS rfl (gS rfl (gS rfl (gS rfl (gS rfl (gS rfl (gS rfl (gS rfl (gS rfl (gS rfl (gS rfl (gS rfl (gS rfl (gS rfl g0)))))))))))))) rfl) (aC (et (gS rfl (gS rfl (gS rfl (gS rfl (gS rfl (gS rfl (gS rfl (gS rfl (gS rfl (gS rfl g0)))))))))) rfl) (aC (et (gS rfl (gS rfl (gS rfl (gS rfl (gS rfl (gS rfl (gS rfl (gS rfl (gS rfl g0))))))))) rfl) (aC (et g0 rfl) aN)))) (yp_move _ _ _ _ _ _ _ _ _ _ _ hF kS nbS (rS 0 _ rfl) (hAc.mono hL0) fo.self (Nat.mod_lt _ A160_pos) (by omega) hbb15 (bd_up (bd_W hb215) (by decide)) (nh.sum hts))) (fun v16 w16 h16 => ?_)
                obtain ⟨rfl, z16, H16, g16, lv16, kx16⟩ := h16
                have hlew16 := g16.le
                replace nb4 := g16.nb nb4 k4.lt
                replace nbS := g16.nb nbS kS.lt
                replace nbF := g16.nb nbF kF.lt
                replace nbM := g16.nb nbM (Nat.lt_of_lt_of_le lM U.size)
                replace n2 := n2.mono hlew16
                replace lv8 := lv8.mono hlew16
                replace p14 := p14.mono hlew16
                replace hn15 := hn15.mono hlew16
                replace hbb15 := hbb15.mono hlew16
                replace hcd15 := hcd15.mono hlew16
                replace hL0 := hL0.trans hlew16
                replace k4 := k4.ch g16.ch (by omega)
                replace kF := kF.ch g16.ch (by omega)
                replace kM := kM.ch g16.ch (by omega)
                replace kL := kL.ch g16.ch (by intro q hq hm; have := dL q hq; omega)
                replace kR := kR.ch g16.ch (by intro m hm; have := dR m hm; omega)
                replace kS := kx16
                replace U := U.cc g16.ch (by intro b hb; first | exact .inl hb | exact .inl (yOwn b (.inl hb)) | exact .inl (yOwn b (.inr (.inl hb))) | exact .inl (yOwn b (.inr (.inr (.inl hb)))) | exact .inl (yOwn b (.inr (.inr (.inr hb)))) | exact .inl (yOwn b hb) | exact .inl (yOwn b (hb.elim .inl (fun e => .inr (.inr (.inr e))))) | exact hb | exact .inr (by omega))
                replace G := G.trans g16 (by intro b hb; first | exact .inl hb | exact .inl (yOwn b (.inl hb)) | exact .inl (yOwn b (.inr (.inl hb))) | exact .inl (yOwn b (.inr (.inr (.inl hb)))) | exact .inl (yOwn b (.inr (.inr (.inr hb)))) | exact .inl (yOwn b hb) | exact .inl (yOwn b (hb.elim .inl (fun e => .inr (.inr (.inr e))))) | exact hb | exact .inr (by omega))
                replace hF := g16.fz
                obtain ⟨xa16, xc16, rfl, hxl16, hxc16⟩ := lv16.val
                replace eC := kS.eset eC (by omega)
                replace rS : RowIn _ _ [_, _, .slice sa s.now.warmS.length sc, vr, .slice la s.now.logs.length lc, .slice ta s.now.temps.length tc, .slice ma s.now.made.length mc, .slice ga s.now.gone.length gc, .slice oa s.start.length oc, .slice (some ⟨bf, 0, none⟩) (low.length + 1) cap, .slice ra s.ret.length rc, .int .u8 (s.phase : Nat), .int .u8 (s.status : Nat), .int .u8 (s.applied : Nat), vlim, vtx, vleft, vpr, vtot] := kS.rset rS 0 rfl
                replace rOr := kS.rseto rOr (by first | (left; omega) | (right; simp only [List.length_cons, List.length_nil, length_bL, length_be]; omega))
                replace rMd := kS.rseto rMd (by first | (left; omega) | (right; simp only [List.length_cons, List.length_nil, length_bL, length_be]; omega))
                refine ⟨.inl rfl, ?_⟩
                refine p_nil ?_
                refine hK9 _ _ ?_
                refine fg2 1 0 (gS rfl (gS rfl (gS rfl (gS rfl (gS rfl (gS rfl (gS rfl (gS rfl (gS rfl (gS rfl (gS rfl (gS rfl (gS rfl (gS rfl (gS rfl (gS rfl (gS rfl (gS rfl (gS rfl (gS rfl (gS rfl g0))))))))))))))))))))) (gS rfl (gS rfl (gS rfl (gS rfl (gS rfl (gS rfl (gS rfl (gS rfl (gS rfl (gS rfl (gS rfl (gS rfl (gS rfl (gS rfl (gS rfl (gS rfl (gS rfl (gS rfl (gS rfl (gS rfl g0)))))))))))))))))))) (fun g => ?_)
                refine c_seq (fun K17 hK17 => ?_)
                refine c_seq (fun K18 hK18 => ?_)
                exact (by
                  refine c_draw Up 9 [(0, true), (1, true), (2, true), (3, true), (4, true), (5, true), (6, true), (7, true), (8, true), (9, false)] (by kernel_rfl) (fun w19 hu => ⟨Up.refl _, ?_⟩)
                  replace G := G.tr (Go.ofUp hF hu)
                  replace hF := hF.up hu
                  replace k4 := k4.up hu
                  replace kS := kS.up hu
                  replace kF := kF.up hu
                  replace kM := kM.up hu
                  replace kL := kL.up hu
                  replace kR := kR.up hu
                  replace U := U.tr hu
                  have SU := Up.refl w19
                  refine p_step (by exact rfl) (y_moveV (et g0 rfl)) ?_
                  refine p_step (by exact rfl) (y_nil (et g0 rfl)) ?_
                  refine p_step (by exact rfl) (y_fld fld_102_0 (et g0 rfl)) ?_
                  refine p_step (by exact rfl) (y_fld fld_98_6 (et g0 rfl)) ?_
                  refine p_step (by exact rfl) (y_load1 one_93 (et g0 rfl) (atS (kS.cell (rS 6 _ rfl)))) ?_
                  refine p_step (by exact rfl) (y_moveV (et (gS rfl (gS rfl (gS rfl (gS rfl (gS rfl (gS rfl g0)))))) rfl)) ?_
                  refine p_step (by exact rfl) (y_nil (et g0 rfl)) ?_
                  refine p_step (by exact rfl) (y_fld fld_146_12 (et g0 rfl)) ?_
                  refine p_step (by exact rfl) (y_loadR agg_25 sz_25 (et g0 rfl) (by rw [length_bL, length_be]) (atSR (kF.row rSe))) ?_
                  refine p_eff (by exact rfl) (e_callV cal_148 (aC (et (gS rfl (gS rfl (gS rfl (gS rfl g0)))) rfl) (aC (et g0 rfl) aN)) (yp_listed _ _ _ _ _ _ hF (hMd.mono hL0) fo.self (by omega))) (fun v20 w20 h20 => ?_)
                  obtain ⟨rfl, u20⟩ := h20
                  replace G := G.tr (Go.ofUp hF u20)
                  replace hF := hF.up u20
                  replace k4 := k4.up u20
                  replace kS := kS.up u20
                  replace kF := kF.up u20
                  replace kM := kM.up u20
                  replace kL := kL.up u20
                  replace kR := kR.up u20
                  replace U := U.tr u20
                  refine ⟨.inl rfl, ?_⟩
                  refine p_nil ?_
                  refine hK18 _ _ ?_
                  refine fg3 1 0 46 (gS rfl (gS rfl (gS rfl (gS rfl (gS rfl (gS rfl (gS rfl (gS rfl (gS rfl (gS rfl (gS rfl g0))))))))))) (gS rfl (gS rfl (gS rfl (gS rfl (gS rfl (gS rfl (gS rfl (gS rfl (gS rfl (gS rfl g0)))))))))) g0 (fun g => ?_)
                  refine c_cond (et g0 rfl) (fun cB2 => ?_) (fun cB2 => ?_)
                  · skip
                    
                    have hmd : f.self ∈ s.now.made := of_decide_eq_true cB2
                    exact (by
                      refine c_draw Up 14 [(0, true), (1, true), (2, true), (3, true), (4, true), (5, true), (6, true), (7, true), (8, true), (9, true), (10, false), (11, true), (12, true), (13, true), (14, false)] (by kernel_rfl) (fun w22 hu => ⟨Up.refl _, ?_⟩)
                      replace G := G.tr (Go.ofUp hF hu)
                      replace hF := hF.up hu
                      replace k4 := k4.up hu
                      replace kS := kS.up hu
                      replace kF := kF.up hu
                      replace kM := kM.up hu
                      replace kL := kL.up hu
                      replace kR := kR.up hu
                      replace U := U.tr hu
                      have SU := Up.refl w22
                      refine p_step (by exact rfl) (y_moveV (et (gS rfl g0) rfl)) ?_
                      refine p_step (by exact rfl) (y_moveV (et (gS rfl (gS rfl g0)) rfl)) ?_
                      refine p_step (by exact rfl) (y_nil (et g0 rfl)) ?_
                      refine p_step (by exact rfl) (y_fld fld_102_0 (et g0 rfl)) ?_
                      refine p_step (by exact rfl) (y_fld fld_98_7 (et g0 rfl)) ?_
                      refine p_step (by exact rfl) (y_load1 one_93 (et g0 rfl) (atS (kS.cell (rS 7 _ rfl)))) ?_
                      refine p_step (by exact rfl) (y_moveV (et (gS rfl (gS rfl (gS rfl (gS rfl (gS rfl (gS rfl (gS rfl (gS rfl g0)))))))) rfl)) ?_
                      refine p_step (by exact rfl) (y_nil (et g0 rfl)) ?_
                      refine p_step (by exact rfl) (y_fld fld_146_12 (et g0 rfl)) ?_
                      refine p_step (by exact rfl) (y_loadR agg_25 sz_25 (et g0 rfl) (by rw [length_bL, length_be]) (atSR (kF.row rSe))) ?_
                      refine p_eff (by exact rfl) (e_callV cal_128 (aC (et (gS rfl (gS rfl (gS rfl (gS rfl g0)))) rfl) (aC (et g0 rfl) aN)) (yp_withAddr _ _ _ _ _ _ hF (hGn.mono hL0) fo.self (by omega))) (fun v23 w23 h23 => ?_)
                      obtain ⟨H23, g23, lv23⟩ := h23
                      have hlew23 := g23.le
                      replace nb4 := g23.nb nb4 k4.lt
                      replace nbS := g23.nb nbS kS.lt
                      replace nbF := g23.nb nbF kF.lt
                      replace nbM := g23.nb nbM (Nat.lt_of_lt_of_le lM U.size)
                      replace n2 := n2.mono hlew23
                      replace lv8 := lv8.mono hlew23
                      replace p14 := p14.mono hlew23
                      replace hn15 := hn15.mono hlew23
                      replace hbb15 := hbb15.mono hlew23
                      replace hcd15 := hcd15.mono hlew23
                      replace lv16 := lv16.mono hlew23
                      replace hL0 := hL0.trans hlew23
                      replace k4 := k4.up g23.up
                      replace kS := kS.up g23.up
                      replace kF := kF.up g23.up
                      replace kM := kM.up g23.up
                      replace kL := kL.up g23.up
                      replace kR := kR.up g23.up
                      replace U := U.tr g23.up
                      replace G := G.tr g23
                      replace hF := g23.fz
                      obtain ⟨xa23, xc23, rfl, hxl23, hxc23⟩ := lv23.val
                      refine ⟨.inr (SU.tr g23.up), ?_⟩
                      replace SU := SU.tr g23.up
                      exact (by
                        refine p_step (by exact rfl) (y_nil (et (gS rfl (gS rfl (gS rfl (gS rfl (gS rfl (gS rfl (gS rfl (gS rfl (gS rfl (gS rfl g0)))))))))) rfl)) ?_
                        refine p_step (by exact rfl) (y_fld fld_102_0 (et g0 rfl)) ?_
                        refine p_step (by exact rfl) (y_fld fld_98_7 (et g0 rfl)) ?_
                        have rl24 := RowIn.le rS (Nat.succ_pos _)
                        simp only [List.length_cons, List.length_nil, Nat.zero_add, Nat.reduceAdd] at rl24
                        refine p_effN (by exact rfl) (e_store sz_93 (et g0 rfl) (cellsV (et (gS rfl (gS rfl (gS rfl g0))) rfl) rfl) rfl (by first | exact one_bL _ | exact one_uL _ | (intro v hv; simp at hv; subst hv; rfl)) kS (by first | exact Nat.le_trans (by omega) rl24 | exact Nat.le_of_ble_eq_true rfl | (simp; done) | (simp; omega) | omega | (simp only [size_spl, Array.size_setIfInBounds, hs.size]; exact Nat.le_of_ble_eq_true rfl))) (fun v24 w24 h24 => ?_)
                        obtain ⟨rfl, x24⟩ := h24
                        replace k4 := k4.ch x24.ch (by omega)
                        replace kF := kF.ch x24.ch (by omega)
                        replace kM := kM.ch x24.ch (by omega)
                        replace kL := kL.ch x24.ch (by intro q hq hm; have := dL q hq; omega)
                        replace kR := kR.ch x24.ch (by intro m hm; have := dR m hm; omega)
                        replace kS := x24.blk
                        replace G := G.wr x24 (.inl (by first | rfl | exact yt.yS | exact yt.yF | (simp; done))) nbS
                        replace hF := G.fz
                        replace U := U.st x24 (.inl (by first | rfl | exact yt.yS | exact yt.yF | (simp; done)))
                        replace eC := kS.eput eC (by omega)
                        replace rS : RowIn _ _ [_, _, .slice sa s.now.warmS.length sc, vr, .slice la s.now.logs.length lc, .slice ta s.now.temps.length tc, .slice ma s.now.made.length mc, _, .slice oa s.start.length oc, .slice (some ⟨bf, 0, none⟩) (low.length + 1) cap, .slice ra s.ret.length rc, .int .u8 (s.phase : Nat), .int .u8 (s.status : Nat), .int .u8 (s.applied : Nat), vlim, vtx, vleft, vpr, vtot] := kS.rput rS 7 rfl
                        replace rOr := kS.rputo rOr (by first | (left; omega) | (right; simp only [List.length_cons, List.length_nil, length_bL, length_be]; omega))
                        replace rMd := kS.rputo rMd (by first | (left; omega) | (right; simp only [List.length_cons, List.length_nil, length_bL, length_be]; omega))
                        refine ⟨.inl rfl, ?_⟩
                        refine p_nil ?_
                        refine hK17 _ _ ?_
                        refine fg1 0 (gS rfl (gS rfl (gS rfl (gS rfl (gS rfl (gS rfl (gS rfl (gS rfl (gS rfl (gS rfl (gS rfl (gS rfl (gS rfl (gS rfl (gS rfl g0))))))))))))))) (fun g => ?_)
                        refine c_region ?_
                        refine l_step (y_moveV (et g0 rfl)) ?_
                        have eS : desS s f = { s with now := { s.now with warmA := withA s.now.warmA (desT f), accts := moveA s.now.accts f.self (desT f) (acctAt s.now.accts f.self).bal, gone := withA s.now.gone f.self } } := by unfold desS desA; rw [if_pos hts, if_pos hmd]
                        have eacc : (moveA s.now.accts f.self (desT f) (acctAt s.now.accts f.self).bal).length < 1048576 := by have := moveA_len s.now.accts f.self (desT f) (acctAt s.now.accts f.self).bal; have := nh.accts; omega
                        have ewar : (withA s.now.warmA (desT f)).length < 1048576 := by have := len_withA s.now.warmA (desT f); have := nh.warmA; omega
                        have egon : (withA s.now.gone f.self).length < 1048576 := by have := len_withA s.now.gone f.self; have := nh.gone; omega
                        refine l_eff (e_callV cal_59 (aC (et g0 rfl) (aC (v := .int .u8 ((0 : Nat) : Int)) rfl (aC rfl aN))) (yp_leave (s := { desS s f with frames := low ++ [f] }) (low := low) (u := f) (YT.close (low := low) (f := f) (msl := msl) (Y := fun b => Y b ∨ w.heap.size ≤ b) ⟨kS, SC.frames (show SC H23 _ (desS s f) _ by rw [eS]; exact ⟨⟨eacc, ewar, so.warmS, so.refund, so.logs, so.temps, so.made, egon, so.start, so.ret, so.phase, so.status, so.applied, so.limit, so.txGas, so.left, so.price, so.total, so.origin, so.mad⟩, eC.mono hL0, (by simp only [size_spl, Array.size_setIfInBounds]; exact hs.size), _, _, _, _, _, _, _, _, _, _, _, _, _, _, _, _, _, _, _, _, _, _, _, _, rS, rOr, rMd, lv16, lv8, (hWS.mono hL0), (hRf.mono hL0), (hTm.mono hL0), (hMd.mono hL0), lv23, (hSr.mono hL0), (hRt.mono hL0), (hLm.mono hL0), (hTx.mono hL0), (hLf.mono hL0), (hPr.mono hL0), (hTt.mono hL0)⟩) _, ⟨hcp, yt.hc.2.1, (by rw [oF.size]; exact yt.hc.2.2)⟩, kF, (hf.mono hL0), kM, (yt.hl.mono hL0).pre (oF.pre (Nat.le_refl _)) (Nat.le_refl _), kR, (show LG _ _ _ _ (desS s f).now.logs from kL.mono hL0), ((rS 4 _ rfl).trans (hv4.symm.trans hvl)), nbS, nbF, nbM, .inl yt.yS, .inl yt.yF, .inl yt.yM, Nat.lt_of_lt_of_le lM U.size, dSF, dMF, dSM, fun b e => ⟨Nat.lt_of_lt_of_le (dL b e).1 U.size, (dL b e).2⟩, fun b e => G.nb (yt.nbL b e) (dL b e).1, fun b e => .inl (yt.yL b e), fun m hm => ⟨Nat.lt_of_lt_of_le (dR m hm).1 U.size, (dR m hm).2⟩, fun m hm => ⟨G.nb (yt.nbR m hm).1 (dR m hm).1, .inl (yt.nbR m hm).2⟩, yt.ndR⟩ hF rfl) rfl 0 (by decide) (BV.nil _) (nh.b1.frames _) nh.p1 nh.len)) (fun v25 w25 h25 => ?_)
                        obtain ⟨rfl, H25, g25, ym25⟩ := h25
                        replace G := G.trans g25 (by intro b hb; first | exact .inl hb | exact .inl (yOwn b (.inl hb)) | exact .inl (yOwn b (.inr (.inl hb))) | exact .inl (yOwn b (.inr (.inr (.inl hb)))) | exact .inl (yOwn b (.inr (.inr (.inr hb)))) | exact .inl (yOwn b hb) | exact .inl (yOwn b (hb.elim .inl (fun e => .inr (.inr (.inr e))))) | exact hb | exact .inr (by omega))
                        replace U := U.cc g25.ch (by intro b hb; first | exact .inl hb | exact .inl (yOwn b (.inl hb)) | exact .inl (yOwn b (.inr (.inl hb))) | exact .inl (yOwn b (.inr (.inr (.inl hb)))) | exact .inl (yOwn b (.inr (.inr (.inr hb)))) | exact .inl (yOwn b hb) | exact .inl (yOwn b (hb.elim .inl (fun e => .inr (.inr (.inr e))))) | exact hb | exact .inr (by omega))
                        refine l_nil ?_
                        refine end0 rfl ?_
                        refine ⟨rfl, _, bf, G, ?_⟩
                        rw [lvY_frames] at ym25
                        exact ym25))
                  · skip
                    
                    have hmd : ¬ f.self ∈ s.now.made := of_decide_eq_false cB2
                    refine c_skip ?_
                    refine hK17 _ _ ?_
                    refine fg1 0 (gS rfl g0) (fun g => ?_)
                    refine c_region ?_
                    refine l_step (y_moveV (et g0 rfl)) ?_
                    have eS : desS s f = { s with now := { s.now with warmA := withA s.now.warmA (desT f), accts := moveA s.now.accts f.self (desT f) (acctAt s.now.accts f.self).bal, gone := s.now.gone } } := by unfold desS desA; rw [if_pos hts, if_neg hmd]
                    have eacc : (moveA s.now.accts f.self (desT f) (acctAt s.now.accts f.self).bal).length < 1048576 := by have := moveA_len s.now.accts f.self (desT f) (acctAt s.now.accts f.self).bal; have := nh.accts; omega
                    have ewar : (withA s.now.warmA (desT f)).length < 1048576 := by have := len_withA s.now.warmA (desT f); have := nh.warmA; omega
                    have egon : (s.now.gone).length < 1048576 := by have := len_withA s.now.gone f.self; have := nh.gone; omega
                    refine l_eff (e_callV cal_59 (aC (et g0 rfl) (aC (v := .int .u8 ((0 : Nat) : Int)) rfl (aC rfl aN))) (yp_leave (s := { desS s f with frames := low ++ [f] }) (low := low) (u := f) (YT.close (low := low) (f := f) (msl := msl) (Y := fun b => Y b ∨ w.heap.size ≤ b) ⟨kS, SC.frames (show SC H16 _ (desS s f) _ by rw [eS]; exact ⟨⟨eacc, ewar, so.warmS, so.refund, so.logs, so.temps, so.made, egon, so.start, so.ret, so.phase, so.status, so.applied, so.limit, so.txGas, so.left, so.price, so.total, so.origin, so.mad⟩, eC.mono hL0, (by simp only [size_spl, Array.size_setIfInBounds]; exact hs.size), _, _, _, _, _, _, _, _, _, _, _, _, _, _, _, _, _, _, _, _, _, _, _, _, rS, rOr, rMd, lv16, lv8, (hWS.mono hL0), (hRf.mono hL0), (hTm.mono hL0), (hMd.mono hL0), (hGn.mono hL0), (hSr.mono hL0), (hRt.mono hL0), (hLm.mono hL0), (hTx.mono hL0), (hLf.mono hL0), (hPr.mono hL0), (hTt.mono hL0)⟩) _, ⟨hcp, yt.hc.2.1, (by rw [oF.size]; exact yt.hc.2.2)⟩, kF, (hf.mono hL0), kM, (yt.hl.mono hL0).pre (oF.pre (Nat.le_refl _)) (Nat.le_refl _), kR, (show LG _ _ _ _ (desS s f).now.logs from kL.mono hL0), ((rS 4 _ rfl).trans (hv4.symm.trans hvl)), nbS, nbF, nbM, .inl yt.yS, .inl yt.yF, .inl yt.yM, Nat.lt_of_lt_of_le lM U.size, dSF, dMF, dSM, fun b e => ⟨Nat.lt_of_lt_of_le (dL b e).1 U.size, (dL b e).2⟩, fun b e => G.nb (yt.nbL b e) (dL b e).1, fun b e => .inl (yt.yL b e), fun m hm => ⟨Nat.lt_of_lt_of_le (dR m hm).1 U.size, (dR m hm).2⟩, fun m hm => ⟨G.nb (yt.nbR m hm).1 (dR m hm).1, .inl (yt.nbR m hm).2⟩, yt.ndR⟩ hF rfl) rfl 0 (by decide) (BV.nil _) (nh.b1.frames _) nh.p1 nh.len)) (fun v26 w26 h26 => ?_)
                    obtain ⟨rfl, H26, g26, ym26⟩ := h26
                    replace G := G.trans g26 (by intro b hb; first | exact .inl hb | exact .inl (yOwn b (.inl hb)) | exact .inl (yOwn b (.inr (.inl hb))) | exact .inl (yOwn b (.inr (.inr (.inl hb)))) | exact .inl (yOwn b (.inr (.inr (.inr hb)))) | exact .inl (yOwn b hb) | exact .inl (yOwn b (hb.elim .inl (fun e => .inr (.inr (.inr e))))) | exact hb | exact .inr (by omega))
                    replace U := U.cc g26.ch (by intro b hb; first | exact .inl hb | exact .inl (yOwn b (.inl hb)) | exact .inl (yOwn b (.inr (.inl hb))) | exact .inl (yOwn b (.inr (.inr (.inl hb)))) | exact .inl (yOwn b (.inr (.inr (.inr hb)))) | exact .inl (yOwn b hb) | exact .inl (yOwn b (hb.elim .inl (fun e => .inr (.inr (.inr e))))) | exact hb | exact .inr (by omega))
                    refine l_nil ?_
                    refine end0 rfl ?_
                    refine ⟨rfl, _, bf, G, ?_⟩
                    rw [lvY_frames] at ym26
                    exact ym26)))
          · skip
            
            have hts : ¬ desT f ≠ f.self := fun h9 => by simp at cB1; exact h9 cB1
            refine c_skip ?_
            refine hK9 _ _ ?_
            refine fg2 1 0 (gS rfl (gS rfl (gS rfl g0))) (gS rfl (gS rfl g0)) (fun g => ?_)
            refine c_seq (fun K27 hK27 => ?_)
            refine c_seq (fun K28 hK28 => ?_)
            exact (by
              refine c_draw Up 9 [(0, true), (1, true), (2, true), (3, true), (4, true), (5, true), (6, true), (7, true), (8, true), (9, false)] (by kernel_rfl) (fun w29 hu => ⟨Up.refl _, ?_⟩)
              replace G := G.tr (Go.ofUp hF hu)
              replace hF := hF.up hu
              replace k4 := k4.up hu
              replace kS := kS.up hu
              replace kF := kF.up hu
              replace kM := kM.up hu
              replace kL := kL.up hu
              replace kR := kR.up hu
              replace U := U.tr hu
              have SU := Up.refl w29
              refine p_step (by exact rfl) (y_moveV (et g0 rfl)) ?_
              refine p_step (by exact rfl) (y_nil (et g0 rfl)) ?_
              refine p_step (by exact rfl) (y_fld fld_102_0 (et g0 rfl)) ?_
              refine p_step (by exact rfl) (y_fld fld_98_6 (et g0 rfl)) ?_
              refine p_step (by exact rfl) (y_load1 one_93 (et g0 rfl) (atS (kS.cell (rS 6 _ rfl)))) ?_
              refine p_step (by exact rfl) (y_moveV (et (gS rfl (gS rfl (gS rfl (gS rfl (gS rfl (gS rfl g0)))))) rfl)) ?_
              refine p_step (by exact rfl) (y_nil (et g0 rfl)) ?_
              refine p_step (by exact rfl) (y_fld fld_146_12 (et g0 rfl)) ?_
              refine p_step (by exact rfl) (y_loadR agg_25 sz_25 (et g0 rfl) (by rw [length_bL, length_be]) (atSR (kF.row rSe))) ?_
              refine p_eff (by exact rfl) (e_callV cal_148 (aC (et (gS rfl (gS rfl (gS rfl (gS rfl g0)))) rfl) (aC (et g0 rfl) aN)) (yp_listed _ _ _ _ _ _ hF (hMd.mono hL0) fo.self (by omega))) (fun v30 w30 h30 => ?_)
              obtain ⟨rfl, u30⟩ := h30
              replace G := G.tr (Go.ofUp hF u30)
              replace hF := hF.up u30
              replace k4 := k4.up u30
              replace kS := kS.up u30
              replace kF := kF.up u30
              replace kM := kM.up u30
              replace kL := kL.up u30
              replace kR := kR.up u30
              replace U := U.tr u30
              refine ⟨.inl rfl, ?_⟩
              refine p_nil ?_
              refine hK28 _ _ ?_
              refine fg3 1 0 46 (gS rfl (gS rfl (gS rfl (gS rfl (gS rfl (gS rfl (gS rfl (gS rfl (gS rfl (gS rfl (gS rfl g0))))))))))) (gS rfl (gS rfl (gS rfl (gS rfl (gS rfl (gS rfl (gS rfl (gS rfl (gS rfl (gS rfl g0)))))))))) g0 (fun g => ?_)
              refine c_cond (et g0 rfl) (fun cB2 => ?_) (fun cB2 => ?_)
              · skip
                
                have hmd : f.self ∈ s.now.made := of_decide_eq_true cB2
                exact (by
                  refine c_draw Up 14 [(0, true), (1, true), (2, true), (3, true), (4, true), (5, true), (6, true), (7, true), (8, true), (9, true), (10, false), (11, true), (12, true), (13, true), (14, false)] (by kernel_rfl) (fun w32 hu => ⟨Up.refl _, ?_⟩)
                  replace G := G.tr (Go.ofUp hF hu)
                  replace hF := hF.up hu
                  replace k4 := k4.up hu
                  replace kS := kS.up hu
                  replace kF := kF.up hu
                  replace kM := kM.up hu
                  replace kL := kL.up hu
                  replace kR := kR.up hu
                  replace U := U.tr hu
                  have SU := Up.refl w32
                  refine p_step (by exact rfl) (y_moveV (et (gS rfl g0) rfl)) ?_
                  refine p_step (by exact rfl) (y_moveV (et (gS rfl (gS rfl g0)) rfl)) ?_
                  refine p_step (by exact rfl) (y_nil (et g0 rfl)) ?_
                  refine p_step (by exact rfl) (y_fld fld_102_0 (et g0 rfl)) ?_
                  refine p_step (by exact rfl) (y_fld fld_98_7 (et g0 rfl)) ?_
                  refine p_step (by exact rfl) (y_load1 one_93 (et g0 rfl) (atS (kS.cell (rS 7 _ rfl)))) ?_
                  refine p_step (by exact rfl) (y_moveV (et (gS rfl (gS rfl (gS rfl (gS rfl (gS rfl (gS rfl (gS rfl (gS rfl g0)))))))) rfl)) ?_
                  refine p_step (by exact rfl) (y_nil (et g0 rfl)) ?_
                  refine p_step (by exact rfl) (y_fld fld_146_12 (et g0 rfl)) ?_
                  refine p_step (by exact rfl) (y_loadR agg_25 sz_25 (et g0 rfl) (by rw [length_bL, length_be]) (atSR (kF.row rSe))) ?_
                  refine p_eff (by exact rfl) (e_callV cal_128 (aC (et (gS rfl (gS rfl (gS rfl (gS rfl g0)))) rfl) (aC (et g0 rfl) aN)) (yp_withAddr _ _ _ _ _ _ hF (hGn.mono hL0) fo.self (by omega))) (fun v33 w33 h33 => ?_)
                  obtain ⟨H33, g33, lv33⟩ := h33
                  have hlew33 := g33.le
                  replace nb4 := g33.nb nb4 k4.lt
                  replace nbS := g33.nb nbS kS.lt
                  replace nbF := g33.nb nbF kF.lt
                  replace nbM := g33.nb nbM (Nat.lt_of_lt_of_le lM U.size)
                  replace n2 := n2.mono hlew33
                  replace lv8 := lv8.mono hlew33
                  replace hL0 := hL0.trans hlew33
                  replace k4 := k4.up g33.up
                  replace kS := kS.up g33.up
                  replace kF := kF.up g33.up
                  replace kM := kM.up g33.up
                  replace kL := kL.up g33.up
                  replace kR := kR.up g33.up
                  replace U := U.tr g33.up
                  replace G := G.tr g33
                  replace hF := g33.fz
                  obtain ⟨xa33, xc33, rfl, hxl33, hxc33⟩ := lv33.val
                  refine ⟨.inr (SU.tr g33.up), ?_⟩
                  replace SU := SU.tr g33.up
                  exact (by
                    refine p_step (by exact rfl) (y_nil (et (gS rfl (gS rfl (gS rfl (gS rfl (gS rfl (gS rfl (gS rfl (gS rfl (gS rfl (gS rfl g0)))))))))) rfl)) ?_
                    refine p_step (by exact rfl) (y_fld fld_102_0 (et g0 rfl)) ?_
                    refine p_step (by exact rfl) (y_fld fld_98_7 (et g0 rfl)) ?_
                    have rl34 := RowIn.le rS (Nat.succ_pos _)
                    simp only [List.length_cons, List.length_nil, Nat.zero_add, Nat.reduceAdd] at rl34
                    refine p_effN (by exact rfl) (e_store sz_93 (et g0 rfl) (cellsV (et (gS rfl (gS rfl (gS rfl g0))) rfl) rfl) rfl (by first | exact one_bL _ | exact one_uL _ | (intro v hv; simp at hv; subst hv; rfl)) kS (by first | exact Nat.le_trans (by omega) rl34 | exact Nat.le_of_ble_eq_true rfl | (simp; done) | (simp; omega) | omega | (simp only [size_spl, Array.size_setIfInBounds, hs.size]; exact Nat.le_of_ble_eq_true rfl))) (fun v34 w34 h34 => ?_)
                    obtain ⟨rfl, x34⟩ := h34
                    replace k4 := k4.ch x34.ch (by omega)
                    replace kF := kF.ch x34.ch (by omega)
                    replace kM := kM.ch x34.ch (by omega)
                    replace kL := kL.ch x34.ch (by intro q hq hm; have := dL q hq; omega)
                    replace kR := kR.ch x34.ch (by intro m hm; have := dR m hm; omega)
                    replace kS := x34.blk
                    replace G := G.wr x34 (.inl (by first | rfl | exact yt.yS | exact yt.yF | (simp; done))) nbS
                    replace hF := G.fz
                    replace U := U.st x34 (.inl (by first | rfl | exact yt.yS | exact yt.yF | (simp; done)))
                    replace eC := kS.eput eC (by omega)
                    replace rS : RowIn _ _ [.slice aa s.now.accts.length ac, _, .slice sa s.now.warmS.length sc, vr, .slice la s.now.logs.length lc, .slice ta s.now.temps.length tc, .slice ma s.now.made.length mc, _, .slice oa s.start.length oc, .slice (some ⟨bf, 0, none⟩) (low.length + 1) cap, .slice ra s.ret.length rc, .int .u8 (s.phase : Nat), .int .u8 (s.status : Nat), .int .u8 (s.applied : Nat), vlim, vtx, vleft, vpr, vtot] := kS.rput rS 7 rfl
                    replace rOr := kS.rputo rOr (by first | (left; omega) | (right; simp only [List.length_cons, List.length_nil, length_bL, length_be]; omega))
                    replace rMd := kS.rputo rMd (by first | (left; omega) | (right; simp only [List.length_cons, List.length_nil, length_bL, length_be]; omega))
                    refine ⟨.inl rfl, ?_⟩
                    refine p_nil ?_
                    refine hK27 _ _ ?_
                    refine fg1 0 (gS rfl (gS rfl (gS rfl (gS rfl (gS rfl (gS rfl (gS rfl (gS rfl (gS rfl (gS rfl (gS rfl (gS rfl (gS rfl (gS rfl (gS rfl g0))))))))))))))) (fun g => ?_)
                    refine c_region ?_
                    refine l_step (y_moveV (et g0 rfl)) ?_
                    have eS : desS s f = { s with now := { s.now with warmA := withA s.now.warmA (desT f), accts := s.now.accts, gone := withA s.now.gone f.self } } := by unfold desS desA; rw [if_neg hts, if_pos hmd]
                    have eacc : (s.now.accts).length < 1048576 := by have := moveA_len s.now.accts f.self (desT f) (acctAt s.now.accts f.self).bal; have := nh.accts; omega
                    have ewar : (withA s.now.warmA (desT f)).length < 1048576 := by have := len_withA s.now.warmA (desT f); have := nh.warmA; omega
                    have egon : (withA s.now.gone f.self).length < 1048576 := by have := len_withA s.now.gone f.self; have := nh.gone; omega
                    refine l_eff (e_callV cal_59 (aC (et g0 rfl) (aC (v := .int .u8 ((0 : Nat) : Int)) rfl (aC rfl aN))) (yp_leave (s := { desS s f with frames := low ++ [f] }) (low := low) (u := f) (YT.close (low := low) (f := f) (msl := msl) (Y := fun b => Y b ∨ w.heap.size ≤ b) ⟨kS, SC.frames (show SC H33 _ (desS s f) _ by rw [eS]; exact ⟨⟨eacc, ewar, so.warmS, so.refund, so.logs, so.temps, so.made, egon, so.start, so.ret, so.phase, so.status, so.applied, so.limit, so.txGas, so.left, so.price, so.total, so.origin, so.mad⟩, eC.mono hL0, (by simp only [size_spl, Array.size_setIfInBounds]; exact hs.size), _, _, _, _, _, _, _, _, _, _, _, _, _, _, _, _, _, _, _, _, _, _, _, _, rS, rOr, rMd, (hAc.mono hL0), lv8, (hWS.mono hL0), (hRf.mono hL0), (hTm.mono hL0), (hMd.mono hL0), lv33, (hSr.mono hL0), (hRt.mono hL0), (hLm.mono hL0), (hTx.mono hL0), (hLf.mono hL0), (hPr.mono hL0), (hTt.mono hL0)⟩) _, ⟨hcp, yt.hc.2.1, (by rw [oF.size]; exact yt.hc.2.2)⟩, kF, (hf.mono hL0), kM, (yt.hl.mono hL0).pre (oF.pre (Nat.le_refl _)) (Nat.le_refl _), kR, (show LG _ _ _ _ (desS s f).now.logs from kL.mono hL0), ((rS 4 _ rfl).trans (hv4.symm.trans hvl)), nbS, nbF, nbM, .inl yt.yS, .inl yt.yF, .inl yt.yM, Nat.lt_of_lt_of_le lM U.size, dSF, dMF, dSM, fun b e => ⟨Nat.lt_of_lt_of_le (dL b e).1 U.size, (dL b e).2⟩, fun b e => G.nb (yt.nbL b e) (dL b e).1, fun b e => .inl (yt.yL b e), fun m hm => ⟨Nat.lt_of_lt_of_le (dR m hm).1 U.size, (dR m hm).2⟩, fun m hm => ⟨G.nb (yt.nbR m hm).1 (dR m hm).1, .inl (yt.nbR m hm).2⟩, yt.ndR⟩ hF rfl) rfl 0 (by decide) (BV.nil _) (nh.b1.frames _) nh.p1 nh.len)) (fun v35 w35 h35 => ?_)
                    obtain ⟨rfl, H35, g35, ym35⟩ := h35
                    replace G := G.trans g35 (by intro b hb; first | exact .inl hb | exact .inl (yOwn b (.inl hb)) | exact .inl (yOwn b (.inr (.inl hb))) | exact .inl (yOwn b (.inr (.inr (.inl hb)))) | exact .inl (yOwn b (.inr (.inr (.inr hb)))) | exact .inl (yOwn b hb) | exact .inl (yOwn b (hb.elim .inl (fun e => .inr (.inr (.inr e))))) | exact hb | exact .inr (by omega))
                    replace U := U.cc g35.ch (by intro b hb; first | exact .inl hb | exact .inl (yOwn b (.inl hb)) | exact .inl (yOwn b (.inr (.inl hb))) | exact .inl (yOwn b (.inr (.inr (.inl hb)))) | exact .inl (yOwn b (.inr (.inr (.inr hb)))) | exact .inl (yOwn b hb) | exact .inl (yOwn b (hb.elim .inl (fun e => .inr (.inr (.inr e))))) | exact hb | exact .inr (by omega))
                    refine l_nil ?_
                    refine end0 rfl ?_
                    refine ⟨rfl, _, bf, G, ?_⟩
                    rw [lvY_frames] at ym35
                    exact ym35))
              · skip
                
                have hmd : ¬ f.self ∈ s.now.made := of_decide_eq_false cB2
                refine c_skip ?_
                refine hK27 _ _ ?_
                refine fg1 0 (gS rfl g0) (fun g => ?_)
                refine c_region ?_
                refine l_step (y_moveV (et g0 rfl)) ?_
                have eS : desS s f = { s with now := { s.now with warmA := withA s.now.warmA (desT f), accts := s.now.accts, gone := s.now.gone } } := by unfold desS desA; rw [if_neg hts, if_neg hmd]
                have eacc : (s.now.accts).length < 1048576 := by have := moveA_len s.now.accts f.self (desT f) (acctAt s.now.accts f.self).bal; have := nh.accts; omega
                have ewar : (withA s.now.warmA (desT f)).length < 1048576 := by have := len_withA s.now.warmA (desT f); have := nh.warmA; omega
                have egon : (s.now.gone).length < 1048576 := by have := len_withA s.now.gone f.self; have := nh.gone; omega
                refine l_eff (e_callV cal_59 (aC (et g0 rfl) (aC (v := .int .u8 ((0 : Nat) : Int)) rfl (aC rfl aN))) (yp_leave (s := { desS s f with frames := low ++ [f] }) (low := low) (u := f) (YT.close (low := low) (f := f) (msl := msl) (Y := fun b => Y b ∨ w.heap.size ≤ b) ⟨kS, SC.frames (show SC H8 _ (desS s f) _ by rw [eS]; exact ⟨⟨eacc, ewar, so.warmS, so.refund, so.logs, so.temps, so.made, egon, so.start, so.ret, so.phase, so.status, so.applied, so.limit, so.txGas, so.left, so.price, so.total, so.origin, so.mad⟩, eC.mono hL0, (by simp only [size_spl, Array.size_setIfInBounds]; exact hs.size), _, _, _, _, _, _, _, _, _, _, _, _, _, _, _, _, _, _, _, _, _, _, _, _, rS, rOr, rMd, (hAc.mono hL0), lv8, (hWS.mono hL0), (hRf.mono hL0), (hTm.mono hL0), (hMd.mono hL0), (hGn.mono hL0), (hSr.mono hL0), (hRt.mono hL0), (hLm.mono hL0), (hTx.mono hL0), (hLf.mono hL0), (hPr.mono hL0), (hTt.mono hL0)⟩) _, ⟨hcp, yt.hc.2.1, (by rw [oF.size]; exact yt.hc.2.2)⟩, kF, (hf.mono hL0), kM, (yt.hl.mono hL0).pre (oF.pre (Nat.le_refl _)) (Nat.le_refl _), kR, (show LG _ _ _ _ (desS s f).now.logs from kL.mono hL0), ((rS 4 _ rfl).trans (hv4.symm.trans hvl)), nbS, nbF, nbM, .inl yt.yS, .inl yt.yF, .inl yt.yM, Nat.lt_of_lt_of_le lM U.size, dSF, dMF, dSM, fun b e => ⟨Nat.lt_of_lt_of_le (dL b e).1 U.size, (dL b e).2⟩, fun b e => G.nb (yt.nbL b e) (dL b e).1, fun b e => .inl (yt.yL b e), fun m hm => ⟨Nat.lt_of_lt_of_le (dR m hm).1 U.size, (dR m hm).2⟩, fun m hm => ⟨G.nb (yt.nbR m hm).1 (dR m hm).1, .inl (yt.nbR m hm).2⟩, yt.ndR⟩ hF rfl) rfl 0 (by decide) (BV.nil _) (nh.b1.frames _) nh.p1 nh.len)) (fun v36 w36 h36 => ?_)
                obtain ⟨rfl, H36, g36, ym36⟩ := h36
                replace G := G.trans g36 (by intro b hb; first | exact .inl hb | exact .inl (yOwn b (.inl hb)) | exact .inl (yOwn b (.inr (.inl hb))) | exact .inl (yOwn b (.inr (.inr (.inl hb)))) | exact .inl (yOwn b (.inr (.inr (.inr hb)))) | exact .inl (yOwn b hb) | exact .inl (yOwn b (hb.elim .inl (fun e => .inr (.inr (.inr e))))) | exact hb | exact .inr (by omega))
                replace U := U.cc g36.ch (by intro b hb; first | exact .inl hb | exact .inl (yOwn b (.inl hb)) | exact .inl (yOwn b (.inr (.inl hb))) | exact .inl (yOwn b (.inr (.inr (.inl hb)))) | exact .inl (yOwn b (.inr (.inr (.inr hb)))) | exact .inl (yOwn b hb) | exact .inl (yOwn b (hb.elim .inl (fun e => .inr (.inr (.inr e))))) | exact hb | exact .inr (by omega))
                refine l_nil ?_
                refine end0 rfl ?_
                refine ⟨rfl, _, bf, G, ?_⟩
                rw [lvY_frames] at ym36
                exact ym36)))))
end Go.Proofs.YgvaawGreat
