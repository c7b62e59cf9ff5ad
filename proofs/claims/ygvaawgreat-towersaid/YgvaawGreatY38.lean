import Derived.Test.YgvaawGreatYN
import Derived.Test.YgvaawGreatY29
set_option maxRecDepth 100000
set_option maxHeartbeats 4000000
set_option linter.unusedSimpArgs false
set_option linter.unusedVariables false
namespace Go.Proofs.YgvaawGreat
open Go
theorem lvY_frames (s : YSt) (x : List YF) (u : YF) (q : Nat) (l : List Nat) (low : List YF) : lvY { s with frames := x } u q l low = lvY s u q l low := by
  unfold lvY
  split <;> rfl
/-- a precompiled contract runs -/
def natF (f : YF) : YF := { f with gas := f.gas - ncN f.ntv f.input }
def natY (s : YSt) (f : YF) (low : List YF) : YSt := if ncOk f.ntv f.input = true ∧ ncN f.ntv f.input ≤ f.gas then lvY s (natF f) 0 (nrN f.ntv f.input) low else lvY s f 2 [] low
structure NatH (s : YSt) (f : YF) (low : List YF) : Prop where
  len : low.length < 59998
  b1 : LvH s f []
  p1 : ∀ p, low.getLast? = some p → LvP p f 2 []
  b2 : LvH s (natF f) (nrN f.ntv f.input)
  p2 : ∀ p, low.getLast? = some p → LvP p (natF f) 0 (nrN f.ntv f.input)
theorem LvH.frames {s : YSt} {u : YF} {l : List Nat} (h : LvH s u l) (x : List YF) : LvH { s with frames := x } u l := ⟨h.1, h.2, h.3⟩
theorem yp_native {w : World} {H : Store} (hF : Fz w H) {bs bf : Nat} {s : YSt} {Y : Nat → Prop} {low : List YF} {f : YF} (hY : YM w H bs s Y bf) (hfr : s.frames = low ++ [f]) (nh : NatH s f low) :
    Ret 56 [.pointer (some ⟨bs, 0, none⟩), .pointer (some ⟨bf, low.length * 60, none⟩)] w (fun v w' => v = .tuple #[] ∧ ∃ H' bf', Go Y w H w' H' ∧ YM w' H' bs (natY s f low) (fun b => Y b ∨ w.heap.size ≤ b) bf') := by
  obtain ⟨cs, fs, cap, vm, bm, msl, ol, vl, yt⟩ := hY.top hfr
  have kS := yt.kS
  have hs := yt.hs
  have kF := yt.kF
  have hf := yt.hf
  have kM := yt.kM
  have kR := yt.kR
  have kL := yt.kL
  have hvl := yt.hvl
  have nbS := yt.nbS
  have nbF := yt.nbF
  have nbM := yt.nbM
  have lM := yt.lM
  have dSF := yt.dSF
  have dMF := yt.dMF
  have dSM := yt.dSM
  have dL := yt.dL
  have dR := yt.dR
  have hcp := yt.hc.1
  have yOwn : ∀ b, (b = bs ∨ b = bf ∨ b = bm ∨ ol = some b) → Y b := fun b hb => hb.elim (fun e => e ▸ yt.yS) (fun hb => hb.elim (fun e => e ▸ yt.yF) (fun hb => hb.elim (fun e => e ▸ yt.yM) (yt.yL b)))
  obtain ⟨am, rfl⟩ := kM.val
  obtain ⟨aa, ac, wa, wc, sa, sc, vr, la, lc, ta, tc, ma, mc, ga, gc, oa, oc, ra, rc, vlim, vtx, vleft, vpr, vtot, rS, rOr, rMd, hAc, hWA, hWS, hRf, hTm, hMd, hGn, hSr, hRt, hLm, hTx, hLf, hPr, hTt⟩ := hs.ex
  have so := hs.ok
  have so1 := so.accts
  have so2 := so.warmA
  have so3 := so.warmS
  have so4 := so.temps
  have so5 := so.start
  have so6 := so.logs
  have so7 := so.made
  have so8 := so.gone
  have so9 := so.ret
  have eC := hs.env
  obtain ⟨vpc, vgas, vval, voo, vol, ka, kc, ca, cc, ia, ic, svc, rF, rSe, rCa, rSv, hSv, hPc, hGa, hVa, hOf, hOl, hSt, hCo, hIn⟩ := hf.ex
  have fo := hf.ok
  have fo1 := fo.stack
  have fo2 := fo.code
  have fo3 := fo.input
  have fo4 := fo.mem
  have lS := kS.lt
  have lF := kF.lt
  have hv4 := rS 4 _ rfl
  have oF := Out.refl fs (low.length * 60) 60
  refine enter (n := 51) Hvaa.func56 rfl rfl (Nat.le_of_ble_eq_true rfl) ?_
  have U : Ch (fun k => Y k) w w := Ch.refl _ w
  have G : Go (fun k => Y k) w H w H := Go.refl hF
  have hL0 : Le H H := Le.refl H
  refine c_seq (fun K1 hK1 => ?_)
  exact (by
    refine c_draw Up 14 [(0, true), (1, true), (2, true), (3, true), (4, true), (5, true), (6, true), (7, true), (8, false), (9, true), (10, true), (11, true), (12, true), (13, true)] (by kernel_rfl) (fun w2 hu => ⟨Up.refl _, ?_⟩)
    replace G := G.tr (Go.ofUp hF hu)
    replace hF := hF.up hu
    replace kS := kS.up hu
    replace kF := kF.up hu
    replace kM := kM.up hu
    replace kL := kL.up hu
    replace kR := kR.up hu
    replace U := U.tr hu
    have SU := Up.refl w2
    refine p_step (by exact rfl) (y_moveV (et (gS rfl g0) rfl)) ?_
    refine p_step (by exact rfl) (y_nil (et g0 rfl)) ?_
    refine p_step (by exact rfl) (y_fld fld_146_1 (et g0 rfl)) ?_
    refine p_step (by exact rfl) (y_load1 one_5 (et g0 rfl) (atS (kF.cell (rF 1 _ rfl)))) ?_
    refine p_step (by exact rfl) (y_moveV (et (gS rfl (gS rfl (gS rfl (gS rfl (gS rfl g0))))) rfl)) ?_
    refine p_step (by exact rfl) (y_nil (et g0 rfl)) ?_
    refine p_step (by exact rfl) (y_fld fld_146_11 (et g0 rfl)) ?_
    refine p_step (by exact rfl) (y_load1 one_38 (et g0 rfl) (atS (kF.cell (rF 11 _ rfl)))) ?_
    refine p_eff (by exact rfl) (e_callV cal_134 (aC (et (gS rfl (gS rfl (gS rfl (gS rfl g0)))) rfl) (aC (et g0 rfl) aN)) (yp_nativeCost hF (hIn.mono hL0) fo3 _ fo.ntv)) (fun v3 w3 h3 => ?_)
    obtain ⟨vc3, H3, rfl, g3, n3, q3⟩ := h3
    have hlew3 := g3.le
    replace nbS := g3.nb nbS kS.lt
    replace nbF := g3.nb nbF kF.lt
    replace nbM := g3.nb nbM (Nat.lt_of_lt_of_le lM U.size)
    replace hL0 := hL0.trans hlew3
    replace kS := kS.up g3.up
    replace kF := kF.up g3.up
    replace kM := kM.up g3.up
    replace kL := kL.up g3.up
    replace kR := kR.up g3.up
    replace U := U.tr g3.up
    replace G := G.tr g3
    replace hF := g3.fz
    refine ⟨.inr (SU.tr g3.up), ?_⟩
    replace SU := SU.tr g3.up
    exact (by
      refine p_step (by exact rfl) (y_moveV (et g0 rfl)) ?_
      refine p_step (by exact rfl) (y_ext (et g0 rfl) rfl) ?_
      refine p_step (by exact rfl) (y_ext (et (gS rfl g0) rfl) rfl) ?_
      refine p_step (by exact rfl) (y_assignV (et (gS rfl g0) rfl)) ?_
      refine p_step (by exact rfl) (y_assignV (et (gS rfl g0) rfl)) ?_
      refine p_nil ?_
      refine hK1 _ _ ?_
      refine fg4 1 0 4 5 (gS rfl (gS rfl (gS rfl (gS rfl (gS rfl (gS rfl (gS rfl (gS rfl (gS rfl (gS rfl (gS rfl (gS rfl (gS rfl (gS rfl (gS rfl g0))))))))))))))) (gS rfl (gS rfl (gS rfl (gS rfl (gS rfl (gS rfl (gS rfl (gS rfl (gS rfl (gS rfl (gS rfl (gS rfl (gS rfl (gS rfl g0)))))))))))))) (gS rfl g0) g0 (fun g => ?_)
      refine c_seq (fun K4 hK4 => ?_)
      refine c_seq (fun K5 hK5 => ?_)
      exact (by
        refine c_region ?_
        refine l_step (y_moveV (et g0 rfl)) ?_
        refine l_step (y_not (et g0 rfl)) ?_
        refine l_step (y_moveV (et g0 rfl)) ?_
        refine gsplitL (i := 20) g0 (fun q6 => ?_) (fun q6 => ?_)
        · skip
          have hok : ncOk f.ntv f.input = false := by simpa using q6
          refine l_gskip (j := 2) (t := 20) (by exact rfl) (by exact rfl) (et g0 rfl) (by decide) (by decide) ?_
          refine l_gskip (j := 2) (t := 20) (by exact rfl) (by exact rfl) (et (gS rfl g0) rfl) (by decide) (by decide) ?_
          refine l_gskip (j := 2) (t := 20) (by exact rfl) (by exact rfl) (et (gS rfl (gS rfl g0)) rfl) (by decide) (by decide) ?_
          refine l_gskip (j := 2) (t := 20) (by exact rfl) (by exact rfl) (et (gS rfl (gS rfl (gS rfl g0))) rfl) (by decide) (by decide) ?_
          refine l_gskip (j := 2) (t := 20) (by exact rfl) (by exact rfl) (et (gS rfl (gS rfl (gS rfl (gS rfl g0)))) rfl) (by decide) (by decide) ?_
          refine l_gskip (j := 2) (t := 20) (by exact rfl) (by exact rfl) (et (gS rfl (gS rfl (gS rfl (gS rfl (gS rfl g0))))) rfl) (by decide) (by decide) ?_
          refine l_gskip (j := 2) (t := 20) (by exact rfl) (by exact rfl) (et (gS rfl (gS rfl (gS rfl (gS rfl (gS rfl (gS rfl g0)))))) rfl) (by decide) (by decide) ?_
          refine l_step (y_pickT (et (gS rfl (gS rfl (gS rfl (gS rfl (gS rfl (gS rfl (gS rfl g0))))))) rfl) rfl) ?_
          refine l_nil ?_
          refine hK5 _ _ ?_
          refine fg4 1 0 4 28 (gS rfl (gS rfl (gS rfl (gS rfl (gS rfl (gS rfl (gS rfl (gS rfl (gS rfl (gS rfl (gS rfl (gS rfl (gS rfl (gS rfl (gS rfl g0))))))))))))))) (gS rfl (gS rfl (gS rfl (gS rfl (gS rfl (gS rfl (gS rfl (gS rfl (gS rfl (gS rfl (gS rfl (gS rfl (gS rfl (gS rfl g0)))))))))))))) (gS rfl (gS rfl (gS rfl (gS rfl (gS rfl (gS rfl (gS rfl (gS rfl (gS rfl (gS rfl (gS rfl (gS rfl (gS rfl g0))))))))))))) g0 (fun g => ?_)
          have hno : ¬ (ncOk f.ntv f.input = true ∧ ncN f.ntv f.input ≤ f.gas) := fun h9 => by rw [hok] at h9; cases h9.1
          refine c_true (et g0 rfl) rfl ?_
          refine c_seq (fun K8 hK8 => ?_)
          exact (by
            refine c_region ?_
            refine l_step (y_moveV (et (gS rfl (gS rfl g0)) rfl)) ?_
            refine l_eff (e_callV cal_59 (aC (et g0 rfl) (aC (v := .int .u8 ((2 : Nat) : Int)) rfl (aC rfl aN))) (yp_leave (s := { s with frames := low ++ [f] }) (low := low) (u := f) (YT.close (low := low) (f := f) (msl := msl) (Y := fun b => Y b ∨ w.heap.size ≤ b) ⟨kS, SC.frames (hs.mono hL0) _, ⟨hcp, yt.hc.2.1, (by rw [oF.size]; exact yt.hc.2.2)⟩, kF, (hf.mono hL0), kM, (yt.hl.mono hL0).pre (oF.pre (Nat.le_refl _)) (Nat.le_refl _), kR, kL.mono hL0, hvl, nbS, nbF, nbM, .inl yt.yS, .inl yt.yF, .inl yt.yM, Nat.lt_of_lt_of_le lM U.size, dSF, dMF, dSM, fun b e => ⟨Nat.lt_of_lt_of_le (dL b e).1 U.size, (dL b e).2⟩, fun b e => G.nb (yt.nbL b e) (dL b e).1, fun b e => .inl (yt.yL b e), fun m hm => ⟨Nat.lt_of_lt_of_le (dR m hm).1 U.size, (dR m hm).2⟩, fun m hm => ⟨G.nb (yt.nbR m hm).1 (dR m hm).1, .inl (yt.nbR m hm).2⟩, yt.ndR⟩ hF rfl) rfl 2 (by decide) (BV.nil _) (nh.b1.frames _) nh.p1 nh.len)) (fun v9 w9 h9 => ?_)
            obtain ⟨rfl, H9, g9, ym9⟩ := h9
            replace G := G.trans g9 (by intro b hb; first | exact .inl hb | exact .inl (yOwn b (.inl hb)) | exact .inl (yOwn b (.inr (.inl hb))) | exact .inl (yOwn b (.inr (.inr (.inl hb)))) | exact .inl (yOwn b (.inr (.inr (.inr hb)))) | exact .inl (yOwn b hb) | exact .inl (yOwn b (hb.elim .inl (fun e => .inr (.inr (.inr e))))) | exact hb | exact .inr (by omega))
            replace U := U.cc g9.ch (by intro b hb; first | exact .inl hb | exact .inl (yOwn b (.inl hb)) | exact .inl (yOwn b (.inr (.inl hb))) | exact .inl (yOwn b (.inr (.inr (.inl hb)))) | exact .inl (yOwn b (.inr (.inr (.inr hb)))) | exact .inl (yOwn b hb) | exact .inl (yOwn b (hb.elim .inl (fun e => .inr (.inr (.inr e))))) | exact hb | exact .inr (by omega))
            refine l_nil ?_
            refine hK8 _ _ ?_
            refine fg0 (fun g => ?_)
            refine c_ret ?_
            repeat with_reducible refine then_ret ?_
            refine ret0 rfl ?_
            refine ⟨rfl, _, bf, G, ?_⟩
            rw [natY, if_neg hno]
            rw [lvY_frames] at ym9
            exact ym9)
        · skip
          have hok : ncOk f.ntv f.input = true := by simpa using q6
          refine l_gstep (j := 2) (t := 20) (by exact rfl) (by exact rfl) (et g0 rfl) (by decide) (y_moveV (et (gS rfl (gS rfl (gS rfl (gS rfl (gS rfl g0))))) rfl)) ?_
          refine l_gstep (j := 2) (t := 20) (by exact rfl) (by exact rfl) (et (gS rfl g0) rfl) (by decide) (y_moveV (et (gS rfl (gS rfl (gS rfl (gS rfl (gS rfl (gS rfl (gS rfl (gS rfl g0)))))))) rfl)) ?_
          refine l_gstep (j := 2) (t := 20) (by exact rfl) (by exact rfl) (et (gS rfl (gS rfl g0)) rfl) (by decide) (y_nil (et g0 rfl)) ?_
          refine l_gstep (j := 2) (t := 20) (by exact rfl) (by exact rfl) (et (gS rfl (gS rfl (gS rfl g0))) rfl) (by decide) (y_fld fld_146_4 (et g0 rfl)) ?_
          refine l_gstep (j := 2) (t := 20) (by exact rfl) (by exact rfl) (et (gS rfl (gS rfl (gS rfl (gS rfl g0)))) rfl) (by decide) (y_load1 one_95 (et g0 rfl) (at1 (kF.cell (rF 4 _ rfl)))) ?_
          refine l_geff (j := 2) (t := 20) (by exact rfl) (by exact rfl) (et (gS rfl (gS rfl (gS rfl (gS rfl (gS rfl g0))))) rfl) rfl (e_callV cal_121 (aC (et (gS rfl (gS rfl (gS rfl (gS rfl g0)))) rfl) (aC (et g0 rfl) aN)) (nat_cmp hF n3 (hGa.mono hL0) (bd_sm q3 (by decide)) (bd_sm (bd_lt2 (b := 256 ^ 4) fo.gas (by decide)) (by decide)))) (fun v10 w10 h10 => ?_)
          obtain ⟨rfl, u10⟩ := h10
          replace G := G.tr (Go.ofUp hF u10)
          replace hF := hF.up u10
          replace kS := kS.up u10
          replace kF := kF.up u10
          replace kM := kM.up u10
          replace kL := kL.up u10
          replace kR := kR.up u10
          replace U := U.tr u10
          refine l_gstep (j := 2) (t := 20) (by exact rfl) (by exact rfl) (et (gS rfl (gS rfl (gS rfl (gS rfl (gS rfl (gS rfl g0)))))) rfl) (by decide) ((y_gtr (et g0 rfl) rfl).to (congrArg Value.bool (cmp_gt0 _ _))) ?_
          refine l_step (y_pickF (et (gS rfl (gS rfl (gS rfl (gS rfl (gS rfl (gS rfl (gS rfl g0))))))) rfl) (et g0 rfl)) ?_
          refine l_nil ?_
          refine hK5 _ _ ?_
          refine fg4 1 0 4 28 (gS rfl (gS rfl (gS rfl (gS rfl (gS rfl (gS rfl (gS rfl (gS rfl (gS rfl (gS rfl (gS rfl (gS rfl (gS rfl (gS rfl (gS rfl g0))))))))))))))) (gS rfl (gS rfl (gS rfl (gS rfl (gS rfl (gS rfl (gS rfl (gS rfl (gS rfl (gS rfl (gS rfl (gS rfl (gS rfl (gS rfl g0)))))))))))))) (gS rfl (gS rfl (gS rfl (gS rfl (gS rfl (gS rfl (gS rfl (gS rfl (gS rfl (gS rfl (gS rfl (gS rfl (gS rfl g0))))))))))))) g0 (fun g => ?_)
          refine c_cond (et g0 rfl) (fun cB1 => ?_) (fun cB1 => ?_)
          · skip
            
            have hno : ¬ (ncOk f.ntv f.input = true ∧ ncN f.ntv f.input ≤ f.gas) := fun h9 => Nat.not_lt.2 h9.2 (of_decide_eq_true cB1)
            refine c_seq (fun K12 hK12 => ?_)
            exact (by
              refine c_region ?_
              refine l_step (y_moveV (et (gS rfl (gS rfl g0)) rfl)) ?_
              refine l_eff (e_callV cal_59 (aC (et g0 rfl) (aC (v := .int .u8 ((2 : Nat) : Int)) rfl (aC rfl aN))) (yp_leave (s := { s with frames := low ++ [f] }) (low := low) (u := f) (YT.close (low := low) (f := f) (msl := msl) (Y := fun b => Y b ∨ w.heap.size ≤ b) ⟨kS, SC.frames (hs.mono hL0) _, ⟨hcp, yt.hc.2.1, (by rw [oF.size]; exact yt.hc.2.2)⟩, kF, (hf.mono hL0), kM, (yt.hl.mono hL0).pre (oF.pre (Nat.le_refl _)) (Nat.le_refl _), kR, kL.mono hL0, hvl, nbS, nbF, nbM, .inl yt.yS, .inl yt.yF, .inl yt.yM, Nat.lt_of_lt_of_le lM U.size, dSF, dMF, dSM, fun b e => ⟨Nat.lt_of_lt_of_le (dL b e).1 U.size, (dL b e).2⟩, fun b e => G.nb (yt.nbL b e) (dL b e).1, fun b e => .inl (yt.yL b e), fun m hm => ⟨Nat.lt_of_lt_of_le (dR m hm).1 U.size, (dR m hm).2⟩, fun m hm => ⟨G.nb (yt.nbR m hm).1 (dR m hm).1, .inl (yt.nbR m hm).2⟩, yt.ndR⟩ hF rfl) rfl 2 (by decide) (BV.nil _) (nh.b1.frames _) nh.p1 nh.len)) (fun v13 w13 h13 => ?_)
              obtain ⟨rfl, H13, g13, ym13⟩ := h13
              replace G := G.trans g13 (by intro b hb; first | exact .inl hb | exact .inl (yOwn b (.inl hb)) | exact .inl (yOwn b (.inr (.inl hb))) | exact .inl (yOwn b (.inr (.inr (.inl hb)))) | exact .inl (yOwn b (.inr (.inr (.inr hb)))) | exact .inl (yOwn b hb) | exact .inl (yOwn b (hb.elim .inl (fun e => .inr (.inr (.inr e))))) | exact hb | exact .inr (by omega))
              replace U := U.cc g13.ch (by intro b hb; first | exact .inl hb | exact .inl (yOwn b (.inl hb)) | exact .inl (yOwn b (.inr (.inl hb))) | exact .inl (yOwn b (.inr (.inr (.inl hb)))) | exact .inl (yOwn b (.inr (.inr (.inr hb)))) | exact .inl (yOwn b hb) | exact .inl (yOwn b (hb.elim .inl (fun e => .inr (.inr (.inr e))))) | exact hb | exact .inr (by omega))
              refine l_nil ?_
              refine hK12 _ _ ?_
              refine fg0 (fun g => ?_)
              refine c_ret ?_
              repeat with_reducible refine then_ret ?_
              refine ret0 rfl ?_
              refine ⟨rfl, _, bf, G, ?_⟩
              rw [natY, if_neg hno]
              rw [lvY_frames] at ym13
              exact ym13)
          · skip
            
            have hyes : ncOk f.ntv f.input = true ∧ ncN f.ntv f.input ≤ f.gas := ⟨hok, Nat.not_lt.1 (of_decide_eq_false cB1)⟩
            refine c_skip ?_
            refine hK4 _ _ ?_
            refine fg3 1 0 4 (gS rfl (gS rfl (gS rfl g0))) (gS rfl (gS rfl g0)) (gS rfl g0) (fun g => ?_)
            refine c_seq (fun K14 hK14 => ?_)
            exact (by
              refine c_region ?_
              refine l_step (y_moveV (et (gS rfl (gS rfl g0)) rfl)) ?_
              refine l_step (y_moveV (et (gS rfl (gS rfl (gS rfl g0))) rfl)) ?_
              refine l_step (y_nil (et g0 rfl)) ?_
              refine l_step (y_fld fld_146_4 (et g0 rfl)) ?_
              refine l_step (y_load1 one_95 (et g0 rfl) (at1 (kF.cell (rF 4 _ rfl)))) ?_
              refine l_step (y_moveV (et (gS rfl (gS rfl (gS rfl (gS rfl (gS rfl g0))))) rfl)) ?_
              refine l_eff (e_callV cal_45 (aC (et (gS rfl g0) rfl) (aC (et g0 rfl) aN)) (yp_less hF (hGa.mono hL0) n3 (bd_sm (bd_lt2 (b := 256 ^ 4) fo.gas (by decide)) (by decide)) (bd_sm q3 (by decide)))) (fun v15 w15 h15 => ?_)
              obtain ⟨H15, g15, n15⟩ := h15
              have hlew15 := g15.le
              replace nbS := g15.nb nbS kS.lt
              replace nbF := g15.nb nbF kF.lt
              replace nbM := g15.nb nbM (Nat.lt_of_lt_of_le lM U.size)
              replace n3 := n3.mono hlew15
              replace hL0 := hL0.trans hlew15
              replace kS := kS.up g15.up
              replace kF := kF.up g15.up
              replace kM := kM.up g15.up
              replace kL := kL.up g15.up
              replace kR := kR.up g15.up
              replace U := U.tr g15.up
              replace G := G.tr g15
              replace hF := g15.fz
              have q15 := bd_sub' n15 (bd_lt2 (b := 256 ^ 4) fo.gas (by decide))
              refine l_step (y_nil (et (gS rfl (gS rfl (gS rfl (gS rfl (gS rfl (gS rfl g0)))))) rfl)) ?_
              refine l_step (y_fld fld_146_4 (et g0 rfl)) ?_
              obtain ⟨sa16, sn16, sc16, rfl⟩ := n15.sl
              have rl16 := RowIn.le rF (Nat.succ_pos _)
              simp only [List.length_cons, List.length_nil, Nat.zero_add, Nat.reduceAdd] at rl16
              refine l_effN (e_store sz_95 (et g0 rfl) (cellsV (et (gS rfl (gS rfl g0)) rfl) rfl) rfl (by first | exact one_bL _ | exact one_uL _ | (intro v hv; simp at hv; subst hv; rfl)) kF (by first | exact Nat.le_trans (by omega) rl16 | exact Nat.le_of_ble_eq_true rfl | (simp; done) | (simp; omega) | omega | (simp only [size_spl, Array.size_setIfInBounds, hs.size]; exact Nat.le_of_ble_eq_true rfl))) (fun v16 w16 h16 => ?_)
              obtain ⟨rfl, x16⟩ := h16
              replace kS := kS.ch x16.ch (by omega)
              replace kM := kM.ch x16.ch (by omega)
              replace kL := kL.ch x16.ch (by intro q hq hm; have := dL q hq; omega)
              replace kR := kR.ch x16.ch (by intro m hm; have := dR m hm; omega)
              replace kF := x16.blk
              replace G := G.wr x16 (.inl (by first | rfl | exact yt.yS | exact yt.yF | (simp; done))) nbF
              replace hF := G.fz
              replace U := U.st x16 (.inl (by first | rfl | exact yt.yS | exact yt.yF | (simp; done)))
              replace oF := kF.oput oF (by omega) (by omega)
              replace rF : RowIn _ _ [.int .u8 (f.kind : Nat), .int .u8 (f.ntv : Nat), .bool f.static, vpc, _, vval, voo, vol, .slice ka f.stack.length kc, .slice am f.mem.length f.mem.length, .slice ca f.code.length cc, .slice ia f.input.length ic] := kF.rput rF 4 rfl
              replace rSe := kF.rputo rSe (by first | (left; omega) | (right; simp only [List.length_cons, List.length_nil, length_bL, length_be, hSv.len]; omega))
              replace rCa := kF.rputo rCa (by first | (left; omega) | (right; simp only [List.length_cons, List.length_nil, length_bL, length_be, hSv.len]; omega))
              replace rSv := kF.rputo rSv (by first | (left; omega) | (right; simp only [List.length_cons, List.length_nil, length_bL, length_be, hSv.len]; omega))
              refine l_nil ?_
              refine hK14 _ _ ?_
              refine fg2 1 0 (gS rfl (gS rfl (gS rfl (gS rfl (gS rfl (gS rfl (gS rfl (gS rfl (gS rfl (gS rfl (gS rfl g0))))))))))) (gS rfl (gS rfl (gS rfl (gS rfl (gS rfl (gS rfl (gS rfl (gS rfl (gS rfl (gS rfl g0)))))))))) (fun g => ?_)
              refine c_draw Up 10 [(0, true), (1, true), (2, true), (3, true), (4, true), (5, true), (6, true), (7, true), (8, true), (9, false), (10, false)] (by kernel_rfl) (fun w17 hu => ⟨Up.refl _, ?_⟩)
              replace G := G.tr (Go.ofUp hF hu)
              replace hF := hF.up hu
              replace kS := kS.up hu
              replace kF := kF.up hu
              replace kM := kM.up hu
              replace kL := kL.up hu
              replace kR := kR.up hu
              replace U := U.tr hu
              have SU := Up.refl w17
              exact (by
                refine p_step (by exact rfl) (y_moveV (et g0 rfl)) ?_
                refine p_step (by exact rfl) (y_moveV (et (gS rfl (gS rfl g0)) rfl)) ?_
                refine p_step (by exact rfl) (y_nil (et g0 rfl)) ?_
                refine p_step (by exact rfl) (y_fld fld_146_1 (et g0 rfl)) ?_
                refine p_step (by exact rfl) (y_load1 one_5 (et g0 rfl) (atS (kF.cell (rF 1 _ rfl)))) ?_
                refine p_step (by exact rfl) (y_moveV (et (gS rfl (gS rfl (gS rfl (gS rfl (gS rfl (gS rfl g0)))))) rfl)) ?_
                refine p_step (by exact rfl) (y_nil (et g0 rfl)) ?_
                refine p_step (by exact rfl) (y_fld fld_146_11 (et g0 rfl)) ?_
                refine p_step (by exact rfl) (y_load1 one_38 (et g0 rfl) (atS (kF.cell (rF 11 _ rfl)))) ?_
                refine p_eff (by exact rfl) (e_callV cal_135 (aC (et (gS rfl (gS rfl (gS rfl (gS rfl g0)))) rfl) (aC (et g0 rfl) aN)) (yp_nativeRun hF (hIn.mono hL0) fo3 _ fo.ntv)) (fun v18 w18 h18 => ?_)
                obtain ⟨H18, g18, b18⟩ := h18
                have hlew18 := g18.le
                replace nbS := g18.nb nbS kS.lt
                replace nbF := g18.nb nbF kF.lt
                replace nbM := g18.nb nbM (Nat.lt_of_lt_of_le lM U.size)
                replace n3 := n3.mono hlew18
                replace n15 := n15.mono hlew18
                replace hL0 := hL0.trans hlew18
                replace kS := kS.up g18.up
                replace kF := kF.up g18.up
                replace kM := kM.up g18.up
                replace kL := kL.up g18.up
                replace kR := kR.up g18.up
                replace U := U.tr g18.up
                replace G := G.tr g18
                replace hF := g18.fz
                refine ⟨.inr (SU.tr g18.up), ?_⟩
                replace SU := SU.tr g18.up
                refine p_eff (by exact rfl) (e_callV cal_59 (aC (et (gS rfl (gS rfl (gS rfl (gS rfl (gS rfl (gS rfl (gS rfl (gS rfl (gS rfl g0))))))))) rfl) (aC (v := .int .u8 ((0 : Nat) : Int)) rfl (aC (et g0 rfl) aN))) (yp_leave (s := { s with frames := low ++ [(natF f)] }) (low := low) (u := (natF f)) (YT.close (low := low) (f := (natF f)) (msl := msl) (Y := fun b => Y b ∨ w.heap.size ≤ b) ⟨kS, SC.frames (hs.mono hL0) _, ⟨hcp, yt.hc.2.1, (by rw [oF.size]; exact yt.hc.2.2)⟩, kF, ⟨⟨fo.kind, fo.ntv, fo.pc, (Nat.lt_of_le_of_lt (Nat.sub_le _ _) fo.gas), fo.value, fo.outOff, fo.outLen, fo.self, fo.caller, fo.stack, fo.code, fo.input, fo.mem⟩, _, _, _, _, _, _, _, _, _, _, _, _, rF, rSe, rCa, rSv, hSv.mono hL0, (hPc.mono hL0), n15, (hVa.mono hL0), (hOf.mono hL0), (hOl.mono hL0), (hSt.mono hL0), (hCo.mono hL0), (hIn.mono hL0)⟩, kM, (yt.hl.mono hL0).pre (oF.pre (Nat.le_refl _)) (Nat.le_refl _), kR, kL.mono hL0, hvl, nbS, nbF, nbM, .inl yt.yS, .inl yt.yF, .inl yt.yM, Nat.lt_of_lt_of_le lM U.size, dSF, dMF, dSM, fun b e => ⟨Nat.lt_of_lt_of_le (dL b e).1 U.size, (dL b e).2⟩, fun b e => G.nb (yt.nbL b e) (dL b e).1, fun b e => .inl (yt.yL b e), fun m hm => ⟨Nat.lt_of_lt_of_le (dR m hm).1 U.size, (dR m hm).2⟩, fun m hm => ⟨G.nb (yt.nbR m hm).1 (dR m hm).1, .inl (yt.nbR m hm).2⟩, yt.ndR⟩ hF rfl) rfl 0 (by decide) b18 (nh.b2.frames _) nh.p2 nh.len)) (fun v19 w19 h19 => ?_)
                obtain ⟨rfl, H19, g19, ym19⟩ := h19
                replace G := G.trans g19 (by intro b hb; first | exact .inl hb | exact .inl (yOwn b (.inl hb)) | exact .inl (yOwn b (.inr (.inl hb))) | exact .inl (yOwn b (.inr (.inr (.inl hb)))) | exact .inl (yOwn b (.inr (.inr (.inr hb)))) | exact .inl (yOwn b hb) | exact .inl (yOwn b (hb.elim .inl (fun e => .inr (.inr (.inr e))))) | exact hb | exact .inr (by omega))
                replace U := U.cc g19.ch (by intro b hb; first | exact .inl hb | exact .inl (yOwn b (.inl hb)) | exact .inl (yOwn b (.inr (.inl hb))) | exact .inl (yOwn b (.inr (.inr (.inl hb)))) | exact .inl (yOwn b (.inr (.inr (.inr hb)))) | exact .inl (yOwn b hb) | exact .inl (yOwn b (hb.elim .inl (fun e => .inr (.inr (.inr e))))) | exact hb | exact .inr (by omega))
                refine ⟨.inl rfl, ?_⟩
                refine p_nil ?_
                refine end0 rfl ?_
                refine ⟨rfl, _, bf, G, ?_⟩
                rw [natY, if_pos hyes]
                rw [lvY_frames] at ym19
                exact ym19)))))
end Go.Proofs.YgvaawGreat
