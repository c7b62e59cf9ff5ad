import Derived.Test.YgvaawGreatY41
set_option maxRecDepth 100000
set_option maxHeartbeats 4000000
set_option linter.unusedSimpArgs false
set_option linter.unusedVariables false
namespace Go.Proofs.YgvaawGreat
open Go
def entersY (s : YSt) (f : YF) (q : Nat) (low : List YF) : YSt := if q = 240 ∨ q = 245 then creY { s with ret := [] } f q low else callY { s with ret := [] } f q low
theorem creY_frames (s : YSt) (x : List YF) (f : YF) (q : Nat) (low : List YF) : creY { s with frames := x } f q low = creY s f q low := rfl
theorem callY_frames (s : YSt) (x : List YF) (f : YF) (q : Nat) (low : List YF) : callY { s with frames := x } f q low = callY s f q low := rfl
theorem EnH.eq {s s' : YSt} {f : YF} (h : EnH s f) (e : s'.now = s.now) : EnH s' f := ⟨⟨by rw [e]; exact h.cl.1, by rw [e]; exact h.cl.2⟩, by rw [e]; exact h.accts, by rw [e]; exact h.made, by rw [e]; exact h.sum⟩
theorem CreH.frames {s : YSt} {f : YF} {q : Nat} {low : List YF} (h : CreH s f q low) (x : List YF) : CreH { s with frames := x } f q low := ⟨h.hq, h.len, h.tk, h.stk, h.pc, h.rd, h.warmA, h.accts, fun h9 => (h.en h9).eq rfl⟩
theorem CallH.frames {s : YSt} {f : YF} {q : Nat} {low : List YF} (h : CallH s f q low) (x : List YF) : CallH { s with frames := x } f q low := ⟨h.hq, h.len, h.tk, h.stk, h.pc, h.gas, h.rd, h.code, h.warmA, fun h9 => (h.en h9).eq rfl⟩
structure EtsH (s : YSt) (f : YF) (q : Nat) (low : List YF) : Prop where
  cre : q = 240 ∨ q = 245 → CreH { s with ret := [] } f q low
  call : ¬ (q = 240 ∨ q = 245) → CallH { s with ret := [] } f q low
theorem yp_enters (hKec : KSum) (hCr : CrSum) {w : World} {H : Store} (hF : Fz w H) {bs bf : Nat} {s : YSt} {Y : Nat → Prop} {low : List YF} {f : YF} (hY : YM w H bs s Y bf) (hfr : s.frames = low ++ [f]) (q : Nat) (hq : q < 256) (nh : EtsH s f q low) :
    Ret 66 [.pointer (some ⟨bs, 0, none⟩), .pointer (some ⟨bf, low.length * 60, none⟩), .int .u8 q] w (fun v w' => v = .tuple #[] ∧ ∃ H' bf', Go Y w H w' H' ∧ YM w' H' bs (entersY s f q low) (fun b => Y b ∨ w.heap.size ≤ b) bf') := by
  obtain ⟨cs, fs, cap, vm, bm, msl, ol, vl, yt⟩ := hY.top hfr
  have kS := yt.kS
  have hs := yt.hs
  have kF := yt.kF
  have hf := yt.hf
  have kM := yt.kM
  have kR := yt.kR
  have kL := yt.kL
  have hvl := yt.hvl
  have nbS := yt.nbS
  have nbF := yt.nbF
  have nbM := yt.nbM
  have lM := yt.lM
  have dSF := yt.dSF
  have dMF := yt.dMF
  have dSM := yt.dSM
  have dL := yt.dL
  have dR := yt.dR
  have hcp := yt.hc.1
  have yOwn : ∀ b, (b = bs ∨ b = bf ∨ b = bm ∨ ol = some b) → Y b := fun b hb => hb.elim (fun e => e ▸ yt.yS) (fun hb => hb.elim (fun e => e ▸ yt.yF) (fun hb => hb.elim (fun e => e ▸ yt.yM) (yt.yL b)))
  obtain ⟨am, rfl⟩ := kM.val
  obtain ⟨aa, ac, wa, wc, sa, sc, vr, la, lc, ta, tc, ma, mc, ga, gc, oa, oc, ra, rc, vlim, vtx, vleft, vpr, vtot, rS, rOr, rMd, hAc, hWA, hWS, hRf, hTm, hMd, hGn, hSr, hRt, hLm, hTx, hLf, hPr, hTt⟩ := hs.ex
  have so := hs.ok
  have so1 := so.accts
  have so2 := so.warmA
  have so3 := so.warmS
  have so4 := so.temps
  have so5 := so.start
  have so6 := so.logs
  have so7 := so.made
  have so8 := so.gone
  have so9 := so.ret
  have eC := hs.env
  obtain ⟨vpc, vgas, vval, voo, vol, ka, kc, ca, cc, ia, ic, svc, rF, rSe, rCa, rSv, hSv, hPc, hGa, hVa, hOf, hOl, hSt, hCo, hIn⟩ := hf.ex
  have fo := hf.ok
  have fo1 := fo.stack
  have fo2 := fo.code
  have fo3 := fo.input
  have fo4 := fo.mem
  have lS := kS.lt
  have lF := kF.lt
  have hv4 := rS 4 _ rfl
  have oF := Out.refl fs (low.length * 60) 60
  refine enter (n := 23) Hvaa.func66 rfl rfl (Nat.le_of_ble_eq_true rfl) ?_
  have U : Ch (fun k => Y k) w w := Ch.refl _ w
  have G : Go (fun k => Y k) w H w H := Go.refl hF
  have hL0 : Le H H := Le.refl H
  refine c_seq (fun K1 hK1 => ?_)
  exact (by
    refine c_region ?_
    refine l_step (y_moveV (et g0 rfl)) ?_
    refine l_step (y_nil (et g0 rfl)) ?_
    refine l_step (y_fld fld_102_3 (et g0 rfl)) ?_
    have rl2 := RowIn.le rS (Nat.succ_pos _)
    simp only [List.length_cons, List.length_nil, Nat.zero_add, Nat.reduceAdd] at rl2
    refine l_effN (e_store sz_38 (et g0 rfl) (cellsV rfl rfl) rfl (by first | exact one_bL _ | exact one_uL _ | (intro v hv; simp at hv; subst hv; rfl)) kS (by first | exact Nat.le_trans (by omega) rl2 | exact Nat.le_of_ble_eq_true rfl | (simp; done) | (simp; omega) | omega | (simp only [size_spl, Array.size_setIfInBounds, hs.size]; exact Nat.le_of_ble_eq_true rfl))) (fun v2 w2 h2 => ?_)
    obtain ⟨rfl, x2⟩ := h2
    replace kF := kF.ch x2.ch (by omega)
    replace kM := kM.ch x2.ch (by omega)
    replace kL := kL.ch x2.ch (by intro q hq hm; have := dL q hq; omega)
    replace kR := kR.ch x2.ch (by intro m hm; have := dR m hm; omega)
    replace kS := x2.blk
    replace G := G.wr x2 (.inl (by first | rfl | exact yt.yS | exact yt.yF | (simp; done))) nbS
    replace hF := G.fz
    replace U := U.st x2 (.inl (by first | rfl | exact yt.yS | exact yt.yF | (simp; done)))
    replace eC := kS.eput eC (by omega)
    replace rS : RowIn _ _ [.slice aa s.now.accts.length ac, .slice wa s.now.warmA.length wc, .slice sa s.now.warmS.length sc, vr, .slice la s.now.logs.length lc, .slice ta s.now.temps.length tc, .slice ma s.now.made.length mc, .slice ga s.now.gone.length gc, .slice oa s.start.length oc, .slice (some ⟨bf, 0, none⟩) (low.length + 1) cap, _, .int .u8 (s.phase : Nat), .int .u8 (s.status : Nat), .int .u8 (s.applied : Nat), vlim, vtx, vleft, vpr, vtot] := kS.rput rS 10 rfl
    replace rOr := kS.rputo rOr (by first | (left; omega) | (right; simp only [List.length_cons, List.length_nil, length_bL, length_be]; omega))
    replace rMd := kS.rputo rMd (by first | (left; omega) | (right; simp only [List.length_cons, List.length_nil, length_bL, length_be]; omega))
    refine l_nil ?_
    refine hK1 _ _ ?_
    refine fg3 2 1 0 (gS rfl (gS rfl (gS rfl (gS rfl (gS rfl g0))))) (gS rfl (gS rfl (gS rfl (gS rfl g0)))) (gS rfl (gS rfl (gS rfl g0))) (fun g => ?_)
    refine c_seq (fun K3 hK3 => ?_)
    exact (by
      refine c_region ?_
      refine l_step (y_moveV (et (gS rfl (gS rfl g0)) rfl)) ?_
      refine l_step (y_eql (et g0 rfl) rfl) ?_
      refine l_step (y_moveV (et g0 rfl)) ?_
      refine l_gpure (j := 2) (t := 11) (by exact rfl) (by exact rfl) (et g0 rfl) rfl (fun hc => (y_moveV (et (gS rfl (gS rfl (gS rfl (gS rfl (gS rfl g0))))) rfl))) ?_
      refine l_gpure (j := 2) (t := 11) (by exact rfl) (by exact rfl) (et (gS rfl g0) rfl) rfl (fun hc => (y_eql (et (cT g0 hc) rfl) rfl)) ?_
      refine l_step (y_pickO (et (gS rfl (gS rfl g0)) rfl) rfl (et g0 rfl)) ?_
      refine l_nil ?_
      refine hK3 _ _ ?_
      refine fg4 2 1 0 14 (gS rfl (gS rfl (gS rfl (gS rfl (gS rfl (gS rfl (gS rfl (gS rfl g0)))))))) (gS rfl (gS rfl (gS rfl (gS rfl (gS rfl (gS rfl (gS rfl g0))))))) (gS rfl (gS rfl (gS rfl (gS rfl (gS rfl (gS rfl g0)))))) g0 (fun g => ?_)
      refine c_cond (et g0 rfl) (fun cB1 => ?_) (fun cB1 => ?_)
      · skip
        
        have h12 : q = 240 ∨ q = 245 := by simp at cB1; omega
        exact (by
          refine c_region ?_
          refine l_step (y_moveV (et (gS rfl g0) rfl)) ?_
          refine l_step (y_moveV (et (gS rfl (gS rfl (gS rfl g0))) rfl)) ?_
          refine l_step (y_moveV (et (gS rfl (gS rfl (gS rfl (gS rfl (gS rfl g0))))) rfl)) ?_
          have hU9 := U.size
          refine l_eff (e_callV cal_149 (aC (et (gS rfl (gS rfl g0)) rfl) (aC (et (gS rfl g0) rfl) (aC (et g0 rfl) aN))) (yp_enterCreate hKec hCr hF (s := { { s with ret := [] } with frames := low ++ [f] }) (low := low) (f := f) (YT.close (low := low) (f := f) (msl := msl) (Y := fun b => Y b ∨ w.heap.size ≤ b) ⟨kS, SC.frames (show SC H _ { s with ret := [] } _ from ⟨⟨so.accts, so.warmA, so.warmS, so.refund, so.logs, so.temps, so.made, so.gone, so.start, (show 0 < 16777216 by decide), so.phase, so.status, so.applied, so.limit, so.txGas, so.left, so.price, so.total, so.origin, so.mad⟩, eC.mono hL0, (by simp only [size_spl, Array.size_setIfInBounds]; exact hs.size), _, _, _, _, _, _, _, _, _, _, _, _, _, _, _, _, _, _, _, _, _, _, _, _, rS, rOr, rMd, (hAc.mono hL0), (hWA.mono hL0), (hWS.mono hL0), (hRf.mono hL0), (hTm.mono hL0), (hMd.mono hL0), (hGn.mono hL0), (hSr.mono hL0), (BV.nil _), (hLm.mono hL0), (hTx.mono hL0), (hLf.mono hL0), (hPr.mono hL0), (hTt.mono hL0)⟩) _, ⟨hcp, yt.hc.2.1, (by rw [oF.size]; exact yt.hc.2.2)⟩, kF, (hf.mono hL0), kM, (yt.hl.mono hL0).pre (oF.pre (Nat.le_refl _)) (Nat.le_refl _), kR, (show LG _ _ _ _ ({ s with ret := [] } : YSt).now.logs from kL.mono hL0), ((rS 4 _ rfl).trans (hv4.symm.trans hvl)), nbS, nbF, nbM, .inl yt.yS, .inl yt.yF, .inl yt.yM, Nat.lt_of_lt_of_le lM U.size, dSF, dMF, dSM, fun b e => ⟨Nat.lt_of_lt_of_le (dL b e).1 U.size, (dL b e).2⟩, fun b e => G.nb (yt.nbL b e) (dL b e).1, fun b e => .inl (yt.yL b e), fun m hm => ⟨Nat.lt_of_lt_of_le (dR m hm).1 U.size, (dR m hm).2⟩, fun m hm => ⟨G.nb (yt.nbR m hm).1 (dR m hm).1, .inl (yt.nbR m hm).2⟩, yt.ndR⟩ hF rfl) rfl q hq ((nh.cre h12).frames _))) (fun v5 w5 h5 => ?_)
          obtain ⟨rfl, H5, bf5, g5, ym5⟩ := h5
          replace G := G.trans g5 (by intro b hb; first | exact .inl hb | exact .inl (yOwn b (.inl hb)) | exact .inl (yOwn b (.inr (.inl hb))) | exact .inl (yOwn b (.inr (.inr (.inl hb)))) | exact .inl (yOwn b (.inr (.inr (.inr hb)))) | exact .inl (yOwn b hb) | exact .inl (yOwn b (hb.elim .inl (fun e => .inr (.inr (.inr e))))) | exact hb | exact .inr (by omega))
          replace U := U.cc g5.ch (by intro b hb; first | exact .inl hb | exact .inl (yOwn b (.inl hb)) | exact .inl (yOwn b (.inr (.inl hb))) | exact .inl (yOwn b (.inr (.inr (.inl hb)))) | exact .inl (yOwn b (.inr (.inr (.inr hb)))) | exact .inl (yOwn b hb) | exact .inl (yOwn b (hb.elim .inl (fun e => .inr (.inr (.inr e))))) | exact hb | exact .inr (by omega))
          refine l_nil ?_
          refine end0 rfl ?_
          refine ⟨rfl, _, bf5, G, ?_⟩
          rw [entersY, if_pos h12]
          rw [creY_frames] at ym5
          exact ym5.wk (fun b hb => hb.elim id (fun h9 => .inr (Nat.le_trans hU9 h9))))
      · skip
        
        have h12 : ¬ (q = 240 ∨ q = 245) := by simp at cB1; omega
        refine c_region ?_
        refine l_step (y_moveV (et (gS rfl g0) rfl)) ?_
        refine l_step (y_moveV (et (gS rfl (gS rfl (gS rfl g0))) rfl)) ?_
        refine l_step (y_moveV (et (gS rfl (gS rfl (gS rfl (gS rfl (gS rfl g0))))) rfl)) ?_
        have hU9 := U.size
        refine l_eff (e_callV cal_150 (aC (et (gS rfl (gS rfl g0)) rfl) (aC (et (gS rfl g0) rfl) (aC (et g0 rfl) aN))) (yp_enterCall hF (s := { { s with ret := [] } with frames := low ++ [f] }) (low := low) (f := f) (YT.close (low := low) (f := f) (msl := msl) (Y := fun b => Y b ∨ w.heap.size ≤ b) ⟨kS, SC.frames (show SC H _ { s with ret := [] } _ from ⟨⟨so.accts, so.warmA, so.warmS, so.refund, so.logs, so.temps, so.made, so.gone, so.start, (show 0 < 16777216 by decide), so.phase, so.status, so.applied, so.limit, so.txGas, so.left, so.price, so.total, so.origin, so.mad⟩, eC.mono hL0, (by simp only [size_spl, Array.size_setIfInBounds]; exact hs.size), _, _, _, _, _, _, _, _, _, _, _, _, _, _, _, _, _, _, _, _, _, _, _, _, rS, rOr, rMd, (hAc.mono hL0), (hWA.mono hL0), (hWS.mono hL0), (hRf.mono hL0), (hTm.mono hL0), (hMd.mono hL0), (hGn.mono hL0), (hSr.mono hL0), (BV.nil _), (hLm.mono hL0), (hTx.mono hL0), (hLf.mono hL0), (hPr.mono hL0), (hTt.mono hL0)⟩) _, ⟨hcp, yt.hc.2.1, (by rw [oF.size]; exact yt.hc.2.2)⟩, kF, (hf.mono hL0), kM, (yt.hl.mono hL0).pre (oF.pre (Nat.le_refl _)) (Nat.le_refl _), kR, (show LG _ _ _ _ ({ s with ret := [] } : YSt).now.logs from kL.mono hL0), ((rS 4 _ rfl).trans (hv4.symm.trans hvl)), nbS, nbF, nbM, .inl yt.yS, .inl yt.yF, .inl yt.yM, Nat.lt_of_lt_of_le lM U.size, dSF, dMF, dSM, fun b e => ⟨Nat.lt_of_lt_of_le (dL b e).1 U.size, (dL b e).2⟩, fun b e => G.nb (yt.nbL b e) (dL b e).1, fun b e => .inl (yt.yL b e), fun m hm => ⟨Nat.lt_of_lt_of_le (dR m hm).1 U.size, (dR m hm).2⟩, fun m hm => ⟨G.nb (yt.nbR m hm).1 (dR m hm).1, .inl (yt.nbR m hm).2⟩, yt.ndR⟩ hF rfl) rfl q hq ((nh.call h12).frames _))) (fun v6 w6 h6 => ?_)
        obtain ⟨rfl, H6, bf6, g6, ym6⟩ := h6
        replace G := G.trans g6 (by intro b hb; first | exact .inl hb | exact .inl (yOwn b (.inl hb)) | exact .inl (yOwn b (.inr (.inl hb))) | exact .inl (yOwn b (.inr (.inr (.inl hb)))) | exact .inl (yOwn b (.inr (.inr (.inr hb)))) | exact .inl (yOwn b hb) | exact .inl (yOwn b (hb.elim .inl (fun e => .inr (.inr (.inr e))))) | exact hb | exact .inr (by omega))
        replace U := U.cc g6.ch (by intro b hb; first | exact .inl hb | exact .inl (yOwn b (.inl hb)) | exact .inl (yOwn b (.inr (.inl hb))) | exact .inl (yOwn b (.inr (.inr (.inl hb)))) | exact .inl (yOwn b (.inr (.inr (.inr hb)))) | exact .inl (yOwn b hb) | exact .inl (yOwn b (hb.elim .inl (fun e => .inr (.inr (.inr e))))) | exact hb | exact .inr (by omega))
        refine l_nil ?_
        refine end0 rfl ?_
        refine ⟨rfl, _, bf6, G, ?_⟩
        rw [entersY, if_neg h12]
        rw [callY_frames] at ym6
        exact ym6.wk (fun b hb => hb.elim id (fun h9 => .inr (Nat.le_trans hU9 h9)))))
end Go.Proofs.YgvaawGreat
