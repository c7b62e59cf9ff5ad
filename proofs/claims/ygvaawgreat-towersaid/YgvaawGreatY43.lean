import Derived.Test.YgvaawGreatYP
set_option maxRecDepth 100000
set_option maxHeartbeats 4000000
set_option linter.unusedSimpArgs false
set_option linter.unusedVariables false
namespace Go.Proofs.YgvaawGreat
open Go
structure Lt (w : World) (b : Nat) : Prop where
  out : b < w.heap.size
theorem Lt.ch {M : Nat → Prop} {w w' : World} {b : Nat} (h : Lt w b) (c : Ch M w w') (_ : True) : Lt w' b := ⟨Nat.lt_of_lt_of_le h.out c.size⟩
theorem Lt.up {w w' : World} {b : Nat} (h : Lt w b) (c : Up w w') : Lt w' b := h.ch c trivial
theorem ref_lt (s : YSt) (f : YF) (q : Nat) : (refN s f q).1 < 256 := by
  have hA : refA s f q < 256 := by
    unfold refA
    repeat' split
    all_goals decide
  have hB : refB s f q < 256 := by
    unfold refB
    repeat' split
    all_goals decide
  unfold refN
  split
  · exact hB
  · exact hA
/-- one step -/
def stF (s : YSt) (f : YF) : YF := { f with gas := f.gas - (refN s f (opcN f)).2, mem := growN f.mem (yReach f.stack (opcN f)) }
def stO (s : YSt) (f : YF) : List Nat := rdN (stF s f).mem (argN f.stack 0) (argN f.stack 1)
def stepY (s : YSt) (f : YF) (low : List YF) : YSt :=
  if f.ntv ≠ 0 then natY s f low
  else if (refN s f (opcN f)).1 ≠ 0 then lvY s f (refN s f (opcN f)).1 [] low
  else if opcN f = 0 then lvY s (stF s f) 0 [] low
  else if opcN f = 243 then lvY s (stF s f) 0 (stO s f) low
  else if opcN f = 253 then lvY s (stF s f) 1 (stO s f) low
  else if opcN f = 255 then lvY (desS s (stF s f)) (stF s f) 0 [] low
  else if famN (opcN f) = 16 then entersY s (stF s f) (opcN f) low
  else { plS s (stF s f) (opcN f) with frames := low ++ [plF s (stF s f) (opcN f)] }
structure StH (s : YSt) (f : YF) (low : List YF) : Prop where
  len : low.length < 59980
  nat : f.ntv ≠ 0 → NatH s f low
  r1 : LvH s f []
  rp : ∀ p, low.getLast? = some p → LvP p f (refN s f (opcN f)).1 []
  grow : (refN s f (opcN f)).1 = 0 → 32 * wordsN (yReach f.stack (opcN f)) < 16777216
  b0 : LvH s (stF s f) []
  p0 : opcN f = 0 → ∀ p, low.getLast? = some p → LvP p (stF s f) 0 []
  rd : (refN s f (opcN f)).1 = 0 → opcN f = 243 ∨ opcN f = 253 → argN f.stack 1 < 16777216
  p1 : opcN f = 243 → ∀ p, low.getLast? = some p → LvP p (stF s f) 0 (stO s f)
  p2 : opcN f = 253 → ∀ p, low.getLast? = some p → LvP p (stF s f) 1 (stO s f)
  des : opcN f = 255 → DesH s (stF s f) low
  ent : (refN s f (opcN f)).1 = 0 → famN (opcN f) = 16 → opcN f ≠ 255 → EtsH s (stF s f) (opcN f) low
  rm : SRm s
  tk : (refN s f (opcN f)).1 = 0 → tkN (opcN f) ≤ f.stack.length
  stk : f.stack.length < 60000
  pc : f.pc < 4294967000
  pl : (refN s f (opcN f)).1 = 0 → PlH s (stF s f) (opcN f)
theorem NatH.frames {s : YSt} {f : YF} {low : List YF} (h : NatH s f low) (x : List YF) : NatH { s with frames := x } f low := ⟨h.len, h.b1.frames _, h.p1, h.b2.frames _, h.p2⟩
theorem DesH.frames {s : YSt} {f : YF} {low : List YF} (h : DesH s f low) (x : List YF) : DesH { s with frames := x } f low := ⟨h.len, h.warmA, h.accts, h.gone, h.sum, h.b1.frames x, h.p1⟩
theorem EtsH.frames {s : YSt} {f : YF} {q : Nat} {low : List YF} (h : EtsH s f q low) (x : List YF) : EtsH { s with frames := x } f q low := ⟨fun e => (h.cre e).frames x, fun e => (h.call e).frames x⟩
theorem SRm.frames {s : YSt} (h : SRm s) (x : List YF) : SRm { s with frames := x } := ⟨h.1, h.2, h.3, h.4, h.5, h.6, h.7⟩
theorem PlH.frames {s : YSt} {f : YF} {q : Nat} (h : PlH s f q) (x : List YF) : PlH { s with frames := x } f q := ⟨h.1, h.2, h.3, h.4, h.5, h.6⟩
theorem plF_frames (s : YSt) (x : List YF) (f : YF) (q : Nat) : plF { s with frames := x } f q = plF s f q := rfl
theorem valS_frames (s : YSt) (x y : List YF) (f : YF) (q : Nat) (l : List Nat) : ({ valS { s with frames := x } f q l with frames := y } : YSt) = { valS s f q l with frames := y } := by
  unfold valS
  repeat' split
  all_goals rfl
theorem effS_frames (s : YSt) (x y : List YF) (f : YF) (q : Nat) (l : List Nat) : ({ effS { s with frames := x } f q l with frames := y } : YSt) = { effS s f q l with frames := y } := by
  unfold effS
  rw [show stoOk ({ s with frames := x } : YSt) f = stoOk s f from rfl]
  repeat' split
  all_goals rfl
theorem plS_frames (s : YSt) (x y : List YF) (f : YF) (q : Nat) : ({ plS { s with frames := x } f q with frames := y } : YSt) = { plS s f q with frames := y } := by
  unfold plS
  split
  · exact valS_frames s x y f q _
  · exact effS_frames s x y f q _
  · rfl
theorem natY_frames (s : YSt) (x : List YF) (f : YF) (low : List YF) : natY { s with frames := x } f low = natY s f low := by unfold natY; simp only [lvY_frames]
theorem desY_frames (s : YSt) (x : List YF) (f : YF) (low : List YF) : lvY (desS { s with frames := x } f) f 0 [] low = lvY (desS s f) f 0 [] low := lvY_frames (desS s f) x f 0 [] low
theorem entersY_frames (s : YSt) (x : List YF) (f : YF) (q : Nat) (low : List YF) : entersY { s with frames := x } f q low = entersY s f q low := rfl
theorem yp_step (hKec : KSum) (hCr : CrSum) {w : World} {H : Store} (hF : Fz w H) {bs bf : Nat} {s : YSt} {Y : Nat → Prop} {low : List YF} {f : YF} (hY : YM w H bs s Y bf) (hfr : s.frames = low ++ [f]) (hph : s.phase = 1) (nh : StH s f low) :
    Ret 20 [.pointer (some ⟨bs, 0, none⟩)] w (fun v w' => v = .bool true ∧ ∃ H' bf', Go Y w H w' H' ∧ YM w' H' bs (stepY s f low) (fun b => Y b ∨ w.heap.size ≤ b) bf') := by
  obtain ⟨cs, fs, cap, vm, bm, msl, ol, vl, yt⟩ := hY.top hfr
  have kS := yt.kS
  have hs := yt.hs
  have kF := yt.kF
  have hf := yt.hf
  have kM := yt.kM
  have kR := yt.kR
  have kL := yt.kL
  have hvl := yt.hvl
  have nbS := yt.nbS
  have nbF := yt.nbF
  have nbM := yt.nbM
  have lM := yt.lM
  have dSF := yt.dSF
  have dMF := yt.dMF
  have dSM := yt.dSM
  have dL := yt.dL
  have dR := yt.dR
  have hcp := yt.hc.1
  have yOwn : ∀ b, (b = bs ∨ b = bf ∨ b = bm ∨ ol = some b) → Y b := fun b hb => hb.elim (fun e => e ▸ yt.yS) (fun hb => hb.elim (fun e => e ▸ yt.yF) (fun hb => hb.elim (fun e => e ▸ yt.yM) (yt.yL b)))
  obtain ⟨am, rfl⟩ := kM.val
  obtain ⟨aa, ac, wa, wc, sa, sc, vr, la, lc, ta, tc, ma, mc, ga, gc, oa, oc, ra, rc, vlim, vtx, vleft, vpr, vtot, rS, rOr, rMd, hAc, hWA, hWS, hRf, hTm, hMd, hGn, hSr, hRt, hLm, hTx, hLf, hPr, hTt⟩ := hs.ex
  have so := hs.ok
  have so1 := so.accts
  have so2 := so.warmA
  have so3 := so.warmS
  have so4 := so.temps
  have so5 := so.start
  have so6 := so.logs
  have so7 := so.made
  have so8 := so.gone
  have so9 := so.ret
  have eC := hs.env
  obtain ⟨vpc, vgas, vval, voo, vol, ka, kc, ca, cc, ia, ic, svc, rF, rSe, rCa, rSv, hSv, hPc, hGa, hVa, hOf, hOl, hSt, hCo, hIn⟩ := hf.ex
  have fo := hf.ok
  have fo1 := fo.stack
  have fo2 := fo.code
  have fo3 := fo.input
  have fo4 := fo.mem
  have lS := kS.lt
  have lF := kF.lt
  have hv4 := rS 4 _ rfl
  have oF := Out.refl fs (low.length * 60) 60
  have kB : Lt w bm := ⟨lM⟩
  obtain ⟨q, hqq⟩ : ∃ x, Hid (x = opcN f) := ⟨_, ⟨rfl⟩⟩
  have hop : q < 256 := by rw [hqq.out]; exact opc_lt hCo
  obtain ⟨rf, hrf⟩ : ∃ x, Hid (x = refN s f q) := ⟨_, ⟨rfl⟩⟩
  have hrl : rf.1 < 256 := by rw [hrf.out]; exact ref_lt _ _ _
  have hln := nh.len
  have hrp : ∀ p, low.getLast? = some p → LvP p f rf.1 [] := by rw [hrf.out, hqq.out]; exact nh.rp
  refine enter (n := 116) Hvaa.func20 rfl rfl (Nat.le_of_ble_eq_true rfl) ?_
  have U : Ch (fun k => Y k) w w := Ch.refl _ w
  have G : Go (fun k => Y k) w H w H := Go.refl hF
  have hL0 : Le H H := Le.refl H
  refine c_seq (fun K1 hK1 => ?_)
  exact (by
    refine c_region ?_
    refine l_step y_assignC ?_
    refine l_nil ?_
    refine hK1 _ _ ?_
    refine fg1 0 (gS rfl g0) (fun g => ?_)
    refine c_seq (fun K2 hK2 => ?_)
    exact (by
      refine c_region ?_
      refine l_step (y_moveV (et g0 rfl)) ?_
      refine l_step (y_nil (et g0 rfl)) ?_
      refine l_step (y_fld fld_104_0 (et g0 rfl)) ?_
      refine l_step (y_assignV (et g0 rfl)) ?_
      refine l_nil ?_
      refine hK2 _ _ ?_
      refine fg1 3 g0 (fun g => ?_)
      refine c_seq (fun K3 hK3 => ?_)
      refine c_seq (fun K4 hK4 => ?_)
      exact (by
        refine c_region ?_
        refine l_step (y_moveV (et g0 rfl)) ?_
        refine l_step (y_nil (et g0 rfl)) ?_
        refine l_step (y_fld fld_102_4 (et g0 rfl)) ?_
        refine l_step (y_load1 one_5 (et g0 rfl) (at1 (kS.cell (rS 11 _ rfl)))) ?_
        refine l_step (y_neq (et g0 rfl) rfl) ?_
        refine l_step (y_moveV (et g0 rfl)) ?_
        refine gsplitL (i := 16) g0 (fun q5 => ?_) (fun q5 => ?_)
        · skip
          have hg16 : s.phase ≠ 1 := by have := of_decide_eq_true q5; omega
          refine l_gskip (j := 5) (t := 16) (by exact rfl) (by exact rfl) (et g0 rfl) (by decide) (by decide) ?_
          refine l_gskip (j := 5) (t := 16) (by exact rfl) (by exact rfl) (et (gS rfl g0) rfl) (by decide) (by decide) ?_
          refine l_gskip (j := 5) (t := 16) (by exact rfl) (by exact rfl) (et (gS rfl (gS rfl g0)) rfl) (by decide) (by decide) ?_
          refine l_gskip (j := 5) (t := 16) (by exact rfl) (by exact rfl) (et (gS rfl (gS rfl (gS rfl g0))) rfl) (by decide) (by decide) ?_
          refine l_gskip (j := 5) (t := 16) (by exact rfl) (by exact rfl) (et (gS rfl (gS rfl (gS rfl (gS rfl g0)))) rfl) (by decide) (by decide) ?_
          refine l_gskip (j := 5) (t := 16) (by exact rfl) (by exact rfl) (et (gS rfl (gS rfl (gS rfl (gS rfl (gS rfl g0))))) rfl) (by decide) (by decide) ?_
          refine l_step (y_pickT (et (gS rfl (gS rfl (gS rfl (gS rfl (gS rfl (gS rfl g0)))))) rfl) rfl) ?_
          refine l_nil ?_
          refine hK4 _ _ ?_
          refine fg2 3 23 (gS rfl (gS rfl (gS rfl (gS rfl (gS rfl (gS rfl (gS rfl (gS rfl (gS rfl (gS rfl (gS rfl (gS rfl (gS rfl (gS rfl g0)))))))))))))) g0 (fun g => ?_)
          refine c_true (et g0 rfl) rfl ?_
          refine c_seq (fun K7 hK7 => ?_)
          exact (by
            refine c_region ?_
            refine l_step y_assignC ?_
            refine l_nil ?_
            refine hK7 _ _ ?_
            refine fg1 2 g0 (fun g => ?_)
            refine c_ret ?_
            repeat with_reducible refine then_ret ?_
            refine ret1 rfl (res_tmp (et g0 rfl)) ?_
            exact absurd hph hg16)
        · skip
          refine l_gstep (j := 5) (t := 16) (by exact rfl) (by exact rfl) (et g0 rfl) (by decide) (y_moveV (et (gS rfl (gS rfl (gS rfl (gS rfl (gS rfl (gS rfl (gS rfl g0))))))) rfl)) ?_
          refine l_gstep (j := 5) (t := 16) (by exact rfl) (by exact rfl) (et (gS rfl g0) rfl) (by decide) (y_nil (et g0 rfl)) ?_
          refine l_gstep (j := 5) (t := 16) (by exact rfl) (by exact rfl) (et (gS rfl (gS rfl g0)) rfl) (by decide) (y_fld fld_102_2 (et g0 rfl)) ?_
          refine l_gstep (j := 5) (t := 16) (by exact rfl) (by exact rfl) (et (gS rfl (gS rfl (gS rfl g0))) rfl) (by decide) (y_load1 one_100 (et g0 rfl) (at1 (kS.cell (rS 9 _ rfl)))) ?_
          refine l_gstep (j := 5) (t := 16) (by exact rfl) (by exact rfl) (et (gS rfl (gS rfl (gS rfl (gS rfl g0)))) rfl) (by decide) (y_len Hvaa.underlying100 (et g0 rfl)) ?_
          refine l_gstep (j := 5) (t := 16) (by exact rfl) (by exact rfl) (et (gS rfl (gS rfl (gS rfl (gS rfl (gS rfl g0))))) rfl) (by decide) (y_eql (et g0 rfl) rfl) ?_
          refine l_step (y_pickF (et (gS rfl (gS rfl (gS rfl (gS rfl (gS rfl (gS rfl g0)))))) rfl) (et g0 rfl)) ?_
          refine l_nil ?_
          refine hK4 _ _ ?_
          refine fg2 3 23 (gS rfl (gS rfl (gS rfl (gS rfl (gS rfl (gS rfl (gS rfl (gS rfl (gS rfl (gS rfl (gS rfl (gS rfl (gS rfl (gS rfl g0)))))))))))))) g0 (fun g => ?_)
          refine c_cond (et g0 rfl) (fun cB1 => ?_) (fun cB1 => ?_)
          · skip
            
            have := of_decide_eq_true cB1; omega
          · skip
            
            refine c_skip ?_
            refine hK3 _ _ ?_
            refine fg1 3 (gS rfl g0) (fun g => ?_)
            refine c_seq (fun K9 hK9 => ?_)
            exact (by
              refine c_draw Up 12 [(0, true), (1, true), (2, true), (3, true), (4, true), (5, true), (6, true), (7, true), (8, true), (9, true), (10, true), (11, true)] (by kernel_rfl) (fun w10 hu => ⟨Up.refl _, ?_⟩)
              replace G := G.tr (Go.ofUp hF hu)
              replace hF := hF.up hu
              replace kS := kS.up hu
              replace kF := kF.up hu
              replace kM := kM.up hu
              replace kL := kL.up hu
              replace kR := kR.up hu
              replace kB := kB.up hu
              replace U := U.tr hu
              have SU := Up.refl w10
              refine p_step (by exact rfl) (y_moveV (et g0 rfl)) ?_
              refine p_step (by exact rfl) (y_nil (et g0 rfl)) ?_
              refine p_step (by exact rfl) (y_fld fld_102_2 (et g0 rfl)) ?_
              refine p_step (by exact rfl) (y_load1 one_100 (et g0 rfl) (atS (kS.cell (rS 9 _ rfl)))) ?_
              refine p_step (by exact rfl) (y_moveV (et (gS rfl (gS rfl (gS rfl (gS rfl g0)))) rfl)) ?_
              refine p_step (by exact rfl) (y_nil (et g0 rfl)) ?_
              refine p_step (by exact rfl) (y_fld fld_102_2 (et g0 rfl)) ?_
              refine p_step (by exact rfl) (y_load1 one_100 (et g0 rfl) (atS (kS.cell (rS 9 _ rfl)))) ?_
              refine p_step (by exact rfl) (y_len Hvaa.underlying100 (et g0 rfl)) ?_
              refine p_step (by exact rfl) (y_sub (et g0 rfl) rfl (subIN (y := 1) ?_ ?_)) ?_
              omega
              omega
              refine p_step (by exact rfl) (y_idxSa rfl Hvaa.underlying100 sz_146 (et (gS rfl (gS rfl (gS rfl (gS rfl (gS rfl (gS rfl g0)))))) rfl) (et g0 rfl) ?_) ?_
              omega
              rw [show (0 + (low.length + 1 - 1) * 60 : Nat) = low.length * 60 by rw [Nat.zero_add, Nat.add_sub_cancel]]
              refine p_step (by exact rfl) (y_assignV (et g0 rfl)) ?_
              refine p_nil ?_
              refine hK9 _ _ ?_
              refine fg2 3 4 (gS rfl (gS rfl (gS rfl (gS rfl (gS rfl (gS rfl (gS rfl (gS rfl (gS rfl (gS rfl (gS rfl (gS rfl g0)))))))))))) g0 (fun g => ?_)
              refine c_seq (fun K11 hK11 => ?_)
              refine c_seq (fun K12 hK12 => ?_)
              exact (by
                refine c_region ?_
                refine l_step (y_moveV (et g0 rfl)) ?_
                refine l_step (y_nil (et g0 rfl)) ?_
                refine l_step (y_fld fld_146_1 (et g0 rfl)) ?_
                refine l_step (y_load1 one_5 (et g0 rfl) (at1 (kF.cell (rF 1 _ rfl)))) ?_
                refine l_step (y_neq (et g0 rfl) rfl) ?_
                refine l_nil ?_
                refine hK12 _ _ ?_
                refine fg3 3 4 39 (gS rfl (gS rfl (gS rfl (gS rfl (gS rfl (gS rfl g0)))))) (gS rfl (gS rfl (gS rfl (gS rfl (gS rfl g0))))) g0 (fun g => ?_)
                refine c_cond (et g0 rfl) (fun cB2 => ?_) (fun cB2 => ?_)
                · skip
                  
                  have hn2 : f.ntv ≠ 0 := by have := of_decide_eq_true cB2; omega
                  refine c_seq (fun K14 hK14 => ?_)
                  exact (by
                    refine c_region ?_
                    refine l_step (y_moveV (et (gS rfl (gS rfl g0)) rfl)) ?_
                    refine l_step (y_moveV (et (gS rfl (gS rfl g0)) rfl)) ?_
                    have hU9 := U.size
                    refine l_eff (e_callV cal_56 (aC (et (gS rfl g0) rfl) (aC (et g0 rfl) aN)) (yp_native hF (YT.close (s := { s with frames := low ++ [f] }) (low := low) (f := f) (msl := msl) (Y := fun b => Y b ∨ w.heap.size ≤ b) ⟨kS, SC.frames (hs.mono hL0) _, ⟨hcp, yt.hc.2.1, (by rw [oF.size]; exact yt.hc.2.2)⟩, kF, (hf.mono hL0), kM, (yt.hl.mono hL0).pre (oF.pre (Nat.le_refl _)) (Nat.le_refl _), kR, kL.mono hL0, hvl, nbS, nbF, nbM, .inl yt.yS, .inl yt.yF, .inl yt.yM, kB.out, dSF, dMF, dSM, fun b e => ⟨Nat.lt_of_lt_of_le (dL b e).1 U.size, (dL b e).2⟩, fun b e => G.nb (yt.nbL b e) (dL b e).1, fun b e => .inl (yt.yL b e), fun m hm => ⟨Nat.lt_of_lt_of_le (dR m hm).1 U.size, (dR m hm).2⟩, fun m hm => ⟨G.nb (yt.nbR m hm).1 (dR m hm).1, .inl (yt.nbR m hm).2⟩, yt.ndR⟩ hF rfl) rfl ((nh.nat hn2).frames _))) (fun v15 w15 h15 => ?_)
                    obtain ⟨rfl, H15, bf15, g15, ym15⟩ := h15
                    replace G := G.trans g15 (by intro b hb; first | exact .inl hb | exact .inl (yOwn b (.inl hb)) | exact .inl (yOwn b (.inr (.inl hb))) | exact .inl (yOwn b (.inr (.inr (.inl hb)))) | exact .inl (yOwn b (.inr (.inr (.inr hb)))) | exact .inl (yOwn b hb) | exact .inl (yOwn b (hb.elim .inl (fun e => .inr (.inr (.inr e))))) | exact hb | exact .inr (by omega))
                    replace U := U.cc g15.ch (by intro b hb; first | exact .inl hb | exact .inl (yOwn b (.inl hb)) | exact .inl (yOwn b (.inr (.inl hb))) | exact .inl (yOwn b (.inr (.inr (.inl hb)))) | exact .inl (yOwn b (.inr (.inr (.inr hb)))) | exact .inl (yOwn b hb) | exact .inl (yOwn b (hb.elim .inl (fun e => .inr (.inr (.inr e))))) | exact hb | exact .inr (by omega))
                    refine l_nil ?_
                    refine hK14 _ _ ?_
                    refine fg0 (fun g => ?_)
                    refine c_seq (fun K16 hK16 => ?_)
                    exact (by
                      refine c_region ?_
                      refine l_step y_assignC ?_
                      refine l_nil ?_
                      refine hK16 _ _ ?_
                      refine c_ret ?_
                      repeat with_reducible refine then_ret ?_
                      refine ret1 rfl (res_tmp (et g0 rfl)) ?_
                      refine ⟨rfl, _, bf15, G, ?_⟩
                      rw [stepY, if_pos hn2]
                      rw [natY_frames] at ym15
                      exact ym15.wk (fun b hb => hb.elim id (fun h9 => .inr (Nat.le_trans hU9 h9)))))
                · skip
                  
                  have hn2 : ¬ f.ntv ≠ 0 := by have := of_decide_eq_false cB2; omega
                  refine c_skip ?_
                  refine hK11 _ _ ?_
                  refine fg2 3 4 (gS rfl (gS rfl g0)) (gS rfl g0) (fun g => ?_)
                  refine c_seq (fun K17 hK17 => ?_)
                  exact (by
                    refine c_region ?_
                    refine l_step (y_moveV (et g0 rfl)) ?_
                    refine l_eff (e_callV cal_57 (aC (et g0 rfl) aN) (yp_opcode hF _ _ _ _ _ kF (hf.mono hL0))) (fun v18 w18 h18 => ?_)
                    obtain ⟨rfl, u18⟩ := h18
                    rw [← hqq.out]
                    replace G := G.tr (Go.ofUp hF u18)
                    replace hF := hF.up u18
                    replace kS := kS.up u18
                    replace kF := kF.up u18
                    replace kM := kM.up u18
                    replace kL := kL.up u18
                    replace kR := kR.up u18
                    replace kB := kB.up u18
                    replace U := U.tr u18
                    refine l_step (y_assignV (et g0 rfl)) ?_
                    refine l_nil ?_
                    refine hK17 _ _ ?_
                    refine fg3 3 4 5 (gS rfl (gS rfl (gS rfl (gS rfl g0)))) (gS rfl (gS rfl (gS rfl g0))) g0 (fun g => ?_)
                    refine c_seq (fun K19 hK19 => ?_)
                    exact (by
                      refine c_region ?_
                      refine l_step (y_moveV (et (gS rfl (gS rfl g0)) rfl)) ?_
                      refine l_step (y_moveV (et (gS rfl (gS rfl g0)) rfl)) ?_
                      refine l_step (y_moveV (et (gS rfl (gS rfl g0)) rfl)) ?_
                      refine l_eff (e_callV cal_58 (aC (et (gS rfl (gS rfl g0)) rfl) (aC (et (gS rfl g0) rfl) (aC (et g0 rfl) aN))) (yp_refusal hF _ _ _ _ kS (hs.mono hL0) _ _ _ _ _ kF (hf.mono hL0) _ kM kB.out _ hop)) (fun v20 w20 h20 => ?_)
                      obtain ⟨vc20, H20, rfl, g20, n20⟩ := h20
                      rw [← hrf.out] at n20 ⊢
                      have hlew20 := g20.le
                      replace nbS := g20.nb nbS kS.lt
                      replace nbF := g20.nb nbF kF.lt
                      replace nbM := g20.nb nbM kB.out
                      replace hL0 := hL0.trans hlew20
                      replace kS := kS.up g20.up
                      replace kF := kF.up g20.up
                      replace kM := kM.up g20.up
                      replace kL := kL.up g20.up
                      replace kR := kR.up g20.up
                      replace kB := kB.up g20.up
                      replace U := U.tr g20.up
                      replace G := G.tr g20
                      replace hF := g20.fz
                      refine l_step (y_moveV (et g0 rfl)) ?_
                      refine l_step (y_ext (et g0 rfl) rfl) ?_
                      refine l_step (y_ext (et (gS rfl g0) rfl) rfl) ?_
                      refine l_step (y_assignV (et (gS rfl g0) rfl)) ?_
                      refine l_step (y_assignV (et (gS rfl g0) rfl)) ?_
                      refine l_nil ?_
                      refine hK19 _ _ ?_
                      refine fg5 3 4 5 6 7 (gS rfl (gS rfl (gS rfl (gS rfl (gS rfl (gS rfl (gS rfl (gS rfl (gS rfl (gS rfl (gS rfl g0))))))))))) (gS rfl (gS rfl (gS rfl (gS rfl (gS rfl (gS rfl (gS rfl (gS rfl (gS rfl (gS rfl g0)))))))))) (gS rfl (gS rfl (gS rfl (gS rfl (gS rfl (gS rfl (gS rfl (gS rfl (gS rfl g0))))))))) (gS rfl g0) g0 (fun g => ?_)
                      refine c_seq (fun K21 hK21 => ?_)
                      refine c_seq (fun K22 hK22 => ?_)
                      exact (by
                        refine c_region ?_
                        refine l_step (y_moveV (et (gS rfl g0) rfl)) ?_
                        refine l_step (y_neq (et g0 rfl) rfl) ?_
                        refine l_nil ?_
                        refine hK22 _ _ ?_
                        refine fg6 3 4 5 6 7 53 (gS rfl (gS rfl (gS rfl (gS rfl (gS rfl (gS rfl g0)))))) (gS rfl (gS rfl (gS rfl (gS rfl (gS rfl g0))))) (gS rfl (gS rfl (gS rfl (gS rfl g0)))) (gS rfl (gS rfl (gS rfl g0))) (gS rfl (gS rfl g0)) g0 (fun g => ?_)
                        refine c_cond (et g0 rfl) (fun cB3 => ?_) (fun cB3 => ?_)
                        · skip
                          
                          have hr0 : rf.1 ≠ 0 := by have := of_decide_eq_true cB3; omega
                          refine c_seq (fun K24 hK24 => ?_)
                          exact (by
                            refine c_region ?_
                            refine l_step (y_moveV (et (gS rfl (gS rfl (gS rfl (gS rfl (gS rfl g0))))) rfl)) ?_
                            refine l_step (y_moveV (et (gS rfl (gS rfl (gS rfl g0))) rfl)) ?_
                            have hU9 := U.size
                            refine l_eff (e_callV cal_59 (aC (et (gS rfl g0) rfl) (aC (et g0 rfl) (aC rfl aN))) (yp_leave (low := low) (u := f) (YT.close (s := { s with frames := low ++ [f] }) (low := low) (f := f) (msl := msl) (Y := fun b => Y b ∨ w.heap.size ≤ b) ⟨kS, SC.frames (hs.mono hL0) _, ⟨hcp, yt.hc.2.1, (by rw [oF.size]; exact yt.hc.2.2)⟩, kF, (hf.mono hL0), kM, (yt.hl.mono hL0).pre (oF.pre (Nat.le_refl _)) (Nat.le_refl _), kR, kL.mono hL0, hvl, nbS, nbF, nbM, .inl yt.yS, .inl yt.yF, .inl yt.yM, kB.out, dSF, dMF, dSM, fun b e => ⟨Nat.lt_of_lt_of_le (dL b e).1 U.size, (dL b e).2⟩, fun b e => G.nb (yt.nbL b e) (dL b e).1, fun b e => .inl (yt.yL b e), fun m hm => ⟨Nat.lt_of_lt_of_le (dR m hm).1 U.size, (dR m hm).2⟩, fun m hm => ⟨G.nb (yt.nbR m hm).1 (dR m hm).1, .inl (yt.nbR m hm).2⟩, yt.ndR⟩ hF rfl) rfl rf.1 hrl (BV.nil _) (nh.r1.frames _) hrp (by have := nh.len; omega))) (fun v25 w25 h25 => ?_)
                            obtain ⟨rfl, H25, g25, ym25⟩ := h25
                            replace G := G.trans g25 (by intro b hb; first | exact .inl hb | exact .inl (yOwn b (.inl hb)) | exact .inl (yOwn b (.inr (.inl hb))) | exact .inl (yOwn b (.inr (.inr (.inl hb)))) | exact .inl (yOwn b (.inr (.inr (.inr hb)))) | exact .inl (yOwn b hb) | exact .inl (yOwn b (hb.elim .inl (fun e => .inr (.inr (.inr e))))) | exact hb | exact .inr (by omega))
                            replace U := U.cc g25.ch (by intro b hb; first | exact .inl hb | exact .inl (yOwn b (.inl hb)) | exact .inl (yOwn b (.inr (.inl hb))) | exact .inl (yOwn b (.inr (.inr (.inl hb)))) | exact .inl (yOwn b (.inr (.inr (.inr hb)))) | exact .inl (yOwn b hb) | exact .inl (yOwn b (hb.elim .inl (fun e => .inr (.inr (.inr e))))) | exact hb | exact .inr (by omega))
                            refine l_nil ?_
                            refine hK24 _ _ ?_
                            refine fg0 (fun g => ?_)
                            refine c_seq (fun K26 hK26 => ?_)
                            exact (by
                              refine c_region ?_
                              refine l_step y_assignC ?_
                              refine l_nil ?_
                              refine hK26 _ _ ?_
                              refine c_ret ?_
                              repeat with_reducible refine then_ret ?_
                              refine ret1 rfl (res_tmp (et g0 rfl)) ?_
                              have hR3 : (refN s f (opcN f)).1 ≠ 0 := by rw [← hqq.out, ← hrf.out]; exact hr0
                              refine ⟨rfl, _, bf, G, ?_⟩
                              rw [stepY, if_neg hn2, if_pos hR3]
                              rw [lvY_frames] at ym25
                              rw [hrf.out, hqq.out] at ym25
                              exact ym25.wk (fun b hb => hb)))
                        · skip
                          
                          have hr0 : rf.1 = 0 := by have := of_decide_eq_false cB3; omega
                          have hR0 : (refN s f (opcN f)).1 = 0 := by rw [← hqq.out, ← hrf.out]; exact hr0
                          have hrc : rf.2 ≤ f.gas := by have h9 := ref_cost hR0; rw [← hqq.out, ← hrf.out] at h9; exact h9
                          have hgr : 32 * wordsN (yReach f.stack q) < 16777216 := by have h9 := nh.grow hR0; rw [← hqq.out] at h9; exact h9
                          refine c_skip ?_
                          refine hK21 _ _ ?_
                          refine fg4 3 4 5 7 (gS rfl (gS rfl (gS rfl (gS rfl (gS rfl g0))))) (gS rfl (gS rfl (gS rfl (gS rfl g0)))) (gS rfl (gS rfl (gS rfl g0))) (gS rfl g0) (fun g => ?_)
                          refine c_seq (fun K27 hK27 => ?_)
                          exact (by
                            refine c_region ?_
                            refine l_step (y_moveV (et (gS rfl (gS rfl g0)) rfl)) ?_
                            refine l_step (y_moveV (et (gS rfl (gS rfl (gS rfl g0))) rfl)) ?_
                            refine l_step (y_nil (et g0 rfl)) ?_
                            refine l_step (y_fld fld_146_4 (et g0 rfl)) ?_
                            refine l_step (y_load1 one_95 (et g0 rfl) (at1 (kF.cell (rF 4 _ rfl)))) ?_
                            refine l_step (y_moveV (et (gS rfl (gS rfl (gS rfl (gS rfl (gS rfl g0))))) rfl)) ?_
                            refine l_eff (e_callV cal_45 (aC (et (gS rfl g0) rfl) (aC (et g0 rfl) aN)) (yp_less hF (hGa.mono hL0) n20 (bd_sm (bd_lt2 (b := 256 ^ 4) fo.gas (by decide)) (by decide)) (bd_sm (bd_lt2 (b := 256 ^ 4) (Nat.lt_of_le_of_lt hrc fo.gas) (by decide)) (by decide)))) (fun v28 w28 h28 => ?_)
                            obtain ⟨H28, g28, n28⟩ := h28
                            have hlew28 := g28.le
                            replace nbS := g28.nb nbS kS.lt
                            replace nbF := g28.nb nbF kF.lt
                            replace nbM := g28.nb nbM kB.out
                            replace n20 := n20.mono hlew28
                            replace hL0 := hL0.trans hlew28
                            replace kS := kS.up g28.up
                            replace kF := kF.up g28.up
                            replace kM := kM.up g28.up
                            replace kL := kL.up g28.up
                            replace kR := kR.up g28.up
                            replace kB := kB.up g28.up
                            replace U := U.tr g28.up
                            replace G := G.tr g28
                            replace hF := g28.fz
                            have q28 := bd_sub' n28 (bd_lt2 (b := 256 ^ 4) fo.gas (by decide))
                            refine l_step (y_nil (et (gS rfl (gS rfl (gS rfl (gS rfl (gS rfl (gS rfl g0)))))) rfl)) ?_
                            refine l_step (y_fld fld_146_4 (et g0 rfl)) ?_
                            obtain ⟨sa29, sn29, sc29, rfl⟩ := n28.sl
                            have rl29 := RowIn.le rF (Nat.succ_pos _)
                            simp only [List.length_cons, List.length_nil, Nat.zero_add, Nat.reduceAdd] at rl29
                            refine l_effN (e_store sz_95 (et g0 rfl) (cellsV (et (gS rfl (gS rfl g0)) rfl) rfl) rfl (by first | exact one_bL _ | exact one_uL _ | (intro v hv; simp at hv; subst hv; rfl)) kF (by first | exact Nat.le_trans (by omega) rl29 | exact Nat.le_of_ble_eq_true rfl | (simp; done) | (simp; omega) | omega | (simp only [size_spl, Array.size_setIfInBounds, hs.size]; exact Nat.le_of_ble_eq_true rfl))) (fun v29 w29 h29 => ?_)
                            obtain ⟨rfl, x29⟩ := h29
                            replace kS := kS.ch x29.ch (by omega)
                            replace kM := kM.ch x29.ch (by omega)
                            replace kL := kL.ch x29.ch (by intro q hq hm; have := dL q hq; omega)
                            replace kR := kR.ch x29.ch (by intro m hm; have := dR m hm; omega)
                            replace kB := kB.ch x29.ch (by trivial)
                            replace kF := x29.blk
                            replace G := G.wr x29 (.inl (by first | rfl | exact yt.yS | exact yt.yF | (simp; done))) nbF
                            replace hF := G.fz
                            replace U := U.st x29 (.inl (by first | rfl | exact yt.yS | exact yt.yF | (simp; done)))
                            replace oF := kF.oput oF (by omega) (by omega)
                            replace rF : RowIn _ _ [.int .u8 (f.kind : Nat), .int .u8 (f.ntv : Nat), .bool f.static, vpc, _, vval, voo, vol, .slice ka f.stack.length kc, .slice am f.mem.length f.mem.length, .slice ca f.code.length cc, .slice ia f.input.length ic] := kF.rput rF 4 rfl
                            replace rSe := kF.rputo rSe (by first | (left; omega) | (right; simp only [List.length_cons, List.length_nil, length_bL, length_be, hSv.len]; omega))
                            replace rCa := kF.rputo rCa (by first | (left; omega) | (right; simp only [List.length_cons, List.length_nil, length_bL, length_be, hSv.len]; omega))
                            replace rSv := kF.rputo rSv (by first | (left; omega) | (right; simp only [List.length_cons, List.length_nil, length_bL, length_be, hSv.len]; omega))
                            have hfP : FC H28 _ _ { f with gas := f.gas - rf.2 } (.slice am f.mem.length f.mem.length) := ⟨⟨fo.kind, fo.ntv, fo.pc, (Nat.lt_of_le_of_lt (Nat.sub_le _ _) fo.gas), fo.value, fo.outOff, fo.outLen, fo.self, fo.caller, fo.stack, fo.code, fo.input, fo.mem⟩, _, _, _, _, _, _, _, _, _, _, _, _, rF, rSe, rCa, rSv, hSv.mono hL0, (hPc.mono hL0), n28, (hVa.mono hL0), (hOf.mono hL0), (hOl.mono hL0), (hSt.mono hL0), (hCo.mono hL0), (hIn.mono hL0)⟩
                            refine l_nil ?_
                            refine hK27 _ _ ?_
                            refine fg3 3 4 5 (gS rfl (gS rfl (gS rfl (gS rfl (gS rfl (gS rfl (gS rfl (gS rfl (gS rfl (gS rfl (gS rfl (gS rfl g0)))))))))))) (gS rfl (gS rfl (gS rfl (gS rfl (gS rfl (gS rfl (gS rfl (gS rfl (gS rfl (gS rfl (gS rfl g0))))))))))) (gS rfl (gS rfl (gS rfl (gS rfl (gS rfl (gS rfl (gS rfl (gS rfl (gS rfl (gS rfl g0)))))))))) (fun g => ?_)
                            refine c_seq (fun K30 hK30 => ?_)
                            exact (by
                              refine c_region ?_
                              refine l_step (y_moveV (et (gS rfl g0) rfl)) ?_
                              refine l_step (y_moveV (et (gS rfl (gS rfl g0)) rfl)) ?_
                              refine l_step (y_moveV (et (gS rfl (gS rfl g0)) rfl)) ?_
                              refine l_eff (e_callV cal_61 (aC (et (gS rfl g0) rfl) (aC (et g0 rfl) aN)) (yp_reach hF _ _ _ _ _ kF hfP _ hop)) (fun v31 w31 h31 => ?_)
                              obtain ⟨H31, g31, n31, q31⟩ := h31
                              have hlew31 := g31.le
                              replace nbS := g31.nb nbS kS.lt
                              replace nbF := g31.nb nbF kF.lt
                              replace nbM := g31.nb nbM kB.out
                              replace n20 := n20.mono hlew31
                              replace n28 := n28.mono hlew31
                              replace hfP := hfP.mono hlew31
                              replace hL0 := hL0.trans hlew31
                              replace kS := kS.up g31.up
                              replace kF := kF.up g31.up
                              replace kM := kM.up g31.up
                              replace kL := kL.up g31.up
                              replace kR := kR.up g31.up
                              replace kB := kB.up g31.up
                              replace U := U.tr g31.up
                              replace G := G.tr g31
                              replace hF := g31.fz
                              refine l_eff (e_callV cal_60 (aC (et (gS rfl (gS rfl (gS rfl g0))) rfl) (aC (et g0 rfl) aN)) (yp_grow hF _ _ _ _ _ kF hfP _ kM kB.out dMF nbF nbM n31 q31 hgr)) (fun v32 w32 h32 => ?_)
                              obtain ⟨rfl, fs32, vm32, bm32, H32, g32, kf32, fc32, of32, mb32, hb32, lb32, nbm32⟩ := h32
                              have hUg := U.size
                              have hlBo := kB.out
                              have hlSo := kS.lt
                              have hlFo := kF.lt
                              have hlew32 := g32.le
                              replace nbS := g32.nb nbS kS.lt
                              replace nbF := g32.nb nbF kF.lt
                              replace nbM := g32.nb nbM kB.out
                              replace n20 := n20.mono hlew32
                              replace n28 := n28.mono hlew32
                              replace hfP := hfP.mono hlew32
                              replace n31 := n31.mono hlew32
                              replace hL0 := hL0.trans hlew32
                              replace kS := kS.ch g32.ch (by omega)
                              replace kL := kL.ch g32.ch (by intro q hq hm; have := dL q hq; omega)
                              replace kR := kR.ch g32.ch (by intro m hm; have := dR m hm; omega)
                              replace kB := kB.ch g32.ch (by trivial)
                              replace kF := kf32
                              replace kM := mb32
                              replace U := U.cc g32.ch (by intro b hb; first | exact .inl hb | exact .inl (yOwn b (.inl hb)) | exact .inl (yOwn b (.inr (.inl hb))) | exact .inl (yOwn b (.inr (.inr (.inl hb)))) | exact .inl (yOwn b (.inr (.inr (.inr hb)))) | exact .inl (yOwn b hb) | exact .inl (yOwn b (hb.elim .inl (fun e => .inr (.inr (.inr e))))) | exact hb | exact .inr (by omega))
                              replace G := G.trans g32 (by intro b hb; first | exact .inl hb | exact .inl (yOwn b (.inl hb)) | exact .inl (yOwn b (.inr (.inl hb))) | exact .inl (yOwn b (.inr (.inr (.inl hb)))) | exact .inl (yOwn b (.inr (.inr (.inr hb)))) | exact .inl (yOwn b hb) | exact .inl (yOwn b (hb.elim .inl (fun e => .inr (.inr (.inr e))))) | exact hb | exact .inr (by omega))
                              replace hF := g32.fz
                              replace oF := oF.trans of32
                              replace kB : Lt _ _ := ⟨lb32⟩
                              replace nbM := nbm32
                              have yM9 : Y bm32 ∨ w.heap.size ≤ bm32 := hb32.elim (fun e => .inl (e ▸ yt.yM)) (fun e => .inr (Nat.le_trans hUg e))
                              replace dL : ∀ b, ol = some b → b < w.heap.size ∧ b ≠ bs ∧ b ≠ bf ∧ b ≠ bm32 := fun b e => ⟨(dL b e).1, (dL b e).2.1, (dL b e).2.2.1, by have := dL b e; omega⟩
                              replace dR : ∀ m ∈ msl, m.1 < w.heap.size ∧ m.1 ≠ bs ∧ m.1 ≠ bf ∧ m.1 ≠ bm32 ∧ ol ≠ some m.1 := fun m hm => ⟨(dR m hm).1, (dR m hm).2.1, (dR m hm).2.2.1, by have := dR m hm; omega, (dR m hm).2.2.2.2⟩
                              replace dMF : bm32 ≠ bf := by omega
                              replace dSM : bs ≠ bm32 := by omega
                              have fcG : FC H32 fs32 (low.length * 60) (stF s f) vm32 := by unfold stF; rw [← hqq.out, ← hrf.out]; exact fc32
                              replace kM : MB w32 bm32 vm32 (stF s f).mem := by unfold stF; rw [← hqq.out]; exact kM
                              obtain ⟨gpc, ggas, gval, goo, gol, gka, gkc, gca, gcc, gia, gic, gsv, gF, gSe, gCa, gSw, jSv, jPc, jGa, jVa, jOf, jOl, gSt, jCo, jIn⟩ := fcG.ex
                              have hsl9 := fcG.ok.stack
                              refine l_nil ?_
                              refine hK30 _ _ ?_
                              refine fg3 3 4 5 (gS rfl (gS rfl (gS rfl (gS rfl (gS rfl (gS rfl (gS rfl g0))))))) (gS rfl (gS rfl (gS rfl (gS rfl (gS rfl (gS rfl g0)))))) (gS rfl (gS rfl (gS rfl (gS rfl (gS rfl g0))))) (fun g => ?_)
                              refine c_seq (fun K33 hK33 => ?_)
                              refine c_block (fun Q34 hQ34 => ?_)
                              refine c_seq (fun K35 hK35 => ?_)
                              exact (by
                                refine c_region ?_
                                refine l_step (y_moveV (et g0 rfl)) ?_
                                refine l_step (y_eql (et g0 rfl) rfl) ?_
                                refine l_step (y_assignV (et g0 rfl)) ?_
                                refine l_nil ?_
                                refine hK35 _ _ ?_
                                refine fg4 3 4 5 75 (gS rfl (gS rfl (gS rfl (gS rfl (gS rfl g0))))) (gS rfl (gS rfl (gS rfl (gS rfl g0)))) (gS rfl (gS rfl (gS rfl g0))) g0 (fun g => ?_)
                                refine c_cond (et g0 rfl) (fun cB4 => ?_) (fun cB4 => ?_)
                                · skip
                                  
                                  have hB4 : opcN f = 0 := by rw [← hqq.out]; have := of_decide_eq_true cB4; omega
                                  exact (by
                                    refine c_region ?_
                                    refine l_step (y_moveV (et (gS rfl (gS rfl (gS rfl g0))) rfl)) ?_
                                    have hU9 := U.size
                                    refine l_eff (e_callV cal_59 (aC (et g0 rfl) (aC (v := .int .u8 ((0 : Nat) : Int)) rfl (aC rfl aN))) (yp_leave (low := low) (u := (stF s f)) (YT.close (s := { s with frames := low ++ [(stF s f)] }) (low := low) (f := (stF s f)) (msl := msl) (Y := fun b => Y b ∨ w.heap.size ≤ b) ⟨kS, SC.frames (hs.mono hL0) _, ⟨hcp, yt.hc.2.1, (by rw [oF.size]; exact yt.hc.2.2)⟩, kF, fcG, kM, (yt.hl.mono hL0).pre (oF.pre (Nat.le_refl _)) (Nat.le_refl _), kR, kL.mono hL0, hvl, nbS, nbF, nbM, .inl yt.yS, .inl yt.yF, yM9, kB.out, dSF, dMF, dSM, fun b e => ⟨Nat.lt_of_lt_of_le (dL b e).1 U.size, (dL b e).2⟩, fun b e => G.nb (yt.nbL b e) (dL b e).1, fun b e => .inl (yt.yL b e), fun m hm => ⟨Nat.lt_of_lt_of_le (dR m hm).1 U.size, (dR m hm).2⟩, fun m hm => ⟨G.nb (yt.nbR m hm).1 (dR m hm).1, .inl (yt.nbR m hm).2⟩, yt.ndR⟩ hF rfl) rfl 0 (by decide) (BV.nil _) (nh.b0.frames _) (nh.p0 hB4) (by have := nh.len; omega))) (fun v37 w37 h37 => ?_)
                                    obtain ⟨rfl, H37, g37, ym37⟩ := h37
                                    replace G := G.trans g37 (by intro b hb; first | exact .inl hb | exact .inl (yOwn b (.inl hb)) | exact .inl (yOwn b (.inr (.inl hb))) | exact .inl (yOwn b (.inr (.inr (.inl hb)))) | exact .inl (yOwn b (.inr (.inr (.inr hb)))) | exact .inl (yOwn b hb) | exact .inl (yOwn b (hb.elim .inl (fun e => .inr (.inr (.inr e))))) | exact hb | exact .inr (by omega))
                                    replace U := U.cc g37.ch (by intro b hb; first | exact .inl hb | exact .inl (yOwn b (.inl hb)) | exact .inl (yOwn b (.inr (.inl hb))) | exact .inl (yOwn b (.inr (.inr (.inl hb)))) | exact .inl (yOwn b (.inr (.inr (.inr hb)))) | exact .inl (yOwn b hb) | exact .inl (yOwn b (hb.elim .inl (fun e => .inr (.inr (.inr e))))) | exact hb | exact .inr (by omega))
                                    refine l_nil ?_
                                    refine hQ34 _ _ _ (in_normal ?_)
                                    refine hK33 _ _ ?_
                                    refine fg0 (fun g => ?_)
                                    refine c_seq (fun K38 hK38 => ?_)
                                    exact (by
                                      refine c_region ?_
                                      refine l_step y_assignC ?_
                                      refine l_nil ?_
                                      refine hK38 _ _ ?_
                                      refine c_ret ?_
                                      repeat with_reducible refine then_ret ?_
                                      refine ret1 rfl (res_tmp (et g0 rfl)) ?_
                                      have hR3 : ¬ (refN s f (opcN f)).1 ≠ 0 := fun h9 => h9 hR0
                                      refine ⟨rfl, _, bf, G, ?_⟩
                                      rw [stepY, if_neg hn2, if_neg hR3, if_pos hB4]
                                      rw [lvY_frames] at ym37
                                      exact ym37.wk (fun b hb => hb)))
                                · skip
                                  
                                  have hB4 : ¬ opcN f = 0 := by rw [← hqq.out]; have := of_decide_eq_false cB4; omega
                                  refine c_seq (fun K39 hK39 => ?_)
                                  exact (by
                                    refine c_region ?_
                                    refine l_step (y_moveV (et (gS rfl g0) rfl)) ?_
                                    refine l_step (y_eql (et g0 rfl) rfl) ?_
                                    refine l_step (y_assignV (et g0 rfl)) ?_
                                    refine l_nil ?_
                                    refine hK39 _ _ ?_
                                    refine fg4 3 4 5 80 (gS rfl (gS rfl (gS rfl (gS rfl (gS rfl (gS rfl g0)))))) (gS rfl (gS rfl (gS rfl (gS rfl (gS rfl g0))))) (gS rfl (gS rfl (gS rfl (gS rfl g0)))) g0 (fun g => ?_)
                                    refine c_cond (et g0 rfl) (fun cB5 => ?_) (fun cB5 => ?_)
                                    · skip
                                      
                                      have hB5 : opcN f = 243 := by rw [← hqq.out]; have := of_decide_eq_true cB5; omega
                                      exact (by
                                        refine c_region ?_
                                        refine l_step (y_moveV (et (gS rfl (gS rfl (gS rfl g0))) rfl)) ?_
                                        refine l_step (y_moveV (et (gS rfl (gS rfl (gS rfl g0))) rfl)) ?_
                                        refine l_step (y_moveV (et (gS rfl (gS rfl (gS rfl (gS rfl g0)))) rfl)) ?_
                                        refine l_eff (e_callV cal_63 (aC (et g0 rfl) (aC (v := .int .i64 ((0 : Nat) : Int)) rfl aN)) (yp_arg _ _ 0 _ _ _ _ _ _ hF kF (gF 8 _ rfl) gSt (by omega) (by first | decide | omega))) (fun v41 w41 h41 => ?_)
                                        obtain ⟨u41, n41, q41⟩ := h41
                                        replace G := G.tr (Go.ofUp hF u41)
                                        replace hF := hF.up u41
                                        replace kS := kS.up u41
                                        replace kF := kF.up u41
                                        replace kM := kM.up u41
                                        replace kL := kL.up u41
                                        replace kR := kR.up u41
                                        replace kB := kB.up u41
                                        replace U := U.tr u41
                                        refine l_step (y_moveV (et (gS rfl (gS rfl (gS rfl (gS rfl (gS rfl (gS rfl g0)))))) rfl)) ?_
                                        refine l_eff (e_callV cal_63 (aC (et g0 rfl) (aC (v := .int .i64 ((1 : Nat) : Int)) rfl aN)) (yp_arg _ _ 1 _ _ _ _ _ _ hF kF (gF 8 _ rfl) gSt (by omega) (by first | decide | omega))) (fun v42 w42 h42 => ?_)
                                        obtain ⟨u42, n42, q42⟩ := h42
                                        replace G := G.tr (Go.ofUp hF u42)
                                        replace hF := hF.up u42
                                        replace kS := kS.up u42
                                        replace kF := kF.up u42
                                        replace kM := kM.up u42
                                        replace kL := kL.up u42
                                        replace kR := kR.up u42
                                        replace kB := kB.up u42
                                        replace U := U.tr u42
                                        refine l_eff (e_callV cal_62 (aC (et (gS rfl (gS rfl (gS rfl (gS rfl g0)))) rfl) (aC (et (gS rfl (gS rfl g0)) rfl) (aC (et g0 rfl) aN))) (yp_read hF _ _ _ _ _ kF fcG _ kM kB.out n41 n42 (bd_W q41) (bd_W q42) (Nat.le_trans (Nat.le_of_lt (nh.rd hR0 (.inl hB5))) (by decide)))) (fun v43 w43 h43 => ?_)
                                        obtain ⟨H43, g43, b43⟩ := h43
                                        have hlew43 := g43.le
                                        replace nbS := g43.nb nbS kS.lt
                                        replace nbF := g43.nb nbF kF.lt
                                        replace nbM := g43.nb nbM kB.out
                                        replace n20 := n20.mono hlew43
                                        replace n28 := n28.mono hlew43
                                        replace hfP := hfP.mono hlew43
                                        replace n31 := n31.mono hlew43
                                        replace fcG := fcG.mono hlew43
                                        replace gSt := gSt.mono hlew43
                                        replace n41 := n41.mono hlew43
                                        replace n42 := n42.mono hlew43
                                        replace hL0 := hL0.trans hlew43
                                        replace kS := kS.up g43.up
                                        replace kF := kF.up g43.up
                                        replace kM := kM.up g43.up
                                        replace kL := kL.up g43.up
                                        replace kR := kR.up g43.up
                                        replace kB := kB.up g43.up
                                        replace U := U.tr g43.up
                                        replace G := G.tr g43
                                        replace hF := g43.fz
                                        exact (by
                                          have hU9 := U.size
                                          refine l_eff (e_callV cal_59 (aC (et (gS rfl (gS rfl (gS rfl (gS rfl (gS rfl (gS rfl g0)))))) rfl) (aC (v := .int .u8 ((0 : Nat) : Int)) rfl (aC (et g0 rfl) aN))) (yp_leave (low := low) (u := (stF s f)) (YT.close (s := { s with frames := low ++ [(stF s f)] }) (low := low) (f := (stF s f)) (msl := msl) (Y := fun b => Y b ∨ w.heap.size ≤ b) ⟨kS, SC.frames (hs.mono hL0) _, ⟨hcp, yt.hc.2.1, (by rw [oF.size]; exact yt.hc.2.2)⟩, kF, fcG, kM, (yt.hl.mono hL0).pre (oF.pre (Nat.le_refl _)) (Nat.le_refl _), kR, kL.mono hL0, hvl, nbS, nbF, nbM, .inl yt.yS, .inl yt.yF, yM9, kB.out, dSF, dMF, dSM, fun b e => ⟨Nat.lt_of_lt_of_le (dL b e).1 U.size, (dL b e).2⟩, fun b e => G.nb (yt.nbL b e) (dL b e).1, fun b e => .inl (yt.yL b e), fun m hm => ⟨Nat.lt_of_lt_of_le (dR m hm).1 U.size, (dR m hm).2⟩, fun m hm => ⟨G.nb (yt.nbR m hm).1 (dR m hm).1, .inl (yt.nbR m hm).2⟩, yt.ndR⟩ hF rfl) rfl 0 (by decide) b43 (show LvH _ (stF s f) (stO s f) from ⟨nh.b0.sv, nh.b0.accts, (by unfold stO; rw [len_rd]; exact nh.rd hR0 (.inl hB5))⟩) (nh.p1 hB5) (by have := nh.len; omega))) (fun v44 w44 h44 => ?_)
                                          obtain ⟨rfl, H44, g44, ym44⟩ := h44
                                          replace G := G.trans g44 (by intro b hb; first | exact .inl hb | exact .inl (yOwn b (.inl hb)) | exact .inl (yOwn b (.inr (.inl hb))) | exact .inl (yOwn b (.inr (.inr (.inl hb)))) | exact .inl (yOwn b (.inr (.inr (.inr hb)))) | exact .inl (yOwn b hb) | exact .inl (yOwn b (hb.elim .inl (fun e => .inr (.inr (.inr e))))) | exact hb | exact .inr (by omega))
                                          replace U := U.cc g44.ch (by intro b hb; first | exact .inl hb | exact .inl (yOwn b (.inl hb)) | exact .inl (yOwn b (.inr (.inl hb))) | exact .inl (yOwn b (.inr (.inr (.inl hb)))) | exact .inl (yOwn b (.inr (.inr (.inr hb)))) | exact .inl (yOwn b hb) | exact .inl (yOwn b (hb.elim .inl (fun e => .inr (.inr (.inr e))))) | exact hb | exact .inr (by omega))
                                          refine l_nil ?_
                                          refine hQ34 _ _ _ (in_normal ?_)
                                          refine hK33 _ _ ?_
                                          refine fg0 (fun g => ?_)
                                          refine c_seq (fun K45 hK45 => ?_)
                                          exact (by
                                            refine c_region ?_
                                            refine l_step y_assignC ?_
                                            refine l_nil ?_
                                            refine hK45 _ _ ?_
                                            refine c_ret ?_
                                            repeat with_reducible refine then_ret ?_
                                            refine ret1 rfl (res_tmp (et g0 rfl)) ?_
                                            have hR3 : ¬ (refN s f (opcN f)).1 ≠ 0 := fun h9 => h9 hR0
                                            refine ⟨rfl, _, bf, G, ?_⟩
                                            rw [stepY, if_neg hn2, if_neg hR3, if_neg hB4, if_pos hB5]
                                            rw [lvY_frames] at ym44
                                            exact ym44.wk (fun b hb => hb))))
                                    · skip
                                      
                                      have hB5 : ¬ opcN f = 243 := by rw [← hqq.out]; have := of_decide_eq_false cB5; omega
                                      refine c_seq (fun K46 hK46 => ?_)
                                      exact (by
                                        refine c_region ?_
                                        refine l_step (y_moveV (et (gS rfl g0) rfl)) ?_
                                        refine l_step (y_eql (et g0 rfl) rfl) ?_
                                        refine l_step (y_assignV (et g0 rfl)) ?_
                                        refine l_nil ?_
                                        refine hK46 _ _ ?_
                                        refine fg4 3 4 5 91 (gS rfl (gS rfl (gS rfl (gS rfl (gS rfl (gS rfl g0)))))) (gS rfl (gS rfl (gS rfl (gS rfl (gS rfl g0))))) (gS rfl (gS rfl (gS rfl (gS rfl g0)))) g0 (fun g => ?_)
                                        refine c_cond (et g0 rfl) (fun cB6 => ?_) (fun cB6 => ?_)
                                        · skip
                                          
                                          have hB6 : opcN f = 253 := by rw [← hqq.out]; have := of_decide_eq_true cB6; omega
                                          exact (by
                                            refine c_region ?_
                                            refine l_step (y_moveV (et (gS rfl (gS rfl (gS rfl g0))) rfl)) ?_
                                            refine l_step (y_moveV (et (gS rfl (gS rfl (gS rfl g0))) rfl)) ?_
                                            refine l_step (y_moveV (et (gS rfl (gS rfl (gS rfl (gS rfl g0)))) rfl)) ?_
                                            refine l_eff (e_callV cal_63 (aC (et g0 rfl) (aC (v := .int .i64 ((0 : Nat) : Int)) rfl aN)) (yp_arg _ _ 0 _ _ _ _ _ _ hF kF (gF 8 _ rfl) gSt (by omega) (by first | decide | omega))) (fun v48 w48 h48 => ?_)
                                            obtain ⟨u48, n48, q48⟩ := h48
                                            replace G := G.tr (Go.ofUp hF u48)
                                            replace hF := hF.up u48
                                            replace kS := kS.up u48
                                            replace kF := kF.up u48
                                            replace kM := kM.up u48
                                            replace kL := kL.up u48
                                            replace kR := kR.up u48
                                            replace kB := kB.up u48
                                            replace U := U.tr u48
                                            refine l_step (y_moveV (et (gS rfl (gS rfl (gS rfl (gS rfl (gS rfl (gS rfl g0)))))) rfl)) ?_
                                            refine l_eff (e_callV cal_63 (aC (et g0 rfl) (aC (v := .int .i64 ((1 : Nat) : Int)) rfl aN)) (yp_arg _ _ 1 _ _ _ _ _ _ hF kF (gF 8 _ rfl) gSt (by omega) (by first | decide | omega))) (fun v49 w49 h49 => ?_)
                                            obtain ⟨u49, n49, q49⟩ := h49
                                            replace G := G.tr (Go.ofUp hF u49)
                                            replace hF := hF.up u49
                                            replace kS := kS.up u49
                                            replace kF := kF.up u49
                                            replace kM := kM.up u49
                                            replace kL := kL.up u49
                                            replace kR := kR.up u49
                                            replace kB := kB.up u49
                                            replace U := U.tr u49
                                            refine l_eff (e_callV cal_62 (aC (et (gS rfl (gS rfl (gS rfl (gS rfl g0)))) rfl) (aC (et (gS rfl (gS rfl g0)) rfl) (aC (et g0 rfl) aN))) (yp_read hF _ _ _ _ _ kF fcG _ kM kB.out n48 n49 (bd_W q48) (bd_W q49) (Nat.le_trans (Nat.le_of_lt (nh.rd hR0 (.inr hB6))) (by decide)))) (fun v50 w50 h50 => ?_)
                                            obtain ⟨H50, g50, b50⟩ := h50
                                            have hlew50 := g50.le
                                            replace nbS := g50.nb nbS kS.lt
                                            replace nbF := g50.nb nbF kF.lt
                                            replace nbM := g50.nb nbM kB.out
                                            replace n20 := n20.mono hlew50
                                            replace n28 := n28.mono hlew50
                                            replace hfP := hfP.mono hlew50
                                            replace n31 := n31.mono hlew50
                                            replace fcG := fcG.mono hlew50
                                            replace gSt := gSt.mono hlew50
                                            replace n48 := n48.mono hlew50
                                            replace n49 := n49.mono hlew50
                                            replace hL0 := hL0.trans hlew50
                                            replace kS := kS.up g50.up
                                            replace kF := kF.up g50.up
                                            replace kM := kM.up g50.up
                                            replace kL := kL.up g50.up
                                            replace kR := kR.up g50.up
                                            replace kB := kB.up g50.up
                                            replace U := U.tr g50.up
                                            replace G := G.tr g50
                                            replace hF := g50.fz
                                            exact (by
                                              have hU9 := U.size
                                              refine l_eff (e_callV cal_59 (aC (et (gS rfl (gS rfl (gS rfl (gS rfl (gS rfl (gS rfl g0)))))) rfl) (aC (v := .int .u8 ((1 : Nat) : Int)) rfl (aC (et g0 rfl) aN))) (yp_leave (low := low) (u := (stF s f)) (YT.close (s := { s with frames := low ++ [(stF s f)] }) (low := low) (f := (stF s f)) (msl := msl) (Y := fun b => Y b ∨ w.heap.size ≤ b) ⟨kS, SC.frames (hs.mono hL0) _, ⟨hcp, yt.hc.2.1, (by rw [oF.size]; exact yt.hc.2.2)⟩, kF, fcG, kM, (yt.hl.mono hL0).pre (oF.pre (Nat.le_refl _)) (Nat.le_refl _), kR, kL.mono hL0, hvl, nbS, nbF, nbM, .inl yt.yS, .inl yt.yF, yM9, kB.out, dSF, dMF, dSM, fun b e => ⟨Nat.lt_of_lt_of_le (dL b e).1 U.size, (dL b e).2⟩, fun b e => G.nb (yt.nbL b e) (dL b e).1, fun b e => .inl (yt.yL b e), fun m hm => ⟨Nat.lt_of_lt_of_le (dR m hm).1 U.size, (dR m hm).2⟩, fun m hm => ⟨G.nb (yt.nbR m hm).1 (dR m hm).1, .inl (yt.nbR m hm).2⟩, yt.ndR⟩ hF rfl) rfl 1 (by decide) b50 (show LvH _ (stF s f) (stO s f) from ⟨nh.b0.sv, nh.b0.accts, (by unfold stO; rw [len_rd]; exact nh.rd hR0 (.inr hB6))⟩) (nh.p2 hB6) (by have := nh.len; omega))) (fun v51 w51 h51 => ?_)
                                              obtain ⟨rfl, H51, g51, ym51⟩ := h51
                                              replace G := G.trans g51 (by intro b hb; first | exact .inl hb | exact .inl (yOwn b (.inl hb)) | exact .inl (yOwn b (.inr (.inl hb))) | exact .inl (yOwn b (.inr (.inr (.inl hb)))) | exact .inl (yOwn b (.inr (.inr (.inr hb)))) | exact .inl (yOwn b hb) | exact .inl (yOwn b (hb.elim .inl (fun e => .inr (.inr (.inr e))))) | exact hb | exact .inr (by omega))
                                              replace U := U.cc g51.ch (by intro b hb; first | exact .inl hb | exact .inl (yOwn b (.inl hb)) | exact .inl (yOwn b (.inr (.inl hb))) | exact .inl (yOwn b (.inr (.inr (.inl hb)))) | exact .inl (yOwn b (.inr (.inr (.inr hb)))) | exact .inl (yOwn b hb) | exact .inl (yOwn b (hb.elim .inl (fun e => .inr (.inr (.inr e))))) | exact hb | exact .inr (by omega))
                                              refine l_nil ?_
                                              refine hQ34 _ _ _ (in_normal ?_)
                                              refine hK33 _ _ ?_
                                              refine fg0 (fun g => ?_)
                                              refine c_seq (fun K52 hK52 => ?_)
                                              exact (by
                                                refine c_region ?_
                                                refine l_step y_assignC ?_
                                                refine l_nil ?_
                                                refine hK52 _ _ ?_
                                                refine c_ret ?_
                                                repeat with_reducible refine then_ret ?_
                                                refine ret1 rfl (res_tmp (et g0 rfl)) ?_
                                                have hR3 : ¬ (refN s f (opcN f)).1 ≠ 0 := fun h9 => h9 hR0
                                                refine ⟨rfl, _, bf, G, ?_⟩
                                                rw [stepY, if_neg hn2, if_neg hR3, if_neg hB4, if_neg hB5, if_pos hB6]
                                                rw [lvY_frames] at ym51
                                                exact ym51.wk (fun b hb => hb))))
                                        · skip
                                          
                                          have hB6 : ¬ opcN f = 253 := by rw [← hqq.out]; have := of_decide_eq_false cB6; omega
                                          refine c_seq (fun K53 hK53 => ?_)
                                          exact (by
                                            refine c_region ?_
                                            refine l_step (y_moveV (et (gS rfl g0) rfl)) ?_
                                            refine l_step (y_eql (et g0 rfl) rfl) ?_
                                            refine l_step (y_assignV (et g0 rfl)) ?_
                                            refine l_nil ?_
                                            refine hK53 _ _ ?_
                                            refine fg4 3 4 5 102 (gS rfl (gS rfl (gS rfl (gS rfl (gS rfl (gS rfl g0)))))) (gS rfl (gS rfl (gS rfl (gS rfl (gS rfl g0))))) (gS rfl (gS rfl (gS rfl (gS rfl g0)))) g0 (fun g => ?_)
                                            refine c_cond (et g0 rfl) (fun cB7 => ?_) (fun cB7 => ?_)
                                            · skip
                                              
                                              have hB7 : opcN f = 255 := by rw [← hqq.out]; have := of_decide_eq_true cB7; omega
                                              exact (by
                                                refine c_region ?_
                                                refine l_step (y_moveV (et (gS rfl (gS rfl (gS rfl g0))) rfl)) ?_
                                                refine l_step (y_moveV (et (gS rfl (gS rfl (gS rfl g0))) rfl)) ?_
                                                have hU9 := U.size
                                                refine l_eff (e_callV cal_64 (aC (et (gS rfl g0) rfl) (aC (et g0 rfl) aN)) (yp_destroys hF (YT.close (s := { s with frames := low ++ [(stF s f)] }) (low := low) (f := (stF s f)) (msl := msl) (Y := fun b => Y b ∨ w.heap.size ≤ b) ⟨kS, SC.frames (hs.mono hL0) _, ⟨hcp, yt.hc.2.1, (by rw [oF.size]; exact yt.hc.2.2)⟩, kF, fcG, kM, (yt.hl.mono hL0).pre (oF.pre (Nat.le_refl _)) (Nat.le_refl _), kR, kL.mono hL0, hvl, nbS, nbF, nbM, .inl yt.yS, .inl yt.yF, yM9, kB.out, dSF, dMF, dSM, fun b e => ⟨Nat.lt_of_lt_of_le (dL b e).1 U.size, (dL b e).2⟩, fun b e => G.nb (yt.nbL b e) (dL b e).1, fun b e => .inl (yt.yL b e), fun m hm => ⟨Nat.lt_of_lt_of_le (dR m hm).1 U.size, (dR m hm).2⟩, fun m hm => ⟨G.nb (yt.nbR m hm).1 (dR m hm).1, .inl (yt.nbR m hm).2⟩, yt.ndR⟩ hF rfl) rfl ((nh.des hB7).frames _))) (fun v55 w55 h55 => ?_)
                                                obtain ⟨rfl, H55, bf55, g55, ym55⟩ := h55
                                                replace G := G.trans g55 (by intro b hb; first | exact .inl hb | exact .inl (yOwn b (.inl hb)) | exact .inl (yOwn b (.inr (.inl hb))) | exact .inl (yOwn b (.inr (.inr (.inl hb)))) | exact .inl (yOwn b (.inr (.inr (.inr hb)))) | exact .inl (yOwn b hb) | exact .inl (yOwn b (hb.elim .inl (fun e => .inr (.inr (.inr e))))) | exact hb | exact .inr (by omega))
                                                replace U := U.cc g55.ch (by intro b hb; first | exact .inl hb | exact .inl (yOwn b (.inl hb)) | exact .inl (yOwn b (.inr (.inl hb))) | exact .inl (yOwn b (.inr (.inr (.inl hb)))) | exact .inl (yOwn b (.inr (.inr (.inr hb)))) | exact .inl (yOwn b hb) | exact .inl (yOwn b (hb.elim .inl (fun e => .inr (.inr (.inr e))))) | exact hb | exact .inr (by omega))
                                                refine l_nil ?_
                                                refine hQ34 _ _ _ (in_normal ?_)
                                                refine hK33 _ _ ?_
                                                refine fg0 (fun g => ?_)
                                                refine c_seq (fun K56 hK56 => ?_)
                                                exact (by
                                                  refine c_region ?_
                                                  refine l_step y_assignC ?_
                                                  refine l_nil ?_
                                                  refine hK56 _ _ ?_
                                                  refine c_ret ?_
                                                  repeat with_reducible refine then_ret ?_
                                                  refine ret1 rfl (res_tmp (et g0 rfl)) ?_
                                                  have hR3 : ¬ (refN s f (opcN f)).1 ≠ 0 := fun h9 => h9 hR0
                                                  refine ⟨rfl, _, bf55, G, ?_⟩
                                                  rw [stepY, if_neg hn2, if_neg hR3, if_neg hB4, if_neg hB5, if_neg hB6, if_pos hB7]
                                                  rw [desY_frames] at ym55
                                                  exact ym55.wk (fun b hb => hb.elim id (fun h9 => .inr (Nat.le_trans hU9 h9)))))
                                            · skip
                                              
                                              have hB7 : ¬ opcN f = 255 := by rw [← hqq.out]; have := of_decide_eq_false cB7; omega
                                              refine c_seq (fun K57 hK57 => ?_)
                                              exact (by
                                                refine c_region ?_
                                                refine l_step (y_moveV (et (gS rfl g0) rfl)) ?_
                                                refine l_eff (e_callV cal_65 (aC (et g0 rfl) aN) (fam_spec _ _ hop)) (fun v58 w58 h58 => ?_)
                                                obtain ⟨rfl, u58⟩ := h58
                                                replace G := G.tr (Go.ofUp hF u58)
                                                replace hF := hF.up u58
                                                replace kS := kS.up u58
                                                replace kF := kF.up u58
                                                replace kM := kM.up u58
                                                replace kL := kL.up u58
                                                replace kR := kR.up u58
                                                replace kB := kB.up u58
                                                replace U := U.tr u58
                                                refine l_step (y_eql (et g0 rfl) rfl) ?_
                                                refine l_step (y_assignV (et g0 rfl)) ?_
                                                refine l_nil ?_
                                                refine hK57 _ _ ?_
                                                refine fg4 3 4 5 108 (gS rfl (gS rfl (gS rfl (gS rfl (gS rfl (gS rfl (gS rfl g0))))))) (gS rfl (gS rfl (gS rfl (gS rfl (gS rfl (gS rfl g0)))))) (gS rfl (gS rfl (gS rfl (gS rfl (gS rfl g0))))) g0 (fun g => ?_)
                                                refine c_cond (et g0 rfl) (fun cB8 => ?_) (fun cB8 => ?_)
                                                · skip
                                                  
                                                  have hB8 : famN (opcN f) = 16 := by rw [← hqq.out]; have := of_decide_eq_true cB8; omega
                                                  exact (by
                                                    refine c_region ?_
                                                    refine l_step (y_moveV (et (gS rfl (gS rfl (gS rfl g0))) rfl)) ?_
                                                    refine l_step (y_moveV (et (gS rfl (gS rfl (gS rfl g0))) rfl)) ?_
                                                    refine l_step (y_moveV (et (gS rfl (gS rfl (gS rfl g0))) rfl)) ?_
                                                    have hU9 := U.size
                                                    have hEts : EtsH { s with frames := low ++ [stF s f] } (stF s f) q low := by have h9 := (nh.ent hR0 hB8 hB7).frames (low ++ [stF s f]); rw [← hqq.out] at h9; exact h9
                                                    refine l_eff (e_callV cal_66 (aC (et (gS rfl (gS rfl g0)) rfl) (aC (et (gS rfl g0) rfl) (aC (et g0 rfl) aN))) (yp_enters hKec hCr hF (YT.close (s := { s with frames := low ++ [(stF s f)] }) (low := low) (f := (stF s f)) (msl := msl) (Y := fun b => Y b ∨ w.heap.size ≤ b) ⟨kS, SC.frames (hs.mono hL0) _, ⟨hcp, yt.hc.2.1, (by rw [oF.size]; exact yt.hc.2.2)⟩, kF, fcG, kM, (yt.hl.mono hL0).pre (oF.pre (Nat.le_refl _)) (Nat.le_refl _), kR, kL.mono hL0, hvl, nbS, nbF, nbM, .inl yt.yS, .inl yt.yF, yM9, kB.out, dSF, dMF, dSM, fun b e => ⟨Nat.lt_of_lt_of_le (dL b e).1 U.size, (dL b e).2⟩, fun b e => G.nb (yt.nbL b e) (dL b e).1, fun b e => .inl (yt.yL b e), fun m hm => ⟨Nat.lt_of_lt_of_le (dR m hm).1 U.size, (dR m hm).2⟩, fun m hm => ⟨G.nb (yt.nbR m hm).1 (dR m hm).1, .inl (yt.nbR m hm).2⟩, yt.ndR⟩ hF rfl) rfl q hop hEts)) (fun v60 w60 h60 => ?_)
                                                    obtain ⟨rfl, H60, bf60, g60, ym60⟩ := h60
                                                    replace G := G.trans g60 (by intro b hb; first | exact .inl hb | exact .inl (yOwn b (.inl hb)) | exact .inl (yOwn b (.inr (.inl hb))) | exact .inl (yOwn b (.inr (.inr (.inl hb)))) | exact .inl (yOwn b (.inr (.inr (.inr hb)))) | exact .inl (yOwn b hb) | exact .inl (yOwn b (hb.elim .inl (fun e => .inr (.inr (.inr e))))) | exact hb | exact .inr (by omega))
                                                    replace U := U.cc g60.ch (by intro b hb; first | exact .inl hb | exact .inl (yOwn b (.inl hb)) | exact .inl (yOwn b (.inr (.inl hb))) | exact .inl (yOwn b (.inr (.inr (.inl hb)))) | exact .inl (yOwn b (.inr (.inr (.inr hb)))) | exact .inl (yOwn b hb) | exact .inl (yOwn b (hb.elim .inl (fun e => .inr (.inr (.inr e))))) | exact hb | exact .inr (by omega))
                                                    refine l_nil ?_
                                                    refine hQ34 _ _ _ (in_normal ?_)
                                                    refine hK33 _ _ ?_
                                                    refine fg0 (fun g => ?_)
                                                    refine c_seq (fun K61 hK61 => ?_)
                                                    exact (by
                                                      refine c_region ?_
                                                      refine l_step y_assignC ?_
                                                      refine l_nil ?_
                                                      refine hK61 _ _ ?_
                                                      refine c_ret ?_
                                                      repeat with_reducible refine then_ret ?_
                                                      refine ret1 rfl (res_tmp (et g0 rfl)) ?_
                                                      have hR3 : ¬ (refN s f (opcN f)).1 ≠ 0 := fun h9 => h9 hR0
                                                      refine ⟨rfl, _, bf60, G, ?_⟩
                                                      rw [stepY, if_neg hn2, if_neg hR3, if_neg hB4, if_neg hB5, if_neg hB6, if_neg hB7, if_pos hB8]
                                                      rw [entersY_frames] at ym60
                                                      rw [hqq.out] at ym60
                                                      exact ym60.wk (fun b hb => hb.elim id (fun h9 => .inr (Nat.le_trans hU9 h9)))))
                                                · skip
                                                  
                                                  have hB8 : ¬ famN (opcN f) = 16 := by rw [← hqq.out]; have := of_decide_eq_false cB8; omega
                                                  refine c_region ?_
                                                  refine l_step (y_moveV (et (gS rfl (gS rfl (gS rfl g0))) rfl)) ?_
                                                  refine l_step (y_moveV (et (gS rfl (gS rfl (gS rfl g0))) rfl)) ?_
                                                  refine l_step (y_moveV (et (gS rfl (gS rfl (gS rfl g0))) rfl)) ?_
                                                  have hU9 := U.size
                                                  refine l_eff (e_callV cal_67 (aC (et (gS rfl (gS rfl g0)) rfl) (aC (et (gS rfl g0) rfl) (aC (et g0 rfl) aN))) (yp_plainY hKec (YT.close (s := { s with frames := low ++ [(stF s f)] }) (low := low) (f := (stF s f)) (msl := msl) (Y := fun b => Y b ∨ w.heap.size ≤ b) ⟨kS, SC.frames (hs.mono hL0) _, ⟨hcp, yt.hc.2.1, (by rw [oF.size]; exact yt.hc.2.2)⟩, kF, fcG, kM, (yt.hl.mono hL0).pre (oF.pre (Nat.le_refl _)) (Nat.le_refl _), kR, kL.mono hL0, hvl, nbS, nbF, nbM, .inl yt.yS, .inl yt.yF, yM9, kB.out, dSF, dMF, dSM, fun b e => ⟨Nat.lt_of_lt_of_le (dL b e).1 U.size, (dL b e).2⟩, fun b e => G.nb (yt.nbL b e) (dL b e).1, fun b e => .inl (yt.yL b e), fun m hm => ⟨Nat.lt_of_lt_of_le (dR m hm).1 U.size, (dR m hm).2⟩, fun m hm => ⟨G.nb (yt.nbR m hm).1 (dR m hm).1, .inl (yt.nbR m hm).2⟩, yt.ndR⟩ hF rfl) rfl q hop (nh.rm.frames _) (by have h9 := nh.tk hR0; rw [← hqq.out] at h9; exact h9) nh.stk nh.pc (by have h9 := (nh.pl hR0).frames (low ++ [stF s f]); rw [← hqq.out] at h9; exact h9))) (fun v62 w62 h62 => ?_)
                                                  obtain ⟨rfl, H62, bf62, g62, ym62⟩ := h62
                                                  replace G := G.trans g62 (by intro b hb; first | exact .inl hb | exact .inl (yOwn b (.inl hb)) | exact .inl (yOwn b (.inr (.inl hb))) | exact .inl (yOwn b (.inr (.inr (.inl hb)))) | exact .inl (yOwn b (.inr (.inr (.inr hb)))) | exact .inl (yOwn b hb) | exact .inl (yOwn b (hb.elim .inl (fun e => .inr (.inr (.inr e))))) | exact hb | exact .inr (by omega))
                                                  replace U := U.cc g62.ch (by intro b hb; first | exact .inl hb | exact .inl (yOwn b (.inl hb)) | exact .inl (yOwn b (.inr (.inl hb))) | exact .inl (yOwn b (.inr (.inr (.inl hb)))) | exact .inl (yOwn b (.inr (.inr (.inr hb)))) | exact .inl (yOwn b hb) | exact .inl (yOwn b (hb.elim .inl (fun e => .inr (.inr (.inr e))))) | exact hb | exact .inr (by omega))
                                                  refine l_nil ?_
                                                  refine hQ34 _ _ _ (in_normal ?_)
                                                  refine hK33 _ _ ?_
                                                  refine fg0 (fun g => ?_)
                                                  refine c_seq (fun K63 hK63 => ?_)
                                                  exact (by
                                                    refine c_region ?_
                                                    refine l_step y_assignC ?_
                                                    refine l_nil ?_
                                                    refine hK63 _ _ ?_
                                                    refine c_ret ?_
                                                    repeat with_reducible refine then_ret ?_
                                                    refine ret1 rfl (res_tmp (et g0 rfl)) ?_
                                                    have hR3 : ¬ (refN s f (opcN f)).1 ≠ 0 := fun h9 => h9 hR0
                                                    refine ⟨rfl, _, bf62, G, ?_⟩
                                                    rw [stepY, if_neg hn2, if_neg hR3, if_neg hB4, if_neg hB5, if_neg hB6, if_neg hB7, if_neg hB8]
                                                    rw [hqq.out, plS_frames, plF_frames] at ym62
                                                    exact ym62.wk (fun b hb => hb.elim id (fun h9 => .inr (Nat.le_trans hU9 h9)))))))))))))))))))
end Go.Proofs.YgvaawGreat
