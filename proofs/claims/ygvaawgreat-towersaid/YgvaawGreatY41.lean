import Derived.Test.YgvaawGreatY40
import Derived.Test.YgvaawGreatY32
set_option maxRecDepth 100000
set_option maxHeartbeats 4000000
set_option linter.unusedSimpArgs false
set_option linter.unusedVariables false
namespace Go.Proofs.YgvaawGreat
open Go
/-! CREATE, CREATE2 -/
def lenB (n : Nat) : Nat := if h : n = 0 then 0 else lenB (n / 256) + 1
def crtR (n : Nat) : List Nat := if n = 0 then [128] else if n < 128 then [n] else (128 + lenB n) :: be (lenB n) n
def crtN (a n : Nat) : Nat := kecN ((213 + (crtR n).length) :: 148 :: (be 20 a ++ crtR n)) % A160
/-- what createAddr answers (proved in its own text) -/
def CrSum : Prop := ∀ (w : World) (H : Store) (v : Value) (a n : Nat), Fz w H → NV H v n → n < 18446744073709551616 → a < A160 → Ret 44 [aV a, v] w (fun v w' => ∃ H', v = aV (crtN a n) ∧ Go No w H w' H')
def crMe (s : YSt) (f : YF) : YAcct := acctAt s.now.accts f.self
abbrev crFail (s : YSt) (f : YF) (n : Nat) : Prop := 6 ≤ n ∨ (crMe s f).bal < argN f.stack 0 ∨ 18446744073709551615 ≤ (crMe s f).nonce
def crCode (f : YF) : List Nat := rdN f.mem (argN f.stack 1) (argN f.stack 2)
def crSelf (s : YSt) (f : YF) (q : Nat) : Nat := if q = 245 then c2N f.self (argN f.stack 3) (crCode f) else crtN f.self (crMe s f).nonce
def crK (q : Nat) : Nat := if q = 245 then 6 else 5
def crG (f : YF) : Nat := sentN f.gas f.gas
def crS (s : YSt) (f : YF) (q : Nat) : YSt := { s with now := { s.now with accts := putA s.now.accts (setNon (crMe s f) ((crMe s f).nonce + 1)), warmA := withA s.now.warmA (crSelf s f q) } }
def crF1 (f : YF) : YF := { f with gas := f.gas - crG f }
def crChild (s : YSt) (f : YF) (q : Nat) : YF := cFr (crK q) false (argN f.stack 0) (crSelf s f q) f.self (crG f) 0 (crCode f) []
def creY (s : YSt) (f : YF) (q : Nat) (low : List YF) : YSt :=
  if crFail s f low.length then { s with frames := low ++ [ansN f (tkN q) 0] }
  else if tknB (crS s f q) (crSelf s f q) = true then { crS s f q with frames := low ++ [ansN (crF1 f) (tkN q) 0] }
  else entY { crS s f q with frames := low ++ [waitN (crF1 f) (tkN q) 0 0] } (crChild s f q)
structure CreH (s : YSt) (f : YF) (q : Nat) (low : List YF) : Prop where
  hq : q = 240 ∨ q = 245
  len : low.length < 59980
  tk : tkN q ≤ f.stack.length
  stk : f.stack.length < 60000
  pc : f.pc + 1 < 4294967296
  rd : argN f.stack 2 < 1048576
  warmA : s.now.warmA.length < 1000000
  accts : s.now.accts.length < 1000000
  en : ¬ crFail s f low.length → EnH { crS s f q with frames := low ++ [waitN (crF1 f) (tkN q) 0 0] } (crChild s f q)
theorem child_lenZ {a b c d e f g h i j k l : Value} {y : Nat} {D : List Value} (hD : D.length = 8 := by rfl) : ([a, b, c, d, e, f, g, h, i, j, k, l] ++ (z20 ++ (bL (be 20 y) ++ D))).length = 60 := by rw [z20_eq]; exact child_len hD
theorem child_oneZ {a b c d e f g h i j k l : Value} {y : Nat} (ha : a.one1 = true) (hb : b.one1 = true) (hc : c.one1 = true) (hd : d.one1 = true) (he : e.one1 = true) (hf : f.one1 = true) (hg : g.one1 = true) (hh : h.one1 = true) (hi : i.one1 = true) (hj : j.one1 = true) (hk : k.one1 = true) (hl : l.one1 = true) : ∀ v ∈ [a, b, c, d, e, f, g, h, i, j, k, l] ++ (z20 ++ (bL (be 20 y) ++ [Value.slice none 0 0, Value.slice none 0 0, Value.slice none 0 0, Value.slice none 0 0, Value.slice none 0 0, Value.slice none 0 0, Value.slice none 0 0, Value.slice none 0 0])), v.one1 = true := by rw [z20_eq]; exact child_one ha hb hc hd he hf hg hh hi hj hk hl
theorem cre_tk {q : Nat} (h : q = 240 ∨ q = 245) : 3 ≤ tkN q ∧ tkN q ≤ 4 := by
  rcases h with rfl | rfl <;> decide
theorem yp_enterCreate (hKec : KSum) (hCr : CrSum) {w : World} {H : Store} (hF : Fz w H) {bs bf : Nat} {s : YSt} {Y : Nat → Prop} {low : List YF} {f : YF} (hY : YM w H bs s Y bf) (hfr : s.frames = low ++ [f]) (q : Nat) (hq : q < 256) (nh : CreH s f q low) :
    Ret 149 [.pointer (some ⟨bs, 0, none⟩), .pointer (some ⟨bf, low.length * 60, none⟩), .int .u8 q] w (fun v w' => v = .tuple #[] ∧ ∃ H' bf', Go Y w H w' H' ∧ YM w' H' bs (creY s f q low) (fun b => Y b ∨ w.heap.size ≤ b) bf') := by
  obtain ⟨cs, fs, cap, vm, bm, msl, ol, vl, yt⟩ := hY.top hfr
  have kS := yt.kS
  have hs := yt.hs
  have kF := yt.kF
  have hf := yt.hf
  have kM := yt.kM
  have kR := yt.kR
  have kL := yt.kL
  have hvl := yt.hvl
  have nbS := yt.nbS
  have nbF := yt.nbF
  have nbM := yt.nbM
  have lM := yt.lM
  have dSF := yt.dSF
  have dMF := yt.dMF
  have dSM := yt.dSM
  have dL := yt.dL
  have dR := yt.dR
  have hcp := yt.hc.1
  have yOwn : ∀ b, (b = bs ∨ b = bf ∨ b = bm ∨ ol = some b) → Y b := fun b hb => hb.elim (fun e => e ▸ yt.yS) (fun hb => hb.elim (fun e => e ▸ yt.yF) (fun hb => hb.elim (fun e => e ▸ yt.yM) (yt.yL b)))
  obtain ⟨am, rfl⟩ := kM.val
  obtain ⟨aa, ac, wa, wc, sa, sc, vr, la, lc, ta, tc, ma, mc, ga, gc, oa, oc, ra, rc, vlim, vtx, vleft, vpr, vtot, rS, rOr, rMd, hAc, hWA, hWS, hRf, hTm, hMd, hGn, hSr, hRt, hLm, hTx, hLf, hPr, hTt⟩ := hs.ex
  have so := hs.ok
  have so1 := so.accts
  have so2 := so.warmA
  have so3 := so.warmS
  have so4 := so.temps
  have so5 := so.start
  have so6 := so.logs
  have so7 := so.made
  have so8 := so.gone
  have so9 := so.ret
  have eC := hs.env
  obtain ⟨vpc, vgas, vval, voo, vol, ka, kc, ca, cc, ia, ic, svc, rF, rSe, rCa, rSv, hSv, hPc, hGa, hVa, hOf, hOl, hSt, hCo, hIn⟩ := hf.ex
  have fo := hf.ok
  have fo1 := fo.stack
  have fo2 := fo.code
  have fo3 := fo.input
  have fo4 := fo.mem
  have lS := kS.lt
  have lF := kF.lt
  have hv4 := rS 4 _ rfl
  have oF := Out.refl fs (low.length * 60) 60
  have htk := cre_tk nh.hq
  have htk1 := htk.1
  have htk2 := htk.2
  clear htk
  have hstk := nh.tk
  have hln := nh.len
  have hcV : argN f.stack 0 < W256 := argW hSt _
  refine enter (n := 137) Hvaa.func149 rfl rfl (Nat.le_of_ble_eq_true rfl) ?_
  have U : Ch (fun k => Y k) w w := Ch.refl _ w
  have G : Go (fun k => Y k) w H w H := Go.refl hF
  have hL0 : Le H H := Le.refl H
  refine c_seq (fun K1 hK1 => ?_)
  exact (by
    refine c_region ?_
    refine l_step (y_moveV (et (gS rfl (gS rfl g0)) rfl)) ?_
    refine l_eff (e_callV cal_137 (aC (et g0 rfl) aN) (arity_spec _ _ hq)) (fun v2 w2 h2 => ?_)
    obtain ⟨rfl, u2⟩ := h2
    replace G := G.tr (Go.ofUp hF u2)
    replace hF := hF.up u2
    replace kS := kS.up u2
    replace kF := kF.up u2
    replace kM := kM.up u2
    replace kL := kL.up u2
    replace kR := kR.up u2
    replace U := U.tr u2
    refine l_step (y_moveV (et g0 rfl)) ?_
    refine l_step (y_ext (et g0 rfl) rfl) ?_
    refine l_step (y_ext (et (gS rfl g0) rfl) rfl) ?_
    refine l_step (y_ext (et (gS rfl (gS rfl g0)) rfl) rfl) ?_
    refine l_step (y_assignV (et (gS rfl (gS rfl g0)) rfl)) ?_
    refine l_step (y_assignV (et (gS rfl (gS rfl g0)) rfl)) ?_
    refine l_step (y_assignV (et (gS rfl (gS rfl g0)) rfl)) ?_
    refine l_nil ?_
    refine hK1 _ _ ?_
    refine fg4 2 1 0 6 (gS rfl (gS rfl (gS rfl (gS rfl (gS rfl (gS rfl (gS rfl (gS rfl (gS rfl (gS rfl (gS rfl g0))))))))))) (gS rfl (gS rfl (gS rfl (gS rfl (gS rfl (gS rfl (gS rfl (gS rfl (gS rfl (gS rfl g0)))))))))) (gS rfl (gS rfl (gS rfl (gS rfl (gS rfl (gS rfl (gS rfl (gS rfl (gS rfl g0))))))))) (gS rfl (gS rfl g0)) (fun g => ?_)
    refine c_seq (fun K3 hK3 => ?_)
    exact (by
      refine c_region ?_
      refine l_step (y_moveV (et (gS rfl (gS rfl g0)) rfl)) ?_
      refine l_eff (e_callV cal_63 (aC (et g0 rfl) (aC (v := .int .i64 ((0 : Nat) : Int)) rfl aN)) (yp_arg _ _ 0 _ _ _ _ _ _ hF kF (rF 8 _ rfl) (hSt.mono hL0) (by omega) (by first | decide | omega))) (fun v4 w4 h4 => ?_)
      obtain ⟨u4, n4, q4⟩ := h4
      replace G := G.tr (Go.ofUp hF u4)
      replace hF := hF.up u4
      replace kS := kS.up u4
      replace kF := kF.up u4
      replace kM := kM.up u4
      replace kL := kL.up u4
      replace kR := kR.up u4
      replace U := U.tr u4
      refine l_step (y_assignV (et g0 rfl)) ?_
      refine l_nil ?_
      refine hK3 _ _ ?_
      refine fg5 2 1 0 6 9 (gS rfl (gS rfl (gS rfl (gS rfl (gS rfl (gS rfl g0)))))) (gS rfl (gS rfl (gS rfl (gS rfl (gS rfl g0))))) (gS rfl (gS rfl (gS rfl (gS rfl g0)))) (gS rfl (gS rfl (gS rfl g0))) g0 (fun g => ?_)
      refine c_seq (fun K5 hK5 => ?_)
      exact (by
        refine fgv5 0 1 2 6 9 (gS rfl (gS rfl g0)) (gS rfl (gS rfl (gS rfl g0))) (gS rfl (gS rfl (gS rfl (gS rfl g0)))) (gS rfl g0) g0 (fun g z0 z1 z2 z6 z9 e0 e1 e2 e6 e9 => ?_)
        refine c_drawJ (fun s_ w_ => ∃ (g : Nat → Value) (b8 : Nat) (ca6 : List Value), s_ = (upd (upd (upd (upd (upd (upd g 0 z0) 1 z1) 2 z2) 6 z6) 9 z9) 10 (.pointer (some ⟨b8, 0, none⟩))) ∧ Ch (fun _ => False) w4 w_ ∧ w4.heap.size ≤ b8 ∧ Blk w_ b8 (ca6.toArray) ∧ (PA H ca6 (crMe s f))) Up 9 (.pure 0 (.pure 1 (.pure 2 (.pure 3 (.pure 4 (.pure 5 (.pure 6 (.two 7 (.eff 8 (.eff 9 .fin)) 8 (.eff 7 (.eff 9 .fin)))))))))) (by kernel_rfl) (fun w9 hu => ⟨Up.refl _, ?_⟩) ?_
        · skip
          subst e0 e1 e2 e6 e9
          replace G := G.tr (Go.ofUp hF hu)
          replace hF := hF.up hu
          replace kS := kS.up hu
          replace kF := kF.up hu
          replace kM := kM.up hu
          replace kL := kL.up hu
          replace kR := kR.up hu
          replace U := U.tr hu
          have SU := Up.refl w9
          have V7 : Ch (fun _ => False) w4 w9 := hu
          refine t_step (by exact rfl) (y_moveV (et (gS rfl (gS rfl (gS rfl (gS rfl g0)))) rfl)) ?_
          refine t_step (by exact rfl) (y_nil (et g0 rfl)) ?_
          refine t_step (by exact rfl) (y_fld fld_102_0 (et g0 rfl)) ?_
          refine t_step (by exact rfl) (y_moveV (et (gS rfl (gS rfl (gS rfl (gS rfl (gS rfl (gS rfl g0)))))) rfl)) ?_
          refine t_step (by exact rfl) (y_nil (et g0 rfl)) ?_
          refine t_step (by exact rfl) (y_fld fld_146_12 (et g0 rfl)) ?_
          refine t_step (by exact rfl) (y_loadR agg_25 sz_25 (et g0 rfl) (by rw [length_bL, length_be]) (atSR (kF.row rSe))) ?_
          refine t_two ?_ ?_
          · skip
            refine t_eff (by exact rfl) (e_callV cal_43 (aC (et (gS rfl (gS rfl (gS rfl (gS rfl g0)))) rfl) (aC (et g0 rfl) aN)) (yp_account _ _ _ _ _ _ _ _ _ hF kS (rS 0 _ rfl) (hAc.mono hL0) fo.self (by omega))) (fun v10 w10 h10 => ?_)
            obtain ⟨c10, rfl, p10, u10⟩ := h10
            replace G := G.tr (Go.ofUp hF u10)
            replace hF := hF.up u10
            replace kS := kS.up u10
            replace kF := kF.up u10
            replace kM := kM.up u10
            replace kL := kL.up u10
            replace kR := kR.up u10
            replace U := U.tr u10
            replace V7 := V7.tr u10
            replace p10 : PA _ _ _ := ⟨p10⟩
            refine ⟨.inr (SU.tr u10), ?_⟩
            replace SU := SU.tr u10
            refine t_one ?_
            refine t_eff (by exact rfl) (e_alloc zr_107) (fun v11 w11 h11 => ?_)
            obtain ⟨b11, rfl, n11⟩ := h11
            have f11 : w.heap.size ≤ b11 := Nat.le_trans U.size n11.fresh
            have nb11 := hF.nb n11.fresh
            have fS11 := Nat.le_trans SU.size n11.fresh
            have fV7_11 := Nat.le_trans V7.size n11.fresh
            replace G := G.tr (Go.ofUp hF n11.up)
            replace hF := hF.up n11.up
            replace kS := kS.up n11.up
            replace kF := kF.up n11.up
            replace kM := kM.up n11.up
            replace kL := kL.up n11.up
            replace kR := kR.up n11.up
            replace U := U.tr n11.up
            replace V7 := V7.tr n11.up
            have k11 := n11.blk
            refine ⟨.inr (SU.tr n11.up), ?_⟩
            replace SU := SU.tr n11.up
            refine t_one ?_
            refine t_effN (by exact rfl) (e_store sz_107 (et g0 rfl) (cellsV (et (gS rfl g0) rfl) rfl) (acct_len p10.p) (by exact acct_one p10.p) k11 (by exact Nat.le_of_ble_eq_true rfl)) (fun v12 w12 h12 => ?_)
            obtain ⟨rfl, x12⟩ := h12
            replace kS := kS.ch x12.ch (by first | omega | (omega))
            replace kF := kF.ch x12.ch (by first | omega | (omega))
            replace kM := kM.ch x12.ch (by first | omega | (omega))
            replace kL := kL.ch x12.ch (by first | omega | (intro q hq hm; have := dL q hq; omega))
            replace kR := kR.ch x12.ch (by first | omega | (intro m hm; have := dR m hm; omega))
            replace k11 := x12.blk.full (by rw [acct_len p10.p]; rfl)
            replace G := G.wr x12 (by first | exact .inr f11 | omega | (simp; omega)) nb11
            replace hF := G.fz
            replace U := U.st x12 (.inr f11)
            replace V7 := V7.st x12 (by omega)
            refine ⟨.inl rfl, ?_⟩
            refine tl6 0 1 2 6 9 10 (gS rfl (gS rfl (gS rfl (gS rfl (gS rfl (gS rfl (gS rfl (gS rfl (gS rfl (gS rfl (gS rfl (gS rfl (gS rfl g0))))))))))))) (gS rfl (gS rfl (gS rfl (gS rfl (gS rfl (gS rfl (gS rfl (gS rfl (gS rfl (gS rfl (gS rfl (gS rfl g0)))))))))))) (gS rfl (gS rfl (gS rfl (gS rfl (gS rfl (gS rfl (gS rfl (gS rfl (gS rfl (gS rfl (gS rfl g0))))))))))) (gS rfl (gS rfl (gS rfl (gS rfl (gS rfl (gS rfl (gS rfl (gS rfl (gS rfl (gS rfl g0)))))))))) (gS rfl (gS rfl (gS rfl (gS rfl (gS rfl (gS rfl (gS rfl (gS rfl (gS rfl g0))))))))) g0 (fun g => ?_)
            exact ⟨g, _, _, rfl, V7, Nat.le_trans hu.size fS11, k11, p10⟩
          · skip
            refine t_eff (by exact rfl) (e_alloc zr_107) (fun v13 w13 h13 => ?_)
            obtain ⟨b13, rfl, n13⟩ := h13
            have f13 : w.heap.size ≤ b13 := Nat.le_trans U.size n13.fresh
            have nb13 := hF.nb n13.fresh
            have fS13 := Nat.le_trans SU.size n13.fresh
            have fV7_13 := Nat.le_trans V7.size n13.fresh
            replace G := G.tr (Go.ofUp hF n13.up)
            replace hF := hF.up n13.up
            replace kS := kS.up n13.up
            replace kF := kF.up n13.up
            replace kM := kM.up n13.up
            replace kL := kL.up n13.up
            replace kR := kR.up n13.up
            replace U := U.tr n13.up
            replace V7 := V7.tr n13.up
            have k13 := n13.blk
            refine ⟨.inr (SU.tr n13.up), ?_⟩
            replace SU := SU.tr n13.up
            refine t_one ?_
            refine t_eff (by exact rfl) (e_callV cal_43 (aC (et (gS rfl (gS rfl (gS rfl (gS rfl (gS rfl g0))))) rfl) (aC (et (gS rfl g0) rfl) aN)) (yp_account _ _ _ _ _ _ _ _ _ hF kS (rS 0 _ rfl) (hAc.mono hL0) fo.self (by omega))) (fun v14 w14 h14 => ?_)
            obtain ⟨c14, rfl, p14, u14⟩ := h14
            replace G := G.tr (Go.ofUp hF u14)
            replace hF := hF.up u14
            replace k13 := k13.up u14
            replace kS := kS.up u14
            replace kF := kF.up u14
            replace kM := kM.up u14
            replace kL := kL.up u14
            replace kR := kR.up u14
            replace U := U.tr u14
            replace V7 := V7.tr u14
            replace p14 : PA _ _ _ := ⟨p14⟩
            refine ⟨.inr (SU.tr u14), ?_⟩
            replace SU := SU.tr u14
            refine t_one ?_
            refine t_effN (by exact rfl) (e_store sz_107 (et (gS rfl g0) rfl) (cellsV (et g0 rfl) rfl) (acct_len p14.p) (by exact acct_one p14.p) k13 (by exact Nat.le_of_ble_eq_true rfl)) (fun v15 w15 h15 => ?_)
            obtain ⟨rfl, x15⟩ := h15
            replace kS := kS.ch x15.ch (by first | omega | (omega))
            replace kF := kF.ch x15.ch (by first | omega | (omega))
            replace kM := kM.ch x15.ch (by first | omega | (omega))
            replace kL := kL.ch x15.ch (by first | omega | (intro q hq hm; have := dL q hq; omega))
            replace kR := kR.ch x15.ch (by first | omega | (intro m hm; have := dR m hm; omega))
            replace k13 := x15.blk.full (by rw [acct_len p14.p]; rfl)
            replace G := G.wr x15 (by first | exact .inr f13 | omega | (simp; omega)) nb13
            replace hF := G.fz
            replace U := U.st x15 (.inr f13)
            replace V7 := V7.st x15 (by omega)
            refine ⟨.inl rfl, ?_⟩
            refine tl6 0 1 2 6 9 10 (gS rfl (gS rfl (gS rfl (gS rfl (gS rfl (gS rfl (gS rfl (gS rfl (gS rfl (gS rfl (gS rfl (gS rfl (gS rfl g0))))))))))))) (gS rfl (gS rfl (gS rfl (gS rfl (gS rfl (gS rfl (gS rfl (gS rfl (gS rfl (gS rfl (gS rfl (gS rfl g0)))))))))))) (gS rfl (gS rfl (gS rfl (gS rfl (gS rfl (gS rfl (gS rfl (gS rfl (gS rfl (gS rfl (gS rfl g0))))))))))) (gS rfl (gS rfl (gS rfl (gS rfl (gS rfl (gS rfl (gS rfl (gS rfl (gS rfl (gS rfl g0)))))))))) (gS rfl (gS rfl (gS rfl (gS rfl (gS rfl (gS rfl (gS rfl (gS rfl (gS rfl g0))))))))) (gS rfl g0) (fun g => ?_)
            exact ⟨g, _, _, rfl, V7, Nat.le_trans hu.size fS13, k13, p14⟩
        intro s_ w16 hJ
        obtain ⟨g, b8, ca6, rfl, V7, fn8, kn8, pa6⟩ := hJ
        subst e0 e1 e2 e6 e9
        have f8 : w.heap.size ≤ b8 := Nat.le_trans U.size fn8
        have nb8 := hF.nb fn8
        replace G := G.tr (Go.ofUp hF V7)
        replace hF := hF.up V7
        replace kS := kS.up V7
        replace kF := kF.up V7
        replace kM := kM.up V7
        replace kL := kL.up V7
        replace kR := kR.up V7
        replace U := U.tr V7
        have k8 := kn8
        refine hK5 _ _ ?_
        refine c_seq (fun K17 hK17 => ?_)
        refine c_seq (fun K18 hK18 => ?_)
        exact (by
          refine c_draw Up 21 [(0, true), (1, true), (2, true), (3, true), (4, true), (5, true), (6, true), (7, true), (8, true), (9, true), (10, true), (11, false), (12, true), (13, true), (14, true), (15, true), (16, true), (17, false), (18, false), (19, true), (20, true)] (by kernel_rfl) (fun w19 hu => ⟨Up.refl _, ?_⟩)
          replace G := G.tr (Go.ofUp hF hu)
          replace hF := hF.up hu
          replace k8 := k8.up hu
          replace kS := kS.up hu
          replace kF := kF.up hu
          replace kM := kM.up hu
          replace kL := kL.up hu
          replace kR := kR.up hu
          replace U := U.tr hu
          have SU := Up.refl w19
          have kS_s := kS
          have kF_s := kF
          have kM_s := kM
          have kL_s := kL
          have kR_s := kR
          have k8_s := k8
          refine p_step (by exact rfl) (y_moveV (et (gS rfl (gS rfl (gS rfl (gS rfl (gS rfl g0))))) rfl)) ?_
          refine p_step (by exact rfl) (y_nil (et g0 rfl)) ?_
          refine p_step (by exact rfl) (y_fld fld_102_2 (et g0 rfl)) ?_
          refine p_step (by exact rfl) (y_load1 one_100 (et g0 rfl) (atS (kS_s.cell (rS 9 _ rfl)))) ?_
          refine p_step (by exact rfl) (y_len Hvaa.underlying100 (et g0 rfl)) ?_
          refine p_step (by exact rfl) (y_sub (et g0 rfl) rfl (subIN (y := 1) ?_ ?_)) ?_
          omega
          omega
          refine p_step (by exact rfl) (y_geq (et g0 rfl) rfl) ?_
          refine p_step (by exact rfl) (y_moveV (et g0 rfl)) ?_
          refine gsplitP (i := 35) g0 (fun q20 => ?_) (fun q20 => ?_)
          · skip
            have hdp : 6 ≤ low.length := by have := of_decide_eq_true q20; omega
            refine p_gskip (j := 7) (t := 35) (by exact rfl) (by exact rfl) (by exact rfl) (et g0 rfl) rfl rfl ?_
            refine p_gskip (j := 7) (t := 35) (by exact rfl) (by exact rfl) (by exact rfl) (et (gS rfl g0) rfl) rfl rfl ?_
            refine p_gskip (j := 7) (t := 35) (by exact rfl) (by exact rfl) (by exact rfl) (et (gS rfl (gS rfl g0)) rfl) rfl rfl ?_
            refine p_geskip (j := 7) (t := 35) (by exact rfl) (by exact rfl) (by exact rfl) (et (gS rfl (gS rfl (gS rfl g0))) rfl) rfl rfl ⟨.inr SU, ?_⟩
            refine p_gskip (j := 7) (t := 35) (by exact rfl) (by exact rfl) (by exact rfl) (et (gS rfl (gS rfl (gS rfl (gS rfl g0)))) rfl) rfl rfl ?_
            refine p_step (by exact rfl) (y_pickT (et (gS rfl (gS rfl (gS rfl (gS rfl (gS rfl g0))))) rfl) rfl) ?_
            refine p_step (by exact rfl) (y_moveV (et g0 rfl)) ?_
            refine p_gskip (j := 14) (t := 42) (by exact rfl) (by exact rfl) (by exact rfl) (et g0 rfl) rfl rfl ?_
            refine p_gskip (j := 14) (t := 42) (by exact rfl) (by exact rfl) (by exact rfl) (et (gS rfl g0) rfl) rfl rfl ?_
            refine p_geskip (j := 14) (t := 42) (by exact rfl) (by exact rfl) (by exact rfl) (et (gS rfl (gS rfl g0)) rfl) rfl rfl ⟨.inr SU, ?_⟩
            refine p_geskip (j := 14) (t := 42) (by exact rfl) (by exact rfl) (by exact rfl) (et (gS rfl (gS rfl (gS rfl g0))) rfl) rfl rfl ⟨.inr SU, ?_⟩
            refine p_gskip (j := 14) (t := 42) (by exact rfl) (by exact rfl) (by exact rfl) (et (gS rfl (gS rfl (gS rfl (gS rfl g0)))) rfl) rfl rfl ?_
            refine p_step (by exact rfl) (y_pickT (et (gS rfl (gS rfl (gS rfl (gS rfl (gS rfl g0))))) rfl) rfl) ?_
            refine p_nil ?_
            refine hK18 _ _ ?_
            refine fg7 0 1 2 6 9 10 48 (gS rfl (gS rfl (gS rfl (gS rfl (gS rfl (gS rfl (gS rfl (gS rfl (gS rfl (gS rfl (gS rfl (gS rfl (gS rfl (gS rfl (gS rfl (gS rfl (gS rfl (gS rfl (gS rfl (gS rfl (gS rfl (gS rfl (gS rfl (gS rfl (gS rfl (gS rfl (gS rfl g0))))))))))))))))))))))))))) (gS rfl (gS rfl (gS rfl (gS rfl (gS rfl (gS rfl (gS rfl (gS rfl (gS rfl (gS rfl (gS rfl (gS rfl (gS rfl (gS rfl (gS rfl (gS rfl (gS rfl (gS rfl (gS rfl (gS rfl (gS rfl (gS rfl (gS rfl (gS rfl (gS rfl (gS rfl g0)))))))))))))))))))))))))) (gS rfl (gS rfl (gS rfl (gS rfl (gS rfl (gS rfl (gS rfl (gS rfl (gS rfl (gS rfl (gS rfl (gS rfl (gS rfl (gS rfl (gS rfl (gS rfl (gS rfl (gS rfl (gS rfl (gS rfl (gS rfl (gS rfl (gS rfl (gS rfl (gS rfl g0))))))))))))))))))))))))) (gS rfl (gS rfl (gS rfl (gS rfl (gS rfl (gS rfl (gS rfl (gS rfl (gS rfl (gS rfl (gS rfl (gS rfl (gS rfl (gS rfl (gS rfl (gS rfl (gS rfl (gS rfl (gS rfl (gS rfl (gS rfl (gS rfl (gS rfl (gS rfl g0)))))))))))))))))))))))) (gS rfl (gS rfl (gS rfl (gS rfl (gS rfl (gS rfl (gS rfl (gS rfl (gS rfl (gS rfl (gS rfl (gS rfl (gS rfl (gS rfl (gS rfl (gS rfl (gS rfl (gS rfl (gS rfl (gS rfl (gS rfl (gS rfl (gS rfl g0))))))))))))))))))))))) (gS rfl (gS rfl (gS rfl (gS rfl (gS rfl (gS rfl (gS rfl (gS rfl (gS rfl (gS rfl (gS rfl (gS rfl (gS rfl (gS rfl (gS rfl (gS rfl (gS rfl (gS rfl (gS rfl (gS rfl (gS rfl (gS rfl g0)))))))))))))))))))))) g0 (fun g => ?_)
            have hfa : crFail s f low.length := .inl hdp
            refine c_true (et g0 rfl) rfl ?_
            refine c_seq (fun K22 hK22 => ?_)
            exact (by
              refine c_region ?_
              refine l_step (y_moveV (et (gS rfl (gS rfl (gS rfl (gS rfl (gS rfl g0))))) rfl)) ?_
              refine l_step (y_moveV (et (gS rfl (gS rfl (gS rfl (gS rfl g0)))) rfl)) ?_
              refine l_eff (e_callV cal_143 (aC (et (gS rfl g0) rfl) (aC (et g0 rfl) (aC rfl aN))) (yp_answer hF _ _ _ _ _ kF (hf.mono hL0) nbF (tkN q) nh.tk nh.stk nh.pc (NV.nil _) (show 0 < W256 by decide))) (fun v23 w23 h23 => ?_)
              obtain ⟨rfl, fs23, H23, g23, kf23, fc23, of23⟩ := h23
              have hlew23 := g23.le
              replace nb8 := g23.nb nb8 k8.lt
              replace nbS := g23.nb nbS kS.lt
              replace nbF := g23.nb nbF kF.lt
              replace nbM := g23.nb nbM (Nat.lt_of_lt_of_le lM U.size)
              replace n4 := n4.mono hlew23
              replace pa6 := pa6.mono hlew23
              replace hL0 := hL0.trans hlew23
              replace k8 := k8.ch g23.ch (by omega)
              replace kS := kS.ch g23.ch (by omega)
              replace kM := kM.ch g23.ch (by omega)
              replace kL := kL.ch g23.ch (by intro q hq hm; have := dL q hq; omega)
              replace kR := kR.ch g23.ch (by intro m hm; have := dR m hm; omega)
              replace kF := kf23
              replace U := U.cc g23.ch (by intro b hb; first | exact .inl hb | exact .inl (yOwn b (.inl hb)) | exact .inl (yOwn b (.inr (.inl hb))) | exact .inl (yOwn b (.inr (.inr (.inl hb)))) | exact .inl (yOwn b (.inr (.inr (.inr hb)))) | exact .inl (yOwn b hb) | exact .inl (yOwn b (hb.elim .inl (fun e => .inr (.inr (.inr e))))) | exact hb | exact .inr (by omega))
              replace G := G.trans g23 (by intro b hb; first | exact .inl hb | exact .inl (yOwn b (.inl hb)) | exact .inl (yOwn b (.inr (.inl hb))) | exact .inl (yOwn b (.inr (.inr (.inl hb)))) | exact .inl (yOwn b (.inr (.inr (.inr hb)))) | exact .inl (yOwn b hb) | exact .inl (yOwn b (hb.elim .inl (fun e => .inr (.inr (.inr e))))) | exact hb | exact .inr (by omega))
              replace hF := g23.fz
              replace oF := oF.trans of23
              refine l_nil ?_
              refine hK22 _ _ ?_
              refine fg0 (fun g => ?_)
              refine c_ret ?_
              repeat with_reducible refine then_ret ?_
              refine ret0 rfl ?_
              refine ⟨rfl, _, bf, G, ?_⟩
              rw [creY, if_pos hfa]
              exact (YT.close (low := low) (f := (ansN f (tkN q) 0)) (msl := msl) (Y := fun b => Y b ∨ w.heap.size ≤ b) ⟨kS, SC.frames (hs.mono hL0) _, ⟨hcp, yt.hc.2.1, (by rw [oF.size]; exact yt.hc.2.2)⟩, kF, fc23, kM, (yt.hl.mono hL0).pre (oF.pre (Nat.le_refl _)) (Nat.le_refl _), kR, kL.mono hL0, hvl, nbS, nbF, nbM, .inl yt.yS, .inl yt.yF, .inl yt.yM, Nat.lt_of_lt_of_le lM U.size, dSF, dMF, dSM, fun b e => ⟨Nat.lt_of_lt_of_le (dL b e).1 U.size, (dL b e).2⟩, fun b e => G.nb (yt.nbL b e) (dL b e).1, fun b e => .inl (yt.yL b e), fun m hm => ⟨Nat.lt_of_lt_of_le (dR m hm).1 U.size, (dR m hm).2⟩, fun m hm => ⟨G.nb (yt.nbR m hm).1 (dR m hm).1, .inl (yt.nbR m hm).2⟩, yt.ndR⟩ hF rfl))
          · skip
            have hdp : ¬ 6 ≤ low.length := by have := of_decide_eq_false q20; omega
            refine p_gstep (j := 7) (t := 35) (by exact rfl) (by exact rfl) (by exact rfl) (et g0 rfl) rfl (y_fld fld_107_2 (et (gS rfl (gS rfl (gS rfl (gS rfl (gS rfl (gS rfl (gS rfl (gS rfl (gS rfl g0))))))))) rfl)) ?_
            obtain ⟨vn24, vb24, vc24, vs24, hca24, hnn24, hbb24, hcd24, hss24, hb124, hb224, hb324⟩ := acct_form9 pa6.p
            obtain ⟨xa24, xc24, rfl, hxl24⟩ := hcd24.sv.val
            refine p_gstep (j := 7) (t := 35) (by exact rfl) (by exact rfl) (by exact rfl) (et (gS rfl g0) rfl) rfl (y_load1 one_95 (et g0 rfl) (atS (k8_s.cell (acct_c21 hca24)))) ?_
            refine p_gstep (j := 7) (t := 35) (by exact rfl) (by exact rfl) (by exact rfl) (et (gS rfl (gS rfl g0)) rfl) rfl (y_moveV (et (gS rfl (gS rfl (gS rfl (gS rfl (gS rfl (gS rfl (gS rfl (gS rfl (gS rfl (gS rfl (gS rfl (gS rfl g0)))))))))))) rfl)) ?_
            refine p_geff (j := 7) (t := 35) (by exact rfl) (by exact rfl) (by exact rfl) (et (gS rfl (gS rfl (gS rfl g0))) rfl) rfl (e_callV cal_121 (aC (et (gS rfl g0) rfl) (aC (et g0 rfl) aN)) (nat_cmp hF hbb24 n4 (bd_sm (bd_W hb224) (by decide)) (bd_sm (bd_W q4) (by decide)))) (fun v25 w25 h25 => ?_)
            obtain ⟨rfl, u25⟩ := h25
            replace G := G.tr (Go.ofUp hF u25)
            replace hF := hF.up u25
            replace k8 := k8.up u25
            replace kS := kS.up u25
            replace kF := kF.up u25
            replace kM := kM.up u25
            replace kL := kL.up u25
            replace kR := kR.up u25
            replace U := U.tr u25
            refine ⟨.inr (SU.tr u25), ?_⟩
            replace SU := SU.tr u25
            refine p_gstep (j := 7) (t := 35) (by exact rfl) (by exact rfl) (by exact rfl) (et (gS rfl (gS rfl (gS rfl (gS rfl g0)))) rfl) rfl ((y_lss (et g0 rfl) rfl).to (congrArg Value.bool (cmp_lt0 _ _))) ?_
            refine p_step (by exact rfl) (y_pickF (et (gS rfl (gS rfl (gS rfl (gS rfl (gS rfl g0))))) rfl) (et g0 rfl)) ?_
            refine p_step (by exact rfl) (y_moveV (et g0 rfl)) ?_
            refine gsplitP (i := 42) g0 (fun q26 => ?_) (fun q26 => ?_)
            · skip
              have hbl : (crMe s f).bal < argN f.stack 0 := of_decide_eq_true q26
              refine p_gskip (j := 14) (t := 42) (by exact rfl) (by exact rfl) (by exact rfl) (et g0 rfl) rfl rfl ?_
              refine p_gskip (j := 14) (t := 42) (by exact rfl) (by exact rfl) (by exact rfl) (et (gS rfl g0) rfl) rfl rfl ?_
              refine p_geskip (j := 14) (t := 42) (by exact rfl) (by exact rfl) (by exact rfl) (et (gS rfl (gS rfl g0)) rfl) rfl rfl ⟨.inr SU, ?_⟩
              refine p_geskip (j := 14) (t := 42) (by exact rfl) (by exact rfl) (by exact rfl) (et (gS rfl (gS rfl (gS rfl g0))) rfl) rfl rfl ⟨.inr SU, ?_⟩
              refine p_gskip (j := 14) (t := 42) (by exact rfl) (by exact rfl) (by exact rfl) (et (gS rfl (gS rfl (gS rfl (gS rfl g0)))) rfl) rfl rfl ?_
              refine p_step (by exact rfl) (y_pickT (et (gS rfl (gS rfl (gS rfl (gS rfl (gS rfl g0))))) rfl) rfl) ?_
              refine p_nil ?_
              refine hK18 _ _ ?_
              refine fg7 0 1 2 6 9 10 48 (gS rfl (gS rfl (gS rfl (gS rfl (gS rfl (gS rfl (gS rfl (gS rfl (gS rfl (gS rfl (gS rfl (gS rfl (gS rfl (gS rfl (gS rfl (gS rfl (gS rfl (gS rfl (gS rfl (gS rfl (gS rfl (gS rfl (gS rfl (gS rfl (gS rfl (gS rfl (gS rfl (gS rfl g0)))))))))))))))))))))))))))) (gS rfl (gS rfl (gS rfl (gS rfl (gS rfl (gS rfl (gS rfl (gS rfl (gS rfl (gS rfl (gS rfl (gS rfl (gS rfl (gS rfl (gS rfl (gS rfl (gS rfl (gS rfl (gS rfl (gS rfl (gS rfl (gS rfl (gS rfl (gS rfl (gS rfl (gS rfl (gS rfl g0))))))))))))))))))))))))))) (gS rfl (gS rfl (gS rfl (gS rfl (gS rfl (gS rfl (gS rfl (gS rfl (gS rfl (gS rfl (gS rfl (gS rfl (gS rfl (gS rfl (gS rfl (gS rfl (gS rfl (gS rfl (gS rfl (gS rfl (gS rfl (gS rfl (gS rfl (gS rfl (gS rfl (gS rfl g0)))))))))))))))))))))))))) (gS rfl (gS rfl (gS rfl (gS rfl (gS rfl (gS rfl (gS rfl (gS rfl (gS rfl (gS rfl (gS rfl (gS rfl (gS rfl (gS rfl (gS rfl (gS rfl (gS rfl (gS rfl (gS rfl (gS rfl (gS rfl (gS rfl (gS rfl (gS rfl (gS rfl g0))))))))))))))))))))))))) (gS rfl (gS rfl (gS rfl (gS rfl (gS rfl (gS rfl (gS rfl (gS rfl (gS rfl (gS rfl (gS rfl (gS rfl (gS rfl (gS rfl (gS rfl (gS rfl (gS rfl (gS rfl (gS rfl (gS rfl (gS rfl (gS rfl (gS rfl (gS rfl g0)))))))))))))))))))))))) (gS rfl (gS rfl (gS rfl (gS rfl (gS rfl (gS rfl (gS rfl (gS rfl (gS rfl (gS rfl (gS rfl (gS rfl (gS rfl (gS rfl (gS rfl (gS rfl (gS rfl (gS rfl (gS rfl (gS rfl (gS rfl (gS rfl (gS rfl g0))))))))))))))))))))))) g0 (fun g => ?_)
              have hfa : crFail s f low.length := .inr (.inl hbl)
              refine c_true (et g0 rfl) rfl ?_
              refine c_seq (fun K28 hK28 => ?_)
              exact (by
                refine c_region ?_
                refine l_step (y_moveV (et (gS rfl (gS rfl (gS rfl (gS rfl (gS rfl g0))))) rfl)) ?_
                refine l_step (y_moveV (et (gS rfl (gS rfl (gS rfl (gS rfl g0)))) rfl)) ?_
                refine l_eff (e_callV cal_143 (aC (et (gS rfl g0) rfl) (aC (et g0 rfl) (aC rfl aN))) (yp_answer hF _ _ _ _ _ kF (hf.mono hL0) nbF (tkN q) nh.tk nh.stk nh.pc (NV.nil _) (show 0 < W256 by decide))) (fun v29 w29 h29 => ?_)
                obtain ⟨rfl, fs29, H29, g29, kf29, fc29, of29⟩ := h29
                have hlew29 := g29.le
                replace nb8 := g29.nb nb8 k8.lt
                replace nbS := g29.nb nbS kS.lt
                replace nbF := g29.nb nbF kF.lt
                replace nbM := g29.nb nbM (Nat.lt_of_lt_of_le lM U.size)
                replace n4 := n4.mono hlew29
                replace pa6 := pa6.mono hlew29
                replace hnn24 := hnn24.mono hlew29
                replace hbb24 := hbb24.mono hlew29
                replace hcd24 := hcd24.mono hlew29
                replace hss24 := hss24.mono hlew29
                replace hL0 := hL0.trans hlew29
                replace k8 := k8.ch g29.ch (by omega)
                replace kS := kS.ch g29.ch (by omega)
                replace kM := kM.ch g29.ch (by omega)
                replace kL := kL.ch g29.ch (by intro q hq hm; have := dL q hq; omega)
                replace kR := kR.ch g29.ch (by intro m hm; have := dR m hm; omega)
                replace kF := kf29
                replace U := U.cc g29.ch (by intro b hb; first | exact .inl hb | exact .inl (yOwn b (.inl hb)) | exact .inl (yOwn b (.inr (.inl hb))) | exact .inl (yOwn b (.inr (.inr (.inl hb)))) | exact .inl (yOwn b (.inr (.inr (.inr hb)))) | exact .inl (yOwn b hb) | exact .inl (yOwn b (hb.elim .inl (fun e => .inr (.inr (.inr e))))) | exact hb | exact .inr (by omega))
                replace G := G.trans g29 (by intro b hb; first | exact .inl hb | exact .inl (yOwn b (.inl hb)) | exact .inl (yOwn b (.inr (.inl hb))) | exact .inl (yOwn b (.inr (.inr (.inl hb)))) | exact .inl (yOwn b (.inr (.inr (.inr hb)))) | exact .inl (yOwn b hb) | exact .inl (yOwn b (hb.elim .inl (fun e => .inr (.inr (.inr e))))) | exact hb | exact .inr (by omega))
                replace hF := g29.fz
                replace oF := oF.trans of29
                refine l_nil ?_
                refine hK28 _ _ ?_
                refine fg0 (fun g => ?_)
                refine c_ret ?_
                repeat with_reducible refine then_ret ?_
                refine ret0 rfl ?_
                refine ⟨rfl, _, bf, G, ?_⟩
                rw [creY, if_pos hfa]
                exact (YT.close (low := low) (f := (ansN f (tkN q) 0)) (msl := msl) (Y := fun b => Y b ∨ w.heap.size ≤ b) ⟨kS, SC.frames (hs.mono hL0) _, ⟨hcp, yt.hc.2.1, (by rw [oF.size]; exact yt.hc.2.2)⟩, kF, fc29, kM, (yt.hl.mono hL0).pre (oF.pre (Nat.le_refl _)) (Nat.le_refl _), kR, kL.mono hL0, hvl, nbS, nbF, nbM, .inl yt.yS, .inl yt.yF, .inl yt.yM, Nat.lt_of_lt_of_le lM U.size, dSF, dMF, dSM, fun b e => ⟨Nat.lt_of_lt_of_le (dL b e).1 U.size, (dL b e).2⟩, fun b e => G.nb (yt.nbL b e) (dL b e).1, fun b e => .inl (yt.yL b e), fun m hm => ⟨Nat.lt_of_lt_of_le (dR m hm).1 U.size, (dR m hm).2⟩, fun m hm => ⟨G.nb (yt.nbR m hm).1 (dR m hm).1, .inl (yt.nbR m hm).2⟩, yt.ndR⟩ hF rfl))
            · skip
              have hbl : ¬ (crMe s f).bal < argN f.stack 0 := of_decide_eq_false q26
              refine p_gstep (j := 14) (t := 42) (by exact rfl) (by exact rfl) (by exact rfl) (et g0 rfl) rfl (y_fld fld_107_1 (et (gS rfl (gS rfl (gS rfl (gS rfl (gS rfl (gS rfl (gS rfl (gS rfl (gS rfl (gS rfl (gS rfl (gS rfl (gS rfl (gS rfl (gS rfl (gS rfl (gS rfl g0))))))))))))))))) rfl)) ?_
              refine p_gstep (j := 14) (t := 42) (by exact rfl) (by exact rfl) (by exact rfl) (et (gS rfl g0) rfl) rfl (y_load1 one_95 (et g0 rfl) (atS (k8_s.cell (acct_c20 hca24)))) ?_
              refine p_geff (j := 14) (t := 42) (by exact rfl) (by exact rfl) (by exact rfl) (et (gS rfl (gS rfl g0)) rfl) rfl (e_callV cal_32 (aC (v := .int .u64 ((18446744073709551615 : Nat) : Int)) rfl aN) (yp_num (x := 18446744073709551615) hF (by decide))) (fun v30 w30 h30 => ?_)
              obtain ⟨H30, g30, n30⟩ := h30
              have hlew30 := g30.le
              replace nb8 := g30.nb nb8 k8.lt
              replace nbS := g30.nb nbS kS.lt
              replace nbF := g30.nb nbF kF.lt
              replace nbM := g30.nb nbM (Nat.lt_of_lt_of_le lM U.size)
              replace n4 := n4.mono hlew30
              replace pa6 := pa6.mono hlew30
              replace hnn24 := hnn24.mono hlew30
              replace hbb24 := hbb24.mono hlew30
              replace hcd24 := hcd24.mono hlew30
              replace hss24 := hss24.mono hlew30
              replace hL0 := hL0.trans hlew30
              replace k8 := k8.up g30.up
              replace kS := kS.up g30.up
              replace kF := kF.up g30.up
              replace kM := kM.up g30.up
              replace kL := kL.up g30.up
              replace kR := kR.up g30.up
              replace U := U.tr g30.up
              replace G := G.tr g30
              replace hF := g30.fz
              have q30 : 18446744073709551615 < 256 ^ 8 := by decide
              refine ⟨.inr (SU.tr g30.up), ?_⟩
              replace SU := SU.tr g30.up
              refine p_geff (j := 14) (t := 42) (by exact rfl) (by exact rfl) (by exact rfl) (et (gS rfl (gS rfl (gS rfl g0))) rfl) rfl (e_callV cal_121 (aC (et (gS rfl g0) rfl) (aC (et g0 rfl) aN)) (nat_cmp hF hnn24 n30 (bd_sm (bd_64 hb124) (by decide)) (bd_sm q30 (by decide)))) (fun v31 w31 h31 => ?_)
              obtain ⟨rfl, u31⟩ := h31
              replace G := G.tr (Go.ofUp hF u31)
              replace hF := hF.up u31
              replace k8 := k8.up u31
              replace kS := kS.up u31
              replace kF := kF.up u31
              replace kM := kM.up u31
              replace kL := kL.up u31
              replace kR := kR.up u31
              replace U := U.tr u31
              refine ⟨.inr (SU.tr u31), ?_⟩
              replace SU := SU.tr u31
              exact (by
                refine p_gstep (j := 14) (t := 42) (by exact rfl) (by exact rfl) (by exact rfl) (et (gS rfl (gS rfl (gS rfl (gS rfl g0)))) rfl) rfl ((y_geq (et g0 rfl) rfl).to (congrArg Value.bool (cmp_ge0 _ _))) ?_
                refine p_step (by exact rfl) (y_pickF (et (gS rfl (gS rfl (gS rfl (gS rfl (gS rfl g0))))) rfl) (et g0 rfl)) ?_
                refine p_nil ?_
                refine hK18 _ _ ?_
                refine fg7 0 1 2 6 9 10 48 (gS rfl (gS rfl (gS rfl (gS rfl (gS rfl (gS rfl (gS rfl (gS rfl (gS rfl (gS rfl (gS rfl (gS rfl (gS rfl (gS rfl (gS rfl (gS rfl (gS rfl (gS rfl (gS rfl (gS rfl (gS rfl (gS rfl (gS rfl (gS rfl (gS rfl (gS rfl (gS rfl (gS rfl g0)))))))))))))))))))))))))))) (gS rfl (gS rfl (gS rfl (gS rfl (gS rfl (gS rfl (gS rfl (gS rfl (gS rfl (gS rfl (gS rfl (gS rfl (gS rfl (gS rfl (gS rfl (gS rfl (gS rfl (gS rfl (gS rfl (gS rfl (gS rfl (gS rfl (gS rfl (gS rfl (gS rfl (gS rfl (gS rfl g0))))))))))))))))))))))))))) (gS rfl (gS rfl (gS rfl (gS rfl (gS rfl (gS rfl (gS rfl (gS rfl (gS rfl (gS rfl (gS rfl (gS rfl (gS rfl (gS rfl (gS rfl (gS rfl (gS rfl (gS rfl (gS rfl (gS rfl (gS rfl (gS rfl (gS rfl (gS rfl (gS rfl (gS rfl g0)))))))))))))))))))))))))) (gS rfl (gS rfl (gS rfl (gS rfl (gS rfl (gS rfl (gS rfl (gS rfl (gS rfl (gS rfl (gS rfl (gS rfl (gS rfl (gS rfl (gS rfl (gS rfl (gS rfl (gS rfl (gS rfl (gS rfl (gS rfl (gS rfl (gS rfl (gS rfl (gS rfl g0))))))))))))))))))))))))) (gS rfl (gS rfl (gS rfl (gS rfl (gS rfl (gS rfl (gS rfl (gS rfl (gS rfl (gS rfl (gS rfl (gS rfl (gS rfl (gS rfl (gS rfl (gS rfl (gS rfl (gS rfl (gS rfl (gS rfl (gS rfl (gS rfl (gS rfl (gS rfl g0)))))))))))))))))))))))) (gS rfl (gS rfl (gS rfl (gS rfl (gS rfl (gS rfl (gS rfl (gS rfl (gS rfl (gS rfl (gS rfl (gS rfl (gS rfl (gS rfl (gS rfl (gS rfl (gS rfl (gS rfl (gS rfl (gS rfl (gS rfl (gS rfl (gS rfl g0))))))))))))))))))))))) g0 (fun g => ?_)
                refine c_cond (et g0 rfl) (fun cB1 => ?_) (fun cB1 => ?_)
                · skip
                  
                  have hfa : crFail s f low.length := .inr (.inr (by have := of_decide_eq_true cB1; omega))
                  refine c_seq (fun K33 hK33 => ?_)
                  exact (by
                    refine c_region ?_
                    refine l_step (y_moveV (et (gS rfl (gS rfl (gS rfl (gS rfl (gS rfl g0))))) rfl)) ?_
                    refine l_step (y_moveV (et (gS rfl (gS rfl (gS rfl (gS rfl g0)))) rfl)) ?_
                    refine l_eff (e_callV cal_143 (aC (et (gS rfl g0) rfl) (aC (et g0 rfl) (aC rfl aN))) (yp_answer hF _ _ _ _ _ kF (hf.mono hL0) nbF (tkN q) nh.tk nh.stk nh.pc (NV.nil _) (show 0 < W256 by decide))) (fun v34 w34 h34 => ?_)
                    obtain ⟨rfl, fs34, H34, g34, kf34, fc34, of34⟩ := h34
                    have hlew34 := g34.le
                    replace nb8 := g34.nb nb8 k8.lt
                    replace nbS := g34.nb nbS kS.lt
                    replace nbF := g34.nb nbF kF.lt
                    replace nbM := g34.nb nbM (Nat.lt_of_lt_of_le lM U.size)
                    replace n4 := n4.mono hlew34
                    replace pa6 := pa6.mono hlew34
                    replace hnn24 := hnn24.mono hlew34
                    replace hbb24 := hbb24.mono hlew34
                    replace hcd24 := hcd24.mono hlew34
                    replace hss24 := hss24.mono hlew34
                    replace n30 := n30.mono hlew34
                    replace hL0 := hL0.trans hlew34
                    replace k8 := k8.ch g34.ch (by omega)
                    replace kS := kS.ch g34.ch (by omega)
                    replace kM := kM.ch g34.ch (by omega)
                    replace kL := kL.ch g34.ch (by intro q hq hm; have := dL q hq; omega)
                    replace kR := kR.ch g34.ch (by intro m hm; have := dR m hm; omega)
                    replace kF := kf34
                    replace U := U.cc g34.ch (by intro b hb; first | exact .inl hb | exact .inl (yOwn b (.inl hb)) | exact .inl (yOwn b (.inr (.inl hb))) | exact .inl (yOwn b (.inr (.inr (.inl hb)))) | exact .inl (yOwn b (.inr (.inr (.inr hb)))) | exact .inl (yOwn b hb) | exact .inl (yOwn b (hb.elim .inl (fun e => .inr (.inr (.inr e))))) | exact hb | exact .inr (by omega))
                    replace G := G.trans g34 (by intro b hb; first | exact .inl hb | exact .inl (yOwn b (.inl hb)) | exact .inl (yOwn b (.inr (.inl hb))) | exact .inl (yOwn b (.inr (.inr (.inl hb)))) | exact .inl (yOwn b (.inr (.inr (.inr hb)))) | exact .inl (yOwn b hb) | exact .inl (yOwn b (hb.elim .inl (fun e => .inr (.inr (.inr e))))) | exact hb | exact .inr (by omega))
                    replace hF := g34.fz
                    replace oF := oF.trans of34
                    refine l_nil ?_
                    refine hK33 _ _ ?_
                    refine fg0 (fun g => ?_)
                    refine c_ret ?_
                    repeat with_reducible refine then_ret ?_
                    refine ret0 rfl ?_
                    refine ⟨rfl, _, bf, G, ?_⟩
                    rw [creY, if_pos hfa]
                    exact (YT.close (low := low) (f := (ansN f (tkN q) 0)) (msl := msl) (Y := fun b => Y b ∨ w.heap.size ≤ b) ⟨kS, SC.frames (hs.mono hL0) _, ⟨hcp, yt.hc.2.1, (by rw [oF.size]; exact yt.hc.2.2)⟩, kF, fc34, kM, (yt.hl.mono hL0).pre (oF.pre (Nat.le_refl _)) (Nat.le_refl _), kR, kL.mono hL0, hvl, nbS, nbF, nbM, .inl yt.yS, .inl yt.yF, .inl yt.yM, Nat.lt_of_lt_of_le lM U.size, dSF, dMF, dSM, fun b e => ⟨Nat.lt_of_lt_of_le (dL b e).1 U.size, (dL b e).2⟩, fun b e => G.nb (yt.nbL b e) (dL b e).1, fun b e => .inl (yt.yL b e), fun m hm => ⟨Nat.lt_of_lt_of_le (dR m hm).1 U.size, (dR m hm).2⟩, fun m hm => ⟨G.nb (yt.nbR m hm).1 (dR m hm).1, .inl (yt.nbR m hm).2⟩, yt.ndR⟩ hF rfl))
                · skip
                  
                  have hfa : ¬ crFail s f low.length := fun h9 => h9.elim hdp (fun h9 => h9.elim hbl (fun h9 => by have := of_decide_eq_false cB1; omega))
                  have hno : (crMe s f).nonce + 1 < 18446744073709551616 := by have := of_decide_eq_false cB1; omega
                  refine c_skip ?_
                  refine hK17 _ _ ?_
                  refine fg6 0 1 2 6 9 10 (gS rfl (gS rfl (gS rfl (gS rfl (gS rfl (gS rfl g0)))))) (gS rfl (gS rfl (gS rfl (gS rfl (gS rfl g0))))) (gS rfl (gS rfl (gS rfl (gS rfl g0)))) (gS rfl (gS rfl (gS rfl g0))) (gS rfl (gS rfl g0)) (gS rfl g0) (fun g => ?_)
                  refine c_seq (fun K35 hK35 => ?_)
                  exact (by
                    refine fgv6 0 1 2 6 9 10 (gS rfl (gS rfl (gS rfl (gS rfl (gS rfl g0))))) (gS rfl (gS rfl (gS rfl (gS rfl g0)))) (gS rfl (gS rfl (gS rfl g0))) (gS rfl (gS rfl g0)) (gS rfl g0) g0 (fun g z0 z1 z2 z6 z9 z10 e0 e1 e2 e6 e9 e10 => ?_)
                    refine c_drawJ (fun s_ w_ => ∃ (g : Nat → Value) (b37 : Nat) (vx vy : Value) (Hj36 : Store), s_ = (upd (upd (upd (upd (upd (upd g 0 z0) 1 z1) 2 z2) 6 z6) 10 z10) 11 (.pointer (some ⟨b37, 0, none⟩))) ∧ Go No w31 H30 w_ Hj36 ∧ w31.heap.size ≤ b37 ∧ Blk w_ b37 (([Value.int .u8 ((5 : Nat) : Int), Value.int .u8 ((0 : Nat) : Int), Value.bool false, Value.slice none 0 0, Value.slice none 0 0, vx, Value.slice none 0 0, Value.slice none 0 0, Value.slice none 0 0, Value.slice none 0 0, vy, Value.slice none 0 0] ++ (z20 ++ (bL (be 20 f.self) ++ [Value.slice none 0 0, Value.slice none 0 0, Value.slice none 0 0, Value.slice none 0 0, Value.slice none 0 0, Value.slice none 0 0, Value.slice none 0 0, Value.slice none 0 0]))).toArray) ∧ ¬ Hj36.has b37 ∧ (NV Hj36 vx (argN f.stack 0)) ∧ (BV Hj36 vy (crCode f))) Up 14 (.pure 0 (.pure 2 (.pure 3 (.pure 4 (.pure 5 (.pure 6 (.pure 7 (.pure 9 (.two 1 (.two 8 (.two 10 (.two 11 (.pure 12 (.eff 13 (.eff 14 .fin))) 13 (.eff 11 (.pure 12 (.eff 14 .fin)))) 13 (.eff 10 (.eff 11 (.pure 12 (.eff 14 .fin))))) 13 (.eff 8 (.eff 10 (.eff 11 (.pure 12 (.eff 14 .fin)))))) 13 (.eff 1 (.eff 8 (.eff 10 (.eff 11 (.pure 12 (.eff 14 .fin))))))))))))))) (by kernel_rfl) (fun w38 hu => ⟨Up.refl _, ?_⟩) ?_
                    · skip
                      subst e0 e1 e2 e6 e9 e10
                      replace G := G.tr (Go.ofUp hF hu)
                      replace hF := hF.up hu
                      replace k8 := k8.up hu
                      replace kS := kS.up hu
                      replace kF := kF.up hu
                      replace kM := kM.up hu
                      replace kL := kL.up hu
                      replace kR := kR.up hu
                      replace U := U.tr hu
                      have SU := Up.refl w38
                      have V36 : Go No w31 H30 w38 H30 := ⟨hu, hF, Le.refl _, fun _ h => .inl h⟩
                      refine t_step (by exact rfl) (y_moveV (et (gS rfl g0) rfl)) ?_
                      refine t_step (by exact rfl) (y_moveV (et (gS rfl (gS rfl (gS rfl (gS rfl (gS rfl g0))))) rfl)) ?_
                      refine t_step (by exact rfl) (y_nil (et g0 rfl)) ?_
                      refine t_step (by exact rfl) (y_fld fld_146_12 (et g0 rfl)) ?_
                      refine t_step (by exact rfl) (y_loadR agg_25 sz_25 (et g0 rfl) (by rw [length_bL, length_be]) (atSR (kF.row rSe))) ?_
                      refine t_step (by exact rfl) (y_moveV (et (gS rfl (gS rfl (gS rfl (gS rfl (gS rfl (gS rfl (gS rfl (gS rfl (gS rfl g0))))))))) rfl)) ?_
                      refine t_step (by exact rfl) (y_moveV (et (gS rfl (gS rfl (gS rfl (gS rfl (gS rfl (gS rfl (gS rfl (gS rfl (gS rfl (gS rfl g0)))))))))) rfl)) ?_
                      refine t_step (by exact rfl) (y_moveV (et (gS rfl (gS rfl (gS rfl (gS rfl (gS rfl (gS rfl (gS rfl (gS rfl (gS rfl (gS rfl (gS rfl g0))))))))))) rfl)) ?_
                      refine t_two ?_ ?_
                      · skip
                        refine t_eff (by exact rfl) (e_callV cal_123 (aC (et (gS rfl (gS rfl (gS rfl (gS rfl (gS rfl (gS rfl (gS rfl g0))))))) rfl) aN) (nat_normN hF n4 (bd_sm (bd_W q4) (by decide)))) (fun v39 w39 h39 => ?_)
                        obtain ⟨H39, g39, n39⟩ := h39
                        have hlew39 := g39.le
                        replace nb8 := g39.nb nb8 k8.lt
                        replace nbS := g39.nb nbS kS.lt
                        replace nbF := g39.nb nbF kF.lt
                        replace nbM := g39.nb nbM (Nat.lt_of_lt_of_le lM U.size)
                        replace n4 := n4.mono hlew39
                        replace pa6 := pa6.mono hlew39
                        replace hnn24 := hnn24.mono hlew39
                        replace hbb24 := hbb24.mono hlew39
                        replace hcd24 := hcd24.mono hlew39
                        replace hss24 := hss24.mono hlew39
                        replace n30 := n30.mono hlew39
                        replace hL0 := hL0.trans hlew39
                        replace k8 := k8.up g39.up
                        replace kS := kS.up g39.up
                        replace kF := kF.up g39.up
                        replace kM := kM.up g39.up
                        replace kL := kL.up g39.up
                        replace kR := kR.up g39.up
                        replace U := U.tr g39.up
                        replace G := G.tr g39
                        replace V36 := V36.tr g39
                        replace hF := g39.fz
                        have q39 := (bd_W q4)
                        refine ⟨.inr (SU.tr g39.up), ?_⟩
                        replace SU := SU.tr g39.up
                        obtain ⟨na39, nn39, nc39, rfl⟩ := n39.sl
                        refine t_two ?_ ?_
                        · skip
                          refine t_eff (by exact rfl) (e_callV cal_63 (aC (et (gS rfl (gS rfl g0)) rfl) (aC (v := .int .i64 ((1 : Nat) : Int)) rfl aN)) (yp_arg _ _ 1 _ _ _ _ _ _ hF kF (rF 8 _ rfl) (hSt.mono hL0) (by omega) (by first | decide | omega))) (fun v40 w40 h40 => ?_)
                          obtain ⟨u40, n40, q40⟩ := h40
                          replace G := G.tr (Go.ofUp hF u40)
                          replace V36 := V36.tr (Go.ofUp hF u40)
                          replace hF := hF.up u40
                          replace k8 := k8.up u40
                          replace kS := kS.up u40
                          replace kF := kF.up u40
                          replace kM := kM.up u40
                          replace kL := kL.up u40
                          replace kR := kR.up u40
                          replace U := U.tr u40
                          refine ⟨.inr (SU.tr u40), ?_⟩
                          replace SU := SU.tr u40
                          refine t_two ?_ ?_
                          · skip
                            refine t_eff (by exact rfl) (e_callV cal_63 (aC (et (gS rfl (gS rfl g0)) rfl) (aC (v := .int .i64 ((2 : Nat) : Int)) rfl aN)) (yp_arg _ _ 2 _ _ _ _ _ _ hF kF (rF 8 _ rfl) (hSt.mono hL0) (by omega) (by first | decide | omega))) (fun v41 w41 h41 => ?_)
                            obtain ⟨u41, n41, q41⟩ := h41
                            replace G := G.tr (Go.ofUp hF u41)
                            replace V36 := V36.tr (Go.ofUp hF u41)
                            replace hF := hF.up u41
                            replace k8 := k8.up u41
                            replace kS := kS.up u41
                            replace kF := kF.up u41
                            replace kM := kM.up u41
                            replace kL := kL.up u41
                            replace kR := kR.up u41
                            replace U := U.tr u41
                            refine ⟨.inr (SU.tr u41), ?_⟩
                            replace SU := SU.tr u41
                            refine t_two ?_ ?_
                            · skip
                              refine t_eff (by exact rfl) (e_callV cal_62 (aC (et (gS rfl (gS rfl (gS rfl (gS rfl (gS rfl g0))))) rfl) (aC (et (gS rfl g0) rfl) (aC (et g0 rfl) aN))) (yp_read hF _ _ _ _ _ kF (hf.mono hL0) _ kM (Nat.lt_of_lt_of_le lM U.size) n40 n41 (bd_W q40) (bd_W q41) (Nat.le_trans (Nat.le_of_lt nh.rd) (by decide)))) (fun v42 w42 h42 => ?_)
                              obtain ⟨H42, g42, b42⟩ := h42
                              have hlew42 := g42.le
                              replace nb8 := g42.nb nb8 k8.lt
                              replace nbS := g42.nb nbS kS.lt
                              replace nbF := g42.nb nbF kF.lt
                              replace nbM := g42.nb nbM (Nat.lt_of_lt_of_le lM U.size)
                              replace n4 := n4.mono hlew42
                              replace pa6 := pa6.mono hlew42
                              replace hnn24 := hnn24.mono hlew42
                              replace hbb24 := hbb24.mono hlew42
                              replace hcd24 := hcd24.mono hlew42
                              replace hss24 := hss24.mono hlew42
                              replace n30 := n30.mono hlew42
                              replace n39 := n39.mono hlew42
                              replace n40 := n40.mono hlew42
                              replace n41 := n41.mono hlew42
                              replace hL0 := hL0.trans hlew42
                              replace k8 := k8.up g42.up
                              replace kS := kS.up g42.up
                              replace kF := kF.up g42.up
                              replace kM := kM.up g42.up
                              replace kL := kL.up g42.up
                              replace kR := kR.up g42.up
                              replace U := U.tr g42.up
                              replace G := G.tr g42
                              replace V36 := V36.tr g42
                              replace hF := g42.fz
                              obtain ⟨ia42, ic42, rfl, hil42, hic42⟩ := b42.sv.val
                              refine ⟨.inr (SU.tr g42.up), ?_⟩
                              replace SU := SU.tr g42.up
                              refine t_step (by exact rfl) ((y_bldCreate (bL (be 20 f.self)) (by rw [length_bL, length_be]) (et (gS rfl (gS rfl (gS rfl g0))) rfl) (et (gS rfl (gS rfl (gS rfl (gS rfl (gS rfl (gS rfl (gS rfl g0))))))) rfl) (et g0 rfl))) ?_
                              refine t_one ?_
                              refine t_eff (by exact rfl) (e_alloc zr_146) (fun v43 w43 h43 => ?_)
                              obtain ⟨b43, rfl, n43⟩ := h43
                              have d8_43 : b8 < b43 := Nat.lt_of_lt_of_le k8.lt n43.fresh
                              have f43 : w.heap.size ≤ b43 := Nat.le_trans U.size n43.fresh
                              have nb43 := hF.nb n43.fresh
                              have fS43 := Nat.le_trans SU.size n43.fresh
                              have fV36_43 := Nat.le_trans V36.ch.size n43.fresh
                              replace G := G.tr (Go.ofUp hF n43.up)
                              replace V36 := V36.tr (Go.ofUp hF n43.up)
                              replace hF := hF.up n43.up
                              replace k8 := k8.up n43.up
                              replace kS := kS.up n43.up
                              replace kF := kF.up n43.up
                              replace kM := kM.up n43.up
                              replace kL := kL.up n43.up
                              replace kR := kR.up n43.up
                              replace U := U.tr n43.up
                              have k43 := n43.blk
                              refine ⟨.inr (SU.tr n43.up), ?_⟩
                              replace SU := SU.tr n43.up
                              refine t_one ?_
                              refine t_effN (by exact rfl) (e_store sz_146 (et g0 rfl) (cellsV (et (gS rfl g0) rfl) rfl) child_lenZ (by exact child_oneZ rfl rfl rfl rfl rfl rfl rfl rfl rfl rfl rfl rfl) k43 (by exact Nat.le_of_ble_eq_true rfl)) (fun v44 w44 h44 => ?_)
                              obtain ⟨rfl, x44⟩ := h44
                              replace k8 := k8.ch x44.ch (by omega)
                              replace kS := kS.ch x44.ch (by first | omega | (omega))
                              replace kF := kF.ch x44.ch (by first | omega | (omega))
                              replace kM := kM.ch x44.ch (by first | omega | (omega))
                              replace kL := kL.ch x44.ch (by first | omega | (intro q hq hm; have := dL q hq; omega))
                              replace kR := kR.ch x44.ch (by first | omega | (intro m hm; have := dR m hm; omega))
                              replace k43 := x44.blk.full (by rw [child_lenZ]; rfl)
                              replace G := G.wr x44 (by first | exact .inr f43 | omega | (simp; omega)) nb43
                              replace V36 := V36.wr x44 (by first | exact .inr f43 | omega | (simp; omega)) nb43
                              replace hF := G.fz
                              replace U := U.st x44 (.inr f43)
                              refine ⟨.inl rfl, ?_⟩
                              refine tl6 0 1 2 6 10 11 (gS rfl (gS rfl (gS rfl (gS rfl (gS rfl (gS rfl (gS rfl (gS rfl (gS rfl (gS rfl (gS rfl (gS rfl (gS rfl (gS rfl (gS rfl (gS rfl (gS rfl (gS rfl (gS rfl g0))))))))))))))))))) (gS rfl (gS rfl (gS rfl (gS rfl (gS rfl (gS rfl (gS rfl (gS rfl (gS rfl (gS rfl (gS rfl (gS rfl (gS rfl (gS rfl (gS rfl (gS rfl (gS rfl (gS rfl g0)))))))))))))))))) (gS rfl (gS rfl (gS rfl (gS rfl (gS rfl (gS rfl (gS rfl (gS rfl (gS rfl (gS rfl (gS rfl (gS rfl (gS rfl (gS rfl (gS rfl (gS rfl (gS rfl g0))))))))))))))))) (gS rfl (gS rfl (gS rfl (gS rfl (gS rfl (gS rfl (gS rfl (gS rfl (gS rfl (gS rfl (gS rfl (gS rfl (gS rfl (gS rfl (gS rfl (gS rfl g0)))))))))))))))) (gS rfl (gS rfl (gS rfl (gS rfl (gS rfl (gS rfl (gS rfl (gS rfl (gS rfl (gS rfl (gS rfl (gS rfl (gS rfl (gS rfl g0)))))))))))))) g0 (fun g => ?_)
                              exact ⟨g, _, _, _, _, rfl, V36, Nat.le_trans hu.size fS43, k43, nb43, n39, b42⟩
                            · skip
                              refine t_eff (by exact rfl) (e_alloc zr_146) (fun v45 w45 h45 => ?_)
                              obtain ⟨b45, rfl, n45⟩ := h45
                              have d8_45 : b8 < b45 := Nat.lt_of_lt_of_le k8.lt n45.fresh
                              have f45 : w.heap.size ≤ b45 := Nat.le_trans U.size n45.fresh
                              have nb45 := hF.nb n45.fresh
                              have fS45 := Nat.le_trans SU.size n45.fresh
                              have fV36_45 := Nat.le_trans V36.ch.size n45.fresh
                              replace G := G.tr (Go.ofUp hF n45.up)
                              replace V36 := V36.tr (Go.ofUp hF n45.up)
                              replace hF := hF.up n45.up
                              replace k8 := k8.up n45.up
                              replace kS := kS.up n45.up
                              replace kF := kF.up n45.up
                              replace kM := kM.up n45.up
                              replace kL := kL.up n45.up
                              replace kR := kR.up n45.up
                              replace U := U.tr n45.up
                              have k45 := n45.blk
                              refine ⟨.inr (SU.tr n45.up), ?_⟩
                              replace SU := SU.tr n45.up
                              refine t_one ?_
                              refine t_eff (by exact rfl) (e_callV cal_62 (aC (et (gS rfl (gS rfl (gS rfl (gS rfl (gS rfl (gS rfl g0)))))) rfl) (aC (et (gS rfl (gS rfl g0)) rfl) (aC (et (gS rfl g0) rfl) aN))) (yp_read hF _ _ _ _ _ kF (hf.mono hL0) _ kM (Nat.lt_of_lt_of_le lM U.size) n40 n41 (bd_W q40) (bd_W q41) (Nat.le_trans (Nat.le_of_lt nh.rd) (by decide)))) (fun v46 w46 h46 => ?_)
                              obtain ⟨H46, g46, b46⟩ := h46
                              have hlew46 := g46.le
                              replace nb8 := g46.nb nb8 k8.lt
                              replace nb45 := g46.nb nb45 k45.lt
                              replace nbS := g46.nb nbS kS.lt
                              replace nbF := g46.nb nbF kF.lt
                              replace nbM := g46.nb nbM (Nat.lt_of_lt_of_le lM U.size)
                              replace n4 := n4.mono hlew46
                              replace pa6 := pa6.mono hlew46
                              replace hnn24 := hnn24.mono hlew46
                              replace hbb24 := hbb24.mono hlew46
                              replace hcd24 := hcd24.mono hlew46
                              replace hss24 := hss24.mono hlew46
                              replace n30 := n30.mono hlew46
                              replace n39 := n39.mono hlew46
                              replace n40 := n40.mono hlew46
                              replace n41 := n41.mono hlew46
                              replace hL0 := hL0.trans hlew46
                              replace k8 := k8.up g46.up
                              replace k45 := k45.up g46.up
                              replace kS := kS.up g46.up
                              replace kF := kF.up g46.up
                              replace kM := kM.up g46.up
                              replace kL := kL.up g46.up
                              replace kR := kR.up g46.up
                              replace U := U.tr g46.up
                              replace G := G.tr g46
                              replace V36 := V36.tr g46
                              replace hF := g46.fz
                              obtain ⟨ia46, ic46, rfl, hil46, hic46⟩ := b46.sv.val
                              refine ⟨.inr (SU.tr g46.up), ?_⟩
                              replace SU := SU.tr g46.up
                              refine t_step (by exact rfl) ((y_bldCreate (bL (be 20 f.self)) (by rw [length_bL, length_be]) (et (gS rfl (gS rfl (gS rfl (gS rfl g0)))) rfl) (et (gS rfl (gS rfl (gS rfl (gS rfl (gS rfl (gS rfl (gS rfl (gS rfl g0)))))))) rfl) (et g0 rfl))) ?_
                              refine t_one ?_
                              refine t_effN (by exact rfl) (e_store sz_146 (et (gS rfl (gS rfl g0)) rfl) (cellsV (et g0 rfl) rfl) child_lenZ (by exact child_oneZ rfl rfl rfl rfl rfl rfl rfl rfl rfl rfl rfl rfl) k45 (by exact Nat.le_of_ble_eq_true rfl)) (fun v47 w47 h47 => ?_)
                              obtain ⟨rfl, x47⟩ := h47
                              replace k8 := k8.ch x47.ch (by omega)
                              replace kS := kS.ch x47.ch (by first | omega | (omega))
                              replace kF := kF.ch x47.ch (by first | omega | (omega))
                              replace kM := kM.ch x47.ch (by first | omega | (omega))
                              replace kL := kL.ch x47.ch (by first | omega | (intro q hq hm; have := dL q hq; omega))
                              replace kR := kR.ch x47.ch (by first | omega | (intro m hm; have := dR m hm; omega))
                              replace k45 := x47.blk.full (by rw [child_lenZ]; rfl)
                              replace G := G.wr x47 (by first | exact .inr f45 | omega | (simp; omega)) nb45
                              replace V36 := V36.wr x47 (by first | exact .inr f45 | omega | (simp; omega)) nb45
                              replace hF := G.fz
                              replace U := U.st x47 (.inr f45)
                              refine ⟨.inl rfl, ?_⟩
                              refine tl6 0 1 2 6 10 11 (gS rfl (gS rfl (gS rfl (gS rfl (gS rfl (gS rfl (gS rfl (gS rfl (gS rfl (gS rfl (gS rfl (gS rfl (gS rfl (gS rfl (gS rfl (gS rfl (gS rfl (gS rfl (gS rfl g0))))))))))))))))))) (gS rfl (gS rfl (gS rfl (gS rfl (gS rfl (gS rfl (gS rfl (gS rfl (gS rfl (gS rfl (gS rfl (gS rfl (gS rfl (gS rfl (gS rfl (gS rfl (gS rfl (gS rfl g0)))))))))))))))))) (gS rfl (gS rfl (gS rfl (gS rfl (gS rfl (gS rfl (gS rfl (gS rfl (gS rfl (gS rfl (gS rfl (gS rfl (gS rfl (gS rfl (gS rfl (gS rfl (gS rfl g0))))))))))))))))) (gS rfl (gS rfl (gS rfl (gS rfl (gS rfl (gS rfl (gS rfl (gS rfl (gS rfl (gS rfl (gS rfl (gS rfl (gS rfl (gS rfl (gS rfl (gS rfl g0)))))))))))))))) (gS rfl (gS rfl (gS rfl (gS rfl (gS rfl (gS rfl (gS rfl (gS rfl (gS rfl (gS rfl (gS rfl (gS rfl (gS rfl (gS rfl g0)))))))))))))) (gS rfl (gS rfl g0)) (fun g => ?_)
                              exact ⟨g, _, _, _, _, rfl, V36, Nat.le_trans hu.size fS45, k45, nb45, n39, b46⟩
                          · skip
                            refine t_eff (by exact rfl) (e_alloc zr_146) (fun v48 w48 h48 => ?_)
                            obtain ⟨b48, rfl, n48⟩ := h48
                            have d8_48 : b8 < b48 := Nat.lt_of_lt_of_le k8.lt n48.fresh
                            have f48 : w.heap.size ≤ b48 := Nat.le_trans U.size n48.fresh
                            have nb48 := hF.nb n48.fresh
                            have fS48 := Nat.le_trans SU.size n48.fresh
                            have fV36_48 := Nat.le_trans V36.ch.size n48.fresh
                            replace G := G.tr (Go.ofUp hF n48.up)
                            replace V36 := V36.tr (Go.ofUp hF n48.up)
                            replace hF := hF.up n48.up
                            replace k8 := k8.up n48.up
                            replace kS := kS.up n48.up
                            replace kF := kF.up n48.up
                            replace kM := kM.up n48.up
                            replace kL := kL.up n48.up
                            replace kR := kR.up n48.up
                            replace U := U.tr n48.up
                            have k48 := n48.blk
                            refine ⟨.inr (SU.tr n48.up), ?_⟩
                            replace SU := SU.tr n48.up
                            refine t_one ?_
                            refine t_eff (by exact rfl) (e_callV cal_63 (aC (et (gS rfl (gS rfl (gS rfl g0))) rfl) (aC (v := .int .i64 ((2 : Nat) : Int)) rfl aN)) (yp_arg _ _ 2 _ _ _ _ _ _ hF kF (rF 8 _ rfl) (hSt.mono hL0) (by omega) (by first | decide | omega))) (fun v49 w49 h49 => ?_)
                            obtain ⟨u49, n49, q49⟩ := h49
                            replace G := G.tr (Go.ofUp hF u49)
                            replace V36 := V36.tr (Go.ofUp hF u49)
                            replace hF := hF.up u49
                            replace k8 := k8.up u49
                            replace k48 := k48.up u49
                            replace kS := kS.up u49
                            replace kF := kF.up u49
                            replace kM := kM.up u49
                            replace kL := kL.up u49
                            replace kR := kR.up u49
                            replace U := U.tr u49
                            refine ⟨.inr (SU.tr u49), ?_⟩
                            replace SU := SU.tr u49
                            refine t_one ?_
                            refine t_eff (by exact rfl) (e_callV cal_62 (aC (et (gS rfl (gS rfl (gS rfl (gS rfl (gS rfl (gS rfl g0)))))) rfl) (aC (et (gS rfl (gS rfl g0)) rfl) (aC (et g0 rfl) aN))) (yp_read hF _ _ _ _ _ kF (hf.mono hL0) _ kM (Nat.lt_of_lt_of_le lM U.size) n40 n49 (bd_W q40) (bd_W q49) (Nat.le_trans (Nat.le_of_lt nh.rd) (by decide)))) (fun v50 w50 h50 => ?_)
                            obtain ⟨H50, g50, b50⟩ := h50
                            have hlew50 := g50.le
                            replace nb8 := g50.nb nb8 k8.lt
                            replace nb48 := g50.nb nb48 k48.lt
                            replace nbS := g50.nb nbS kS.lt
                            replace nbF := g50.nb nbF kF.lt
                            replace nbM := g50.nb nbM (Nat.lt_of_lt_of_le lM U.size)
                            replace n4 := n4.mono hlew50
                            replace pa6 := pa6.mono hlew50
                            replace hnn24 := hnn24.mono hlew50
                            replace hbb24 := hbb24.mono hlew50
                            replace hcd24 := hcd24.mono hlew50
                            replace hss24 := hss24.mono hlew50
                            replace n30 := n30.mono hlew50
                            replace n39 := n39.mono hlew50
                            replace n40 := n40.mono hlew50
                            replace n49 := n49.mono hlew50
                            replace hL0 := hL0.trans hlew50
                            replace k8 := k8.up g50.up
                            replace k48 := k48.up g50.up
                            replace kS := kS.up g50.up
                            replace kF := kF.up g50.up
                            replace kM := kM.up g50.up
                            replace kL := kL.up g50.up
                            replace kR := kR.up g50.up
                            replace U := U.tr g50.up
                            replace G := G.tr g50
                            replace V36 := V36.tr g50
                            replace hF := g50.fz
                            obtain ⟨ia50, ic50, rfl, hil50, hic50⟩ := b50.sv.val
                            refine ⟨.inr (SU.tr g50.up), ?_⟩
                            replace SU := SU.tr g50.up
                            refine t_step (by exact rfl) ((y_bldCreate (bL (be 20 f.self)) (by rw [length_bL, length_be]) (et (gS rfl (gS rfl (gS rfl (gS rfl g0)))) rfl) (et (gS rfl (gS rfl (gS rfl (gS rfl (gS rfl (gS rfl (gS rfl (gS rfl g0)))))))) rfl) (et g0 rfl))) ?_
                            refine t_one ?_
                            refine t_effN (by exact rfl) (e_store sz_146 (et (gS rfl (gS rfl (gS rfl g0))) rfl) (cellsV (et g0 rfl) rfl) child_lenZ (by exact child_oneZ rfl rfl rfl rfl rfl rfl rfl rfl rfl rfl rfl rfl) k48 (by exact Nat.le_of_ble_eq_true rfl)) (fun v51 w51 h51 => ?_)
                            obtain ⟨rfl, x51⟩ := h51
                            replace k8 := k8.ch x51.ch (by omega)
                            replace kS := kS.ch x51.ch (by first | omega | (omega))
                            replace kF := kF.ch x51.ch (by first | omega | (omega))
                            replace kM := kM.ch x51.ch (by first | omega | (omega))
                            replace kL := kL.ch x51.ch (by first | omega | (intro q hq hm; have := dL q hq; omega))
                            replace kR := kR.ch x51.ch (by first | omega | (intro m hm; have := dR m hm; omega))
                            replace k48 := x51.blk.full (by rw [child_lenZ]; rfl)
                            replace G := G.wr x51 (by first | exact .inr f48 | omega | (simp; omega)) nb48
                            replace V36 := V36.wr x51 (by first | exact .inr f48 | omega | (simp; omega)) nb48
                            replace hF := G.fz
                            replace U := U.st x51 (.inr f48)
                            refine ⟨.inl rfl, ?_⟩
                            refine tl6 0 1 2 6 10 11 (gS rfl (gS rfl (gS rfl (gS rfl (gS rfl (gS rfl (gS rfl (gS rfl (gS rfl (gS rfl (gS rfl (gS rfl (gS rfl (gS rfl (gS rfl (gS rfl (gS rfl (gS rfl (gS rfl g0))))))))))))))))))) (gS rfl (gS rfl (gS rfl (gS rfl (gS rfl (gS rfl (gS rfl (gS rfl (gS rfl (gS rfl (gS rfl (gS rfl (gS rfl (gS rfl (gS rfl (gS rfl (gS rfl (gS rfl g0)))))))))))))))))) (gS rfl (gS rfl (gS rfl (gS rfl (gS rfl (gS rfl (gS rfl (gS rfl (gS rfl (gS rfl (gS rfl (gS rfl (gS rfl (gS rfl (gS rfl (gS rfl (gS rfl g0))))))))))))))))) (gS rfl (gS rfl (gS rfl (gS rfl (gS rfl (gS rfl (gS rfl (gS rfl (gS rfl (gS rfl (gS rfl (gS rfl (gS rfl (gS rfl (gS rfl (gS rfl g0)))))))))))))))) (gS rfl (gS rfl (gS rfl (gS rfl (gS rfl (gS rfl (gS rfl (gS rfl (gS rfl (gS rfl (gS rfl (gS rfl (gS rfl (gS rfl g0)))))))))))))) (gS rfl (gS rfl (gS rfl g0))) (fun g => ?_)
                            exact ⟨g, _, _, _, _, rfl, V36, Nat.le_trans hu.size fS48, k48, nb48, n39, b50⟩
                        · skip
                          refine t_eff (by exact rfl) (e_alloc zr_146) (fun v52 w52 h52 => ?_)
                          obtain ⟨b52, rfl, n52⟩ := h52
                          have d8_52 : b8 < b52 := Nat.lt_of_lt_of_le k8.lt n52.fresh
                          have f52 : w.heap.size ≤ b52 := Nat.le_trans U.size n52.fresh
                          have nb52 := hF.nb n52.fresh
                          have fS52 := Nat.le_trans SU.size n52.fresh
                          have fV36_52 := Nat.le_trans V36.ch.size n52.fresh
                          replace G := G.tr (Go.ofUp hF n52.up)
                          replace V36 := V36.tr (Go.ofUp hF n52.up)
                          replace hF := hF.up n52.up
                          replace k8 := k8.up n52.up
                          replace kS := kS.up n52.up
                          replace kF := kF.up n52.up
                          replace kM := kM.up n52.up
                          replace kL := kL.up n52.up
                          replace kR := kR.up n52.up
                          replace U := U.tr n52.up
                          have k52 := n52.blk
                          refine ⟨.inr (SU.tr n52.up), ?_⟩
                          replace SU := SU.tr n52.up
                          refine t_one ?_
                          refine t_eff (by exact rfl) (e_callV cal_63 (aC (et (gS rfl (gS rfl (gS rfl g0))) rfl) (aC (v := .int .i64 ((1 : Nat) : Int)) rfl aN)) (yp_arg _ _ 1 _ _ _ _ _ _ hF kF (rF 8 _ rfl) (hSt.mono hL0) (by omega) (by first | decide | omega))) (fun v53 w53 h53 => ?_)
                          obtain ⟨u53, n53, q53⟩ := h53
                          replace G := G.tr (Go.ofUp hF u53)
                          replace V36 := V36.tr (Go.ofUp hF u53)
                          replace hF := hF.up u53
                          replace k8 := k8.up u53
                          replace k52 := k52.up u53
                          replace kS := kS.up u53
                          replace kF := kF.up u53
                          replace kM := kM.up u53
                          replace kL := kL.up u53
                          replace kR := kR.up u53
                          replace U := U.tr u53
                          refine ⟨.inr (SU.tr u53), ?_⟩
                          replace SU := SU.tr u53
                          refine t_one ?_
                          refine t_eff (by exact rfl) (e_callV cal_63 (aC (et (gS rfl (gS rfl (gS rfl g0))) rfl) (aC (v := .int .i64 ((2 : Nat) : Int)) rfl aN)) (yp_arg _ _ 2 _ _ _ _ _ _ hF kF (rF 8 _ rfl) (hSt.mono hL0) (by omega) (by first | decide | omega))) (fun v54 w54 h54 => ?_)
                          obtain ⟨u54, n54, q54⟩ := h54
                          replace G := G.tr (Go.ofUp hF u54)
                          replace V36 := V36.tr (Go.ofUp hF u54)
                          replace hF := hF.up u54
                          replace k8 := k8.up u54
                          replace k52 := k52.up u54
                          replace kS := kS.up u54
                          replace kF := kF.up u54
                          replace kM := kM.up u54
                          replace kL := kL.up u54
                          replace kR := kR.up u54
                          replace U := U.tr u54
                          refine ⟨.inr (SU.tr u54), ?_⟩
                          replace SU := SU.tr u54
                          refine t_one ?_
                          refine t_eff (by exact rfl) (e_callV cal_62 (aC (et (gS rfl (gS rfl (gS rfl (gS rfl (gS rfl (gS rfl g0)))))) rfl) (aC (et (gS rfl g0) rfl) (aC (et g0 rfl) aN))) (yp_read hF _ _ _ _ _ kF (hf.mono hL0) _ kM (Nat.lt_of_lt_of_le lM U.size) n53 n54 (bd_W q53) (bd_W q54) (Nat.le_trans (Nat.le_of_lt nh.rd) (by decide)))) (fun v55 w55 h55 => ?_)
                          obtain ⟨H55, g55, b55⟩ := h55
                          have hlew55 := g55.le
                          replace nb8 := g55.nb nb8 k8.lt
                          replace nb52 := g55.nb nb52 k52.lt
                          replace nbS := g55.nb nbS kS.lt
                          replace nbF := g55.nb nbF kF.lt
                          replace nbM := g55.nb nbM (Nat.lt_of_lt_of_le lM U.size)
                          replace n4 := n4.mono hlew55
                          replace pa6 := pa6.mono hlew55
                          replace hnn24 := hnn24.mono hlew55
                          replace hbb24 := hbb24.mono hlew55
                          replace hcd24 := hcd24.mono hlew55
                          replace hss24 := hss24.mono hlew55
                          replace n30 := n30.mono hlew55
                          replace n39 := n39.mono hlew55
                          replace n53 := n53.mono hlew55
                          replace n54 := n54.mono hlew55
                          replace hL0 := hL0.trans hlew55
                          replace k8 := k8.up g55.up
                          replace k52 := k52.up g55.up
                          replace kS := kS.up g55.up
                          replace kF := kF.up g55.up
                          replace kM := kM.up g55.up
                          replace kL := kL.up g55.up
                          replace kR := kR.up g55.up
                          replace U := U.tr g55.up
                          replace G := G.tr g55
                          replace V36 := V36.tr g55
                          replace hF := g55.fz
                          obtain ⟨ia55, ic55, rfl, hil55, hic55⟩ := b55.sv.val
                          refine ⟨.inr (SU.tr g55.up), ?_⟩
                          replace SU := SU.tr g55.up
                          refine t_step (by exact rfl) ((y_bldCreate (bL (be 20 f.self)) (by rw [length_bL, length_be]) (et (gS rfl (gS rfl (gS rfl (gS rfl g0)))) rfl) (et (gS rfl (gS rfl (gS rfl (gS rfl (gS rfl (gS rfl (gS rfl (gS rfl g0)))))))) rfl) (et g0 rfl))) ?_
                          refine t_one ?_
                          refine t_effN (by exact rfl) (e_store sz_146 (et (gS rfl (gS rfl (gS rfl (gS rfl g0)))) rfl) (cellsV (et g0 rfl) rfl) child_lenZ (by exact child_oneZ rfl rfl rfl rfl rfl rfl rfl rfl rfl rfl rfl rfl) k52 (by exact Nat.le_of_ble_eq_true rfl)) (fun v56 w56 h56 => ?_)
                          obtain ⟨rfl, x56⟩ := h56
                          replace k8 := k8.ch x56.ch (by omega)
                          replace kS := kS.ch x56.ch (by first | omega | (omega))
                          replace kF := kF.ch x56.ch (by first | omega | (omega))
                          replace kM := kM.ch x56.ch (by first | omega | (omega))
                          replace kL := kL.ch x56.ch (by first | omega | (intro q hq hm; have := dL q hq; omega))
                          replace kR := kR.ch x56.ch (by first | omega | (intro m hm; have := dR m hm; omega))
                          replace k52 := x56.blk.full (by rw [child_lenZ]; rfl)
                          replace G := G.wr x56 (by first | exact .inr f52 | omega | (simp; omega)) nb52
                          replace V36 := V36.wr x56 (by first | exact .inr f52 | omega | (simp; omega)) nb52
                          replace hF := G.fz
                          replace U := U.st x56 (.inr f52)
                          refine ⟨.inl rfl, ?_⟩
                          refine tl6 0 1 2 6 10 11 (gS rfl (gS rfl (gS rfl (gS rfl (gS rfl (gS rfl (gS rfl (gS rfl (gS rfl (gS rfl (gS rfl (gS rfl (gS rfl (gS rfl (gS rfl (gS rfl (gS rfl (gS rfl (gS rfl g0))))))))))))))))))) (gS rfl (gS rfl (gS rfl (gS rfl (gS rfl (gS rfl (gS rfl (gS rfl (gS rfl (gS rfl (gS rfl (gS rfl (gS rfl (gS rfl (gS rfl (gS rfl (gS rfl (gS rfl g0)))))))))))))))))) (gS rfl (gS rfl (gS rfl (gS rfl (gS rfl (gS rfl (gS rfl (gS rfl (gS rfl (gS rfl (gS rfl (gS rfl (gS rfl (gS rfl (gS rfl (gS rfl (gS rfl g0))))))))))))))))) (gS rfl (gS rfl (gS rfl (gS rfl (gS rfl (gS rfl (gS rfl (gS rfl (gS rfl (gS rfl (gS rfl (gS rfl (gS rfl (gS rfl (gS rfl (gS rfl g0)))))))))))))))) (gS rfl (gS rfl (gS rfl (gS rfl (gS rfl (gS rfl (gS rfl (gS rfl (gS rfl (gS rfl (gS rfl (gS rfl (gS rfl (gS rfl g0)))))))))))))) (gS rfl (gS rfl (gS rfl (gS rfl g0)))) (fun g => ?_)
                          exact ⟨g, _, _, _, _, rfl, V36, Nat.le_trans hu.size fS52, k52, nb52, n39, b55⟩
                      · skip
                        refine t_eff (by exact rfl) (e_alloc zr_146) (fun v57 w57 h57 => ?_)
                        obtain ⟨b57, rfl, n57⟩ := h57
                        have d8_57 : b8 < b57 := Nat.lt_of_lt_of_le k8.lt n57.fresh
                        have f57 : w.heap.size ≤ b57 := Nat.le_trans U.size n57.fresh
                        have nb57 := hF.nb n57.fresh
                        have fS57 := Nat.le_trans SU.size n57.fresh
                        have fV36_57 := Nat.le_trans V36.ch.size n57.fresh
                        replace G := G.tr (Go.ofUp hF n57.up)
                        replace V36 := V36.tr (Go.ofUp hF n57.up)
                        replace hF := hF.up n57.up
                        replace k8 := k8.up n57.up
                        replace kS := kS.up n57.up
                        replace kF := kF.up n57.up
                        replace kM := kM.up n57.up
                        replace kL := kL.up n57.up
                        replace kR := kR.up n57.up
                        replace U := U.tr n57.up
                        have k57 := n57.blk
                        refine ⟨.inr (SU.tr n57.up), ?_⟩
                        replace SU := SU.tr n57.up
                        refine t_one ?_
                        refine t_eff (by exact rfl) (e_callV cal_123 (aC (et (gS rfl (gS rfl (gS rfl (gS rfl (gS rfl (gS rfl (gS rfl (gS rfl g0)))))))) rfl) aN) (nat_normN hF n4 (bd_sm (bd_W q4) (by decide)))) (fun v58 w58 h58 => ?_)
                        obtain ⟨H58, g58, n58⟩ := h58
                        have hlew58 := g58.le
                        replace nb8 := g58.nb nb8 k8.lt
                        replace nb57 := g58.nb nb57 k57.lt
                        replace nbS := g58.nb nbS kS.lt
                        replace nbF := g58.nb nbF kF.lt
                        replace nbM := g58.nb nbM (Nat.lt_of_lt_of_le lM U.size)
                        replace n4 := n4.mono hlew58
                        replace pa6 := pa6.mono hlew58
                        replace hnn24 := hnn24.mono hlew58
                        replace hbb24 := hbb24.mono hlew58
                        replace hcd24 := hcd24.mono hlew58
                        replace hss24 := hss24.mono hlew58
                        replace n30 := n30.mono hlew58
                        replace hL0 := hL0.trans hlew58
                        replace k8 := k8.up g58.up
                        replace k57 := k57.up g58.up
                        replace kS := kS.up g58.up
                        replace kF := kF.up g58.up
                        replace kM := kM.up g58.up
                        replace kL := kL.up g58.up
                        replace kR := kR.up g58.up
                        replace U := U.tr g58.up
                        replace G := G.tr g58
                        replace V36 := V36.tr g58
                        replace hF := g58.fz
                        have q58 := (bd_W q4)
                        refine ⟨.inr (SU.tr g58.up), ?_⟩
                        replace SU := SU.tr g58.up
                        obtain ⟨na58, nn58, nc58, rfl⟩ := n58.sl
                        refine t_one ?_
                        refine t_eff (by exact rfl) (e_callV cal_63 (aC (et (gS rfl (gS rfl (gS rfl g0))) rfl) (aC (v := .int .i64 ((1 : Nat) : Int)) rfl aN)) (yp_arg _ _ 1 _ _ _ _ _ _ hF kF (rF 8 _ rfl) (hSt.mono hL0) (by omega) (by first | decide | omega))) (fun v59 w59 h59 => ?_)
                        obtain ⟨u59, n59, q59⟩ := h59
                        replace G := G.tr (Go.ofUp hF u59)
                        replace V36 := V36.tr (Go.ofUp hF u59)
                        replace hF := hF.up u59
                        replace k8 := k8.up u59
                        replace k57 := k57.up u59
                        replace kS := kS.up u59
                        replace kF := kF.up u59
                        replace kM := kM.up u59
                        replace kL := kL.up u59
                        replace kR := kR.up u59
                        replace U := U.tr u59
                        refine ⟨.inr (SU.tr u59), ?_⟩
                        replace SU := SU.tr u59
                        refine t_one ?_
                        refine t_eff (by exact rfl) (e_callV cal_63 (aC (et (gS rfl (gS rfl (gS rfl g0))) rfl) (aC (v := .int .i64 ((2 : Nat) : Int)) rfl aN)) (yp_arg _ _ 2 _ _ _ _ _ _ hF kF (rF 8 _ rfl) (hSt.mono hL0) (by omega) (by first | decide | omega))) (fun v60 w60 h60 => ?_)
                        obtain ⟨u60, n60, q60⟩ := h60
                        replace G := G.tr (Go.ofUp hF u60)
                        replace V36 := V36.tr (Go.ofUp hF u60)
                        replace hF := hF.up u60
                        replace k8 := k8.up u60
                        replace k57 := k57.up u60
                        replace kS := kS.up u60
                        replace kF := kF.up u60
                        replace kM := kM.up u60
                        replace kL := kL.up u60
                        replace kR := kR.up u60
                        replace U := U.tr u60
                        refine ⟨.inr (SU.tr u60), ?_⟩
                        replace SU := SU.tr u60
                        refine t_one ?_
                        refine t_eff (by exact rfl) (e_callV cal_62 (aC (et (gS rfl (gS rfl (gS rfl (gS rfl (gS rfl (gS rfl g0)))))) rfl) (aC (et (gS rfl g0) rfl) (aC (et g0 rfl) aN))) (yp_read hF _ _ _ _ _ kF (hf.mono hL0) _ kM (Nat.lt_of_lt_of_le lM U.size) n59 n60 (bd_W q59) (bd_W q60) (Nat.le_trans (Nat.le_of_lt nh.rd) (by decide)))) (fun v61 w61 h61 => ?_)
                        obtain ⟨H61, g61, b61⟩ := h61
                        have hlew61 := g61.le
                        replace nb8 := g61.nb nb8 k8.lt
                        replace nb57 := g61.nb nb57 k57.lt
                        replace nbS := g61.nb nbS kS.lt
                        replace nbF := g61.nb nbF kF.lt
                        replace nbM := g61.nb nbM (Nat.lt_of_lt_of_le lM U.size)
                        replace n4 := n4.mono hlew61
                        replace pa6 := pa6.mono hlew61
                        replace hnn24 := hnn24.mono hlew61
                        replace hbb24 := hbb24.mono hlew61
                        replace hcd24 := hcd24.mono hlew61
                        replace hss24 := hss24.mono hlew61
                        replace n30 := n30.mono hlew61
                        replace n58 := n58.mono hlew61
                        replace n59 := n59.mono hlew61
                        replace n60 := n60.mono hlew61
                        replace hL0 := hL0.trans hlew61
                        replace k8 := k8.up g61.up
                        replace k57 := k57.up g61.up
                        replace kS := kS.up g61.up
                        replace kF := kF.up g61.up
                        replace kM := kM.up g61.up
                        replace kL := kL.up g61.up
                        replace kR := kR.up g61.up
                        replace U := U.tr g61.up
                        replace G := G.tr g61
                        replace V36 := V36.tr g61
                        replace hF := g61.fz
                        obtain ⟨ia61, ic61, rfl, hil61, hic61⟩ := b61.sv.val
                        refine ⟨.inr (SU.tr g61.up), ?_⟩
                        replace SU := SU.tr g61.up
                        refine t_step (by exact rfl) ((y_bldCreate (bL (be 20 f.self)) (by rw [length_bL, length_be]) (et (gS rfl (gS rfl (gS rfl g0))) rfl) (et (gS rfl (gS rfl (gS rfl (gS rfl (gS rfl (gS rfl (gS rfl (gS rfl g0)))))))) rfl) (et g0 rfl))) ?_
                        refine t_one ?_
                        refine t_effN (by exact rfl) (e_store sz_146 (et (gS rfl (gS rfl (gS rfl (gS rfl (gS rfl g0))))) rfl) (cellsV (et g0 rfl) rfl) child_lenZ (by exact child_oneZ rfl rfl rfl rfl rfl rfl rfl rfl rfl rfl rfl rfl) k57 (by exact Nat.le_of_ble_eq_true rfl)) (fun v62 w62 h62 => ?_)
                        obtain ⟨rfl, x62⟩ := h62
                        replace k8 := k8.ch x62.ch (by omega)
                        replace kS := kS.ch x62.ch (by first | omega | (omega))
                        replace kF := kF.ch x62.ch (by first | omega | (omega))
                        replace kM := kM.ch x62.ch (by first | omega | (omega))
                        replace kL := kL.ch x62.ch (by first | omega | (intro q hq hm; have := dL q hq; omega))
                        replace kR := kR.ch x62.ch (by first | omega | (intro m hm; have := dR m hm; omega))
                        replace k57 := x62.blk.full (by rw [child_lenZ]; rfl)
                        replace G := G.wr x62 (by first | exact .inr f57 | omega | (simp; omega)) nb57
                        replace V36 := V36.wr x62 (by first | exact .inr f57 | omega | (simp; omega)) nb57
                        replace hF := G.fz
                        replace U := U.st x62 (.inr f57)
                        refine ⟨.inl rfl, ?_⟩
                        refine tl6 0 1 2 6 10 11 (gS rfl (gS rfl (gS rfl (gS rfl (gS rfl (gS rfl (gS rfl (gS rfl (gS rfl (gS rfl (gS rfl (gS rfl (gS rfl (gS rfl (gS rfl (gS rfl (gS rfl (gS rfl (gS rfl g0))))))))))))))))))) (gS rfl (gS rfl (gS rfl (gS rfl (gS rfl (gS rfl (gS rfl (gS rfl (gS rfl (gS rfl (gS rfl (gS rfl (gS rfl (gS rfl (gS rfl (gS rfl (gS rfl (gS rfl g0)))))))))))))))))) (gS rfl (gS rfl (gS rfl (gS rfl (gS rfl (gS rfl (gS rfl (gS rfl (gS rfl (gS rfl (gS rfl (gS rfl (gS rfl (gS rfl (gS rfl (gS rfl (gS rfl g0))))))))))))))))) (gS rfl (gS rfl (gS rfl (gS rfl (gS rfl (gS rfl (gS rfl (gS rfl (gS rfl (gS rfl (gS rfl (gS rfl (gS rfl (gS rfl (gS rfl (gS rfl g0)))))))))))))))) (gS rfl (gS rfl (gS rfl (gS rfl (gS rfl (gS rfl (gS rfl (gS rfl (gS rfl (gS rfl (gS rfl (gS rfl (gS rfl (gS rfl g0)))))))))))))) (gS rfl (gS rfl (gS rfl (gS rfl (gS rfl g0))))) (fun g => ?_)
                        exact ⟨g, _, _, _, _, rfl, V36, Nat.le_trans hu.size fS57, k57, nb57, n58, b61⟩
                    intro s_ w63 hJ
                    obtain ⟨g, b37, vx, vy, Hj36, rfl, V36, fn37, kn37, nb37, hvx, hvy⟩ := hJ
                    subst e0 e1 e2 e6 e9 e10
                    have d8_37 : b8 < b37 := Nat.lt_of_lt_of_le k8.lt fn37
                    have f37 : w.heap.size ≤ b37 := Nat.le_trans U.size fn37
                    have hlew63 := V36.le
                    replace nb8 := V36.nb nb8 k8.lt
                    replace nbS := V36.nb nbS kS.lt
                    replace nbF := V36.nb nbF kF.lt
                    replace nbM := V36.nb nbM (Nat.lt_of_lt_of_le lM U.size)
                    replace n4 := n4.mono hlew63
                    replace pa6 := pa6.mono hlew63
                    replace hnn24 := hnn24.mono hlew63
                    replace hbb24 := hbb24.mono hlew63
                    replace hcd24 := hcd24.mono hlew63
                    replace hss24 := hss24.mono hlew63
                    replace n30 := n30.mono hlew63
                    replace hL0 := hL0.trans hlew63
                    replace k8 := k8.up V36.up
                    replace kS := kS.up V36.up
                    replace kF := kF.up V36.up
                    replace kM := kM.up V36.up
                    replace kL := kL.up V36.up
                    replace kR := kR.up V36.up
                    replace U := U.tr V36.up
                    replace G := G.tr V36
                    replace hF := V36.fz
                    have k37 := kn37
                    obtain ⟨vx1, vx2, vx3, rfl⟩ := hvx.sl
                    obtain ⟨vy1, vy2, rfl, hvyl, hvyc⟩ := hvy.sv.val
                    have jSv := noW_cells Hj36
                    obtain ⟨cc0, hcc0⟩ : ∃ cc, cc = ([Value.int .u8 ((5 : Nat) : Int), Value.int .u8 ((0 : Nat) : Int), Value.bool false, Value.slice none 0 0, Value.slice none 0 0, Value.slice vx1 vx2 vx3, Value.slice none 0 0, Value.slice none 0 0, Value.slice none 0 0, Value.slice none 0 0, Value.slice vy1 (crCode f).length vy2, Value.slice none 0 0] ++ (z20 ++ (bL (be 20 f.self) ++ [Value.slice none 0 0, Value.slice none 0 0, Value.slice none 0 0, Value.slice none 0 0, Value.slice none 0 0, Value.slice none 0 0, Value.slice none 0 0, Value.slice none 0 0]))).toArray := ⟨_, rfl⟩
                    have hcz : cc0.size = 60 := by rw [hcc0, List.size_toArray, child_lenZ]
                    replace k37 : Blk w63 b37 cc0 := by rw [hcc0]; exact k37
                    obtain ⟨cF, cSe, cCa, cSv⟩ : RowIn cc0 0 [Value.int .u8 ((5 : Nat) : Int), Value.int .u8 ((0 : Nat) : Int), Value.bool false, Value.slice none 0 0, Value.slice none 0 0, Value.slice vx1 vx2 vx3, Value.slice none 0 0, Value.slice none 0 0, Value.slice none 0 0, Value.slice none 0 0, Value.slice vy1 (crCode f).length vy2, Value.slice none 0 0] ∧ RowIn cc0 (0 + 12) z20 ∧ RowIn cc0 (0 + 32) (bL (be 20 f.self)) ∧ RowIn cc0 (0 + 52) [.slice none 0 0, .slice none 0 0, .slice none 0 0, .slice none 0 0, .slice none 0 0, .slice none 0 0, .slice none 0 0, .slice none 0 0] := by rw [hcc0]; exact child_rows rfl z20_len (by rw [length_bL, length_be])
                    rw [z20_eq] at cSe
                    refine hK35 _ _ ?_
                    refine c_seq (fun K64 hK64 => ?_)
                    exact (by
                      refine c_draw Up 8 [(0, true), (1, true), (2, true), (3, true), (4, true), (5, true), (6, false), (7, true), (8, false)] (by kernel_rfl) (fun w65 hu => ⟨Up.refl _, ?_⟩)
                      replace G := G.tr (Go.ofUp hF hu)
                      replace hF := hF.up hu
                      replace k8 := k8.up hu
                      replace k37 := k37.up hu
                      replace kS := kS.up hu
                      replace kF := kF.up hu
                      replace kM := kM.up hu
                      replace kL := kL.up hu
                      replace kR := kR.up hu
                      replace U := U.tr hu
                      have SU := Up.refl w65
                      refine p_step (by exact rfl) (y_moveV (et (gS rfl (gS rfl (gS rfl (gS rfl g0)))) rfl)) ?_
                      refine p_step (by exact rfl) (y_nil (et g0 rfl)) ?_
                      refine p_step (by exact rfl) (y_fld fld_146_12 (et g0 rfl)) ?_
                      refine p_step (by exact rfl) (y_loadR agg_25 sz_25 (et g0 rfl) (by rw [length_bL, length_be]) (atSR (kF.row rSe))) ?_
                      refine p_step (by exact rfl) (y_fld fld_107_1 (et (gS rfl (gS rfl (gS rfl (gS rfl (gS rfl g0))))) rfl)) ?_
                      refine p_step (by exact rfl) (y_load1 one_95 (et g0 rfl) (atS (k8.cell (acct_c20 hca24)))) ?_
                      have hnl : (crMe s f).nonce < 18446744073709551616 := by omega
                      refine p_eff (by exact rfl) (e_callV cal_44 (aC (et (gS rfl (gS rfl g0)) rfl) (aC (et g0 rfl) aN)) (hCr _ _ _ _ _ hF hnn24 hnl fo.self)) (fun v66 w66 h66 => ?_)
                      obtain ⟨H66, rfl, g66⟩ := h66
                      have hlew66 := g66.le
                      replace nb8 := g66.nb nb8 k8.lt
                      replace nb37 := g66.nb nb37 k37.lt
                      replace nbS := g66.nb nbS kS.lt
                      replace nbF := g66.nb nbF kF.lt
                      replace nbM := g66.nb nbM (Nat.lt_of_lt_of_le lM U.size)
                      replace n4 := n4.mono hlew66
                      replace pa6 := pa6.mono hlew66
                      replace hnn24 := hnn24.mono hlew66
                      replace hbb24 := hbb24.mono hlew66
                      replace hcd24 := hcd24.mono hlew66
                      replace hss24 := hss24.mono hlew66
                      replace n30 := n30.mono hlew66
                      replace hvx := hvx.mono hlew66
                      replace hvy := hvy.mono hlew66
                      replace jSv := jSv.mono hlew66
                      replace hL0 := hL0.trans hlew66
                      replace k8 := k8.up g66.up
                      replace k37 := k37.up g66.up
                      replace kS := kS.up g66.up
                      replace kF := kF.up g66.up
                      replace kM := kM.up g66.up
                      replace kL := kL.up g66.up
                      replace kR := kR.up g66.up
                      replace U := U.tr g66.up
                      replace G := G.tr g66
                      replace hF := g66.fz
                      refine ⟨.inr (SU.tr g66.up), ?_⟩
                      replace SU := SU.tr g66.up
                      exact (by
                        refine p_step (by exact rfl) (y_fld fld_146_12 (et (gS rfl (gS rfl (gS rfl (gS rfl (gS rfl (gS rfl (gS rfl g0))))))) rfl)) ?_
                        have rl67 := RowIn.le cSe (by simp only [length_bL, length_be, jSv.len]; decide)
                        simp only [length_bL, length_be, jSv.len] at rl67
                        refine p_effN (by exact rfl) (e_store sz_25 (et g0 rfl) (cellsV (et (gS rfl g0) rfl) rfl) (by rw [length_bL, length_be]) (by exact one_bL _) k37 (by first | exact Nat.le_trans (by omega) rl67 | (rw [length_bL, length_be]; omega))) (fun v67 w67 h67 => ?_)
                        obtain ⟨rfl, x67⟩ := h67
                        replace k8 := k8.ch x67.ch (by omega)
                        replace kS := kS.ch x67.ch (by first | omega | (omega))
                        replace kF := kF.ch x67.ch (by first | omega | (omega))
                        replace kM := kM.ch x67.ch (by first | omega | (omega))
                        replace kL := kL.ch x67.ch (by first | omega | (intro q hq hm; have := dL q hq; omega))
                        replace kR := kR.ch x67.ch (by first | omega | (intro m hm; have := dR m hm; omega))
                        replace k37 := x67.blk
                        replace cF := k37.rputmo cF (by first | omega | (simp only [length_bL, length_be, List.length_cons, List.length_nil, jSv.len]; omega)) (by first | omega | (simp only [length_bL, length_be, List.length_cons, List.length_nil, jSv.len]; omega))
                        replace cSe := k37.rputs (by first | omega | (simp only [length_bL, length_be, List.length_cons, List.length_nil, jSv.len]; omega))
                        replace cCa := k37.rputmo cCa (by first | omega | (simp only [length_bL, length_be, List.length_cons, List.length_nil, jSv.len]; omega)) (by first | omega | (simp only [length_bL, length_be, List.length_cons, List.length_nil, jSv.len]; omega))
                        replace cSv := k37.rputmo cSv (by first | omega | (simp only [length_bL, length_be, List.length_cons, List.length_nil, jSv.len]; omega)) (by first | omega | (simp only [length_bL, length_be, List.length_cons, List.length_nil, jSv.len]; omega))
                        replace G := G.wr x67 (by first | exact .inr f37 | omega | (simp; omega)) nb37
                        replace hF := G.fz
                        replace U := U.st x67 (.inr f37)
                        refine ⟨.inl rfl, ?_⟩
                        refine p_nil ?_
                        refine hK64 _ _ ?_
                        refine fg6 0 1 2 6 10 11 (gS rfl (gS rfl (gS rfl (gS rfl (gS rfl (gS rfl (gS rfl (gS rfl (gS rfl (gS rfl (gS rfl (gS rfl (gS rfl g0))))))))))))) (gS rfl (gS rfl (gS rfl (gS rfl (gS rfl (gS rfl (gS rfl (gS rfl (gS rfl (gS rfl (gS rfl (gS rfl g0)))))))))))) (gS rfl (gS rfl (gS rfl (gS rfl (gS rfl (gS rfl (gS rfl (gS rfl (gS rfl (gS rfl (gS rfl g0))))))))))) (gS rfl (gS rfl (gS rfl (gS rfl (gS rfl (gS rfl (gS rfl (gS rfl (gS rfl (gS rfl g0)))))))))) (gS rfl (gS rfl (gS rfl (gS rfl (gS rfl (gS rfl (gS rfl (gS rfl (gS rfl g0))))))))) (gS rfl (gS rfl (gS rfl (gS rfl (gS rfl (gS rfl (gS rfl (gS rfl g0)))))))) (fun g => ?_)
                        refine c_seq (fun K68 hK68 => ?_)
                        have hJ68 : ∀ (s_ : Nat → Value) (W68 : World), (∃ (g : Nat → Value) (Hk68 : Store) (cz9 : Array Value), s_ = (upd (upd (upd (upd (upd g 0 (.pointer (some ⟨bs, 0, none⟩))) 1 (.pointer (some ⟨bf, low.length * 60, none⟩))) 6 (.int .i64 (tkN q : Nat))) 10 (.pointer (some ⟨b8, 0, none⟩))) 11 (.pointer (some ⟨b37, 0, none⟩))) ∧ (FC Hk68 cz9 0 (cFr (crK q) false (argN f.stack 0) (crSelf s f q) f.self 0 0 (crCode f) []) (.slice none 0 0)) ∧ (cz9.size = 60) ∧ Blk W68 b37 (cz9) ∧ Go (fun k => k = b37) w67 H66 W68 Hk68) → K68 (mk 137 s_) W68 := by
                          intro s_ W68 hI
                          obtain ⟨g, Hk68, cz9, rfl, hfC, hcz, nk37, V68⟩ := hI
                          have hle68 := V68.le
                          replace nb8 := V68.nb nb8 k8.lt
                          replace nb37 := V68.nb nb37 k37.lt
                          replace nbS := V68.nb nbS kS.lt
                          replace nbF := V68.nb nbF kF.lt
                          replace nbM := V68.nb nbM (Nat.lt_of_lt_of_le lM U.size)
                          replace n4 := n4.mono hle68
                          replace pa6 := pa6.mono hle68
                          replace hnn24 := hnn24.mono hle68
                          replace hbb24 := hbb24.mono hle68
                          replace hcd24 := hcd24.mono hle68
                          replace hss24 := hss24.mono hle68
                          replace n30 := n30.mono hle68
                          replace hvx := hvx.mono hle68
                          replace hvy := hvy.mono hle68
                          replace jSv := jSv.mono hle68
                          replace hL0 := hL0.trans hle68
                          replace G := G.trans V68 (by intro b hb; first | exact hb.elim | omega | (simp at hb ⊢; omega))
                          replace hF := V68.fz
                          replace k8 := k8.ch V68.ch (by omega)
                          replace kS := kS.ch V68.ch (by omega)
                          replace kF := kF.ch V68.ch (by omega)
                          replace kM := kM.ch V68.ch (by omega)
                          replace kL := kL.ch V68.ch (by intro q hq hm; have := dL q hq; omega)
                          replace kR := kR.ch V68.ch (by intro m hm; have := dR m hm; omega)
                          replace k37 := nk37
                          replace U := U.cc V68.ch (by intro b hb; first | exact hb.elim | omega | (simp at hb ⊢; omega))
                          obtain ⟨ypc, ygas, yval, yoo, yol, yka, ykc, yca, ycc, yia, yic, ywc, cF, cSe, cCa, cSv, jSv, jPc, jGa, jVa, jOf, jOl, jSt, jCo, jIn⟩ := hfC.ex
                          have jo := hfC.ok
                          refine hK68 _ _ ?_
                          refine c_seq (fun K69 hK69 => ?_)
                          exact (by
                            refine c_draw Up 11 [(0, true), (1, true), (2, true), (3, true), (4, true), (5, true), (6, true), (7, true), (8, true), (9, false), (10, false), (11, false)] (by kernel_rfl) (fun w70 hu => ⟨Up.refl _, ?_⟩)
                            replace G := G.tr (Go.ofUp hF hu)
                            replace hF := hF.up hu
                            replace k8 := k8.up hu
                            replace k37 := k37.up hu
                            replace kS := kS.up hu
                            replace kF := kF.up hu
                            replace kM := kM.up hu
                            replace kL := kL.up hu
                            replace kR := kR.up hu
                            replace U := U.tr hu
                            have SU := Up.refl w70
                            refine p_step (by exact rfl) (y_moveV (et (gS rfl (gS rfl (gS rfl (gS rfl g0)))) rfl)) ?_
                            refine p_step (by exact rfl) (y_nil (et g0 rfl)) ?_
                            refine p_step (by exact rfl) (y_fld fld_102_0 (et g0 rfl)) ?_
                            refine p_step (by exact rfl) (y_moveV (et (gS rfl (gS rfl (gS rfl (gS rfl (gS rfl (gS rfl g0)))))) rfl)) ?_
                            refine p_step (by exact rfl) (y_nil (et g0 rfl)) ?_
                            refine p_step (by exact rfl) (y_fld fld_146_12 (et g0 rfl)) ?_
                            refine p_step (by exact rfl) (y_loadR agg_25 sz_25 (et g0 rfl) (by rw [length_bL, length_be]) (atSR (kF.row rSe))) ?_
                            refine p_step (by exact rfl) (y_fld fld_107_1 (et (gS rfl (gS rfl (gS rfl (gS rfl (gS rfl (gS rfl (gS rfl (gS rfl g0)))))))) rfl)) ?_
                            refine p_step (by exact rfl) (y_load1 one_95 (et g0 rfl) (atS (k8.cell (acct_c20 hca24)))) ?_
                            refine p_eff (by exact rfl) (e_callV cal_32 (aC (v := .int .u64 ((1 : Nat) : Int)) rfl aN) (yp_num (x := 1) hF (by decide))) (fun v71 w71 h71 => ?_)
                            obtain ⟨H71, g71, n71⟩ := h71
                            have hlew71 := g71.le
                            replace nb8 := g71.nb nb8 k8.lt
                            replace nb37 := g71.nb nb37 k37.lt
                            replace nbS := g71.nb nbS kS.lt
                            replace nbF := g71.nb nbF kF.lt
                            replace nbM := g71.nb nbM (Nat.lt_of_lt_of_le lM U.size)
                            replace n4 := n4.mono hlew71
                            replace pa6 := pa6.mono hlew71
                            replace hnn24 := hnn24.mono hlew71
                            replace hbb24 := hbb24.mono hlew71
                            replace hcd24 := hcd24.mono hlew71
                            replace hss24 := hss24.mono hlew71
                            replace n30 := n30.mono hlew71
                            replace jSv := jSv.mono hlew71
                            replace jPc := jPc.mono hlew71
                            replace jGa := jGa.mono hlew71
                            replace jVa := jVa.mono hlew71
                            replace jOf := jOf.mono hlew71
                            replace jOl := jOl.mono hlew71
                            replace jSt := jSt.mono hlew71
                            replace jCo := jCo.mono hlew71
                            replace jIn := jIn.mono hlew71
                            replace hL0 := hL0.trans hlew71
                            replace k8 := k8.up g71.up
                            replace k37 := k37.up g71.up
                            replace kS := kS.up g71.up
                            replace kF := kF.up g71.up
                            replace kM := kM.up g71.up
                            replace kL := kL.up g71.up
                            replace kR := kR.up g71.up
                            replace U := U.tr g71.up
                            replace G := G.tr g71
                            replace hF := g71.fz
                            have q71 : 1 < 256 ^ 1 := by decide
                            refine ⟨.inr (SU.tr g71.up), ?_⟩
                            replace SU := SU.tr g71.up
                            exact (by
                              refine p_eff (by exact rfl) (e_callV cal_34 (aC (et (gS rfl g0) rfl) (aC (et g0 rfl) aN)) (nat_add hF hnn24 n71 (bd_sm (bd_64 hb124) (by decide)) (bd_sm q71 (by decide)))) (fun v72 w72 h72 => ?_)
                              obtain ⟨H72, g72, n72⟩ := h72
                              have hlew72 := g72.le
                              replace nb8 := g72.nb nb8 k8.lt
                              replace nb37 := g72.nb nb37 k37.lt
                              replace nbS := g72.nb nbS kS.lt
                              replace nbF := g72.nb nbF kF.lt
                              replace nbM := g72.nb nbM (Nat.lt_of_lt_of_le lM U.size)
                              replace n4 := n4.mono hlew72
                              replace pa6 := pa6.mono hlew72
                              replace hnn24 := hnn24.mono hlew72
                              replace hbb24 := hbb24.mono hlew72
                              replace hcd24 := hcd24.mono hlew72
                              replace hss24 := hss24.mono hlew72
                              replace n30 := n30.mono hlew72
                              replace jSv := jSv.mono hlew72
                              replace jPc := jPc.mono hlew72
                              replace jGa := jGa.mono hlew72
                              replace jVa := jVa.mono hlew72
                              replace jOf := jOf.mono hlew72
                              replace jOl := jOl.mono hlew72
                              replace jSt := jSt.mono hlew72
                              replace jCo := jCo.mono hlew72
                              replace jIn := jIn.mono hlew72
                              replace n71 := n71.mono hlew72
                              replace hL0 := hL0.trans hlew72
                              replace k8 := k8.up g72.up
                              replace k37 := k37.up g72.up
                              replace kS := kS.up g72.up
                              replace kF := kF.up g72.up
                              replace kM := kM.up g72.up
                              replace kL := kL.up g72.up
                              replace kR := kR.up g72.up
                              replace U := U.tr g72.up
                              replace G := G.tr g72
                              replace hF := g72.fz
                              have q72 := bd_add (c := 9) (bd_64 hb124) q71 (by decide)
                              refine ⟨.inr (SU.tr g72.up), ?_⟩
                              replace SU := SU.tr g72.up
                              exact (by
                                refine p_eff (by exact rfl) (e_callV cal_48 (aC (et (gS rfl (gS rfl (gS rfl (gS rfl (gS rfl (gS rfl (gS rfl (gS rfl g0)))))))) rfl) (aC (et (gS rfl (gS rfl (gS rfl (gS rfl g0)))) rfl) (aC (et g0 rfl) aN))) (yp_setNonce _ _ _ _ _ _ _ _ _ hF kS nbS (rS 0 _ rfl) (hAc.mono hL0) fo.self (by omega) n72 hno)) (fun v73 w73 h73 => ?_)
                                obtain ⟨rfl, z73, H73, g73, lv73, kx73⟩ := h73
                                have hlew73 := g73.le
                                replace nb8 := g73.nb nb8 k8.lt
                                replace nb37 := g73.nb nb37 k37.lt
                                replace nbS := g73.nb nbS kS.lt
                                replace nbF := g73.nb nbF kF.lt
                                replace nbM := g73.nb nbM (Nat.lt_of_lt_of_le lM U.size)
                                replace n4 := n4.mono hlew73
                                replace pa6 := pa6.mono hlew73
                                replace hnn24 := hnn24.mono hlew73
                                replace hbb24 := hbb24.mono hlew73
                                replace hcd24 := hcd24.mono hlew73
                                replace hss24 := hss24.mono hlew73
                                replace n30 := n30.mono hlew73
                                replace jSv := jSv.mono hlew73
                                replace jPc := jPc.mono hlew73
                                replace jGa := jGa.mono hlew73
                                replace jVa := jVa.mono hlew73
                                replace jOf := jOf.mono hlew73
                                replace jOl := jOl.mono hlew73
                                replace jSt := jSt.mono hlew73
                                replace jCo := jCo.mono hlew73
                                replace jIn := jIn.mono hlew73
                                replace n71 := n71.mono hlew73
                                replace n72 := n72.mono hlew73
                                replace hL0 := hL0.trans hlew73
                                replace k8 := k8.ch g73.ch (by omega)
                                replace k37 := k37.ch g73.ch (by omega)
                                replace kF := kF.ch g73.ch (by omega)
                                replace kM := kM.ch g73.ch (by omega)
                                replace kL := kL.ch g73.ch (by intro q hq hm; have := dL q hq; omega)
                                replace kR := kR.ch g73.ch (by intro m hm; have := dR m hm; omega)
                                replace kS := kx73
                                replace U := U.cc g73.ch (by intro b hb; first | exact .inl hb | exact .inl (yOwn b (.inl hb)) | exact .inl (yOwn b (.inr (.inl hb))) | exact .inl (yOwn b (.inr (.inr (.inl hb)))) | exact .inl (yOwn b (.inr (.inr (.inr hb)))) | exact .inl (yOwn b hb) | exact .inl (yOwn b (hb.elim .inl (fun e => .inr (.inr (.inr e))))) | exact hb | exact .inr (by omega))
                                replace G := G.trans g73 (by intro b hb; first | exact .inl hb | exact .inl (yOwn b (.inl hb)) | exact .inl (yOwn b (.inr (.inl hb))) | exact .inl (yOwn b (.inr (.inr (.inl hb)))) | exact .inl (yOwn b (.inr (.inr (.inr hb)))) | exact .inl (yOwn b hb) | exact .inl (yOwn b (hb.elim .inl (fun e => .inr (.inr (.inr e))))) | exact hb | exact .inr (by omega))
                                replace hF := g73.fz
                                obtain ⟨xa73, xc73, rfl, hxl73, hxc73⟩ := lv73.val
                                replace eC := kS.eset eC (by omega)
                                replace rS : RowIn _ _ [_, .slice wa s.now.warmA.length wc, .slice sa s.now.warmS.length sc, vr, .slice la s.now.logs.length lc, .slice ta s.now.temps.length tc, .slice ma s.now.made.length mc, .slice ga s.now.gone.length gc, .slice oa s.start.length oc, .slice (some ⟨bf, 0, none⟩) (low.length + 1) cap, .slice ra s.ret.length rc, .int .u8 (s.phase : Nat), .int .u8 (s.status : Nat), .int .u8 (s.applied : Nat), vlim, vtx, vleft, vpr, vtot] := kS.rset rS 0 rfl
                                replace rOr := kS.rseto rOr (by first | (left; omega) | (right; simp only [List.length_cons, List.length_nil, length_bL, length_be]; omega))
                                replace rMd := kS.rseto rMd (by first | (left; omega) | (right; simp only [List.length_cons, List.length_nil, length_bL, length_be]; omega))
                                refine ⟨.inl rfl, ?_⟩
                                refine p_nil ?_
                                refine hK69 _ _ ?_
                                refine fg4 0 1 6 11 (gS rfl (gS rfl (gS rfl (gS rfl (gS rfl (gS rfl (gS rfl (gS rfl (gS rfl (gS rfl (gS rfl (gS rfl (gS rfl (gS rfl (gS rfl (gS rfl g0)))))))))))))))) (gS rfl (gS rfl (gS rfl (gS rfl (gS rfl (gS rfl (gS rfl (gS rfl (gS rfl (gS rfl (gS rfl (gS rfl (gS rfl (gS rfl (gS rfl g0))))))))))))))) (gS rfl (gS rfl (gS rfl (gS rfl (gS rfl (gS rfl (gS rfl (gS rfl (gS rfl (gS rfl (gS rfl (gS rfl (gS rfl (gS rfl g0)))))))))))))) (gS rfl (gS rfl (gS rfl (gS rfl (gS rfl (gS rfl (gS rfl (gS rfl (gS rfl (gS rfl (gS rfl (gS rfl g0)))))))))))) (fun g => ?_)
                                refine c_seq (fun K74 hK74 => ?_)
                                exact (by
                                  refine c_draw Up 10 [(0, true), (1, true), (2, true), (3, true), (4, true), (5, true), (6, true), (7, true), (8, false), (9, true), (10, false)] (by kernel_rfl) (fun w75 hu => ⟨Up.refl _, ?_⟩)
                                  replace G := G.tr (Go.ofUp hF hu)
                                  replace hF := hF.up hu
                                  replace k8 := k8.up hu
                                  replace k37 := k37.up hu
                                  replace kS := kS.up hu
                                  replace kF := kF.up hu
                                  replace kM := kM.up hu
                                  replace kL := kL.up hu
                                  replace kR := kR.up hu
                                  replace U := U.tr hu
                                  have SU := Up.refl w75
                                  refine p_step (by exact rfl) (y_moveV (et (gS rfl (gS rfl g0)) rfl)) ?_
                                  refine p_step (by exact rfl) (y_nil (et g0 rfl)) ?_
                                  refine p_step (by exact rfl) (y_fld fld_146_4 (et g0 rfl)) ?_
                                  refine p_step (by exact rfl) (y_load1 one_95 (et g0 rfl) (atS (kF.cell (rF 4 _ rfl)))) ?_
                                  refine p_step (by exact rfl) (y_moveV (et (gS rfl (gS rfl (gS rfl (gS rfl (gS rfl (gS rfl g0)))))) rfl)) ?_
                                  refine p_step (by exact rfl) (y_nil (et g0 rfl)) ?_
                                  refine p_step (by exact rfl) (y_fld fld_146_4 (et g0 rfl)) ?_
                                  refine p_step (by exact rfl) (y_load1 one_95 (et g0 rfl) (atS (kF.cell (rF 4 _ rfl)))) ?_
                                  refine p_eff (by exact rfl) (e_callV cal_226 (aC (et (gS rfl (gS rfl (gS rfl (gS rfl g0)))) rfl) (aC (et g0 rfl) aN)) (yp_sentGas hF (hGa.mono hL0) (hGa.mono hL0) (bd_up (bd_lt2 (b := 256 ^ 4) fo.gas (by decide)) (by decide)) (bd_up (bd_lt2 (b := 256 ^ 4) fo.gas (by decide)) (by decide)))) (fun v76 w76 h76 => ?_)
                                  obtain ⟨H76, g76, n76⟩ := h76
                                  have hlew76 := g76.le
                                  replace nb8 := g76.nb nb8 k8.lt
                                  replace nb37 := g76.nb nb37 k37.lt
                                  replace nbS := g76.nb nbS kS.lt
                                  replace nbF := g76.nb nbF kF.lt
                                  replace nbM := g76.nb nbM (Nat.lt_of_lt_of_le lM U.size)
                                  replace n4 := n4.mono hlew76
                                  replace pa6 := pa6.mono hlew76
                                  replace hnn24 := hnn24.mono hlew76
                                  replace hbb24 := hbb24.mono hlew76
                                  replace hcd24 := hcd24.mono hlew76
                                  replace hss24 := hss24.mono hlew76
                                  replace n30 := n30.mono hlew76
                                  replace jSv := jSv.mono hlew76
                                  replace jPc := jPc.mono hlew76
                                  replace jGa := jGa.mono hlew76
                                  replace jVa := jVa.mono hlew76
                                  replace jOf := jOf.mono hlew76
                                  replace jOl := jOl.mono hlew76
                                  replace jSt := jSt.mono hlew76
                                  replace jCo := jCo.mono hlew76
                                  replace jIn := jIn.mono hlew76
                                  replace n71 := n71.mono hlew76
                                  replace n72 := n72.mono hlew76
                                  replace lv73 := lv73.mono hlew76
                                  replace hL0 := hL0.trans hlew76
                                  replace k8 := k8.up g76.up
                                  replace k37 := k37.up g76.up
                                  replace kS := kS.up g76.up
                                  replace kF := kF.up g76.up
                                  replace kM := kM.up g76.up
                                  replace kL := kL.up g76.up
                                  replace kR := kR.up g76.up
                                  replace U := U.tr g76.up
                                  replace G := G.tr g76
                                  replace hF := g76.fz
                                  have q76 := sent_bd n76 (bd_lt2 (b := 256 ^ 4) fo.gas (by decide))
                                  refine ⟨.inr (SU.tr g76.up), ?_⟩
                                  replace SU := SU.tr g76.up
                                  exact (by
                                    refine p_step (by exact rfl) (y_fld fld_146_4 (et (gS rfl (gS rfl (gS rfl (gS rfl (gS rfl (gS rfl (gS rfl (gS rfl (gS rfl g0))))))))) rfl)) ?_
                                    obtain ⟨sa77, sn77, sc77, rfl⟩ := n76.sl
                                    have rl77 := RowIn.le cF (Nat.succ_pos _)
                                    simp only [List.length_cons, List.length_nil, Nat.zero_add, Nat.reduceAdd] at rl77
                                    refine p_effN (by exact rfl) (e_store sz_95 (et g0 rfl) (cellsV (et (gS rfl g0) rfl) rfl) rfl (by first | exact one_bL _ | exact one_uL _ | (intro v hv; simp at hv; subst hv; rfl)) k37 (by first | exact Nat.le_trans (by omega) rl77 | exact Nat.le_of_ble_eq_true rfl | simp | omega)) (fun v77 w77 h77 => ?_)
                                    obtain ⟨rfl, x77⟩ := h77
                                    replace k8 := k8.ch x77.ch (by omega)
                                    replace kS := kS.ch x77.ch (by first | omega | (omega))
                                    replace kF := kF.ch x77.ch (by first | omega | (omega))
                                    replace kM := kM.ch x77.ch (by first | omega | (omega))
                                    replace kL := kL.ch x77.ch (by first | omega | (intro q hq hm; have := dL q hq; omega))
                                    replace kR := kR.ch x77.ch (by first | omega | (intro m hm; have := dR m hm; omega))
                                    replace k37 := x77.blk
                                    replace cF : RowIn _ _ [.int .u8 ((cFr (crK q) false (argN f.stack 0) (crSelf s f q) f.self 0 0 (crCode f) []).kind : Nat), .int .u8 ((cFr (crK q) false (argN f.stack 0) (crSelf s f q) f.self 0 0 (crCode f) []).ntv : Nat), .bool (cFr (crK q) false (argN f.stack 0) (crSelf s f q) f.self 0 0 (crCode f) []).static, ypc, _, yval, yoo, yol, .slice yka (cFr (crK q) false (argN f.stack 0) (crSelf s f q) f.self 0 0 (crCode f) []).stack.length ykc, .slice none 0 0, .slice yca (cFr (crK q) false (argN f.stack 0) (crSelf s f q) f.self 0 0 (crCode f) []).code.length ycc, .slice yia (cFr (crK q) false (argN f.stack 0) (crSelf s f q) f.self 0 0 (crCode f) []).input.length yic] := k37.rput cF 4 rfl
                                    replace cSe := k37.rputo cSe (by first | (left; omega) | (right; simp only [List.length_cons, List.length_nil, length_bL, length_be, jSv.len]; omega))
                                    replace cCa := k37.rputo cCa (by first | (left; omega) | (right; simp only [List.length_cons, List.length_nil, length_bL, length_be, jSv.len]; omega))
                                    replace cSv := k37.rputo cSv (by first | (left; omega) | (right; simp only [List.length_cons, List.length_nil, length_bL, length_be, jSv.len]; omega))
                                    replace G := G.wr x77 (by first | exact .inr f37 | omega | (simp; omega)) nb37
                                    replace hF := G.fz
                                    replace U := U.st x77 (.inr f37)
                                    refine ⟨.inl rfl, ?_⟩
                                    refine p_nil ?_
                                    refine hK74 _ _ ?_
                                    refine fg4 0 1 6 11 (gS rfl (gS rfl (gS rfl (gS rfl (gS rfl (gS rfl (gS rfl (gS rfl (gS rfl (gS rfl (gS rfl (gS rfl (gS rfl g0))))))))))))) (gS rfl (gS rfl (gS rfl (gS rfl (gS rfl (gS rfl (gS rfl (gS rfl (gS rfl (gS rfl (gS rfl (gS rfl g0)))))))))))) (gS rfl (gS rfl (gS rfl (gS rfl (gS rfl (gS rfl (gS rfl (gS rfl (gS rfl (gS rfl (gS rfl g0))))))))))) (gS rfl (gS rfl (gS rfl (gS rfl (gS rfl (gS rfl (gS rfl (gS rfl (gS rfl (gS rfl g0)))))))))) (fun g => ?_)
                                    refine c_seq (fun K78 hK78 => ?_)
                                    exact (by
                                      refine c_draw Up 10 [(0, true), (1, true), (2, true), (3, true), (4, true), (5, true), (6, true), (7, false), (8, true), (9, true), (10, false)] (by kernel_rfl) (fun w79 hu => ⟨Up.refl _, ?_⟩)
                                      replace G := G.tr (Go.ofUp hF hu)
                                      replace hF := hF.up hu
                                      replace k8 := k8.up hu
                                      replace k37 := k37.up hu
                                      replace kS := kS.up hu
                                      replace kF := kF.up hu
                                      replace kM := kM.up hu
                                      replace kL := kL.up hu
                                      replace kR := kR.up hu
                                      replace U := U.tr hu
                                      have SU := Up.refl w79
                                      refine p_step (by exact rfl) (y_moveV (et (gS rfl (gS rfl g0)) rfl)) ?_
                                      refine p_step (by exact rfl) (y_moveV (et (gS rfl (gS rfl (gS rfl g0))) rfl)) ?_
                                      refine p_step (by exact rfl) (y_nil (et g0 rfl)) ?_
                                      refine p_step (by exact rfl) (y_fld fld_146_4 (et g0 rfl)) ?_
                                      refine p_step (by exact rfl) (y_load1 one_95 (et g0 rfl) (atS (kF.cell (rF 4 _ rfl)))) ?_
                                      refine p_step (by exact rfl) (y_fld fld_146_4 (et (gS rfl (gS rfl (gS rfl (gS rfl (gS rfl g0))))) rfl)) ?_
                                      refine p_step (by exact rfl) (y_load1 one_95 (et g0 rfl) (atS (k37.cell (cF 4 _ rfl)))) ?_
                                      refine p_eff (by exact rfl) (e_callV cal_45 (aC (et (gS rfl (gS rfl g0)) rfl) (aC (et g0 rfl) aN)) (yp_less hF (hGa.mono hL0) n76 (bd_sm (bd_lt2 (b := 256 ^ 4) fo.gas (by decide)) (by decide)) (bd_sm q76 (by decide)))) (fun v80 w80 h80 => ?_)
                                      obtain ⟨H80, g80, n80⟩ := h80
                                      have hlew80 := g80.le
                                      replace nb8 := g80.nb nb8 k8.lt
                                      replace nb37 := g80.nb nb37 k37.lt
                                      replace nbS := g80.nb nbS kS.lt
                                      replace nbF := g80.nb nbF kF.lt
                                      replace nbM := g80.nb nbM (Nat.lt_of_lt_of_le lM U.size)
                                      replace n4 := n4.mono hlew80
                                      replace pa6 := pa6.mono hlew80
                                      replace hnn24 := hnn24.mono hlew80
                                      replace hbb24 := hbb24.mono hlew80
                                      replace hcd24 := hcd24.mono hlew80
                                      replace hss24 := hss24.mono hlew80
                                      replace n30 := n30.mono hlew80
                                      replace jSv := jSv.mono hlew80
                                      replace jPc := jPc.mono hlew80
                                      replace jGa := jGa.mono hlew80
                                      replace jVa := jVa.mono hlew80
                                      replace jOf := jOf.mono hlew80
                                      replace jOl := jOl.mono hlew80
                                      replace jSt := jSt.mono hlew80
                                      replace jCo := jCo.mono hlew80
                                      replace jIn := jIn.mono hlew80
                                      replace n71 := n71.mono hlew80
                                      replace n72 := n72.mono hlew80
                                      replace lv73 := lv73.mono hlew80
                                      replace n76 := n76.mono hlew80
                                      replace hL0 := hL0.trans hlew80
                                      replace k8 := k8.up g80.up
                                      replace k37 := k37.up g80.up
                                      replace kS := kS.up g80.up
                                      replace kF := kF.up g80.up
                                      replace kM := kM.up g80.up
                                      replace kL := kL.up g80.up
                                      replace kR := kR.up g80.up
                                      replace U := U.tr g80.up
                                      replace G := G.tr g80
                                      replace hF := g80.fz
                                      have q80 := bd_sub' n80 (bd_lt2 (b := 256 ^ 4) fo.gas (by decide))
                                      refine ⟨.inr (SU.tr g80.up), ?_⟩
                                      replace SU := SU.tr g80.up
                                      exact (by
                                        refine p_step (by exact rfl) (y_nil (et (gS rfl (gS rfl (gS rfl (gS rfl (gS rfl (gS rfl (gS rfl g0))))))) rfl)) ?_
                                        refine p_step (by exact rfl) (y_fld fld_146_4 (et g0 rfl)) ?_
                                        obtain ⟨sa81, sn81, sc81, rfl⟩ := n80.sl
                                        have rl81 := RowIn.le rF (Nat.succ_pos _)
                                        simp only [List.length_cons, List.length_nil, Nat.zero_add, Nat.reduceAdd] at rl81
                                        refine p_effN (by exact rfl) (e_store sz_95 (et g0 rfl) (cellsV (et (gS rfl (gS rfl g0)) rfl) rfl) rfl (by first | exact one_bL _ | exact one_uL _ | (intro v hv; simp at hv; subst hv; rfl)) kF (by first | exact Nat.le_trans (by omega) rl81 | exact Nat.le_of_ble_eq_true rfl | (simp; done) | (simp; omega) | omega | (simp only [size_spl, Array.size_setIfInBounds, hs.size]; exact Nat.le_of_ble_eq_true rfl))) (fun v81 w81 h81 => ?_)
                                        obtain ⟨rfl, x81⟩ := h81
                                        replace k8 := k8.ch x81.ch (by omega)
                                        replace k37 := k37.ch x81.ch (by omega)
                                        replace kS := kS.ch x81.ch (by omega)
                                        replace kM := kM.ch x81.ch (by omega)
                                        replace kL := kL.ch x81.ch (by intro q hq hm; have := dL q hq; omega)
                                        replace kR := kR.ch x81.ch (by intro m hm; have := dR m hm; omega)
                                        replace kF := x81.blk
                                        replace G := G.wr x81 (.inl (by first | rfl | exact yt.yS | exact yt.yF | (simp; done))) nbF
                                        replace hF := G.fz
                                        replace U := U.st x81 (.inl (by first | rfl | exact yt.yS | exact yt.yF | (simp; done)))
                                        replace oF := kF.oput oF (by omega) (by omega)
                                        replace rF : RowIn _ _ [.int .u8 (f.kind : Nat), .int .u8 (f.ntv : Nat), .bool f.static, vpc, _, vval, voo, vol, .slice ka f.stack.length kc, .slice am f.mem.length f.mem.length, .slice ca f.code.length cc, .slice ia f.input.length ic] := kF.rput rF 4 rfl
                                        replace rSe := kF.rputo rSe (by first | (left; omega) | (right; simp only [List.length_cons, List.length_nil, length_bL, length_be, hSv.len]; omega))
                                        replace rCa := kF.rputo rCa (by first | (left; omega) | (right; simp only [List.length_cons, List.length_nil, length_bL, length_be, hSv.len]; omega))
                                        replace rSv := kF.rputo rSv (by first | (left; omega) | (right; simp only [List.length_cons, List.length_nil, length_bL, length_be, hSv.len]; omega))
                                        refine ⟨.inl rfl, ?_⟩
                                        have hfP : FC H80 _ _ (crF1 f) (.slice am f.mem.length f.mem.length) := ⟨⟨fo.kind, fo.ntv, fo.pc, (Nat.lt_of_le_of_lt (Nat.sub_le _ _) fo.gas), fo.value, fo.outOff, fo.outLen, fo.self, fo.caller, fo.stack, fo.code, fo.input, fo.mem⟩, _, _, _, _, _, _, _, _, _, _, _, _, rF, rSe, rCa, rSv, hSv.mono hL0, (hPc.mono hL0), n80, (hVa.mono hL0), (hOf.mono hL0), (hOl.mono hL0), (hSt.mono hL0), (hCo.mono hL0), (hIn.mono hL0)⟩
                                        refine p_nil ?_
                                        refine hK78 _ _ ?_
                                        refine fg4 0 1 6 11 (gS rfl (gS rfl (gS rfl (gS rfl (gS rfl (gS rfl (gS rfl (gS rfl (gS rfl (gS rfl (gS rfl (gS rfl (gS rfl g0))))))))))))) (gS rfl (gS rfl (gS rfl (gS rfl (gS rfl (gS rfl (gS rfl (gS rfl (gS rfl (gS rfl (gS rfl (gS rfl g0)))))))))))) (gS rfl (gS rfl (gS rfl (gS rfl (gS rfl (gS rfl (gS rfl (gS rfl (gS rfl (gS rfl (gS rfl g0))))))))))) (gS rfl (gS rfl (gS rfl (gS rfl (gS rfl (gS rfl (gS rfl (gS rfl (gS rfl (gS rfl g0)))))))))) (fun g => ?_)
                                        refine c_seq (fun K82 hK82 => ?_)
                                        exact (by
                                          refine c_draw Up 5 [(0, true), (1, true), (2, true), (3, true), (4, true), (5, false)] (by kernel_rfl) (fun w83 hu => ⟨Up.refl _, ?_⟩)
                                          replace G := G.tr (Go.ofUp hF hu)
                                          replace hF := hF.up hu
                                          replace k8 := k8.up hu
                                          replace k37 := k37.up hu
                                          replace kS := kS.up hu
                                          replace kF := kF.up hu
                                          replace kM := kM.up hu
                                          replace kL := kL.up hu
                                          replace kR := kR.up hu
                                          replace U := U.tr hu
                                          have SU := Up.refl w83
                                          refine p_step (by exact rfl) (y_moveV (et (gS rfl (gS rfl (gS rfl g0))) rfl)) ?_
                                          refine p_step (by exact rfl) (y_nil (et g0 rfl)) ?_
                                          refine p_step (by exact rfl) (y_fld fld_102_0 (et g0 rfl)) ?_
                                          refine p_step (by exact rfl) (y_fld fld_146_12 (et (gS rfl (gS rfl (gS rfl g0))) rfl)) ?_
                                          refine p_step (by exact rfl) (y_loadR agg_25 sz_25 (et g0 rfl) (by rw [length_bL, length_be]) (atSR (k37.row cSe))) ?_
                                          refine p_eff (by exact rfl) (e_callV cal_51 (aC (et (gS rfl (gS rfl g0)) rfl) (aC (et g0 rfl) aN)) (yp_warm _ _ _ _ _ _ _ _ _ hF kS nbS (rS 1 _ rfl) (hWA.mono hL0) jo.self (by omega))) (fun v84 w84 h84 => ?_)
                                          obtain ⟨rfl, z84, H84, g84, lv84, kx84⟩ := h84
                                          have hlew84 := g84.le
                                          replace nb8 := g84.nb nb8 k8.lt
                                          replace nb37 := g84.nb nb37 k37.lt
                                          replace nbS := g84.nb nbS kS.lt
                                          replace nbF := g84.nb nbF kF.lt
                                          replace nbM := g84.nb nbM (Nat.lt_of_lt_of_le lM U.size)
                                          replace n4 := n4.mono hlew84
                                          replace pa6 := pa6.mono hlew84
                                          replace hnn24 := hnn24.mono hlew84
                                          replace hbb24 := hbb24.mono hlew84
                                          replace hcd24 := hcd24.mono hlew84
                                          replace hss24 := hss24.mono hlew84
                                          replace n30 := n30.mono hlew84
                                          replace jSv := jSv.mono hlew84
                                          replace jPc := jPc.mono hlew84
                                          replace jGa := jGa.mono hlew84
                                          replace jVa := jVa.mono hlew84
                                          replace jOf := jOf.mono hlew84
                                          replace jOl := jOl.mono hlew84
                                          replace jSt := jSt.mono hlew84
                                          replace jCo := jCo.mono hlew84
                                          replace jIn := jIn.mono hlew84
                                          replace n71 := n71.mono hlew84
                                          replace n72 := n72.mono hlew84
                                          replace lv73 := lv73.mono hlew84
                                          replace n76 := n76.mono hlew84
                                          replace n80 := n80.mono hlew84
                                          replace hfP := hfP.mono hlew84
                                          replace hL0 := hL0.trans hlew84
                                          replace k8 := k8.ch g84.ch (by omega)
                                          replace k37 := k37.ch g84.ch (by omega)
                                          replace kF := kF.ch g84.ch (by omega)
                                          replace kM := kM.ch g84.ch (by omega)
                                          replace kL := kL.ch g84.ch (by intro q hq hm; have := dL q hq; omega)
                                          replace kR := kR.ch g84.ch (by intro m hm; have := dR m hm; omega)
                                          replace kS := kx84
                                          replace U := U.cc g84.ch (by intro b hb; first | exact .inl hb | exact .inl (yOwn b (.inl hb)) | exact .inl (yOwn b (.inr (.inl hb))) | exact .inl (yOwn b (.inr (.inr (.inl hb)))) | exact .inl (yOwn b (.inr (.inr (.inr hb)))) | exact .inl (yOwn b hb) | exact .inl (yOwn b (hb.elim .inl (fun e => .inr (.inr (.inr e))))) | exact hb | exact .inr (by omega))
                                          replace G := G.trans g84 (by intro b hb; first | exact .inl hb | exact .inl (yOwn b (.inl hb)) | exact .inl (yOwn b (.inr (.inl hb))) | exact .inl (yOwn b (.inr (.inr (.inl hb)))) | exact .inl (yOwn b (.inr (.inr (.inr hb)))) | exact .inl (yOwn b hb) | exact .inl (yOwn b (hb.elim .inl (fun e => .inr (.inr (.inr e))))) | exact hb | exact .inr (by omega))
                                          replace hF := g84.fz
                                          obtain ⟨xa84, xc84, rfl, hxl84, hxc84⟩ := lv84.val
                                          replace eC := kS.eset eC (by omega)
                                          replace rS : RowIn _ _ [_, _, .slice sa s.now.warmS.length sc, vr, .slice la s.now.logs.length lc, .slice ta s.now.temps.length tc, .slice ma s.now.made.length mc, .slice ga s.now.gone.length gc, .slice oa s.start.length oc, .slice (some ⟨bf, 0, none⟩) (low.length + 1) cap, .slice ra s.ret.length rc, .int .u8 (s.phase : Nat), .int .u8 (s.status : Nat), .int .u8 (s.applied : Nat), vlim, vtx, vleft, vpr, vtot] := kS.rset rS 1 rfl
                                          replace rOr := kS.rseto rOr (by first | (left; omega) | (right; simp only [List.length_cons, List.length_nil, length_bL, length_be]; omega))
                                          replace rMd := kS.rseto rMd (by first | (left; omega) | (right; simp only [List.length_cons, List.length_nil, length_bL, length_be]; omega))
                                          refine ⟨.inl rfl, ?_⟩
                                          refine p_nil ?_
                                          refine hK82 _ _ ?_
                                          refine fg4 0 1 6 11 (gS rfl (gS rfl (gS rfl (gS rfl (gS rfl (gS rfl (gS rfl (gS rfl (gS rfl g0))))))))) (gS rfl (gS rfl (gS rfl (gS rfl (gS rfl (gS rfl (gS rfl (gS rfl g0)))))))) (gS rfl (gS rfl (gS rfl (gS rfl (gS rfl (gS rfl (gS rfl g0))))))) (gS rfl (gS rfl (gS rfl (gS rfl (gS rfl (gS rfl g0)))))) (fun g => ?_)
                                          refine c_seq (fun K85 hK85 => ?_)
                                          refine c_seq (fun K86 hK86 => ?_)
                                          exact (by
                                            refine c_region ?_
                                            refine l_step (y_moveV (et (gS rfl (gS rfl (gS rfl g0))) rfl)) ?_
                                            refine l_step (y_fld fld_146_12 (et (gS rfl g0) rfl)) ?_
                                            refine l_step (y_loadR agg_25 sz_25 (et g0 rfl) (by rw [length_bL, length_be]) (at1R (k37.row cSe))) ?_
                                            have hsN : SC H84 _ (crS s f q) _ := ⟨⟨by show (putA s.now.accts (setNon (crMe s f) ((crMe s f).nonce + 1))).length < _; have := putA_len s.now.accts (setNon (crMe s f) ((crMe s f).nonce + 1)); have := nh.accts; omega, by show (withA s.now.warmA (crSelf s f q)).length < _; have := len_withA s.now.warmA (crSelf s f q); have := nh.warmA; omega, so.warmS, so.refund, so.logs, so.temps, so.made, so.gone, so.start, so.ret, so.phase, so.status, so.applied, so.limit, so.txGas, so.left, so.price, so.total, so.origin, so.mad⟩, eC.mono hL0, (by simp only [size_spl, Array.size_setIfInBounds]; exact hs.size), _, _, _, _, _, _, _, _, _, _, _, _, _, _, _, _, _, _, _, _, _, _, _, _, rS, rOr, rMd, lv73, lv84, (hWS.mono hL0), (hRf.mono hL0), (hTm.mono hL0), (hMd.mono hL0), (hGn.mono hL0), (hSr.mono hL0), (hRt.mono hL0), (hLm.mono hL0), (hTx.mono hL0), (hLf.mono hL0), (hPr.mono hL0), (hTt.mono hL0)⟩
                                            refine l_eff (e_callV cal_54 (aC (et (gS rfl (gS rfl g0)) rfl) (aC (et g0 rfl) aN)) (yp_taken hF _ _ _ _ kS hsN jo.self)) (fun v87 w87 h87 => ?_)
                                            obtain ⟨rfl, u87⟩ := h87
                                            replace G := G.tr (Go.ofUp hF u87)
                                            replace hF := hF.up u87
                                            replace k8 := k8.up u87
                                            replace k37 := k37.up u87
                                            replace kS := kS.up u87
                                            replace kF := kF.up u87
                                            replace kM := kM.up u87
                                            replace kL := kL.up u87
                                            replace kR := kR.up u87
                                            replace U := U.tr u87
                                            refine l_nil ?_
                                            refine hK86 _ _ ?_
                                            refine fg5 0 1 6 11 127 (gS rfl (gS rfl (gS rfl (gS rfl (gS rfl (gS rfl (gS rfl g0))))))) (gS rfl (gS rfl (gS rfl (gS rfl (gS rfl (gS rfl g0)))))) (gS rfl (gS rfl (gS rfl (gS rfl (gS rfl g0))))) (gS rfl (gS rfl (gS rfl (gS rfl g0)))) g0 (fun g => ?_)
                                            refine c_cond (et g0 rfl) (fun cB3 => ?_) (fun cB3 => ?_)
                                            · skip
                                              
                                              replace cB3 : tknB (crS s f q) (crSelf s f q) = true := cB3
                                              refine c_seq (fun K89 hK89 => ?_)
                                              exact (by
                                                refine c_region ?_
                                                refine l_step (y_moveV (et (gS rfl (gS rfl (gS rfl g0))) rfl)) ?_
                                                refine l_step (y_moveV (et (gS rfl (gS rfl (gS rfl g0))) rfl)) ?_
                                                refine l_eff (e_callV cal_143 (aC (et (gS rfl g0) rfl) (aC (et g0 rfl) (aC rfl aN))) (yp_answer hF _ _ _ _ _ kF hfP nbF (tkN q) nh.tk nh.stk nh.pc (NV.nil _) (show 0 < W256 by decide))) (fun v90 w90 h90 => ?_)
                                                obtain ⟨rfl, fs90, H90, g90, kf90, fc90, of90⟩ := h90
                                                have hlew90 := g90.le
                                                replace nb8 := g90.nb nb8 k8.lt
                                                replace nb37 := g90.nb nb37 k37.lt
                                                replace nbS := g90.nb nbS kS.lt
                                                replace nbF := g90.nb nbF kF.lt
                                                replace nbM := g90.nb nbM (Nat.lt_of_lt_of_le lM U.size)
                                                replace n4 := n4.mono hlew90
                                                replace pa6 := pa6.mono hlew90
                                                replace hnn24 := hnn24.mono hlew90
                                                replace hbb24 := hbb24.mono hlew90
                                                replace hcd24 := hcd24.mono hlew90
                                                replace hss24 := hss24.mono hlew90
                                                replace n30 := n30.mono hlew90
                                                replace jSv := jSv.mono hlew90
                                                replace jPc := jPc.mono hlew90
                                                replace jGa := jGa.mono hlew90
                                                replace jVa := jVa.mono hlew90
                                                replace jOf := jOf.mono hlew90
                                                replace jOl := jOl.mono hlew90
                                                replace jSt := jSt.mono hlew90
                                                replace jCo := jCo.mono hlew90
                                                replace jIn := jIn.mono hlew90
                                                replace n71 := n71.mono hlew90
                                                replace n72 := n72.mono hlew90
                                                replace lv73 := lv73.mono hlew90
                                                replace n76 := n76.mono hlew90
                                                replace n80 := n80.mono hlew90
                                                replace hfP := hfP.mono hlew90
                                                replace lv84 := lv84.mono hlew90
                                                replace hsN := hsN.mono hlew90
                                                replace hL0 := hL0.trans hlew90
                                                replace k8 := k8.ch g90.ch (by omega)
                                                replace k37 := k37.ch g90.ch (by omega)
                                                replace kS := kS.ch g90.ch (by omega)
                                                replace kM := kM.ch g90.ch (by omega)
                                                replace kL := kL.ch g90.ch (by intro q hq hm; have := dL q hq; omega)
                                                replace kR := kR.ch g90.ch (by intro m hm; have := dR m hm; omega)
                                                replace kF := kf90
                                                replace U := U.cc g90.ch (by intro b hb; first | exact .inl hb | exact .inl (yOwn b (.inl hb)) | exact .inl (yOwn b (.inr (.inl hb))) | exact .inl (yOwn b (.inr (.inr (.inl hb)))) | exact .inl (yOwn b (.inr (.inr (.inr hb)))) | exact .inl (yOwn b hb) | exact .inl (yOwn b (hb.elim .inl (fun e => .inr (.inr (.inr e))))) | exact hb | exact .inr (by omega))
                                                replace G := G.trans g90 (by intro b hb; first | exact .inl hb | exact .inl (yOwn b (.inl hb)) | exact .inl (yOwn b (.inr (.inl hb))) | exact .inl (yOwn b (.inr (.inr (.inl hb)))) | exact .inl (yOwn b (.inr (.inr (.inr hb)))) | exact .inl (yOwn b hb) | exact .inl (yOwn b (hb.elim .inl (fun e => .inr (.inr (.inr e))))) | exact hb | exact .inr (by omega))
                                                replace hF := g90.fz
                                                replace oF := oF.trans of90
                                                refine l_nil ?_
                                                refine hK89 _ _ ?_
                                                refine fg0 (fun g => ?_)
                                                refine c_ret ?_
                                                repeat with_reducible refine then_ret ?_
                                                refine ret0 rfl ?_
                                                refine ⟨rfl, _, bf, G, ?_⟩
                                                rw [creY, if_neg hfa, if_pos cB3]
                                                exact (YT.close (low := low) (f := (ansN (crF1 f) (tkN q) 0)) (msl := msl) (Y := fun b => Y b ∨ w.heap.size ≤ b) ⟨kS, SC.frames hsN _, ⟨hcp, yt.hc.2.1, (by rw [oF.size]; exact yt.hc.2.2)⟩, kF, fc90, kM, (yt.hl.mono hL0).pre (oF.pre (Nat.le_refl _)) (Nat.le_refl _), kR, (show LG _ _ _ _ (crS s f q).now.logs from kL.mono hL0), ((rS 4 _ rfl).trans (hv4.symm.trans hvl)), nbS, nbF, nbM, .inl yt.yS, .inl yt.yF, .inl yt.yM, Nat.lt_of_lt_of_le lM U.size, dSF, dMF, dSM, fun b e => ⟨Nat.lt_of_lt_of_le (dL b e).1 U.size, (dL b e).2⟩, fun b e => G.nb (yt.nbL b e) (dL b e).1, fun b e => .inl (yt.yL b e), fun m hm => ⟨Nat.lt_of_lt_of_le (dR m hm).1 U.size, (dR m hm).2⟩, fun m hm => ⟨G.nb (yt.nbR m hm).1 (dR m hm).1, .inl (yt.nbR m hm).2⟩, yt.ndR⟩ hF rfl))
                                            · skip
                                              
                                              replace cB3 : tknB (crS s f q) (crSelf s f q) = false := cB3
                                              refine c_skip ?_
                                              refine hK85 _ _ ?_
                                              refine fg4 0 1 6 11 (gS rfl (gS rfl (gS rfl (gS rfl g0)))) (gS rfl (gS rfl (gS rfl g0))) (gS rfl (gS rfl g0)) (gS rfl g0) (fun g => ?_)
                                              refine c_seq (fun K91 hK91 => ?_)
                                              exact (by
                                                refine c_region ?_
                                                refine l_step (y_moveV (et (gS rfl (gS rfl g0)) rfl)) ?_
                                                refine l_step (y_moveV (et (gS rfl (gS rfl g0)) rfl)) ?_
                                                refine l_eff (e_callV cal_227 (aC (et (gS rfl g0) rfl) (aC (et g0 rfl) (aC rfl (aC rfl aN)))) (yp_wait hF _ _ _ _ _ kF hfP nbF (tkN q) nh.tk (NV.nil _) (NV.nil _) (by decide) (by decide))) (fun v92 w92 h92 => ?_)
                                                obtain ⟨rfl, fs92, H92, g92, kf92, fc92, of92⟩ := h92
                                                have hlew92 := g92.le
                                                replace nb8 := g92.nb nb8 k8.lt
                                                replace nb37 := g92.nb nb37 k37.lt
                                                replace nbS := g92.nb nbS kS.lt
                                                replace nbF := g92.nb nbF kF.lt
                                                replace nbM := g92.nb nbM (Nat.lt_of_lt_of_le lM U.size)
                                                replace n4 := n4.mono hlew92
                                                replace pa6 := pa6.mono hlew92
                                                replace hnn24 := hnn24.mono hlew92
                                                replace hbb24 := hbb24.mono hlew92
                                                replace hcd24 := hcd24.mono hlew92
                                                replace hss24 := hss24.mono hlew92
                                                replace n30 := n30.mono hlew92
                                                replace jSv := jSv.mono hlew92
                                                replace jPc := jPc.mono hlew92
                                                replace jGa := jGa.mono hlew92
                                                replace jVa := jVa.mono hlew92
                                                replace jOf := jOf.mono hlew92
                                                replace jOl := jOl.mono hlew92
                                                replace jSt := jSt.mono hlew92
                                                replace jCo := jCo.mono hlew92
                                                replace jIn := jIn.mono hlew92
                                                replace n71 := n71.mono hlew92
                                                replace n72 := n72.mono hlew92
                                                replace lv73 := lv73.mono hlew92
                                                replace n76 := n76.mono hlew92
                                                replace n80 := n80.mono hlew92
                                                replace hfP := hfP.mono hlew92
                                                replace lv84 := lv84.mono hlew92
                                                replace hsN := hsN.mono hlew92
                                                replace hL0 := hL0.trans hlew92
                                                replace k8 := k8.ch g92.ch (by omega)
                                                replace k37 := k37.ch g92.ch (by omega)
                                                replace kS := kS.ch g92.ch (by omega)
                                                replace kM := kM.ch g92.ch (by omega)
                                                replace kL := kL.ch g92.ch (by intro q hq hm; have := dL q hq; omega)
                                                replace kR := kR.ch g92.ch (by intro m hm; have := dR m hm; omega)
                                                replace kF := kf92
                                                replace U := U.cc g92.ch (by intro b hb; first | exact .inl hb | exact .inl (yOwn b (.inl hb)) | exact .inl (yOwn b (.inr (.inl hb))) | exact .inl (yOwn b (.inr (.inr (.inl hb)))) | exact .inl (yOwn b (.inr (.inr (.inr hb)))) | exact .inl (yOwn b hb) | exact .inl (yOwn b (hb.elim .inl (fun e => .inr (.inr (.inr e))))) | exact hb | exact .inr (by omega))
                                                replace G := G.trans g92 (by intro b hb; first | exact .inl hb | exact .inl (yOwn b (.inl hb)) | exact .inl (yOwn b (.inr (.inl hb))) | exact .inl (yOwn b (.inr (.inr (.inl hb)))) | exact .inl (yOwn b (.inr (.inr (.inr hb)))) | exact .inl (yOwn b hb) | exact .inl (yOwn b (hb.elim .inl (fun e => .inr (.inr (.inr e))))) | exact hb | exact .inr (by omega))
                                                replace hF := g92.fz
                                                replace oF := oF.trans of92
                                                have hfN0 := (FC.mkC (crK q) false (argN f.stack 0) (crSelf s f q) f.self (crG f) 0 (crCode f) [] jo.kind (show 0 < 256 by decide) (show crG f < 4294967296 from Nat.lt_of_le_of_lt (sent_le _ _) fo.gas) jo.value jo.self jo.caller (show (crCode f).length < 1048576 by unfold crCode; rw [len_rd]; exact nh.rd) (show 0 < 16777216 by decide) cF cSe cCa cSv jSv jPc n76 jVa jOf jOl jSt jCo jIn)
                                                obtain ⟨r9, hr9l, kr9, hr9o, hfN⟩ := FC.whole k37 (by simp only [size_spl, Array.size_setIfInBounds]; exact hcz) hfN0 rfl
                                                replace k37 := kr9
                                                refine l_nil ?_
                                                refine hK91 _ _ ?_
                                                refine fg2 0 11 (gS rfl (gS rfl (gS rfl (gS rfl (gS rfl (gS rfl g0)))))) (gS rfl (gS rfl (gS rfl g0))) (fun g => ?_)
                                                refine c_region ?_
                                                exact (by
                                                  refine l_step (y_moveV (et (gS rfl g0) rfl)) ?_
                                                  refine l_step (y_loadB agg_146 sz_146 (et (gS rfl g0) rfl) (by rw [List.size_toArray, hr9l]) (at1B k37)) ?_
                                                  have hU9 := U.size
                                                  refine l_eff (e_callV cal_55 (aC (et (gS rfl g0) rfl) (aC (et g0 rfl) aN)) (yp_enterY (s := { crS s f q with frames := low ++ [waitN (crF1 f) (tkN q) 0 0] }) (YT.close (low := low) (f := (waitN (crF1 f) (tkN q) 0 0)) (msl := msl) (Y := fun b => Y b ∨ w.heap.size ≤ b) ⟨kS, SC.frames hsN _, ⟨hcp, yt.hc.2.1, (by rw [oF.size]; exact yt.hc.2.2)⟩, kF, fc92, kM, (yt.hl.mono hL0).pre (oF.pre (Nat.le_refl _)) (Nat.le_refl _), kR, (show LG _ _ _ _ (crS s f q).now.logs from kL.mono hL0), ((rS 4 _ rfl).trans (hv4.symm.trans hvl)), nbS, nbF, nbM, .inl yt.yS, .inl yt.yF, .inl yt.yM, Nat.lt_of_lt_of_le lM U.size, dSF, dMF, dSM, fun b e => ⟨Nat.lt_of_lt_of_le (dL b e).1 U.size, (dL b e).2⟩, fun b e => G.nb (yt.nbL b e) (dL b e).1, fun b e => .inl (yt.yL b e), fun m hm => ⟨Nat.lt_of_lt_of_le (dR m hm).1 U.size, (dR m hm).2⟩, fun m hm => ⟨G.nb (yt.nbR m hm).1 (dR m hm).1, .inl (yt.nbR m hm).2⟩, yt.ndR⟩ hF rfl) (by show (low ++ [_]).length < _; rw [List.length_append]; have := nh.len; simp only [List.length_cons, List.length_nil]; omega) hr9l hfN rfl (nh.en hfa))) (fun v93 w93 h93 => ?_)
                                                  obtain ⟨rfl, H93, bf93, g93, ym93⟩ := h93
                                                  replace G := G.trans g93 (by intro b hb; first | exact .inl hb | exact .inl (yOwn b (.inl hb)) | exact .inl (yOwn b (.inr (.inl hb))) | exact .inl (yOwn b (.inr (.inr (.inl hb)))) | exact .inl (yOwn b (.inr (.inr (.inr hb)))) | exact .inl (yOwn b hb) | exact .inl (yOwn b (hb.elim .inl (fun e => .inr (.inr (.inr e))))) | exact hb | exact .inr (by omega))
                                                  replace U := U.cc g93.ch (by intro b hb; first | exact .inl hb | exact .inl (yOwn b (.inl hb)) | exact .inl (yOwn b (.inr (.inl hb))) | exact .inl (yOwn b (.inr (.inr (.inl hb)))) | exact .inl (yOwn b (.inr (.inr (.inr hb)))) | exact .inl (yOwn b hb) | exact .inl (yOwn b (hb.elim .inl (fun e => .inr (.inr (.inr e))))) | exact hb | exact .inr (by omega))
                                                  refine l_nil ?_
                                                  refine end0 rfl ?_
                                                  refine ⟨rfl, _, bf93, G, ?_⟩
                                                  rw [creY, if_neg hfa, if_neg (by rw [cB3]; exact Bool.false_ne_true)]
                                                  exact ym93.wk (fun b hb => hb.elim id (fun h9 => .inr (Nat.le_trans hU9 h9))))))))))))))
                        have V68 : Go (fun k => k = b37) w67 H66 w67 H66 := Go.refl hF
                        refine c_seq (fun K94 hK94 => ?_)
                        exact (by
                          refine c_region ?_
                          refine l_step (y_moveV (et (gS rfl (gS rfl (gS rfl g0))) rfl)) ?_
                          refine l_step (y_eql (et g0 rfl) rfl) ?_
                          refine l_nil ?_
                          refine hK94 _ _ ?_
                          refine fg6 0 1 6 10 11 74 (gS rfl (gS rfl (gS rfl (gS rfl (gS rfl (gS rfl (gS rfl g0))))))) (gS rfl (gS rfl (gS rfl (gS rfl (gS rfl (gS rfl g0)))))) (gS rfl (gS rfl (gS rfl (gS rfl g0)))) (gS rfl (gS rfl (gS rfl g0))) (gS rfl (gS rfl g0)) g0 (fun g => ?_)
                          refine c_cond (et g0 rfl) (fun cB2 => ?_) (fun cB2 => ?_)
                          · skip
                            
                            have hq2 : q = 245 := by have := of_decide_eq_true cB2; omega
                            refine c_seq (fun K96 hK96 => ?_)
                            exact (by
                              refine c_region ?_
                              refine l_step (y_fld fld_146_0 (et (gS rfl g0) rfl)) ?_
                              have rl97 := RowIn.le cF (Nat.succ_pos _)
                              simp only [List.length_cons, List.length_nil, Nat.zero_add, Nat.reduceAdd] at rl97
                              refine l_effN (e_store sz_5 (et g0 rfl) (cellsV rfl rfl) rfl (by first | exact one_bL _ | exact one_uL _ | (intro v hv; simp at hv; subst hv; rfl)) k37 (by first | exact Nat.le_trans (by omega) rl97 | exact Nat.le_of_ble_eq_true rfl | simp | omega)) (fun v97 w97 h97 => ?_)
                              obtain ⟨rfl, x97⟩ := h97
                              replace k8 := k8.ch x97.ch (by omega)
                              replace kS := kS.ch x97.ch (by first | omega | (omega))
                              replace kF := kF.ch x97.ch (by first | omega | (omega))
                              replace kM := kM.ch x97.ch (by first | omega | (omega))
                              replace kL := kL.ch x97.ch (by first | omega | (intro q hq hm; have := dL q hq; omega))
                              replace kR := kR.ch x97.ch (by first | omega | (intro m hm; have := dR m hm; omega))
                              replace k37 := x97.blk
                              replace cF : RowIn _ _ [.int .u8 ((6 : Nat) : Int), .int .u8 ((0 : Nat) : Int), .bool false, .slice none 0 0, .slice none 0 0, .slice vx1 vx2 vx3, .slice none 0 0, .slice none 0 0, .slice none 0 0, .slice none 0 0, .slice vy1 (crCode f).length vy2, .slice none 0 0] := k37.rput cF 0 rfl
                              replace cSe := k37.rputo cSe (by first | (left; omega) | (right; simp only [List.length_cons, List.length_nil, length_bL, length_be, jSv.len]; omega))
                              replace cCa := k37.rputo cCa (by first | (left; omega) | (right; simp only [List.length_cons, List.length_nil, length_bL, length_be, jSv.len]; omega))
                              replace cSv := k37.rputo cSv (by first | (left; omega) | (right; simp only [List.length_cons, List.length_nil, length_bL, length_be, jSv.len]; omega))
                              replace G := G.wr x97 (by first | exact .inr f37 | omega | (simp; omega)) nb37
                              replace V68 := V68.wr x97 (by first | exact .inr f37 | omega | (simp; omega)) nb37
                              replace hF := G.fz
                              replace U := U.st x97 (.inr f37)
                              refine l_nil ?_
                              refine hK96 _ _ ?_
                              refine fg5 0 1 6 10 11 (gS rfl (gS rfl (gS rfl (gS rfl (gS rfl (gS rfl g0)))))) (gS rfl (gS rfl (gS rfl (gS rfl (gS rfl g0))))) (gS rfl (gS rfl (gS rfl (gS rfl g0)))) (gS rfl (gS rfl (gS rfl g0))) (gS rfl (gS rfl g0)) (fun g => ?_)
                              refine c_draw Up 10 [(0, true), (1, true), (2, true), (3, true), (4, true), (6, true), (7, true), (5, false), (8, false), (9, true), (10, false)] (by kernel_rfl) (fun w98 hu => ⟨Up.refl _, ?_⟩)
                              replace G := G.tr (Go.ofUp hF hu)
                              replace V68 := V68.tr (Go.ofUp hF hu)
                              replace hF := hF.up hu
                              replace k8 := k8.up hu
                              replace k37 := k37.up hu
                              replace kS := kS.up hu
                              replace kF := kF.up hu
                              replace kM := kM.up hu
                              replace kL := kL.up hu
                              replace kR := kR.up hu
                              replace U := U.tr hu
                              have SU := Up.refl w98
                              exact (by
                                refine p_step (by exact rfl) (y_moveV (et (gS rfl (gS rfl (gS rfl g0))) rfl)) ?_
                                refine p_step (by exact rfl) (y_nil (et g0 rfl)) ?_
                                refine p_step (by exact rfl) (y_fld fld_146_12 (et g0 rfl)) ?_
                                refine p_step (by exact rfl) (y_loadR agg_25 sz_25 (et g0 rfl) (by rw [length_bL, length_be]) (atSR (kF.row rSe))) ?_
                                refine p_step (by exact rfl) (y_moveV (et (gS rfl (gS rfl (gS rfl (gS rfl (gS rfl (gS rfl (gS rfl g0))))))) rfl)) ?_
                                refine p_step (by exact rfl) (y_fld fld_146_10 (et (gS rfl (gS rfl (gS rfl (gS rfl (gS rfl g0))))) rfl)) ?_
                                refine p_step (by exact rfl) (y_load1 one_38 (et g0 rfl) (atS (k37.cell (cF 10 _ rfl)))) ?_
                                refine p_eff (by exact rfl) (e_callV cal_63 (aC (et (gS rfl (gS rfl g0)) rfl) (aC (v := .int .i64 ((3 : Nat) : Int)) rfl aN)) (yp_arg _ _ 3 _ _ _ _ _ _ hF kF (rF 8 _ rfl) (hSt.mono hL0) (by omega) (by first | decide | omega))) (fun v99 w99 h99 => ?_)
                                obtain ⟨u99, n99, q99⟩ := h99
                                replace G := G.tr (Go.ofUp hF u99)
                                replace V68 := V68.tr (Go.ofUp hF u99)
                                replace hF := hF.up u99
                                replace k8 := k8.up u99
                                replace k37 := k37.up u99
                                replace kS := kS.up u99
                                replace kF := kF.up u99
                                replace kM := kM.up u99
                                replace kL := kL.up u99
                                replace kR := kR.up u99
                                replace U := U.tr u99
                                refine ⟨.inr (SU.tr u99), ?_⟩
                                replace SU := SU.tr u99
                                refine p_eff (by exact rfl) (e_callV cal_225 (aC (et (gS rfl (gS rfl (gS rfl (gS rfl g0)))) rfl) (aC (et g0 rfl) (aC (et (gS rfl g0) rfl) aN))) (yp_create2Addr hKec hF fo.self n99 (W_bd (bd_up (bd_W q99) (by decide))) hvy (by unfold crCode; rw [len_rd]; have := nh.rd; omega))) (fun v100 w100 h100 => ?_)
                                obtain ⟨H100, rfl, g100⟩ := h100
                                have hlew100 := g100.le
                                replace nb8 := g100.nb nb8 k8.lt
                                replace nb37 := g100.nb nb37 k37.lt
                                replace nbS := g100.nb nbS kS.lt
                                replace nbF := g100.nb nbF kF.lt
                                replace nbM := g100.nb nbM (Nat.lt_of_lt_of_le lM U.size)
                                replace n4 := n4.mono hlew100
                                replace pa6 := pa6.mono hlew100
                                replace hnn24 := hnn24.mono hlew100
                                replace hbb24 := hbb24.mono hlew100
                                replace hcd24 := hcd24.mono hlew100
                                replace hss24 := hss24.mono hlew100
                                replace n30 := n30.mono hlew100
                                replace hvx := hvx.mono hlew100
                                replace hvy := hvy.mono hlew100
                                replace jSv := jSv.mono hlew100
                                replace n99 := n99.mono hlew100
                                replace hL0 := hL0.trans hlew100
                                replace k8 := k8.up g100.up
                                replace k37 := k37.up g100.up
                                replace kS := kS.up g100.up
                                replace kF := kF.up g100.up
                                replace kM := kM.up g100.up
                                replace kL := kL.up g100.up
                                replace kR := kR.up g100.up
                                replace U := U.tr g100.up
                                replace G := G.tr g100
                                replace V68 := V68.tr g100
                                replace hF := g100.fz
                                refine ⟨.inr (SU.tr g100.up), ?_⟩
                                replace SU := SU.tr g100.up
                                exact (by
                                  refine p_step (by exact rfl) (y_fld fld_146_12 (et (gS rfl (gS rfl (gS rfl (gS rfl (gS rfl (gS rfl (gS rfl (gS rfl (gS rfl g0))))))))) rfl)) ?_
                                  have rl101 := RowIn.le cSe (by simp only [length_bL, length_be, jSv.len]; decide)
                                  simp only [length_bL, length_be, jSv.len] at rl101
                                  refine p_effN (by exact rfl) (e_store sz_25 (et g0 rfl) (cellsV (et (gS rfl g0) rfl) rfl) (by rw [length_bL, length_be]) (by exact one_bL _) k37 (by first | exact Nat.le_trans (by omega) rl101 | (rw [length_bL, length_be]; omega))) (fun v101 w101 h101 => ?_)
                                  obtain ⟨rfl, x101⟩ := h101
                                  replace k8 := k8.ch x101.ch (by omega)
                                  replace kS := kS.ch x101.ch (by first | omega | (omega))
                                  replace kF := kF.ch x101.ch (by first | omega | (omega))
                                  replace kM := kM.ch x101.ch (by first | omega | (omega))
                                  replace kL := kL.ch x101.ch (by first | omega | (intro q hq hm; have := dL q hq; omega))
                                  replace kR := kR.ch x101.ch (by first | omega | (intro m hm; have := dR m hm; omega))
                                  replace k37 := x101.blk
                                  replace cF := k37.rputmo cF (by first | omega | (simp only [length_bL, length_be, List.length_cons, List.length_nil, jSv.len]; omega)) (by first | omega | (simp only [length_bL, length_be, List.length_cons, List.length_nil, jSv.len]; omega))
                                  replace cSe := k37.rputs (by first | omega | (simp only [length_bL, length_be, List.length_cons, List.length_nil, jSv.len]; omega))
                                  replace cCa := k37.rputmo cCa (by first | omega | (simp only [length_bL, length_be, List.length_cons, List.length_nil, jSv.len]; omega)) (by first | omega | (simp only [length_bL, length_be, List.length_cons, List.length_nil, jSv.len]; omega))
                                  replace cSv := k37.rputmo cSv (by first | omega | (simp only [length_bL, length_be, List.length_cons, List.length_nil, jSv.len]; omega)) (by first | omega | (simp only [length_bL, length_be, List.length_cons, List.length_nil, jSv.len]; omega))
                                  replace G := G.wr x101 (by first | exact .inr f37 | omega | (simp; omega)) nb37
                                  replace V68 := V68.wr x101 (by first | exact .inr f37 | omega | (simp; omega)) nb37
                                  replace hF := G.fz
                                  replace U := U.st x101 (.inr f37)
                                  refine ⟨.inl rfl, ?_⟩
                                  refine p_nil ?_
                                  refine fK5 0 1 6 10 11 (gS rfl (gS rfl (gS rfl (gS rfl (gS rfl (gS rfl (gS rfl (gS rfl (gS rfl (gS rfl (gS rfl (gS rfl (gS rfl (gS rfl g0)))))))))))))) (gS rfl (gS rfl (gS rfl (gS rfl (gS rfl (gS rfl (gS rfl (gS rfl (gS rfl (gS rfl (gS rfl (gS rfl (gS rfl g0))))))))))))) (gS rfl (gS rfl (gS rfl (gS rfl (gS rfl (gS rfl (gS rfl (gS rfl (gS rfl (gS rfl (gS rfl (gS rfl g0)))))))))))) (gS rfl (gS rfl (gS rfl (gS rfl (gS rfl (gS rfl (gS rfl (gS rfl (gS rfl (gS rfl (gS rfl g0))))))))))) (gS rfl (gS rfl (gS rfl (gS rfl (gS rfl (gS rfl (gS rfl (gS rfl (gS rfl (gS rfl g0)))))))))) (fun g => ?_)
                                  exact hJ68 _ _ ⟨g, _, _, rfl, (by rw [show crK q = 6 by simp [crK, hq2], show crSelf s f q = (c2N f.self (argN f.stack 3) (crCode f)) by simp [crSelf, hq2]]; exact (FC.mkC 6 false (argN f.stack 0) (c2N f.self (argN f.stack 3) (crCode f)) f.self 0 0 (crCode f) [] (show 6 < 256 by decide) (show 0 < 256 by decide) (show 0 < 4294967296 by decide) hcV (Nat.mod_lt _ A160_pos) fo.self (show (crCode f).length < 1048576 by unfold crCode; rw [len_rd]; exact nh.rd) (show 0 < 16777216 by decide) cF cSe cCa cSv jSv (NV.nil _) (NV.nil _) hvx (NV.nil _) (NV.nil _) (LV.nil _ _ _) hvy (BV.nil _))), (by first | (simp only [size_spl, Array.size_setIfInBounds]; exact hcz) | exact hcz), k37, V68⟩)))
                          · skip
                            
                            have hq2 : q ≠ 245 := by have := of_decide_eq_false cB2; omega
                            refine c_skip ?_
                            refine fK5 0 1 6 10 11 (gS rfl (gS rfl (gS rfl (gS rfl (gS rfl g0))))) (gS rfl (gS rfl (gS rfl (gS rfl g0)))) (gS rfl (gS rfl (gS rfl g0))) (gS rfl (gS rfl g0)) (gS rfl g0) (fun g => ?_)
                            exact hJ68 _ _ ⟨g, _, _, rfl, (by rw [show crK q = 5 by simp [crK, hq2], show crSelf s f q = (crtN f.self (crMe s f).nonce) by simp [crSelf, hq2]]; exact (FC.mkC 5 false (argN f.stack 0) (crtN f.self (crMe s f).nonce) f.self 0 0 (crCode f) [] (show 5 < 256 by decide) (show 0 < 256 by decide) (show 0 < 4294967296 by decide) hcV (Nat.mod_lt _ A160_pos) fo.self (show (crCode f).length < 1048576 by unfold crCode; rw [len_rd]; exact nh.rd) (show 0 < 16777216 by decide) cF cSe cCa cSv jSv (NV.nil _) (NV.nil _) hvx (NV.nil _) (NV.nil _) (LV.nil _ _ _) hvy (BV.nil _))), (by first | (simp only [size_spl, Array.size_setIfInBounds]; exact hcz) | exact hcz), k37, V68⟩)))))))))
end Go.Proofs.YgvaawGreat
