import Derived.Test.YgvaawGreatY39
import Derived.Test.YgvaawGreatBc
set_option maxRecDepth 100000
set_option maxHeartbeats 4000000
set_option linter.unusedSimpArgs false
set_option linter.unusedVariables false
namespace Go.Proofs.YgvaawGreat
open Go
/-! CALL, CALLCODE, DELEGATECALL, STATICCALL -/
def noW : YWorld := ⟨[], [], [], 0, [], [], [], []⟩
def cV (f : YF) (q : Nat) : Nat := if q = 241 ∨ q = 242 then argN f.stack 2 else 0
def ctT (f : YF) : Nat := argN f.stack 1 % A160
/-- the frame as it is first laid down -/
def cFr (kind : Nat) (static : Bool) (value self caller gas ntv : Nat) (code input : List Nat) : YF := ⟨kind, ntv, static, 0, gas, value, 0, 0, [], [], code, input, self, caller, noW⟩
def cK (q : Nat) : Nat := if q = 242 then 7 else if q = 244 then 3 else if q = 250 then 4 else 2
def cSt (f : YF) (q : Nat) : Bool := if q = 250 then true else f.static
def cVal (f : YF) (q : Nat) : Nat := if q = 244 then f.value else cV f q
def cSelf (f : YF) (q : Nat) : Nat := if q = 242 ∨ q = 244 then f.self else ctT f
def cCal (f : YF) (q : Nat) : Nat := if q = 244 then f.caller else f.self
def cSent (f : YF) : Nat := sentN f.gas (argN f.stack 0)
def cG (f : YF) (q : Nat) : Nat := cSent f + if cV f q = 0 then 0 else 2300
def cS (s : YSt) (f : YF) : YSt := { s with now := { s.now with warmA := withA s.now.warmA (ctT f) } }
abbrev cFail (s : YSt) (f : YF) (q n : Nat) : Prop := 6 ≤ n ∨ (acctAt s.now.accts f.self).bal < cV f q
def cIn (f : YF) (q : Nat) : List Nat := rdN f.mem (argN f.stack (tkN q - 4)) (argN f.stack (tkN q - 4 + 1))
def cCode (s : YSt) (f : YF) : List Nat := if natAt (ctT f) = 0 then (acctAt s.now.accts (ctT f)).code else []
def cChild (s : YSt) (f : YF) (q : Nat) : YF := cFr (cK q) (cSt f q) (cVal f q) (cSelf f q) (cCal f q) (cG f q) (natAt (ctT f)) (cCode s f) (cIn f q)
def cWait (f : YF) (q : Nat) : YF := waitN { f with gas := f.gas - cSent f } (tkN q) (argN f.stack (tkN q - 4 + 2)) (argN f.stack (tkN q - 4 + 3))
def cBack (f : YF) (q : Nat) : YF := ansN { f with gas := f.gas - cSent f + cG f q } (tkN q) 0
def callY (s : YSt) (f : YF) (q : Nat) (low : List YF) : YSt := if cFail s f q low.length then { cS s f with frames := low ++ [cBack f q] } else entY { cS s f with frames := low ++ [cWait f q] } (cChild s f q)
structure CallH (s : YSt) (f : YF) (q : Nat) (low : List YF) : Prop where
  hq : q = 241 ∨ q = 242 ∨ q = 244 ∨ q = 250
  len : low.length < 59980
  tk : tkN q ≤ f.stack.length
  stk : f.stack.length < 60000
  pc : f.pc + 1 < 4294967296
  gas : f.gas < 4294960000
  rd : argN f.stack (tkN q - 4 + 1) < 16777216
  code : (cCode s f).length < 1048576
  warmA : s.now.warmA.length < 1000000
  en : ¬ cFail s f q low.length → EnH { cS s f with frames := low ++ [cWait f q] } (cChild s f q)
theorem call_tk {q : Nat} (h : q = 241 ∨ q = 242 ∨ q = 244 ∨ q = 250) : 6 ≤ tkN q ∧ tkN q ≤ 7 ∧ (q = 241 ∨ q = 242 → tkN q = 7) := by
  rcases h with rfl | rfl | rfl | rfl <;> decide
theorem child_rows {A B C D : List Value} (hA : A.length = 12) (hB : B.length = 20) (hC : C.length = 20) : RowIn (A ++ (B ++ (C ++ D))).toArray 0 A ∧ RowIn (A ++ (B ++ (C ++ D))).toArray (0 + 12) B ∧ RowIn (A ++ (B ++ (C ++ D))).toArray (0 + 32) C ∧ RowIn (A ++ (B ++ (C ++ D))).toArray (0 + 52) D := by
  have hs : ∀ (P Q R : List Value), RowIn (P ++ (Q ++ R)).toArray (0 + P.length) Q := fun P Q R => by
    rw [← List.append_assoc]
    exact RowIn.part (RowIn.self (P ++ Q ++ R)) rfl
  refine ⟨RowIn.app _ _, ?_, ?_, ?_⟩
  · exact (hs A B _).cast (by rw [hA])
  · have := hs (A ++ B) C D
    rw [List.append_assoc] at this
    exact this.cast (by rw [List.length_append, hA, hB])
  · have := hs (A ++ (B ++ C)) D []
    rw [List.append_nil, List.append_assoc, List.append_assoc] at this
    exact this.cast (by rw [List.length_append, List.length_append, hA, hB, hC])
theorem FC.mkC {H : Store} {cs : Array Value} {vpc vgas vval voo vol : Value} {ka ca ia : Option Addr} {kc cc ic : Nat} {wc : List Value} (kind : Nat) (static : Bool) (value self caller gas ntv : Nat) (code input : List Nat) (hk : kind < 256) (hn : ntv < 256) (hg : gas < 4294967296) (hv : value < W256) (hs : self < A160) (hc : caller < A160) (hco : code.length < 1048576) (hin : input.length < 16777216)
    (r1 : RowIn cs 0 [.int .u8 (kind : Nat), .int .u8 (ntv : Nat), .bool static, vpc, vgas, vval, voo, vol, .slice ka 0 kc, .slice none 0 0, .slice ca code.length cc, .slice ia input.length ic]) (r2 : RowIn cs (0 + 12) (bL (be 20 self))) (r3 : RowIn cs (0 + 32) (bL (be 20 caller))) (r4 : RowIn cs (0 + 52) wc) (hw : P_world H wc noW) (h1 : NV H vpc 0) (h2 : NV H vgas gas) (h3 : NV H vval value) (h4 : NV H voo 0) (h5 : NV H vol 0) (h6 : LV P_nat 1 H (.slice ka 0 kc) []) (h7 : BV H (.slice ca code.length cc) code) (h8 : BV H (.slice ia input.length ic) input) : FC H cs 0 (cFr kind static value self caller gas ntv code input) (.slice none 0 0) :=
  ⟨⟨hk, hn, (show 0 < 4294967296 by decide), hg, hv, (show 0 < W256 by decide), (show 0 < W256 by decide), hs, hc, (show 0 < 65536 by decide), hco, hin, (show 0 < 16777216 by decide)⟩, vpc, vgas, vval, voo, vol, ka, kc, ca, cc, ia, ic, wc, r1, r2, r3, r4, hw, h1, h2, h3, h4, h5, h6, h7, h8⟩
theorem noW_cells (H : Store) : P_world H [.slice none 0 0, .slice none 0 0, .slice none 0 0, .slice none 0 0, .slice none 0 0, .slice none 0 0, .slice none 0 0, .slice none 0 0] noW :=
  ⟨_, _, _, _, _, _, _, _, rfl, LV.nil _ _ H, LV.nil _ _ H, LV.nil _ _ H, NV.nil H, (show 0 < 18446744073709551616 by decide), LV.nil _ _ H, LV.nil _ _ H, LV.nil _ _ H, LV.nil _ _ H, none, 0, rfl⟩
theorem argW {H : Store} {v : Value} {l : List Nat} (h : LV P_nat 1 H v l) (i : Nat) : argN l i < W256 := by
  by_cases hi : i < l.length
  · rw [arg_in hi]
    obtain ⟨c, v', _, _, hb⟩ := h.mem (List.getElem_mem (show l.length - 1 - i < l.length by omega))
    exact hb
  · rw [arg_out hi]; decide
theorem sent_le (a b : Nat) : sentN a b ≤ a := by unfold sentN; omega
theorem child_len {a b c d e f g h i j k l : Value} {x y : Nat} {D : List Value} (hD : D.length = 8 := by rfl) : ([a, b, c, d, e, f, g, h, i, j, k, l] ++ (bL (be 20 x) ++ (bL (be 20 y) ++ D))).length = 60 := by
  simp only [List.length_append, length_bL, length_be, hD, List.length_cons, List.length_nil]
theorem child_one {a b c d e f g h i j k l : Value} {x y : Nat} (ha : a.one1 = true) (hb : b.one1 = true) (hc : c.one1 = true) (hd : d.one1 = true) (he : e.one1 = true) (hf : f.one1 = true) (hg : g.one1 = true) (hh : h.one1 = true) (hi : i.one1 = true) (hj : j.one1 = true) (hk : k.one1 = true) (hl : l.one1 = true) : ∀ v ∈ [a, b, c, d, e, f, g, h, i, j, k, l] ++ (bL (be 20 x) ++ (bL (be 20 y) ++ [.slice none 0 0, .slice none 0 0, .slice none 0 0, .slice none 0 0, .slice none 0 0, .slice none 0 0, .slice none 0 0, .slice none 0 0])), v.one1 = true := by
  intro v hv
  rcases List.mem_append.1 hv with hv | hv
  · simp only [List.mem_cons, List.not_mem_nil, or_false] at hv
    rcases hv with rfl | rfl | rfl | rfl | rfl | rfl | rfl | rfl | rfl | rfl | rfl | rfl <;> assumption
  · rcases List.mem_append.1 hv with hv | hv
    · exact one_bL _ v hv
    · rcases List.mem_append.1 hv with hv | hv
      · exact one_bL _ v hv
      · simp only [List.mem_cons, List.not_mem_nil, or_false] at hv
        rcases hv with rfl | rfl | rfl | rfl | rfl | rfl | rfl | rfl <;> rfl
theorem YM.wk {w : World} {H : Store} {bs bf : Nat} {s : YSt} {Y Y' : Nat → Prop} (h : YM w H bs s Y bf) (hy : ∀ b, Y b → Y' b) : YM w H bs s Y' bf := by
  obtain ⟨cs, vf, vl, fs, ms, ol, h1, h2, h3, h4, h5, h6, h7, h8⟩ := h.ex
  exact ⟨h.fz, cs, vf, vl, fs, ms, ol, h1, h2, h3, h4, h5, h6, h7, ⟨⟨h8.s.1, hy _ h8.s.2⟩, fun e => ⟨(h8.f e).1, (h8.f e).2.1, (h8.f e).2.2.1, hy _ (h8.f e).2.2.2⟩, fun m hm => ⟨(h8.m m hm).1, (h8.m m hm).2.1, (h8.m m hm).2.2.1, (h8.m m hm).2.2.2.1, (h8.m m hm).2.2.2.2.1, hy _ (h8.m m hm).2.2.2.2.2⟩, h8.nd, fun b e => ⟨(h8.l b e).1, (h8.l b e).2.1, hy _ (h8.l b e).2.2.1, (h8.l b e).2.2.2⟩⟩⟩
theorem yp_enterCall {w : World} {H : Store} (hF : Fz w H) {bs bf : Nat} {s : YSt} {Y : Nat → Prop} {low : List YF} {f : YF} (hY : YM w H bs s Y bf) (hfr : s.frames = low ++ [f]) (q : Nat) (hq : q < 256) (nh : CallH s f q low) :
    Ret 150 [.pointer (some ⟨bs, 0, none⟩), .pointer (some ⟨bf, low.length * 60, none⟩), .int .u8 q] w (fun v w' => v = .tuple #[] ∧ ∃ H' bf', Go Y w H w' H' ∧ YM w' H' bs (callY s f q low) (fun b => Y b ∨ w.heap.size ≤ b) bf') := by
  obtain ⟨cs, fs, cap, vm, bm, msl, ol, vl, yt⟩ := hY.top hfr
  have kS := yt.kS
  have hs := yt.hs
  have kF := yt.kF
  have hf := yt.hf
  have kM := yt.kM
  have kR := yt.kR
  have kL := yt.kL
  have hvl := yt.hvl
  have nbS := yt.nbS
  have nbF := yt.nbF
  have nbM := yt.nbM
  have lM := yt.lM
  have dSF := yt.dSF
  have dMF := yt.dMF
  have dSM := yt.dSM
  have dL := yt.dL
  have dR := yt.dR
  have hcp := yt.hc.1
  have yOwn : ∀ b, (b = bs ∨ b = bf ∨ b = bm ∨ ol = some b) → Y b := fun b hb => hb.elim (fun e => e ▸ yt.yS) (fun hb => hb.elim (fun e => e ▸ yt.yF) (fun hb => hb.elim (fun e => e ▸ yt.yM) (yt.yL b)))
  obtain ⟨am, rfl⟩ := kM.val
  obtain ⟨aa, ac, wa, wc, sa, sc, vr, la, lc, ta, tc, ma, mc, ga, gc, oa, oc, ra, rc, vlim, vtx, vleft, vpr, vtot, rS, rOr, rMd, hAc, hWA, hWS, hRf, hTm, hMd, hGn, hSr, hRt, hLm, hTx, hLf, hPr, hTt⟩ := hs.ex
  have so := hs.ok
  have so1 := so.accts
  have so2 := so.warmA
  have so3 := so.warmS
  have so4 := so.temps
  have so5 := so.start
  have so6 := so.logs
  have so7 := so.made
  have so8 := so.gone
  have so9 := so.ret
  have eC := hs.env
  obtain ⟨vpc, vgas, vval, voo, vol, ka, kc, ca, cc, ia, ic, svc, rF, rSe, rCa, rSv, hSv, hPc, hGa, hVa, hOf, hOl, hSt, hCo, hIn⟩ := hf.ex
  have fo := hf.ok
  have fo1 := fo.stack
  have fo2 := fo.code
  have fo3 := fo.input
  have fo4 := fo.mem
  have lS := kS.lt
  have lF := kF.lt
  have hv4 := rS 4 _ rfl
  have oF := Out.refl fs (low.length * 60) 60
  have htk := call_tk nh.hq
  have htk1 := htk.1
  have htk2 := htk.2.1
  clear htk
  have hstk := nh.tk
  have hln := nh.len
  have hcV : cV f q < W256 := by unfold cV; split; exact argW hSt _; decide
  refine enter (n := 180) Hvaa.func150 rfl rfl (Nat.le_of_ble_eq_true rfl) ?_
  have U : Ch (fun k => Y k) w w := Ch.refl _ w
  have G : Go (fun k => Y k) w H w H := Go.refl hF
  have hL0 : Le H H := Le.refl H
  refine c_seq (fun K1 hK1 => ?_)
  exact (by
    refine c_region ?_
    refine l_step (y_moveV (et (gS rfl (gS rfl g0)) rfl)) ?_
    refine l_eff (e_callV cal_137 (aC (et g0 rfl) aN) (arity_spec _ _ hq)) (fun v2 w2 h2 => ?_)
    obtain ⟨rfl, u2⟩ := h2
    replace G := G.tr (Go.ofUp hF u2)
    replace hF := hF.up u2
    replace kS := kS.up u2
    replace kF := kF.up u2
    replace kM := kM.up u2
    replace kL := kL.up u2
    replace kR := kR.up u2
    replace U := U.tr u2
    refine l_step (y_moveV (et g0 rfl)) ?_
    refine l_step (y_ext (et g0 rfl) rfl) ?_
    refine l_step (y_ext (et (gS rfl g0) rfl) rfl) ?_
    refine l_step (y_ext (et (gS rfl (gS rfl g0)) rfl) rfl) ?_
    refine l_step (y_assignV (et (gS rfl (gS rfl g0)) rfl)) ?_
    refine l_step (y_assignV (et (gS rfl (gS rfl g0)) rfl)) ?_
    refine l_step (y_assignV (et (gS rfl (gS rfl g0)) rfl)) ?_
    refine l_nil ?_
    refine hK1 _ _ ?_
    refine fg4 2 1 0 6 (gS rfl (gS rfl (gS rfl (gS rfl (gS rfl (gS rfl (gS rfl (gS rfl (gS rfl (gS rfl (gS rfl g0))))))))))) (gS rfl (gS rfl (gS rfl (gS rfl (gS rfl (gS rfl (gS rfl (gS rfl (gS rfl (gS rfl g0)))))))))) (gS rfl (gS rfl (gS rfl (gS rfl (gS rfl (gS rfl (gS rfl (gS rfl (gS rfl g0))))))))) (gS rfl (gS rfl g0)) (fun g => ?_)
    refine c_seq (fun K3 hK3 => ?_)
    exact (by
      refine c_region ?_
      refine l_step (y_moveV (et (gS rfl (gS rfl g0)) rfl)) ?_
      refine l_eff (e_callV cal_63 (aC (et g0 rfl) (aC (v := .int .i64 ((0 : Nat) : Int)) rfl aN)) (yp_arg _ _ 0 _ _ _ _ _ _ hF kF (rF 8 _ rfl) (hSt.mono hL0) (by omega) (by first | decide | omega))) (fun v4 w4 h4 => ?_)
      obtain ⟨u4, n4, q4⟩ := h4
      replace G := G.tr (Go.ofUp hF u4)
      replace hF := hF.up u4
      replace kS := kS.up u4
      replace kF := kF.up u4
      replace kM := kM.up u4
      replace kL := kL.up u4
      replace kR := kR.up u4
      replace U := U.tr u4
      refine l_step (y_assignV (et g0 rfl)) ?_
      refine l_nil ?_
      refine hK3 _ _ ?_
      refine fg5 2 1 0 6 9 (gS rfl (gS rfl (gS rfl (gS rfl (gS rfl (gS rfl g0)))))) (gS rfl (gS rfl (gS rfl (gS rfl (gS rfl g0))))) (gS rfl (gS rfl (gS rfl (gS rfl g0)))) (gS rfl (gS rfl (gS rfl g0))) g0 (fun g => ?_)
      refine c_seq (fun K5 hK5 => ?_)
      exact (by
        refine c_region ?_
        refine l_step (y_moveV (et (gS rfl (gS rfl (gS rfl g0))) rfl)) ?_
        refine l_eff (e_callV cal_63 (aC (et g0 rfl) (aC (v := .int .i64 ((1 : Nat) : Int)) rfl aN)) (yp_arg _ _ 1 _ _ _ _ _ _ hF kF (rF 8 _ rfl) (hSt.mono hL0) (by omega) (by first | decide | omega))) (fun v6 w6 h6 => ?_)
        obtain ⟨u6, n6, q6⟩ := h6
        replace G := G.tr (Go.ofUp hF u6)
        replace hF := hF.up u6
        replace kS := kS.up u6
        replace kF := kF.up u6
        replace kM := kM.up u6
        replace kL := kL.up u6
        replace kR := kR.up u6
        replace U := U.tr u6
        refine l_eff (e_callV cal_147 (aC (et g0 rfl) aN) (yp_addrOf hF n6 (bd_up (bd_W q6) (by decide)))) (fun v7 w7 h7 => ?_)
        obtain ⟨rfl, u7⟩ := h7
        replace G := G.tr (Go.ofUp hF u7)
        replace hF := hF.up u7
        replace kS := kS.up u7
        replace kF := kF.up u7
        replace kM := kM.up u7
        replace kL := kL.up u7
        replace kR := kR.up u7
        replace U := U.tr u7
        refine l_eff (e_alloc zr_25) (fun v8 w8 h8 => ?_)
        obtain ⟨b8, rfl, n8⟩ := h8
        have f8 : w.heap.size ≤ b8 := Nat.le_trans U.size n8.fresh
        have nb8 := hF.nb n8.fresh
        replace G := G.tr (Go.ofUp hF n8.up)
        replace hF := hF.up n8.up
        replace kS := kS.up n8.up
        replace kF := kF.up n8.up
        replace kM := kM.up n8.up
        replace kL := kL.up n8.up
        replace kR := kR.up n8.up
        replace U := U.tr n8.up
        have k8 := n8.blk
        exact (by
          refine l_effN (e_store sz_25 (et g0 rfl) (cellsV (et (gS rfl g0) rfl) rfl) (by rw [length_bL, length_be]) (by exact one_bL _) k8 (by exact Nat.le_of_ble_eq_true rfl)) (fun v9 w9 h9 => ?_)
          obtain ⟨rfl, x9⟩ := h9
          replace kS := kS.ch x9.ch (by first | omega | (omega))
          replace kF := kF.ch x9.ch (by first | omega | (omega))
          replace kM := kM.ch x9.ch (by first | omega | (omega))
          replace kL := kL.ch x9.ch (by first | omega | (intro q hq hm; have := dL q hq; omega))
          replace kR := kR.ch x9.ch (by first | omega | (intro m hm; have := dR m hm; omega))
          replace k8 := x9.blk.full (by rw [length_bL, length_be]; rfl)
          replace G := G.wr x9 (by first | exact .inr f8 | omega | (simp; omega)) nb8
          replace hF := G.fz
          replace U := U.st x9 (.inr f8)
          refine l_nil ?_
          refine hK5 _ _ ?_
          refine fg6 2 1 0 6 9 10 (gS rfl (gS rfl (gS rfl (gS rfl (gS rfl (gS rfl (gS rfl (gS rfl g0)))))))) (gS rfl (gS rfl (gS rfl (gS rfl (gS rfl (gS rfl (gS rfl g0))))))) (gS rfl (gS rfl (gS rfl (gS rfl (gS rfl (gS rfl g0)))))) (gS rfl (gS rfl (gS rfl (gS rfl (gS rfl g0))))) (gS rfl (gS rfl (gS rfl (gS rfl g0)))) g0 (fun g => ?_)
          refine c_seq (fun K10 hK10 => ?_)
          exact (by
            refine c_draw Up 4 [(0, true), (1, true), (2, true), (3, true), (4, false)] (by kernel_rfl) (fun w11 hu => ⟨Up.refl _, ?_⟩)
            replace G := G.tr (Go.ofUp hF hu)
            replace hF := hF.up hu
            replace k8 := k8.up hu
            replace kS := kS.up hu
            replace kF := kF.up hu
            replace kM := kM.up hu
            replace kL := kL.up hu
            replace kR := kR.up hu
            replace U := U.tr hu
            have SU := Up.refl w11
            refine p_step (by exact rfl) (y_moveV (et (gS rfl (gS rfl (gS rfl g0))) rfl)) ?_
            refine p_step (by exact rfl) (y_nil (et g0 rfl)) ?_
            refine p_step (by exact rfl) (y_fld fld_102_0 (et g0 rfl)) ?_
            refine p_step (by exact rfl) (y_loadB agg_25 sz_25 (et (gS rfl (gS rfl (gS rfl g0))) rfl) (by rw [List.size_toArray, length_bL, length_be]) (atSB k8)) ?_
            refine p_eff (by exact rfl) (e_callV cal_51 (aC (et (gS rfl g0) rfl) (aC (et g0 rfl) aN)) (yp_warm _ _ _ _ _ _ _ _ _ hF kS nbS (rS 1 _ rfl) (hWA.mono hL0) (Nat.mod_lt _ A160_pos) (by omega))) (fun v12 w12 h12 => ?_)
            obtain ⟨rfl, z12, H12, g12, lv12, kx12⟩ := h12
            have hlew12 := g12.le
            replace nb8 := g12.nb nb8 k8.lt
            replace nbS := g12.nb nbS kS.lt
            replace nbF := g12.nb nbF kF.lt
            replace nbM := g12.nb nbM (Nat.lt_of_lt_of_le lM U.size)
            replace n4 := n4.mono hlew12
            replace n6 := n6.mono hlew12
            replace hL0 := hL0.trans hlew12
            replace k8 := k8.ch g12.ch (by omega)
            replace kF := kF.ch g12.ch (by omega)
            replace kM := kM.ch g12.ch (by omega)
            replace kL := kL.ch g12.ch (by intro q hq hm; have := dL q hq; omega)
            replace kR := kR.ch g12.ch (by intro m hm; have := dR m hm; omega)
            replace kS := kx12
            replace U := U.cc g12.ch (by intro b hb; first | exact .inl hb | exact .inl (yOwn b (.inl hb)) | exact .inl (yOwn b (.inr (.inl hb))) | exact .inl (yOwn b (.inr (.inr (.inl hb)))) | exact .inl (yOwn b (.inr (.inr (.inr hb)))) | exact .inl (yOwn b hb) | exact .inl (yOwn b (hb.elim .inl (fun e => .inr (.inr (.inr e))))) | exact hb | exact .inr (by omega))
            replace G := G.trans g12 (by intro b hb; first | exact .inl hb | exact .inl (yOwn b (.inl hb)) | exact .inl (yOwn b (.inr (.inl hb))) | exact .inl (yOwn b (.inr (.inr (.inl hb)))) | exact .inl (yOwn b (.inr (.inr (.inr hb)))) | exact .inl (yOwn b hb) | exact .inl (yOwn b (hb.elim .inl (fun e => .inr (.inr (.inr e))))) | exact hb | exact .inr (by omega))
            replace hF := g12.fz
            obtain ⟨xa12, xc12, rfl, hxl12, hxc12⟩ := lv12.val
            replace eC := kS.eset eC (by omega)
            replace rS : RowIn _ _ [.slice aa s.now.accts.length ac, _, .slice sa s.now.warmS.length sc, vr, .slice la s.now.logs.length lc, .slice ta s.now.temps.length tc, .slice ma s.now.made.length mc, .slice ga s.now.gone.length gc, .slice oa s.start.length oc, .slice (some ⟨bf, 0, none⟩) (low.length + 1) cap, .slice ra s.ret.length rc, .int .u8 (s.phase : Nat), .int .u8 (s.status : Nat), .int .u8 (s.applied : Nat), vlim, vtx, vleft, vpr, vtot] := kS.rset rS 1 rfl
            replace rOr := kS.rseto rOr (by first | (left; omega) | (right; simp only [List.length_cons, List.length_nil, length_bL, length_be]; omega))
            replace rMd := kS.rseto rMd (by first | (left; omega) | (right; simp only [List.length_cons, List.length_nil, length_bL, length_be]; omega))
            refine ⟨.inl rfl, ?_⟩
            refine p_nil ?_
            refine hK10 _ _ ?_
            refine fg6 2 1 0 6 9 10 (gS rfl (gS rfl (gS rfl (gS rfl (gS rfl (gS rfl (gS rfl (gS rfl (gS rfl (gS rfl g0)))))))))) (gS rfl (gS rfl (gS rfl (gS rfl (gS rfl (gS rfl (gS rfl (gS rfl (gS rfl g0))))))))) (gS rfl (gS rfl (gS rfl (gS rfl (gS rfl (gS rfl (gS rfl (gS rfl g0)))))))) (gS rfl (gS rfl (gS rfl (gS rfl (gS rfl (gS rfl (gS rfl g0))))))) (gS rfl (gS rfl (gS rfl (gS rfl (gS rfl (gS rfl g0)))))) (gS rfl (gS rfl (gS rfl (gS rfl (gS rfl g0))))) (fun g => ?_)
            refine c_seq (fun K13 hK13 => ?_)
            exact (by
              refine c_region ?_
              refine l_step y_assignC ?_
              refine l_nil ?_
              refine hK13 _ _ ?_
              refine c_seq (fun K14 hK14 => ?_)
              have hJ14 : ∀ (s_ : Nat → Value) (W14 : World), (∃ (g : Nat → Value) (Hk14 : Store) (vv : Value), s_ = (upd (upd (upd (upd (upd (upd (upd g 0 (.pointer (some ⟨bs, 0, none⟩))) 1 (.pointer (some ⟨bf, low.length * 60, none⟩))) 2 (.int .u8 (q : Nat))) 6 (.int .i64 (tkN q : Nat))) 9 v4) 10 (.pointer (some ⟨b8, 0, none⟩))) 11 vv) ∧ (NV Hk14 vv (cV f q)) ∧ Go (fun k => False) w12 H12 W14 Hk14) → K14 (mk 180 s_) W14 := by
                intro s_ W14 hI
                obtain ⟨g, Hk14, vv, rfl, hvv, V14⟩ := hI
                have hle14 := V14.le
                replace nb8 := V14.nb nb8 k8.lt
                replace nbS := V14.nb nbS kS.lt
                replace nbF := V14.nb nbF kF.lt
                replace nbM := V14.nb nbM (Nat.lt_of_lt_of_le lM U.size)
                replace n4 := n4.mono hle14
                replace n6 := n6.mono hle14
                replace lv12 := lv12.mono hle14
                replace hL0 := hL0.trans hle14
                replace G := G.trans V14 (by intro b hb; first | exact hb.elim | omega | (simp at hb ⊢; omega))
                replace hF := V14.fz
                replace k8 := k8.ch V14.ch (by exact fun h => h)
                replace kS := kS.ch V14.ch (by first | exact fun h => h | exact fun _ h => h.elim | exact fun _ _ h => h)
                replace kF := kF.ch V14.ch (by first | exact fun h => h | exact fun _ h => h.elim | exact fun _ _ h => h)
                replace kM := kM.ch V14.ch (by first | exact fun h => h | exact fun _ h => h.elim | exact fun _ _ h => h)
                replace kL := kL.ch V14.ch (by first | exact fun h => h | exact fun _ h => h.elim | exact fun _ _ h => h)
                replace kR := kR.ch V14.ch (by first | exact fun h => h | exact fun _ h => h.elim | exact fun _ _ h => h)
                replace U := U.cc V14.ch (by intro b hb; first | exact hb.elim | omega | (simp at hb ⊢; omega))
                refine hK14 _ _ ?_
                refine c_seq (fun K15 hK15 => ?_)
                exact (by
                  refine c_region ?_
                  refine l_step (y_moveV (et (gS rfl (gS rfl (gS rfl g0))) rfl)) ?_
                  refine l_step (y_sub (et g0 rfl) rfl (subIN (y := 4) ?_ ?_)) ?_
                  omega
                  omega
                  refine l_step (y_assignV (et g0 rfl)) ?_
                  refine l_nil ?_
                  refine hK15 _ _ ?_
                  refine fg8 0 1 2 6 9 10 11 12 (gS rfl (gS rfl (gS rfl (gS rfl (gS rfl (gS rfl (gS rfl (gS rfl (gS rfl g0))))))))) (gS rfl (gS rfl (gS rfl (gS rfl (gS rfl (gS rfl (gS rfl (gS rfl g0)))))))) (gS rfl (gS rfl (gS rfl (gS rfl (gS rfl (gS rfl (gS rfl g0))))))) (gS rfl (gS rfl (gS rfl (gS rfl (gS rfl (gS rfl g0)))))) (gS rfl (gS rfl (gS rfl (gS rfl (gS rfl g0))))) (gS rfl (gS rfl (gS rfl (gS rfl g0)))) (gS rfl (gS rfl (gS rfl g0))) g0 (fun g => ?_)
                  refine c_seq (fun K16 hK16 => ?_)
                  exact (by
                    refine fgv8 0 1 2 6 9 10 11 12 (gS rfl (gS rfl (gS rfl (gS rfl (gS rfl (gS rfl (gS rfl g0))))))) (gS rfl (gS rfl (gS rfl (gS rfl (gS rfl (gS rfl g0)))))) (gS rfl (gS rfl (gS rfl (gS rfl (gS rfl g0))))) (gS rfl (gS rfl (gS rfl (gS rfl g0)))) (gS rfl (gS rfl (gS rfl g0))) (gS rfl (gS rfl g0)) (gS rfl g0) g0 (fun g z0 z1 z2 z6 z9 z10 z11 z12 e0 e1 e2 e6 e9 e10 e11 e12 => ?_)
                    refine c_drawJ (fun s_ w_ => ∃ (g : Nat → Value) (b18 : Nat) (vx : Value) (Hj17 : Store), s_ = (upd (upd (upd (upd (upd (upd (upd (upd (upd g 0 z0) 1 z1) 2 z2) 6 z6) 9 z9) 10 z10) 11 z11) 12 z12) 13 (.pointer (some ⟨b18, 0, none⟩))) ∧ Go No W14 Hk14 w_ Hj17 ∧ W14.heap.size ≤ b18 ∧ Blk w_ b18 (([Value.int .u8 ((2 : Nat) : Int), Value.int .u8 ((0 : Nat) : Int), Value.bool f.static, Value.slice none 0 0, Value.slice none 0 0, vx, Value.slice none 0 0, Value.slice none 0 0, Value.slice none 0 0, Value.slice none 0 0, Value.slice none 0 0, Value.slice none 0 0] ++ (bL (be 20 (argN f.stack 1 % A160)) ++ (bL (be 20 f.self) ++ [Value.slice none 0 0, Value.slice none 0 0, Value.slice none 0 0, Value.slice none 0 0, Value.slice none 0 0, Value.slice none 0 0, Value.slice none 0 0, Value.slice none 0 0]))).toArray) ∧ ¬ Hj17.has b18 ∧ (NV Hj17 vx (cV f q))) Up 13 (.pure 0 (.pure 1 (.pure 2 (.pure 3 (.pure 4 (.pure 6 (.pure 7 (.pure 8 (.pure 9 (.pure 10 (.two 5 (.pure 11 (.eff 12 (.eff 13 .fin))) 12 (.eff 5 (.pure 11 (.eff 13 .fin)))))))))))))) (by kernel_rfl) (fun w19 hu => ⟨Up.refl _, ?_⟩) ?_
                    · skip
                      subst e0 e1 e2 e6 e9 e10 e11 e12
                      replace G := G.tr (Go.ofUp hF hu)
                      replace hF := hF.up hu
                      replace k8 := k8.up hu
                      replace kS := kS.up hu
                      replace kF := kF.up hu
                      replace kM := kM.up hu
                      replace kL := kL.up hu
                      replace kR := kR.up hu
                      replace U := U.tr hu
                      have SU := Up.refl w19
                      have V17 : Go No W14 Hk14 w19 Hk14 := ⟨hu, hF, Le.refl _, fun _ h => .inl h⟩
                      refine t_step (by exact rfl) (y_moveV (et (gS rfl (gS rfl (gS rfl (gS rfl (gS rfl (gS rfl g0)))))) rfl)) ?_
                      refine t_step (by exact rfl) (y_nil (et g0 rfl)) ?_
                      refine t_step (by exact rfl) (y_fld fld_146_2 (et g0 rfl)) ?_
                      refine t_step (by exact rfl) (y_load1 one_4 (et g0 rfl) (atS (kF.cell (rF 2 _ rfl)))) ?_
                      refine t_step (by exact rfl) (y_moveV (et (gS rfl (gS rfl (gS rfl (gS rfl (gS rfl g0))))) rfl)) ?_
                      refine t_step (by exact rfl) (y_loadB agg_25 sz_25 (et (gS rfl (gS rfl (gS rfl (gS rfl (gS rfl (gS rfl (gS rfl g0))))))) rfl) (by rw [List.size_toArray, length_bL, length_be]) (atSB k8)) ?_
                      refine t_step (by exact rfl) (y_moveV (et (gS rfl (gS rfl (gS rfl (gS rfl (gS rfl (gS rfl (gS rfl (gS rfl (gS rfl (gS rfl (gS rfl (gS rfl g0)))))))))))) rfl)) ?_
                      refine t_step (by exact rfl) (y_nil (et g0 rfl)) ?_
                      refine t_step (by exact rfl) (y_fld fld_146_12 (et g0 rfl)) ?_
                      refine t_step (by exact rfl) (y_loadR agg_25 sz_25 (et g0 rfl) (by rw [length_bL, length_be]) (atSR (kF.row rSe))) ?_
                      refine t_two ?_ ?_
                      · skip
                        refine t_eff (by exact rfl) (e_callV cal_123 (aC (et (gS rfl (gS rfl (gS rfl (gS rfl (gS rfl g0))))) rfl) aN) (nat_normN hF hvv (bd_sm (bd_W hcV) (by decide)))) (fun v20 w20 h20 => ?_)
                        obtain ⟨H20, g20, n20⟩ := h20
                        have hlew20 := g20.le
                        replace nb8 := g20.nb nb8 k8.lt
                        replace nbS := g20.nb nbS kS.lt
                        replace nbF := g20.nb nbF kF.lt
                        replace nbM := g20.nb nbM (Nat.lt_of_lt_of_le lM U.size)
                        replace n4 := n4.mono hlew20
                        replace n6 := n6.mono hlew20
                        replace lv12 := lv12.mono hlew20
                        replace hvv := hvv.mono hlew20
                        replace hL0 := hL0.trans hlew20
                        replace k8 := k8.up g20.up
                        replace kS := kS.up g20.up
                        replace kF := kF.up g20.up
                        replace kM := kM.up g20.up
                        replace kL := kL.up g20.up
                        replace kR := kR.up g20.up
                        replace U := U.tr g20.up
                        replace G := G.tr g20
                        replace V17 := V17.tr g20
                        replace hF := g20.fz
                        have q20 := (bd_W hcV)
                        refine ⟨.inr (SU.tr g20.up), ?_⟩
                        replace SU := SU.tr g20.up
                        obtain ⟨na20, nn20, nc20, rfl⟩ := n20.sl
                        refine t_step (by exact rfl) ((y_bldCall (bL (be 20 (argN f.stack 1 % A160))) (bL (be 20 f.self)) (by rw [length_bL, length_be]) (by rw [length_bL, length_be]) (et (gS rfl (gS rfl (gS rfl (gS rfl (gS rfl (gS rfl (gS rfl g0))))))) rfl) (et g0 rfl) (et (gS rfl (gS rfl (gS rfl (gS rfl (gS rfl g0))))) rfl) (et (gS rfl g0) rfl))) ?_
                        refine t_one ?_
                        refine t_eff (by exact rfl) (e_alloc zr_146) (fun v21 w21 h21 => ?_)
                        obtain ⟨b21, rfl, n21⟩ := h21
                        have d8_21 : b8 < b21 := Nat.lt_of_lt_of_le k8.lt n21.fresh
                        have f21 : w.heap.size ≤ b21 := Nat.le_trans U.size n21.fresh
                        have nb21 := hF.nb n21.fresh
                        have fS21 := Nat.le_trans SU.size n21.fresh
                        have fV17_21 := Nat.le_trans V17.ch.size n21.fresh
                        replace G := G.tr (Go.ofUp hF n21.up)
                        replace V17 := V17.tr (Go.ofUp hF n21.up)
                        replace hF := hF.up n21.up
                        replace k8 := k8.up n21.up
                        replace kS := kS.up n21.up
                        replace kF := kF.up n21.up
                        replace kM := kM.up n21.up
                        replace kL := kL.up n21.up
                        replace kR := kR.up n21.up
                        replace U := U.tr n21.up
                        have k21 := n21.blk
                        refine ⟨.inr (SU.tr n21.up), ?_⟩
                        replace SU := SU.tr n21.up
                        refine t_one ?_
                        refine t_effN (by exact rfl) (e_store sz_146 (et g0 rfl) (cellsV (et (gS rfl g0) rfl) rfl) child_len (by exact child_one rfl rfl rfl rfl rfl rfl rfl rfl rfl rfl rfl rfl) k21 (by exact Nat.le_of_ble_eq_true rfl)) (fun v22 w22 h22 => ?_)
                        obtain ⟨rfl, x22⟩ := h22
                        replace k8 := k8.ch x22.ch (by omega)
                        replace kS := kS.ch x22.ch (by first | omega | (omega))
                        replace kF := kF.ch x22.ch (by first | omega | (omega))
                        replace kM := kM.ch x22.ch (by first | omega | (omega))
                        replace kL := kL.ch x22.ch (by first | omega | (intro q hq hm; have := dL q hq; omega))
                        replace kR := kR.ch x22.ch (by first | omega | (intro m hm; have := dR m hm; omega))
                        replace k21 := x22.blk.full (by rw [child_len]; rfl)
                        replace G := G.wr x22 (by first | exact .inr f21 | omega | (simp; omega)) nb21
                        replace V17 := V17.wr x22 (by first | exact .inr f21 | omega | (simp; omega)) nb21
                        replace hF := G.fz
                        replace U := U.st x22 (.inr f21)
                        refine ⟨.inl rfl, ?_⟩
                        refine tl9 0 1 2 6 9 10 11 12 13 (gS rfl (gS rfl (gS rfl (gS rfl (gS rfl (gS rfl (gS rfl (gS rfl (gS rfl (gS rfl (gS rfl (gS rfl (gS rfl (gS rfl (gS rfl (gS rfl (gS rfl (gS rfl (gS rfl (gS rfl g0)))))))))))))))))))) (gS rfl (gS rfl (gS rfl (gS rfl (gS rfl (gS rfl (gS rfl (gS rfl (gS rfl (gS rfl (gS rfl (gS rfl (gS rfl (gS rfl (gS rfl (gS rfl (gS rfl (gS rfl (gS rfl g0))))))))))))))))))) (gS rfl (gS rfl (gS rfl (gS rfl (gS rfl (gS rfl (gS rfl (gS rfl (gS rfl (gS rfl (gS rfl (gS rfl (gS rfl (gS rfl (gS rfl (gS rfl (gS rfl (gS rfl g0)))))))))))))))))) (gS rfl (gS rfl (gS rfl (gS rfl (gS rfl (gS rfl (gS rfl (gS rfl (gS rfl (gS rfl (gS rfl (gS rfl (gS rfl (gS rfl (gS rfl (gS rfl (gS rfl g0))))))))))))))))) (gS rfl (gS rfl (gS rfl (gS rfl (gS rfl (gS rfl (gS rfl (gS rfl (gS rfl (gS rfl (gS rfl (gS rfl (gS rfl (gS rfl (gS rfl (gS rfl g0)))))))))))))))) (gS rfl (gS rfl (gS rfl (gS rfl (gS rfl (gS rfl (gS rfl (gS rfl (gS rfl (gS rfl (gS rfl (gS rfl (gS rfl (gS rfl (gS rfl g0))))))))))))))) (gS rfl (gS rfl (gS rfl (gS rfl (gS rfl (gS rfl (gS rfl (gS rfl (gS rfl (gS rfl (gS rfl (gS rfl (gS rfl (gS rfl g0)))))))))))))) (gS rfl (gS rfl (gS rfl (gS rfl (gS rfl (gS rfl (gS rfl (gS rfl (gS rfl (gS rfl (gS rfl (gS rfl (gS rfl g0))))))))))))) g0 (fun g => ?_)
                        exact ⟨g, _, _, _, rfl, V17, Nat.le_trans hu.size fS21, k21, nb21, n20⟩
                      · skip
                        refine t_eff (by exact rfl) (e_alloc zr_146) (fun v23 w23 h23 => ?_)
                        obtain ⟨b23, rfl, n23⟩ := h23
                        have d8_23 : b8 < b23 := Nat.lt_of_lt_of_le k8.lt n23.fresh
                        have f23 : w.heap.size ≤ b23 := Nat.le_trans U.size n23.fresh
                        have nb23 := hF.nb n23.fresh
                        have fS23 := Nat.le_trans SU.size n23.fresh
                        have fV17_23 := Nat.le_trans V17.ch.size n23.fresh
                        replace G := G.tr (Go.ofUp hF n23.up)
                        replace V17 := V17.tr (Go.ofUp hF n23.up)
                        replace hF := hF.up n23.up
                        replace k8 := k8.up n23.up
                        replace kS := kS.up n23.up
                        replace kF := kF.up n23.up
                        replace kM := kM.up n23.up
                        replace kL := kL.up n23.up
                        replace kR := kR.up n23.up
                        replace U := U.tr n23.up
                        have k23 := n23.blk
                        refine ⟨.inr (SU.tr n23.up), ?_⟩
                        replace SU := SU.tr n23.up
                        refine t_one ?_
                        refine t_eff (by exact rfl) (e_callV cal_123 (aC (et (gS rfl (gS rfl (gS rfl (gS rfl (gS rfl (gS rfl g0)))))) rfl) aN) (nat_normN hF hvv (bd_sm (bd_W hcV) (by decide)))) (fun v24 w24 h24 => ?_)
                        obtain ⟨H24, g24, n24⟩ := h24
                        have hlew24 := g24.le
                        replace nb8 := g24.nb nb8 k8.lt
                        replace nb23 := g24.nb nb23 k23.lt
                        replace nbS := g24.nb nbS kS.lt
                        replace nbF := g24.nb nbF kF.lt
                        replace nbM := g24.nb nbM (Nat.lt_of_lt_of_le lM U.size)
                        replace n4 := n4.mono hlew24
                        replace n6 := n6.mono hlew24
                        replace lv12 := lv12.mono hlew24
                        replace hvv := hvv.mono hlew24
                        replace hL0 := hL0.trans hlew24
                        replace k8 := k8.up g24.up
                        replace k23 := k23.up g24.up
                        replace kS := kS.up g24.up
                        replace kF := kF.up g24.up
                        replace kM := kM.up g24.up
                        replace kL := kL.up g24.up
                        replace kR := kR.up g24.up
                        replace U := U.tr g24.up
                        replace G := G.tr g24
                        replace V17 := V17.tr g24
                        replace hF := g24.fz
                        have q24 := (bd_W hcV)
                        refine ⟨.inr (SU.tr g24.up), ?_⟩
                        replace SU := SU.tr g24.up
                        obtain ⟨na24, nn24, nc24, rfl⟩ := n24.sl
                        refine t_step (by exact rfl) ((y_bldCall (bL (be 20 (argN f.stack 1 % A160))) (bL (be 20 f.self)) (by rw [length_bL, length_be]) (by rw [length_bL, length_be]) (et (gS rfl (gS rfl (gS rfl (gS rfl (gS rfl (gS rfl (gS rfl (gS rfl g0)))))))) rfl) (et g0 rfl) (et (gS rfl (gS rfl (gS rfl (gS rfl (gS rfl (gS rfl g0)))))) rfl) (et (gS rfl (gS rfl g0)) rfl))) ?_
                        refine t_one ?_
                        refine t_effN (by exact rfl) (e_store sz_146 (et (gS rfl (gS rfl g0)) rfl) (cellsV (et g0 rfl) rfl) child_len (by exact child_one rfl rfl rfl rfl rfl rfl rfl rfl rfl rfl rfl rfl) k23 (by exact Nat.le_of_ble_eq_true rfl)) (fun v25 w25 h25 => ?_)
                        obtain ⟨rfl, x25⟩ := h25
                        replace k8 := k8.ch x25.ch (by omega)
                        replace kS := kS.ch x25.ch (by first | omega | (omega))
                        replace kF := kF.ch x25.ch (by first | omega | (omega))
                        replace kM := kM.ch x25.ch (by first | omega | (omega))
                        replace kL := kL.ch x25.ch (by first | omega | (intro q hq hm; have := dL q hq; omega))
                        replace kR := kR.ch x25.ch (by first | omega | (intro m hm; have := dR m hm; omega))
                        replace k23 := x25.blk.full (by rw [child_len]; rfl)
                        replace G := G.wr x25 (by first | exact .inr f23 | omega | (simp; omega)) nb23
                        replace V17 := V17.wr x25 (by first | exact .inr f23 | omega | (simp; omega)) nb23
                        replace hF := G.fz
                        replace U := U.st x25 (.inr f23)
                        refine ⟨.inl rfl, ?_⟩
                        refine tl9 0 1 2 6 9 10 11 12 13 (gS rfl (gS rfl (gS rfl (gS rfl (gS rfl (gS rfl (gS rfl (gS rfl (gS rfl (gS rfl (gS rfl (gS rfl (gS rfl (gS rfl (gS rfl (gS rfl (gS rfl (gS rfl (gS rfl (gS rfl g0)))))))))))))))))))) (gS rfl (gS rfl (gS rfl (gS rfl (gS rfl (gS rfl (gS rfl (gS rfl (gS rfl (gS rfl (gS rfl (gS rfl (gS rfl (gS rfl (gS rfl (gS rfl (gS rfl (gS rfl (gS rfl g0))))))))))))))))))) (gS rfl (gS rfl (gS rfl (gS rfl (gS rfl (gS rfl (gS rfl (gS rfl (gS rfl (gS rfl (gS rfl (gS rfl (gS rfl (gS rfl (gS rfl (gS rfl (gS rfl (gS rfl g0)))))))))))))))))) (gS rfl (gS rfl (gS rfl (gS rfl (gS rfl (gS rfl (gS rfl (gS rfl (gS rfl (gS rfl (gS rfl (gS rfl (gS rfl (gS rfl (gS rfl (gS rfl (gS rfl g0))))))))))))))))) (gS rfl (gS rfl (gS rfl (gS rfl (gS rfl (gS rfl (gS rfl (gS rfl (gS rfl (gS rfl (gS rfl (gS rfl (gS rfl (gS rfl (gS rfl (gS rfl g0)))))))))))))))) (gS rfl (gS rfl (gS rfl (gS rfl (gS rfl (gS rfl (gS rfl (gS rfl (gS rfl (gS rfl (gS rfl (gS rfl (gS rfl (gS rfl (gS rfl g0))))))))))))))) (gS rfl (gS rfl (gS rfl (gS rfl (gS rfl (gS rfl (gS rfl (gS rfl (gS rfl (gS rfl (gS rfl (gS rfl (gS rfl (gS rfl g0)))))))))))))) (gS rfl (gS rfl (gS rfl (gS rfl (gS rfl (gS rfl (gS rfl (gS rfl (gS rfl (gS rfl (gS rfl (gS rfl (gS rfl g0))))))))))))) (gS rfl (gS rfl g0)) (fun g => ?_)
                        exact ⟨g, _, _, _, rfl, V17, Nat.le_trans hu.size fS23, k23, nb23, n24⟩
                    intro s_ w26 hJ
                    obtain ⟨g, b18, vx, Hj17, rfl, V17, fn18, kn18, nb18, hvx⟩ := hJ
                    subst e0 e1 e2 e6 e9 e10 e11 e12
                    have d8_18 : b8 < b18 := Nat.lt_of_lt_of_le k8.lt fn18
                    have f18 : w.heap.size ≤ b18 := Nat.le_trans U.size fn18
                    have hlew26 := V17.le
                    replace nb8 := V17.nb nb8 k8.lt
                    replace nbS := V17.nb nbS kS.lt
                    replace nbF := V17.nb nbF kF.lt
                    replace nbM := V17.nb nbM (Nat.lt_of_lt_of_le lM U.size)
                    replace n4 := n4.mono hlew26
                    replace n6 := n6.mono hlew26
                    replace lv12 := lv12.mono hlew26
                    replace hvv := hvv.mono hlew26
                    replace hL0 := hL0.trans hlew26
                    replace k8 := k8.up V17.up
                    replace kS := kS.up V17.up
                    replace kF := kF.up V17.up
                    replace kM := kM.up V17.up
                    replace kL := kL.up V17.up
                    replace kR := kR.up V17.up
                    replace U := U.tr V17.up
                    replace G := G.tr V17
                    replace hF := V17.fz
                    have k18 := kn18
                    obtain ⟨vx1, vx2, vx3, rfl⟩ := hvx.sl
                    have jSv := noW_cells Hj17
                    obtain ⟨cc0, hcc0⟩ : ∃ cc, cc = ([Value.int .u8 ((2 : Nat) : Int), Value.int .u8 ((0 : Nat) : Int), Value.bool f.static, Value.slice none 0 0, Value.slice none 0 0, .slice vx1 vx2 vx3, Value.slice none 0 0, Value.slice none 0 0, Value.slice none 0 0, Value.slice none 0 0, Value.slice none 0 0, Value.slice none 0 0] ++ (bL (be 20 (argN f.stack 1 % A160)) ++ (bL (be 20 f.self) ++ [Value.slice none 0 0, Value.slice none 0 0, Value.slice none 0 0, Value.slice none 0 0, Value.slice none 0 0, Value.slice none 0 0, Value.slice none 0 0, Value.slice none 0 0]))).toArray := ⟨_, rfl⟩
                    have hcz : cc0.size = 60 := by rw [hcc0, List.size_toArray, child_len]
                    rw [← hcc0] at k18
                    obtain ⟨cF, cSe, cCa, cSv⟩ : RowIn cc0 0 [.int .u8 ((2 : Nat) : Int), .int .u8 ((0 : Nat) : Int), .bool f.static, .slice none 0 0, .slice none 0 0, .slice vx1 vx2 vx3, .slice none 0 0, .slice none 0 0, .slice none 0 0, .slice none 0 0, .slice none 0 0, .slice none 0 0] ∧ RowIn cc0 (0 + 12) (bL (be 20 (argN f.stack 1 % A160))) ∧ RowIn cc0 (0 + 32) (bL (be 20 f.self)) ∧ RowIn cc0 (0 + 52) [.slice none 0 0, .slice none 0 0, .slice none 0 0, .slice none 0 0, .slice none 0 0, .slice none 0 0, .slice none 0 0, .slice none 0 0] := by rw [hcc0]; exact child_rows rfl (by rw [length_bL, length_be]) (by rw [length_bL, length_be])
                    refine hK16 _ _ ?_
                    refine c_seq (fun K27 hK27 => ?_)
                    have hJ27 : ∀ (s_ : Nat → Value) (W27 : World), (∃ (g : Nat → Value) (Hk27 : Store) (cz9 : Array Value), s_ = (upd (upd (upd (upd (upd (upd (upd (upd g 0 (.pointer (some ⟨bs, 0, none⟩))) 1 (.pointer (some ⟨bf, low.length * 60, none⟩))) 6 (.int .i64 (tkN q : Nat))) 9 z9) 10 (.pointer (some ⟨b8, 0, none⟩))) 11 z11) 12 (.int .i64 ((tkN q - 4 : Nat) : Int))) 13 (.pointer (some ⟨b18, 0, none⟩))) ∧ (FC Hk27 cz9 0 (cFr (cK q) (cSt f q) (cVal f q) (cSelf f q) (cCal f q) 0 0 [] []) (.slice none 0 0)) ∧ (cz9.size = 60) ∧ Blk W27 b18 (cz9) ∧ Go (fun k => k = b18) w26 Hj17 W27 Hk27) → K27 (mk 180 s_) W27 := by
                      intro s_ W27 hI
                      obtain ⟨g, Hk27, cz9, rfl, hfC, hcz, nk18, V27⟩ := hI
                      have hle27 := V27.le
                      replace nb8 := V27.nb nb8 k8.lt
                      replace nb18 := V27.nb nb18 k18.lt
                      replace nbS := V27.nb nbS kS.lt
                      replace nbF := V27.nb nbF kF.lt
                      replace nbM := V27.nb nbM (Nat.lt_of_lt_of_le lM U.size)
                      replace n4 := n4.mono hle27
                      replace n6 := n6.mono hle27
                      replace lv12 := lv12.mono hle27
                      replace hvv := hvv.mono hle27
                      replace hvx := hvx.mono hle27
                      replace jSv := jSv.mono hle27
                      replace hL0 := hL0.trans hle27
                      replace G := G.trans V27 (by intro b hb; first | exact hb.elim | omega | (simp at hb ⊢; omega))
                      replace hF := V27.fz
                      replace k8 := k8.ch V27.ch (by omega)
                      replace kS := kS.ch V27.ch (by omega)
                      replace kF := kF.ch V27.ch (by omega)
                      replace kM := kM.ch V27.ch (by omega)
                      replace kL := kL.ch V27.ch (by intro q hq hm; have := dL q hq; omega)
                      replace kR := kR.ch V27.ch (by intro m hm; have := dR m hm; omega)
                      replace k18 := nk18
                      replace U := U.cc V27.ch (by intro b hb; first | exact hb.elim | omega | (simp at hb ⊢; omega))
                      obtain ⟨ypc, ygas, yval, yoo, yol, yka, ykc, yca, ycc, yia, yic, ywc, cF, cSe, cCa, cSv, jSv, jPc, jGa, jVa, jOf, jOl, jSt, jCo, jIn⟩ := hfC.ex
                      have jo := hfC.ok
                      refine hK27 _ _ ?_
                      refine c_seq (fun K28 hK28 => ?_)
                      exact (by
                        refine c_region ?_
                        refine l_step (y_moveV (et (gS rfl (gS rfl (gS rfl (gS rfl (gS rfl (gS rfl g0)))))) rfl)) ?_
                        refine l_step (y_nil (et g0 rfl)) ?_
                        refine l_step (y_fld fld_146_4 (et g0 rfl)) ?_
                        refine l_step (y_load1 one_95 (et g0 rfl) (at1 (kF.cell (rF 4 _ rfl)))) ?_
                        refine l_step (y_moveV (et (gS rfl (gS rfl (gS rfl (gS rfl (gS rfl (gS rfl (gS rfl (gS rfl g0)))))))) rfl)) ?_
                        refine l_eff (e_callV cal_226 (aC (et (gS rfl g0) rfl) (aC (et g0 rfl) aN)) (yp_sentGas hF (hGa.mono hL0) n4 (bd_up (bd_lt2 (b := 256 ^ 4) fo.gas (by decide)) (by decide)) (bd_up (bd_W q4) (by decide)))) (fun v29 w29 h29 => ?_)
                        obtain ⟨H29, g29, n29⟩ := h29
                        have hlew29 := g29.le
                        replace nb8 := g29.nb nb8 k8.lt
                        replace nb18 := g29.nb nb18 k18.lt
                        replace nbS := g29.nb nbS kS.lt
                        replace nbF := g29.nb nbF kF.lt
                        replace nbM := g29.nb nbM (Nat.lt_of_lt_of_le lM U.size)
                        replace n4 := n4.mono hlew29
                        replace n6 := n6.mono hlew29
                        replace lv12 := lv12.mono hlew29
                        replace hvv := hvv.mono hlew29
                        replace jSv := jSv.mono hlew29
                        replace jPc := jPc.mono hlew29
                        replace jGa := jGa.mono hlew29
                        replace jVa := jVa.mono hlew29
                        replace jOf := jOf.mono hlew29
                        replace jOl := jOl.mono hlew29
                        replace jSt := jSt.mono hlew29
                        replace jCo := jCo.mono hlew29
                        replace jIn := jIn.mono hlew29
                        replace hL0 := hL0.trans hlew29
                        replace k8 := k8.up g29.up
                        replace k18 := k18.up g29.up
                        replace kS := kS.up g29.up
                        replace kF := kF.up g29.up
                        replace kM := kM.up g29.up
                        replace kL := kL.up g29.up
                        replace kR := kR.up g29.up
                        replace U := U.tr g29.up
                        replace G := G.tr g29
                        replace hF := g29.fz
                        have q29 := sent_bd n29 (bd_lt2 (b := 256 ^ 4) fo.gas (by decide))
                        exact (by
                          refine l_step (y_assignV (et g0 rfl)) ?_
                          refine l_nil ?_
                          refine hK28 _ _ ?_
                          refine fg8 0 1 6 10 11 12 13 14 (gS rfl (gS rfl (gS rfl (gS rfl (gS rfl (gS rfl (gS rfl (gS rfl (gS rfl (gS rfl (gS rfl (gS rfl (gS rfl (gS rfl g0)))))))))))))) (gS rfl (gS rfl (gS rfl (gS rfl (gS rfl (gS rfl (gS rfl (gS rfl (gS rfl (gS rfl (gS rfl (gS rfl (gS rfl g0))))))))))))) (gS rfl (gS rfl (gS rfl (gS rfl (gS rfl (gS rfl (gS rfl (gS rfl (gS rfl (gS rfl (gS rfl (gS rfl g0)))))))))))) (gS rfl (gS rfl (gS rfl (gS rfl (gS rfl (gS rfl (gS rfl (gS rfl (gS rfl (gS rfl g0)))))))))) (gS rfl (gS rfl (gS rfl (gS rfl (gS rfl (gS rfl (gS rfl (gS rfl (gS rfl g0))))))))) (gS rfl (gS rfl (gS rfl (gS rfl (gS rfl (gS rfl (gS rfl (gS rfl g0)))))))) (gS rfl (gS rfl (gS rfl (gS rfl (gS rfl (gS rfl (gS rfl g0))))))) g0 (fun g => ?_)
                          refine c_seq (fun K30 hK30 => ?_)
                          exact (by
                            refine c_region ?_
                            refine l_step (y_moveV (et (gS rfl (gS rfl (gS rfl (gS rfl (gS rfl (gS rfl g0)))))) rfl)) ?_
                            refine l_step (y_moveV (et (gS rfl (gS rfl (gS rfl (gS rfl (gS rfl (gS rfl (gS rfl g0))))))) rfl)) ?_
                            refine l_step (y_nil (et g0 rfl)) ?_
                            refine l_step (y_fld fld_146_4 (et g0 rfl)) ?_
                            refine l_step (y_load1 one_95 (et g0 rfl) (at1 (kF.cell (rF 4 _ rfl)))) ?_
                            refine l_step (y_moveV (et (gS rfl (gS rfl (gS rfl (gS rfl (gS rfl g0))))) rfl)) ?_
                            refine l_eff (e_callV cal_45 (aC (et (gS rfl g0) rfl) (aC (et g0 rfl) aN)) (yp_less hF (hGa.mono hL0) n29 (bd_sm (bd_lt2 (b := 256 ^ 4) fo.gas (by decide)) (by decide)) (bd_sm q29 (by decide)))) (fun v31 w31 h31 => ?_)
                            obtain ⟨H31, g31, n31⟩ := h31
                            have hlew31 := g31.le
                            replace nb8 := g31.nb nb8 k8.lt
                            replace nb18 := g31.nb nb18 k18.lt
                            replace nbS := g31.nb nbS kS.lt
                            replace nbF := g31.nb nbF kF.lt
                            replace nbM := g31.nb nbM (Nat.lt_of_lt_of_le lM U.size)
                            replace n4 := n4.mono hlew31
                            replace n6 := n6.mono hlew31
                            replace lv12 := lv12.mono hlew31
                            replace hvv := hvv.mono hlew31
                            replace jSv := jSv.mono hlew31
                            replace jPc := jPc.mono hlew31
                            replace jGa := jGa.mono hlew31
                            replace jVa := jVa.mono hlew31
                            replace jOf := jOf.mono hlew31
                            replace jOl := jOl.mono hlew31
                            replace jSt := jSt.mono hlew31
                            replace jCo := jCo.mono hlew31
                            replace jIn := jIn.mono hlew31
                            replace n29 := n29.mono hlew31
                            replace hL0 := hL0.trans hlew31
                            replace k8 := k8.up g31.up
                            replace k18 := k18.up g31.up
                            replace kS := kS.up g31.up
                            replace kF := kF.up g31.up
                            replace kM := kM.up g31.up
                            replace kL := kL.up g31.up
                            replace kR := kR.up g31.up
                            replace U := U.tr g31.up
                            replace G := G.tr g31
                            replace hF := g31.fz
                            have q31 := bd_sub' n31 (bd_lt2 (b := 256 ^ 4) fo.gas (by decide))
                            exact (by
                              refine l_step (y_nil (et (gS rfl (gS rfl (gS rfl (gS rfl (gS rfl (gS rfl g0)))))) rfl)) ?_
                              refine l_step (y_fld fld_146_4 (et g0 rfl)) ?_
                              obtain ⟨sa32, sn32, sc32, rfl⟩ := n31.sl
                              have rl32 := RowIn.le rF (Nat.succ_pos _)
                              simp only [List.length_cons, List.length_nil, Nat.zero_add, Nat.reduceAdd] at rl32
                              refine l_effN (e_store sz_95 (et g0 rfl) (cellsV (et (gS rfl (gS rfl g0)) rfl) rfl) rfl (by first | exact one_bL _ | exact one_uL _ | (intro v hv; simp at hv; subst hv; rfl)) kF (by first | exact Nat.le_trans (by omega) rl32 | exact Nat.le_of_ble_eq_true rfl | (simp; done) | (simp; omega) | omega | (simp only [size_spl, Array.size_setIfInBounds, hs.size]; exact Nat.le_of_ble_eq_true rfl))) (fun v32 w32 h32 => ?_)
                              obtain ⟨rfl, x32⟩ := h32
                              replace k8 := k8.ch x32.ch (by omega)
                              replace k18 := k18.ch x32.ch (by omega)
                              replace kS := kS.ch x32.ch (by omega)
                              replace kM := kM.ch x32.ch (by omega)
                              replace kL := kL.ch x32.ch (by intro q hq hm; have := dL q hq; omega)
                              replace kR := kR.ch x32.ch (by intro m hm; have := dR m hm; omega)
                              replace kF := x32.blk
                              replace G := G.wr x32 (.inl (by first | rfl | exact yt.yS | exact yt.yF | (simp; done))) nbF
                              replace hF := G.fz
                              replace U := U.st x32 (.inl (by first | rfl | exact yt.yS | exact yt.yF | (simp; done)))
                              replace oF := kF.oput oF (by omega) (by omega)
                              replace rF : RowIn _ _ [.int .u8 (f.kind : Nat), .int .u8 (f.ntv : Nat), .bool f.static, vpc, _, vval, voo, vol, .slice ka f.stack.length kc, .slice am f.mem.length f.mem.length, .slice ca f.code.length cc, .slice ia f.input.length ic] := kF.rput rF 4 rfl
                              replace rSe := kF.rputo rSe (by first | (left; omega) | (right; simp only [List.length_cons, List.length_nil, length_bL, length_be, hSv.len]; omega))
                              replace rCa := kF.rputo rCa (by first | (left; omega) | (right; simp only [List.length_cons, List.length_nil, length_bL, length_be, hSv.len]; omega))
                              replace rSv := kF.rputo rSv (by first | (left; omega) | (right; simp only [List.length_cons, List.length_nil, length_bL, length_be, hSv.len]; omega))
                              have hfP : FC H31 _ _ { f with gas := f.gas - cSent f } (.slice am f.mem.length f.mem.length) := ⟨⟨fo.kind, fo.ntv, fo.pc, (Nat.lt_of_le_of_lt (Nat.sub_le _ _) fo.gas), fo.value, fo.outOff, fo.outLen, fo.self, fo.caller, fo.stack, fo.code, fo.input, fo.mem⟩, _, _, _, _, _, _, _, _, _, _, _, _, rF, rSe, rCa, rSv, hSv.mono hL0, (hPc.mono hL0), n31, (hVa.mono hL0), (hOf.mono hL0), (hOl.mono hL0), (hSt.mono hL0), (hCo.mono hL0), (hIn.mono hL0)⟩
                              refine l_nil ?_
                              refine hK30 _ _ ?_
                              refine fg8 0 1 6 10 11 12 13 14 (gS rfl (gS rfl (gS rfl (gS rfl (gS rfl (gS rfl (gS rfl (gS rfl (gS rfl (gS rfl (gS rfl (gS rfl (gS rfl (gS rfl (gS rfl (gS rfl g0)))))))))))))))) (gS rfl (gS rfl (gS rfl (gS rfl (gS rfl (gS rfl (gS rfl (gS rfl (gS rfl (gS rfl (gS rfl (gS rfl (gS rfl (gS rfl (gS rfl g0))))))))))))))) (gS rfl (gS rfl (gS rfl (gS rfl (gS rfl (gS rfl (gS rfl (gS rfl (gS rfl (gS rfl (gS rfl (gS rfl (gS rfl (gS rfl g0)))))))))))))) (gS rfl (gS rfl (gS rfl (gS rfl (gS rfl (gS rfl (gS rfl (gS rfl (gS rfl (gS rfl (gS rfl (gS rfl (gS rfl g0))))))))))))) (gS rfl (gS rfl (gS rfl (gS rfl (gS rfl (gS rfl (gS rfl (gS rfl (gS rfl (gS rfl (gS rfl (gS rfl g0)))))))))))) (gS rfl (gS rfl (gS rfl (gS rfl (gS rfl (gS rfl (gS rfl (gS rfl (gS rfl (gS rfl (gS rfl g0))))))))))) (gS rfl (gS rfl (gS rfl (gS rfl (gS rfl (gS rfl (gS rfl (gS rfl (gS rfl (gS rfl g0)))))))))) (gS rfl (gS rfl (gS rfl (gS rfl (gS rfl (gS rfl (gS rfl (gS rfl (gS rfl g0))))))))) (fun g => ?_)
                              refine c_seq (fun K33 hK33 => ?_)
                              exact (by
                                refine c_region ?_
                                refine l_step (y_moveV (et g0 rfl)) ?_
                                refine l_step (y_fld fld_146_4 (et (gS rfl (gS rfl g0)) rfl)) ?_
                                obtain ⟨sa34, sn34, sc34, rfl⟩ := n29.sl
                                have rl34 := RowIn.le cF (Nat.succ_pos _)
                                simp only [List.length_cons, List.length_nil, Nat.zero_add, Nat.reduceAdd] at rl34
                                refine l_effN (e_store sz_95 (et g0 rfl) (cellsV (et (gS rfl g0) rfl) rfl) rfl (by first | exact one_bL _ | exact one_uL _ | (intro v hv; simp at hv; subst hv; rfl)) k18 (by first | exact Nat.le_trans (by omega) rl34 | exact Nat.le_of_ble_eq_true rfl | simp | omega)) (fun v34 w34 h34 => ?_)
                                obtain ⟨rfl, x34⟩ := h34
                                replace k8 := k8.ch x34.ch (by omega)
                                replace kS := kS.ch x34.ch (by first | omega | (omega))
                                replace kF := kF.ch x34.ch (by first | omega | (omega))
                                replace kM := kM.ch x34.ch (by first | omega | (omega))
                                replace kL := kL.ch x34.ch (by first | omega | (intro q hq hm; have := dL q hq; omega))
                                replace kR := kR.ch x34.ch (by first | omega | (intro m hm; have := dR m hm; omega))
                                replace k18 := x34.blk
                                replace cF : RowIn _ _ [.int .u8 ((cFr (cK q) (cSt f q) (cVal f q) (cSelf f q) (cCal f q) 0 0 [] []).kind : Nat), .int .u8 ((cFr (cK q) (cSt f q) (cVal f q) (cSelf f q) (cCal f q) 0 0 [] []).ntv : Nat), .bool (cFr (cK q) (cSt f q) (cVal f q) (cSelf f q) (cCal f q) 0 0 [] []).static, ypc, _, yval, yoo, yol, .slice yka (cFr (cK q) (cSt f q) (cVal f q) (cSelf f q) (cCal f q) 0 0 [] []).stack.length ykc, .slice none 0 0, .slice yca (cFr (cK q) (cSt f q) (cVal f q) (cSelf f q) (cCal f q) 0 0 [] []).code.length ycc, .slice yia (cFr (cK q) (cSt f q) (cVal f q) (cSelf f q) (cCal f q) 0 0 [] []).input.length yic] := k18.rput cF 4 rfl
                                replace cSe := k18.rputo cSe (by first | (left; omega) | (right; simp only [List.length_cons, List.length_nil, length_bL, length_be, jSv.len]; omega))
                                replace cCa := k18.rputo cCa (by first | (left; omega) | (right; simp only [List.length_cons, List.length_nil, length_bL, length_be, jSv.len]; omega))
                                replace cSv := k18.rputo cSv (by first | (left; omega) | (right; simp only [List.length_cons, List.length_nil, length_bL, length_be, jSv.len]; omega))
                                replace G := G.wr x34 (by first | exact .inr f18 | omega | (simp; omega)) nb18
                                replace hF := G.fz
                                replace U := U.st x34 (.inr f18)
                                refine l_nil ?_
                                refine hK33 _ _ ?_
                                refine fg8 0 1 6 10 11 12 13 14 (gS rfl (gS rfl (gS rfl (gS rfl (gS rfl (gS rfl (gS rfl (gS rfl (gS rfl g0))))))))) (gS rfl (gS rfl (gS rfl (gS rfl (gS rfl (gS rfl (gS rfl (gS rfl g0)))))))) (gS rfl (gS rfl (gS rfl (gS rfl (gS rfl (gS rfl (gS rfl g0))))))) (gS rfl (gS rfl (gS rfl (gS rfl (gS rfl (gS rfl g0)))))) (gS rfl (gS rfl (gS rfl (gS rfl (gS rfl g0))))) (gS rfl (gS rfl (gS rfl (gS rfl g0)))) (gS rfl (gS rfl (gS rfl g0))) (gS rfl (gS rfl g0)) (fun g => ?_)
                                refine c_seq (fun K35 hK35 => ?_)
                                have hJ35 : ∀ (s_ : Nat → Value) (W35 : World), (∃ (g : Nat → Value) (Hk35 : Store) (cz8 : Array Value), s_ = (upd (upd (upd (upd (upd (upd (upd g 0 (.pointer (some ⟨bs, 0, none⟩))) 1 (.pointer (some ⟨bf, low.length * 60, none⟩))) 6 (.int .i64 (tkN q : Nat))) 10 (.pointer (some ⟨b8, 0, none⟩))) 11 z11) 12 (.int .i64 ((tkN q - 4 : Nat) : Int))) 13 (.pointer (some ⟨b18, 0, none⟩))) ∧ (FC Hk35 cz8 0 (cFr (cK q) (cSt f q) (cVal f q) (cSelf f q) (cCal f q) (cG f q) 0 [] []) (.slice none 0 0)) ∧ (cz8.size = 60) ∧ Blk W35 b18 (cz8) ∧ Go (fun k => k = b18) w34 H31 W35 Hk35) → K35 (mk 180 s_) W35 := by
                                  intro s_ W35 hI
                                  obtain ⟨g, Hk35, cz8, rfl, hfC, hcz, nk18, V35⟩ := hI
                                  have hle35 := V35.le
                                  replace nb8 := V35.nb nb8 k8.lt
                                  replace nb18 := V35.nb nb18 k18.lt
                                  replace nbS := V35.nb nbS kS.lt
                                  replace nbF := V35.nb nbF kF.lt
                                  replace nbM := V35.nb nbM (Nat.lt_of_lt_of_le lM U.size)
                                  replace n4 := n4.mono hle35
                                  replace n6 := n6.mono hle35
                                  replace lv12 := lv12.mono hle35
                                  replace hvv := hvv.mono hle35
                                  replace jSv := jSv.mono hle35
                                  replace jPc := jPc.mono hle35
                                  replace jGa := jGa.mono hle35
                                  replace jVa := jVa.mono hle35
                                  replace jOf := jOf.mono hle35
                                  replace jOl := jOl.mono hle35
                                  replace jSt := jSt.mono hle35
                                  replace jCo := jCo.mono hle35
                                  replace jIn := jIn.mono hle35
                                  replace n29 := n29.mono hle35
                                  replace n31 := n31.mono hle35
                                  replace hfP := hfP.mono hle35
                                  replace hL0 := hL0.trans hle35
                                  replace G := G.trans V35 (by intro b hb; first | exact hb.elim | omega | (simp at hb ⊢; omega))
                                  replace hF := V35.fz
                                  replace k8 := k8.ch V35.ch (by omega)
                                  replace kS := kS.ch V35.ch (by omega)
                                  replace kF := kF.ch V35.ch (by omega)
                                  replace kM := kM.ch V35.ch (by omega)
                                  replace kL := kL.ch V35.ch (by intro q hq hm; have := dL q hq; omega)
                                  replace kR := kR.ch V35.ch (by intro m hm; have := dR m hm; omega)
                                  replace k18 := nk18
                                  replace U := U.cc V35.ch (by intro b hb; first | exact hb.elim | omega | (simp at hb ⊢; omega))
                                  obtain ⟨ypc, ygas, yval, yoo, yol, yka, ykc, yca, ycc, yia, yic, ywc, cF, cSe, cCa, cSv, jSv, jPc, jGa, jVa, jOf, jOl, jSt, jCo, jIn⟩ := hfC.ex
                                  have jo := hfC.ok
                                  refine hK35 _ _ ?_
                                  refine c_seq (fun K36 hK36 => ?_)
                                  refine c_seq (fun K37 hK37 => ?_)
                                  exact (by
                                    refine c_draw Up 21 [(0, true), (1, true), (2, true), (3, true), (4, true), (5, true), (6, true), (7, true), (8, true), (9, true), (10, true), (11, true), (12, true), (13, true), (14, true), (17, true), (15, false), (16, true), (18, false), (19, true), (20, true)] (by kernel_rfl) (fun w38 hu => ⟨Up.refl _, ?_⟩)
                                    replace G := G.tr (Go.ofUp hF hu)
                                    replace hF := hF.up hu
                                    replace k8 := k8.up hu
                                    replace k18 := k18.up hu
                                    replace kS := kS.up hu
                                    replace kF := kF.up hu
                                    replace kM := kM.up hu
                                    replace kL := kL.up hu
                                    replace kR := kR.up hu
                                    replace U := U.tr hu
                                    have SU := Up.refl w38
                                    refine p_step (by exact rfl) (y_moveV (et (gS rfl (gS rfl (gS rfl (gS rfl (gS rfl (gS rfl g0)))))) rfl)) ?_
                                    refine p_step (by exact rfl) (y_nil (et g0 rfl)) ?_
                                    refine p_step (by exact rfl) (y_fld fld_102_2 (et g0 rfl)) ?_
                                    refine p_step (by exact rfl) (y_load1 one_100 (et g0 rfl) (atS (kS.cell (rS 9 _ rfl)))) ?_
                                    refine p_step (by exact rfl) (y_len Hvaa.underlying100 (et g0 rfl)) ?_
                                    refine p_step (by exact rfl) (y_sub (et g0 rfl) rfl (subIN (y := 1) ?_ ?_)) ?_
                                    omega
                                    omega
                                    refine p_step (by exact rfl) (y_geq (et g0 rfl) rfl) ?_
                                    refine p_step (by exact rfl) (y_moveV (et g0 rfl)) ?_
                                    refine gsplitP (i := 115) g0 (fun q39 => ?_) (fun q39 => ?_)
                                    · skip
                                      have hdp : 6 ≤ low.length := by have := of_decide_eq_true q39; omega
                                      refine p_gskip (j := 7) (t := 115) (by exact rfl) (by exact rfl) (by exact rfl) (et g0 rfl) rfl rfl ?_
                                      refine p_gskip (j := 7) (t := 115) (by exact rfl) (by exact rfl) (by exact rfl) (et (gS rfl g0) rfl) rfl rfl ?_
                                      refine p_gskip (j := 7) (t := 115) (by exact rfl) (by exact rfl) (by exact rfl) (et (gS rfl (gS rfl g0)) rfl) rfl rfl ?_
                                      refine p_gskip (j := 7) (t := 115) (by exact rfl) (by exact rfl) (by exact rfl) (et (gS rfl (gS rfl (gS rfl g0))) rfl) rfl rfl ?_
                                      refine p_gskip (j := 7) (t := 115) (by exact rfl) (by exact rfl) (by exact rfl) (et (gS rfl (gS rfl (gS rfl (gS rfl g0)))) rfl) rfl rfl ?_
                                      refine p_gskip (j := 7) (t := 115) (by exact rfl) (by exact rfl) (by exact rfl) (et (gS rfl (gS rfl (gS rfl (gS rfl (gS rfl g0))))) rfl) rfl rfl ?_
                                      refine p_gskip (j := 7) (t := 115) (by exact rfl) (by exact rfl) (by exact rfl) (et (gS rfl (gS rfl (gS rfl (gS rfl (gS rfl (gS rfl g0)))))) rfl) rfl rfl ?_
                                      refine p_gskip (j := 7) (t := 115) (by exact rfl) (by exact rfl) (by exact rfl) (et (gS rfl (gS rfl (gS rfl (gS rfl (gS rfl (gS rfl (gS rfl g0))))))) rfl) rfl rfl ?_
                                      refine p_geskip (j := 7) (t := 115) (by exact rfl) (by exact rfl) (by exact rfl) (et (gS rfl (gS rfl (gS rfl (gS rfl (gS rfl (gS rfl (gS rfl (gS rfl g0)))))))) rfl) rfl rfl ⟨.inr SU, ?_⟩
                                      refine p_gskip (j := 7) (t := 115) (by exact rfl) (by exact rfl) (by exact rfl) (et (gS rfl (gS rfl (gS rfl (gS rfl (gS rfl (gS rfl (gS rfl (gS rfl (gS rfl g0))))))))) rfl) rfl rfl ?_
                                      refine p_geskip (j := 7) (t := 115) (by exact rfl) (by exact rfl) (by exact rfl) (et (gS rfl (gS rfl (gS rfl (gS rfl (gS rfl (gS rfl (gS rfl (gS rfl (gS rfl (gS rfl g0)))))))))) rfl) rfl rfl ⟨.inr SU, ?_⟩
                                      refine p_gskip (j := 7) (t := 115) (by exact rfl) (by exact rfl) (by exact rfl) (et (gS rfl (gS rfl (gS rfl (gS rfl (gS rfl (gS rfl (gS rfl (gS rfl (gS rfl (gS rfl (gS rfl g0))))))))))) rfl) rfl rfl ?_
                                      refine p_step (by exact rfl) (y_pickT (et (gS rfl (gS rfl (gS rfl (gS rfl (gS rfl (gS rfl (gS rfl (gS rfl (gS rfl (gS rfl (gS rfl (gS rfl g0)))))))))))) rfl) rfl) ?_
                                      refine p_nil ?_
                                      refine hK37 _ _ ?_
                                      refine fg7 0 1 6 10 12 13 128 (gS rfl (gS rfl (gS rfl (gS rfl (gS rfl (gS rfl (gS rfl (gS rfl (gS rfl (gS rfl (gS rfl (gS rfl (gS rfl (gS rfl (gS rfl (gS rfl (gS rfl (gS rfl (gS rfl (gS rfl (gS rfl (gS rfl (gS rfl (gS rfl (gS rfl (gS rfl (gS rfl (gS rfl g0)))))))))))))))))))))))))))) (gS rfl (gS rfl (gS rfl (gS rfl (gS rfl (gS rfl (gS rfl (gS rfl (gS rfl (gS rfl (gS rfl (gS rfl (gS rfl (gS rfl (gS rfl (gS rfl (gS rfl (gS rfl (gS rfl (gS rfl (gS rfl (gS rfl (gS rfl (gS rfl (gS rfl (gS rfl (gS rfl g0))))))))))))))))))))))))))) (gS rfl (gS rfl (gS rfl (gS rfl (gS rfl (gS rfl (gS rfl (gS rfl (gS rfl (gS rfl (gS rfl (gS rfl (gS rfl (gS rfl (gS rfl (gS rfl (gS rfl (gS rfl (gS rfl (gS rfl (gS rfl (gS rfl (gS rfl (gS rfl (gS rfl (gS rfl g0)))))))))))))))))))))))))) (gS rfl (gS rfl (gS rfl (gS rfl (gS rfl (gS rfl (gS rfl (gS rfl (gS rfl (gS rfl (gS rfl (gS rfl (gS rfl (gS rfl (gS rfl (gS rfl (gS rfl (gS rfl (gS rfl (gS rfl (gS rfl (gS rfl (gS rfl (gS rfl (gS rfl g0))))))))))))))))))))))))) (gS rfl (gS rfl (gS rfl (gS rfl (gS rfl (gS rfl (gS rfl (gS rfl (gS rfl (gS rfl (gS rfl (gS rfl (gS rfl (gS rfl (gS rfl (gS rfl (gS rfl (gS rfl (gS rfl (gS rfl (gS rfl (gS rfl (gS rfl g0))))))))))))))))))))))) (gS rfl (gS rfl (gS rfl (gS rfl (gS rfl (gS rfl (gS rfl (gS rfl (gS rfl (gS rfl (gS rfl (gS rfl (gS rfl (gS rfl (gS rfl (gS rfl (gS rfl (gS rfl (gS rfl (gS rfl (gS rfl (gS rfl g0)))))))))))))))))))))) g0 (fun g => ?_)
                                      have hfa : cFail s f q low.length := .inl hdp
                                      refine c_true (et g0 rfl) rfl ?_
                                      refine c_seq (fun K41 hK41 => ?_)
                                      exact (by
                                        refine c_draw Up 10 [(0, true), (1, true), (2, true), (3, true), (4, true), (5, true), (6, true), (7, false), (8, true), (9, true), (10, false)] (by kernel_rfl) (fun w42 hu => ⟨Up.refl _, ?_⟩)
                                        replace G := G.tr (Go.ofUp hF hu)
                                        replace hF := hF.up hu
                                        replace k8 := k8.up hu
                                        replace k18 := k18.up hu
                                        replace kS := kS.up hu
                                        replace kF := kF.up hu
                                        replace kM := kM.up hu
                                        replace kL := kL.up hu
                                        replace kR := kR.up hu
                                        replace U := U.tr hu
                                        have SU := Up.refl w42
                                        refine p_step (by exact rfl) (y_moveV (et (gS rfl (gS rfl (gS rfl (gS rfl (gS rfl g0))))) rfl)) ?_
                                        refine p_step (by exact rfl) (y_moveV (et (gS rfl (gS rfl (gS rfl (gS rfl (gS rfl (gS rfl g0)))))) rfl)) ?_
                                        refine p_step (by exact rfl) (y_nil (et g0 rfl)) ?_
                                        refine p_step (by exact rfl) (y_fld fld_146_4 (et g0 rfl)) ?_
                                        refine p_step (by exact rfl) (y_load1 one_95 (et g0 rfl) (atS (kF.cell (rF 4 _ rfl)))) ?_
                                        refine p_step (by exact rfl) (y_fld fld_146_4 (et (gS rfl (gS rfl (gS rfl (gS rfl (gS rfl (gS rfl g0)))))) rfl)) ?_
                                        refine p_step (by exact rfl) (y_load1 one_95 (et g0 rfl) (atS (k18.cell (cF 4 _ rfl)))) ?_
                                        refine p_eff (by exact rfl) (e_callV cal_34 (aC (et (gS rfl (gS rfl g0)) rfl) (aC (et g0 rfl) aN)) (nat_add hF n31 jGa (bd_sm q31 (by decide)) (bd_sm (bd_lt2 (b := 256 ^ 4) jo.gas (by decide)) (by decide)))) (fun v43 w43 h43 => ?_)
                                        obtain ⟨H43, g43, n43⟩ := h43
                                        have hlew43 := g43.le
                                        replace nb8 := g43.nb nb8 k8.lt
                                        replace nb18 := g43.nb nb18 k18.lt
                                        replace nbS := g43.nb nbS kS.lt
                                        replace nbF := g43.nb nbF kF.lt
                                        replace nbM := g43.nb nbM (Nat.lt_of_lt_of_le lM U.size)
                                        replace n4 := n4.mono hlew43
                                        replace n6 := n6.mono hlew43
                                        replace lv12 := lv12.mono hlew43
                                        replace hvv := hvv.mono hlew43
                                        replace n29 := n29.mono hlew43
                                        replace n31 := n31.mono hlew43
                                        replace hfP := hfP.mono hlew43
                                        replace jSv := jSv.mono hlew43
                                        replace jPc := jPc.mono hlew43
                                        replace jGa := jGa.mono hlew43
                                        replace jVa := jVa.mono hlew43
                                        replace jOf := jOf.mono hlew43
                                        replace jOl := jOl.mono hlew43
                                        replace jSt := jSt.mono hlew43
                                        replace jCo := jCo.mono hlew43
                                        replace jIn := jIn.mono hlew43
                                        replace hL0 := hL0.trans hlew43
                                        replace k8 := k8.up g43.up
                                        replace k18 := k18.up g43.up
                                        replace kS := kS.up g43.up
                                        replace kF := kF.up g43.up
                                        replace kM := kM.up g43.up
                                        replace kL := kL.up g43.up
                                        replace kR := kR.up g43.up
                                        replace U := U.tr g43.up
                                        replace G := G.tr g43
                                        replace hF := g43.fz
                                        have q43 := bd_add (c := 5) q31 (bd_lt2 (b := 256 ^ 4) jo.gas (by decide)) (by decide)
                                        refine ⟨.inr (SU.tr g43.up), ?_⟩
                                        replace SU := SU.tr g43.up
                                        exact (by
                                          refine p_step (by exact rfl) (y_nil (et (gS rfl (gS rfl (gS rfl (gS rfl (gS rfl (gS rfl (gS rfl g0))))))) rfl)) ?_
                                          refine p_step (by exact rfl) (y_fld fld_146_4 (et g0 rfl)) ?_
                                          obtain ⟨sa44, sn44, sc44, rfl⟩ := n43.sl
                                          have rl44 := RowIn.le rF (Nat.succ_pos _)
                                          simp only [List.length_cons, List.length_nil, Nat.zero_add, Nat.reduceAdd] at rl44
                                          refine p_effN (by exact rfl) (e_store sz_95 (et g0 rfl) (cellsV (et (gS rfl (gS rfl g0)) rfl) rfl) rfl (by first | exact one_bL _ | exact one_uL _ | (intro v hv; simp at hv; subst hv; rfl)) kF (by first | exact Nat.le_trans (by omega) rl44 | exact Nat.le_of_ble_eq_true rfl | (simp; done) | (simp; omega) | omega | (simp only [size_spl, Array.size_setIfInBounds, hs.size]; exact Nat.le_of_ble_eq_true rfl))) (fun v44 w44 h44 => ?_)
                                          obtain ⟨rfl, x44⟩ := h44
                                          replace k8 := k8.ch x44.ch (by omega)
                                          replace k18 := k18.ch x44.ch (by omega)
                                          replace kS := kS.ch x44.ch (by omega)
                                          replace kM := kM.ch x44.ch (by omega)
                                          replace kL := kL.ch x44.ch (by intro q hq hm; have := dL q hq; omega)
                                          replace kR := kR.ch x44.ch (by intro m hm; have := dR m hm; omega)
                                          replace kF := x44.blk
                                          replace G := G.wr x44 (.inl (by first | rfl | exact yt.yS | exact yt.yF | (simp; done))) nbF
                                          replace hF := G.fz
                                          replace U := U.st x44 (.inl (by first | rfl | exact yt.yS | exact yt.yF | (simp; done)))
                                          replace oF := kF.oput oF (by omega) (by omega)
                                          replace rF : RowIn _ _ [.int .u8 (f.kind : Nat), .int .u8 (f.ntv : Nat), .bool f.static, vpc, _, vval, voo, vol, .slice ka f.stack.length kc, .slice am f.mem.length f.mem.length, .slice ca f.code.length cc, .slice ia f.input.length ic] := kF.rput rF 4 rfl
                                          replace rSe := kF.rputo rSe (by first | (left; omega) | (right; simp only [List.length_cons, List.length_nil, length_bL, length_be, hSv.len]; omega))
                                          replace rCa := kF.rputo rCa (by first | (left; omega) | (right; simp only [List.length_cons, List.length_nil, length_bL, length_be, hSv.len]; omega))
                                          replace rSv := kF.rputo rSv (by first | (left; omega) | (right; simp only [List.length_cons, List.length_nil, length_bL, length_be, hSv.len]; omega))
                                          refine ⟨.inl rfl, ?_⟩
                                          have hfQ : FC H43 _ _ { f with gas := f.gas - cSent f + cG f q } (.slice am f.mem.length f.mem.length) := ⟨⟨fo.kind, fo.ntv, fo.pc, (show f.gas - cSent f + cG f q < 4294967296 by have h9 := sent_le f.gas (argN f.stack 0); have := nh.gas; unfold cG; split <;> (unfold cSent; omega)), fo.value, fo.outOff, fo.outLen, fo.self, fo.caller, fo.stack, fo.code, fo.input, fo.mem⟩, _, _, _, _, _, _, _, _, _, _, _, _, rF, rSe, rCa, rSv, hSv.mono hL0, (hPc.mono hL0), n43, (hVa.mono hL0), (hOf.mono hL0), (hOl.mono hL0), (hSt.mono hL0), (hCo.mono hL0), (hIn.mono hL0)⟩
                                          refine p_nil ?_
                                          refine hK41 _ _ ?_
                                          refine fg2 1 6 (gS rfl (gS rfl (gS rfl (gS rfl (gS rfl (gS rfl (gS rfl (gS rfl (gS rfl (gS rfl (gS rfl (gS rfl (gS rfl (gS rfl (gS rfl g0))))))))))))))) (gS rfl (gS rfl (gS rfl (gS rfl (gS rfl (gS rfl (gS rfl (gS rfl (gS rfl (gS rfl (gS rfl (gS rfl (gS rfl (gS rfl g0)))))))))))))) (fun g => ?_)
                                          refine c_seq (fun K45 hK45 => ?_)
                                          exact (by
                                            refine c_region ?_
                                            refine l_step (y_moveV (et (gS rfl g0) rfl)) ?_
                                            refine l_step (y_moveV (et (gS rfl g0) rfl)) ?_
                                            refine l_eff (e_callV cal_143 (aC (et (gS rfl g0) rfl) (aC (et g0 rfl) (aC rfl aN))) (yp_answer hF _ _ _ _ _ kF hfQ nbF (tkN q) nh.tk nh.stk nh.pc (NV.nil _) (show 0 < W256 by decide))) (fun v46 w46 h46 => ?_)
                                            obtain ⟨rfl, fs46, H46, g46, kf46, fc46, of46⟩ := h46
                                            have hlew46 := g46.le
                                            replace nb8 := g46.nb nb8 k8.lt
                                            replace nb18 := g46.nb nb18 k18.lt
                                            replace nbS := g46.nb nbS kS.lt
                                            replace nbF := g46.nb nbF kF.lt
                                            replace nbM := g46.nb nbM (Nat.lt_of_lt_of_le lM U.size)
                                            replace n4 := n4.mono hlew46
                                            replace n6 := n6.mono hlew46
                                            replace lv12 := lv12.mono hlew46
                                            replace hvv := hvv.mono hlew46
                                            replace n29 := n29.mono hlew46
                                            replace n31 := n31.mono hlew46
                                            replace hfP := hfP.mono hlew46
                                            replace jSv := jSv.mono hlew46
                                            replace jPc := jPc.mono hlew46
                                            replace jGa := jGa.mono hlew46
                                            replace jVa := jVa.mono hlew46
                                            replace jOf := jOf.mono hlew46
                                            replace jOl := jOl.mono hlew46
                                            replace jSt := jSt.mono hlew46
                                            replace jCo := jCo.mono hlew46
                                            replace jIn := jIn.mono hlew46
                                            replace n43 := n43.mono hlew46
                                            replace hfQ := hfQ.mono hlew46
                                            replace hL0 := hL0.trans hlew46
                                            replace k8 := k8.ch g46.ch (by omega)
                                            replace k18 := k18.ch g46.ch (by omega)
                                            replace kS := kS.ch g46.ch (by omega)
                                            replace kM := kM.ch g46.ch (by omega)
                                            replace kL := kL.ch g46.ch (by intro q hq hm; have := dL q hq; omega)
                                            replace kR := kR.ch g46.ch (by intro m hm; have := dR m hm; omega)
                                            replace kF := kf46
                                            replace U := U.cc g46.ch (by intro b hb; first | exact .inl hb | exact .inl (yOwn b (.inl hb)) | exact .inl (yOwn b (.inr (.inl hb))) | exact .inl (yOwn b (.inr (.inr (.inl hb)))) | exact .inl (yOwn b (.inr (.inr (.inr hb)))) | exact .inl (yOwn b hb) | exact .inl (yOwn b (hb.elim .inl (fun e => .inr (.inr (.inr e))))) | exact hb | exact .inr (by omega))
                                            replace G := G.trans g46 (by intro b hb; first | exact .inl hb | exact .inl (yOwn b (.inl hb)) | exact .inl (yOwn b (.inr (.inl hb))) | exact .inl (yOwn b (.inr (.inr (.inl hb)))) | exact .inl (yOwn b (.inr (.inr (.inr hb)))) | exact .inl (yOwn b hb) | exact .inl (yOwn b (hb.elim .inl (fun e => .inr (.inr (.inr e))))) | exact hb | exact .inr (by omega))
                                            replace hF := g46.fz
                                            replace oF := oF.trans of46
                                            refine l_nil ?_
                                            refine hK45 _ _ ?_
                                            refine fg0 (fun g => ?_)
                                            refine c_ret ?_
                                            repeat with_reducible refine then_ret ?_
                                            refine ret0 rfl ?_
                                            refine ⟨rfl, _, bf, G, ?_⟩
                                            rw [callY, if_pos hfa]
                                            exact (YT.close (low := low) (f := (cBack f q)) (msl := msl) (Y := fun b => Y b ∨ w.heap.size ≤ b) ⟨kS, SC.frames (show SC H46 _ (cS s f) _ from ⟨⟨so.accts, by show (withA s.now.warmA (ctT f)).length < _; have := len_withA s.now.warmA (ctT f); have := nh.warmA; omega, so.warmS, so.refund, so.logs, so.temps, so.made, so.gone, so.start, so.ret, so.phase, so.status, so.applied, so.limit, so.txGas, so.left, so.price, so.total, so.origin, so.mad⟩, eC.mono hL0, (by simp only [size_spl, Array.size_setIfInBounds]; exact hs.size), _, _, _, _, _, _, _, _, _, _, _, _, _, _, _, _, _, _, _, _, _, _, _, _, rS, rOr, rMd, (hAc.mono hL0), lv12, (hWS.mono hL0), (hRf.mono hL0), (hTm.mono hL0), (hMd.mono hL0), (hGn.mono hL0), (hSr.mono hL0), (hRt.mono hL0), (hLm.mono hL0), (hTx.mono hL0), (hLf.mono hL0), (hPr.mono hL0), (hTt.mono hL0)⟩) _, ⟨hcp, yt.hc.2.1, (by rw [oF.size]; exact yt.hc.2.2)⟩, kF, fc46, kM, (yt.hl.mono hL0).pre (oF.pre (Nat.le_refl _)) (Nat.le_refl _), kR, (show LG _ _ _ _ (cS s f).now.logs from kL.mono hL0), ((rS 4 _ rfl).trans (hv4.symm.trans hvl)), nbS, nbF, nbM, .inl yt.yS, .inl yt.yF, .inl yt.yM, Nat.lt_of_lt_of_le lM U.size, dSF, dMF, dSM, fun b e => ⟨Nat.lt_of_lt_of_le (dL b e).1 U.size, (dL b e).2⟩, fun b e => G.nb (yt.nbL b e) (dL b e).1, fun b e => .inl (yt.yL b e), fun m hm => ⟨Nat.lt_of_lt_of_le (dR m hm).1 U.size, (dR m hm).2⟩, fun m hm => ⟨G.nb (yt.nbR m hm).1 (dR m hm).1, .inl (yt.nbR m hm).2⟩, yt.ndR⟩ hF rfl))))
                                    · skip
                                      have hdp : ¬ 6 ≤ low.length := by have := of_decide_eq_false q39; omega
                                      refine p_gstep (j := 7) (t := 115) (by exact rfl) (by exact rfl) (by exact rfl) (et g0 rfl) rfl (y_moveV (et (gS rfl (gS rfl (gS rfl (gS rfl (gS rfl (gS rfl (gS rfl (gS rfl (gS rfl (gS rfl (gS rfl (gS rfl (gS rfl (gS rfl (gS rfl g0))))))))))))))) rfl)) ?_
                                      refine p_gstep (j := 7) (t := 115) (by exact rfl) (by exact rfl) (by exact rfl) (et (gS rfl g0) rfl) rfl (y_nil (et g0 rfl)) ?_
                                      refine p_gstep (j := 7) (t := 115) (by exact rfl) (by exact rfl) (by exact rfl) (et (gS rfl (gS rfl g0)) rfl) rfl (y_fld fld_102_0 (et g0 rfl)) ?_
                                      refine p_gstep (j := 7) (t := 115) (by exact rfl) (by exact rfl) (by exact rfl) (et (gS rfl (gS rfl (gS rfl g0))) rfl) rfl (y_moveV (et (gS rfl (gS rfl (gS rfl (gS rfl (gS rfl (gS rfl (gS rfl (gS rfl (gS rfl (gS rfl (gS rfl (gS rfl (gS rfl (gS rfl (gS rfl (gS rfl (gS rfl g0))))))))))))))))) rfl)) ?_
                                      refine p_gstep (j := 7) (t := 115) (by exact rfl) (by exact rfl) (by exact rfl) (et (gS rfl (gS rfl (gS rfl (gS rfl g0)))) rfl) rfl (y_nil (et g0 rfl)) ?_
                                      refine p_gstep (j := 7) (t := 115) (by exact rfl) (by exact rfl) (by exact rfl) (et (gS rfl (gS rfl (gS rfl (gS rfl (gS rfl g0))))) rfl) rfl (y_fld fld_146_12 (et g0 rfl)) ?_
                                      refine p_gstep (j := 7) (t := 115) (by exact rfl) (by exact rfl) (by exact rfl) (et (gS rfl (gS rfl (gS rfl (gS rfl (gS rfl (gS rfl g0)))))) rfl) rfl (y_loadR agg_25 sz_25 (et g0 rfl) (by rw [length_bL, length_be]) (atSR (kF.row rSe))) ?_
                                      refine p_gstep (j := 7) (t := 115) (by exact rfl) (by exact rfl) (by exact rfl) (et (gS rfl (gS rfl (gS rfl (gS rfl (gS rfl (gS rfl (gS rfl g0))))))) rfl) rfl (y_moveV (et (gS rfl (gS rfl (gS rfl (gS rfl (gS rfl (gS rfl (gS rfl (gS rfl (gS rfl (gS rfl (gS rfl (gS rfl (gS rfl (gS rfl (gS rfl (gS rfl (gS rfl (gS rfl g0)))))))))))))))))) rfl)) ?_
                                      refine p_geff (j := 7) (t := 115) (by exact rfl) (by exact rfl) (by exact rfl) (et (gS rfl (gS rfl (gS rfl (gS rfl (gS rfl (gS rfl (gS rfl (gS rfl g0)))))))) rfl) rfl (e_callV cal_43 (aC (et (gS rfl (gS rfl (gS rfl (gS rfl (gS rfl g0))))) rfl) (aC (et (gS rfl g0) rfl) aN)) (yp_account _ _ _ _ _ _ _ _ _ hF kS (rS 0 _ rfl) (hAc.mono hL0) fo.self (by omega))) (fun v47 w47 h47 => ?_)
                                      obtain ⟨c47, rfl, p47, u47⟩ := h47
                                      replace G := G.tr (Go.ofUp hF u47)
                                      replace hF := hF.up u47
                                      replace k8 := k8.up u47
                                      replace k18 := k18.up u47
                                      replace kS := kS.up u47
                                      replace kF := kF.up u47
                                      replace kM := kM.up u47
                                      replace kL := kL.up u47
                                      replace kR := kR.up u47
                                      replace U := U.tr u47
                                      replace p47 : PA _ _ _ := ⟨p47⟩
                                      refine ⟨.inr (SU.tr u47), ?_⟩
                                      replace SU := SU.tr u47
                                      obtain ⟨vn48, vb48, vc48, vs48, hc48, hn48, hbb48, hcd48, hb148, hb248⟩ := acct_form p47.p
                                      rw [hc48]
                                      refine p_gstep (j := 7) (t := 115) (by exact rfl) (by exact rfl) (by exact rfl) (et (gS rfl (gS rfl (gS rfl (gS rfl (gS rfl (gS rfl (gS rfl (gS rfl (gS rfl g0))))))))) rfl) rfl (y_fldV (f := 2) Hvaa.underlying107 rfl rfl rfl one_95 (et g0 rfl) ((app20 (i := 1) rfl).trans rfl)) ?_
                                      refine p_geff (j := 7) (t := 115) (by exact rfl) (by exact rfl) (by exact rfl) (et (gS rfl (gS rfl (gS rfl (gS rfl (gS rfl (gS rfl (gS rfl (gS rfl (gS rfl (gS rfl g0)))))))))) rfl) rfl (e_callV cal_121 (aC (et g0 rfl) (aC (et (gS rfl (gS rfl g0)) rfl) aN)) (nat_cmp hF hbb48 hvv (bd_sm (bd_W hb248) (by decide)) (bd_sm (bd_W hcV) (by decide)))) (fun v49 w49 h49 => ?_)
                                      obtain ⟨rfl, u49⟩ := h49
                                      replace G := G.tr (Go.ofUp hF u49)
                                      replace hF := hF.up u49
                                      replace k8 := k8.up u49
                                      replace k18 := k18.up u49
                                      replace kS := kS.up u49
                                      replace kF := kF.up u49
                                      replace kM := kM.up u49
                                      replace kL := kL.up u49
                                      replace kR := kR.up u49
                                      replace U := U.tr u49
                                      refine ⟨.inr (SU.tr u49), ?_⟩
                                      replace SU := SU.tr u49
                                      exact (by
                                        refine p_gstep (j := 7) (t := 115) (by exact rfl) (by exact rfl) (by exact rfl) (et (gS rfl (gS rfl (gS rfl (gS rfl (gS rfl (gS rfl (gS rfl (gS rfl (gS rfl (gS rfl (gS rfl g0))))))))))) rfl) rfl ((y_lss (et g0 rfl) rfl).to (congrArg Value.bool (cmp_lt0 _ _))) ?_
                                        refine p_step (by exact rfl) (y_pickF (et (gS rfl (gS rfl (gS rfl (gS rfl (gS rfl (gS rfl (gS rfl (gS rfl (gS rfl (gS rfl (gS rfl (gS rfl g0)))))))))))) rfl) (et g0 rfl)) ?_
                                        refine p_nil ?_
                                        refine hK37 _ _ ?_
                                        refine fg7 0 1 6 10 12 13 128 (gS rfl (gS rfl (gS rfl (gS rfl (gS rfl (gS rfl (gS rfl (gS rfl (gS rfl (gS rfl (gS rfl (gS rfl (gS rfl (gS rfl (gS rfl (gS rfl (gS rfl (gS rfl (gS rfl (gS rfl (gS rfl (gS rfl (gS rfl (gS rfl (gS rfl (gS rfl (gS rfl (gS rfl g0)))))))))))))))))))))))))))) (gS rfl (gS rfl (gS rfl (gS rfl (gS rfl (gS rfl (gS rfl (gS rfl (gS rfl (gS rfl (gS rfl (gS rfl (gS rfl (gS rfl (gS rfl (gS rfl (gS rfl (gS rfl (gS rfl (gS rfl (gS rfl (gS rfl (gS rfl (gS rfl (gS rfl (gS rfl (gS rfl g0))))))))))))))))))))))))))) (gS rfl (gS rfl (gS rfl (gS rfl (gS rfl (gS rfl (gS rfl (gS rfl (gS rfl (gS rfl (gS rfl (gS rfl (gS rfl (gS rfl (gS rfl (gS rfl (gS rfl (gS rfl (gS rfl (gS rfl (gS rfl (gS rfl (gS rfl (gS rfl (gS rfl (gS rfl g0)))))))))))))))))))))))))) (gS rfl (gS rfl (gS rfl (gS rfl (gS rfl (gS rfl (gS rfl (gS rfl (gS rfl (gS rfl (gS rfl (gS rfl (gS rfl (gS rfl (gS rfl (gS rfl (gS rfl (gS rfl (gS rfl (gS rfl (gS rfl (gS rfl (gS rfl (gS rfl (gS rfl g0))))))))))))))))))))))))) (gS rfl (gS rfl (gS rfl (gS rfl (gS rfl (gS rfl (gS rfl (gS rfl (gS rfl (gS rfl (gS rfl (gS rfl (gS rfl (gS rfl (gS rfl (gS rfl (gS rfl (gS rfl (gS rfl (gS rfl (gS rfl (gS rfl (gS rfl g0))))))))))))))))))))))) (gS rfl (gS rfl (gS rfl (gS rfl (gS rfl (gS rfl (gS rfl (gS rfl (gS rfl (gS rfl (gS rfl (gS rfl (gS rfl (gS rfl (gS rfl (gS rfl (gS rfl (gS rfl (gS rfl (gS rfl (gS rfl (gS rfl g0)))))))))))))))))))))) g0 (fun g => ?_)
                                        refine c_cond (et g0 rfl) (fun cB6 => ?_) (fun cB6 => ?_)
                                        · skip
                                          
                                          have hfa : cFail s f q low.length := .inr (of_decide_eq_true cB6)
                                          refine c_seq (fun K51 hK51 => ?_)
                                          exact (by
                                            refine c_draw Up 10 [(0, true), (1, true), (2, true), (3, true), (4, true), (5, true), (6, true), (7, false), (8, true), (9, true), (10, false)] (by kernel_rfl) (fun w52 hu => ⟨Up.refl _, ?_⟩)
                                            replace G := G.tr (Go.ofUp hF hu)
                                            replace hF := hF.up hu
                                            replace k8 := k8.up hu
                                            replace k18 := k18.up hu
                                            replace kS := kS.up hu
                                            replace kF := kF.up hu
                                            replace kM := kM.up hu
                                            replace kL := kL.up hu
                                            replace kR := kR.up hu
                                            replace U := U.tr hu
                                            have SU := Up.refl w52
                                            refine p_step (by exact rfl) (y_moveV (et (gS rfl (gS rfl (gS rfl (gS rfl (gS rfl g0))))) rfl)) ?_
                                            refine p_step (by exact rfl) (y_moveV (et (gS rfl (gS rfl (gS rfl (gS rfl (gS rfl (gS rfl g0)))))) rfl)) ?_
                                            refine p_step (by exact rfl) (y_nil (et g0 rfl)) ?_
                                            refine p_step (by exact rfl) (y_fld fld_146_4 (et g0 rfl)) ?_
                                            refine p_step (by exact rfl) (y_load1 one_95 (et g0 rfl) (atS (kF.cell (rF 4 _ rfl)))) ?_
                                            refine p_step (by exact rfl) (y_fld fld_146_4 (et (gS rfl (gS rfl (gS rfl (gS rfl (gS rfl (gS rfl g0)))))) rfl)) ?_
                                            refine p_step (by exact rfl) (y_load1 one_95 (et g0 rfl) (atS (k18.cell (cF 4 _ rfl)))) ?_
                                            refine p_eff (by exact rfl) (e_callV cal_34 (aC (et (gS rfl (gS rfl g0)) rfl) (aC (et g0 rfl) aN)) (nat_add hF n31 jGa (bd_sm q31 (by decide)) (bd_sm (bd_lt2 (b := 256 ^ 4) jo.gas (by decide)) (by decide)))) (fun v53 w53 h53 => ?_)
                                            obtain ⟨H53, g53, n53⟩ := h53
                                            have hlew53 := g53.le
                                            replace nb8 := g53.nb nb8 k8.lt
                                            replace nb18 := g53.nb nb18 k18.lt
                                            replace nbS := g53.nb nbS kS.lt
                                            replace nbF := g53.nb nbF kF.lt
                                            replace nbM := g53.nb nbM (Nat.lt_of_lt_of_le lM U.size)
                                            replace n4 := n4.mono hlew53
                                            replace n6 := n6.mono hlew53
                                            replace lv12 := lv12.mono hlew53
                                            replace hvv := hvv.mono hlew53
                                            replace n29 := n29.mono hlew53
                                            replace n31 := n31.mono hlew53
                                            replace hfP := hfP.mono hlew53
                                            replace jSv := jSv.mono hlew53
                                            replace jPc := jPc.mono hlew53
                                            replace jGa := jGa.mono hlew53
                                            replace jVa := jVa.mono hlew53
                                            replace jOf := jOf.mono hlew53
                                            replace jOl := jOl.mono hlew53
                                            replace jSt := jSt.mono hlew53
                                            replace jCo := jCo.mono hlew53
                                            replace jIn := jIn.mono hlew53
                                            replace p47 := p47.mono hlew53
                                            replace hn48 := hn48.mono hlew53
                                            replace hbb48 := hbb48.mono hlew53
                                            replace hcd48 := hcd48.mono hlew53
                                            replace hL0 := hL0.trans hlew53
                                            replace k8 := k8.up g53.up
                                            replace k18 := k18.up g53.up
                                            replace kS := kS.up g53.up
                                            replace kF := kF.up g53.up
                                            replace kM := kM.up g53.up
                                            replace kL := kL.up g53.up
                                            replace kR := kR.up g53.up
                                            replace U := U.tr g53.up
                                            replace G := G.tr g53
                                            replace hF := g53.fz
                                            have q53 := bd_add (c := 5) q31 (bd_lt2 (b := 256 ^ 4) jo.gas (by decide)) (by decide)
                                            refine ⟨.inr (SU.tr g53.up), ?_⟩
                                            replace SU := SU.tr g53.up
                                            exact (by
                                              refine p_step (by exact rfl) (y_nil (et (gS rfl (gS rfl (gS rfl (gS rfl (gS rfl (gS rfl (gS rfl g0))))))) rfl)) ?_
                                              refine p_step (by exact rfl) (y_fld fld_146_4 (et g0 rfl)) ?_
                                              obtain ⟨sa54, sn54, sc54, rfl⟩ := n53.sl
                                              have rl54 := RowIn.le rF (Nat.succ_pos _)
                                              simp only [List.length_cons, List.length_nil, Nat.zero_add, Nat.reduceAdd] at rl54
                                              refine p_effN (by exact rfl) (e_store sz_95 (et g0 rfl) (cellsV (et (gS rfl (gS rfl g0)) rfl) rfl) rfl (by first | exact one_bL _ | exact one_uL _ | (intro v hv; simp at hv; subst hv; rfl)) kF (by first | exact Nat.le_trans (by omega) rl54 | exact Nat.le_of_ble_eq_true rfl | (simp; done) | (simp; omega) | omega | (simp only [size_spl, Array.size_setIfInBounds, hs.size]; exact Nat.le_of_ble_eq_true rfl))) (fun v54 w54 h54 => ?_)
                                              obtain ⟨rfl, x54⟩ := h54
                                              replace k8 := k8.ch x54.ch (by omega)
                                              replace k18 := k18.ch x54.ch (by omega)
                                              replace kS := kS.ch x54.ch (by omega)
                                              replace kM := kM.ch x54.ch (by omega)
                                              replace kL := kL.ch x54.ch (by intro q hq hm; have := dL q hq; omega)
                                              replace kR := kR.ch x54.ch (by intro m hm; have := dR m hm; omega)
                                              replace kF := x54.blk
                                              replace G := G.wr x54 (.inl (by first | rfl | exact yt.yS | exact yt.yF | (simp; done))) nbF
                                              replace hF := G.fz
                                              replace U := U.st x54 (.inl (by first | rfl | exact yt.yS | exact yt.yF | (simp; done)))
                                              replace oF := kF.oput oF (by omega) (by omega)
                                              replace rF : RowIn _ _ [.int .u8 (f.kind : Nat), .int .u8 (f.ntv : Nat), .bool f.static, vpc, _, vval, voo, vol, .slice ka f.stack.length kc, .slice am f.mem.length f.mem.length, .slice ca f.code.length cc, .slice ia f.input.length ic] := kF.rput rF 4 rfl
                                              replace rSe := kF.rputo rSe (by first | (left; omega) | (right; simp only [List.length_cons, List.length_nil, length_bL, length_be, hSv.len]; omega))
                                              replace rCa := kF.rputo rCa (by first | (left; omega) | (right; simp only [List.length_cons, List.length_nil, length_bL, length_be, hSv.len]; omega))
                                              replace rSv := kF.rputo rSv (by first | (left; omega) | (right; simp only [List.length_cons, List.length_nil, length_bL, length_be, hSv.len]; omega))
                                              refine ⟨.inl rfl, ?_⟩
                                              have hfQ : FC H53 _ _ { f with gas := f.gas - cSent f + cG f q } (.slice am f.mem.length f.mem.length) := ⟨⟨fo.kind, fo.ntv, fo.pc, (show f.gas - cSent f + cG f q < 4294967296 by have h9 := sent_le f.gas (argN f.stack 0); have := nh.gas; unfold cG; split <;> (unfold cSent; omega)), fo.value, fo.outOff, fo.outLen, fo.self, fo.caller, fo.stack, fo.code, fo.input, fo.mem⟩, _, _, _, _, _, _, _, _, _, _, _, _, rF, rSe, rCa, rSv, hSv.mono hL0, (hPc.mono hL0), n53, (hVa.mono hL0), (hOf.mono hL0), (hOl.mono hL0), (hSt.mono hL0), (hCo.mono hL0), (hIn.mono hL0)⟩
                                              refine p_nil ?_
                                              refine hK51 _ _ ?_
                                              refine fg2 1 6 (gS rfl (gS rfl (gS rfl (gS rfl (gS rfl (gS rfl (gS rfl (gS rfl (gS rfl (gS rfl (gS rfl (gS rfl (gS rfl (gS rfl (gS rfl g0))))))))))))))) (gS rfl (gS rfl (gS rfl (gS rfl (gS rfl (gS rfl (gS rfl (gS rfl (gS rfl (gS rfl (gS rfl (gS rfl (gS rfl (gS rfl g0)))))))))))))) (fun g => ?_)
                                              refine c_seq (fun K55 hK55 => ?_)
                                              exact (by
                                                refine c_region ?_
                                                refine l_step (y_moveV (et (gS rfl g0) rfl)) ?_
                                                refine l_step (y_moveV (et (gS rfl g0) rfl)) ?_
                                                refine l_eff (e_callV cal_143 (aC (et (gS rfl g0) rfl) (aC (et g0 rfl) (aC rfl aN))) (yp_answer hF _ _ _ _ _ kF hfQ nbF (tkN q) nh.tk nh.stk nh.pc (NV.nil _) (show 0 < W256 by decide))) (fun v56 w56 h56 => ?_)
                                                obtain ⟨rfl, fs56, H56, g56, kf56, fc56, of56⟩ := h56
                                                have hlew56 := g56.le
                                                replace nb8 := g56.nb nb8 k8.lt
                                                replace nb18 := g56.nb nb18 k18.lt
                                                replace nbS := g56.nb nbS kS.lt
                                                replace nbF := g56.nb nbF kF.lt
                                                replace nbM := g56.nb nbM (Nat.lt_of_lt_of_le lM U.size)
                                                replace n4 := n4.mono hlew56
                                                replace n6 := n6.mono hlew56
                                                replace lv12 := lv12.mono hlew56
                                                replace hvv := hvv.mono hlew56
                                                replace n29 := n29.mono hlew56
                                                replace n31 := n31.mono hlew56
                                                replace hfP := hfP.mono hlew56
                                                replace jSv := jSv.mono hlew56
                                                replace jPc := jPc.mono hlew56
                                                replace jGa := jGa.mono hlew56
                                                replace jVa := jVa.mono hlew56
                                                replace jOf := jOf.mono hlew56
                                                replace jOl := jOl.mono hlew56
                                                replace jSt := jSt.mono hlew56
                                                replace jCo := jCo.mono hlew56
                                                replace jIn := jIn.mono hlew56
                                                replace p47 := p47.mono hlew56
                                                replace hn48 := hn48.mono hlew56
                                                replace hbb48 := hbb48.mono hlew56
                                                replace hcd48 := hcd48.mono hlew56
                                                replace n53 := n53.mono hlew56
                                                replace hfQ := hfQ.mono hlew56
                                                replace hL0 := hL0.trans hlew56
                                                replace k8 := k8.ch g56.ch (by omega)
                                                replace k18 := k18.ch g56.ch (by omega)
                                                replace kS := kS.ch g56.ch (by omega)
                                                replace kM := kM.ch g56.ch (by omega)
                                                replace kL := kL.ch g56.ch (by intro q hq hm; have := dL q hq; omega)
                                                replace kR := kR.ch g56.ch (by intro m hm; have := dR m hm; omega)
                                                replace kF := kf56
                                                replace U := U.cc g56.ch (by intro b hb; first | exact .inl hb | exact .inl (yOwn b (.inl hb)) | exact .inl (yOwn b (.inr (.inl hb))) | exact .inl (yOwn b (.inr (.inr (.inl hb)))) | exact .inl (yOwn b (.inr (.inr (.inr hb)))) | exact .inl (yOwn b hb) | exact .inl (yOwn b (hb.elim .inl (fun e => .inr (.inr (.inr e))))) | exact hb | exact .inr (by omega))
                                                replace G := G.trans g56 (by intro b hb; first | exact .inl hb | exact .inl (yOwn b (.inl hb)) | exact .inl (yOwn b (.inr (.inl hb))) | exact .inl (yOwn b (.inr (.inr (.inl hb)))) | exact .inl (yOwn b (.inr (.inr (.inr hb)))) | exact .inl (yOwn b hb) | exact .inl (yOwn b (hb.elim .inl (fun e => .inr (.inr (.inr e))))) | exact hb | exact .inr (by omega))
                                                replace hF := g56.fz
                                                replace oF := oF.trans of56
                                                refine l_nil ?_
                                                refine hK55 _ _ ?_
                                                refine fg0 (fun g => ?_)
                                                refine c_ret ?_
                                                repeat with_reducible refine then_ret ?_
                                                refine ret0 rfl ?_
                                                refine ⟨rfl, _, bf, G, ?_⟩
                                                rw [callY, if_pos hfa]
                                                exact (YT.close (low := low) (f := (cBack f q)) (msl := msl) (Y := fun b => Y b ∨ w.heap.size ≤ b) ⟨kS, SC.frames (show SC H56 _ (cS s f) _ from ⟨⟨so.accts, by show (withA s.now.warmA (ctT f)).length < _; have := len_withA s.now.warmA (ctT f); have := nh.warmA; omega, so.warmS, so.refund, so.logs, so.temps, so.made, so.gone, so.start, so.ret, so.phase, so.status, so.applied, so.limit, so.txGas, so.left, so.price, so.total, so.origin, so.mad⟩, eC.mono hL0, (by simp only [size_spl, Array.size_setIfInBounds]; exact hs.size), _, _, _, _, _, _, _, _, _, _, _, _, _, _, _, _, _, _, _, _, _, _, _, _, rS, rOr, rMd, (hAc.mono hL0), lv12, (hWS.mono hL0), (hRf.mono hL0), (hTm.mono hL0), (hMd.mono hL0), (hGn.mono hL0), (hSr.mono hL0), (hRt.mono hL0), (hLm.mono hL0), (hTx.mono hL0), (hLf.mono hL0), (hPr.mono hL0), (hTt.mono hL0)⟩) _, ⟨hcp, yt.hc.2.1, (by rw [oF.size]; exact yt.hc.2.2)⟩, kF, fc56, kM, (yt.hl.mono hL0).pre (oF.pre (Nat.le_refl _)) (Nat.le_refl _), kR, (show LG _ _ _ _ (cS s f).now.logs from kL.mono hL0), ((rS 4 _ rfl).trans (hv4.symm.trans hvl)), nbS, nbF, nbM, .inl yt.yS, .inl yt.yF, .inl yt.yM, Nat.lt_of_lt_of_le lM U.size, dSF, dMF, dSM, fun b e => ⟨Nat.lt_of_lt_of_le (dL b e).1 U.size, (dL b e).2⟩, fun b e => G.nb (yt.nbL b e) (dL b e).1, fun b e => .inl (yt.yL b e), fun m hm => ⟨Nat.lt_of_lt_of_le (dR m hm).1 U.size, (dR m hm).2⟩, fun m hm => ⟨G.nb (yt.nbR m hm).1 (dR m hm).1, .inl (yt.nbR m hm).2⟩, yt.ndR⟩ hF rfl))))
                                        · skip
                                          
                                          have hfa : ¬ cFail s f q low.length := fun h9 => h9.elim hdp (of_decide_eq_false cB6)
                                          refine c_skip ?_
                                          refine hK36 _ _ ?_
                                          refine fg6 0 1 6 10 12 13 (gS rfl (gS rfl (gS rfl (gS rfl (gS rfl (gS rfl g0)))))) (gS rfl (gS rfl (gS rfl (gS rfl (gS rfl g0))))) (gS rfl (gS rfl (gS rfl (gS rfl g0)))) (gS rfl (gS rfl (gS rfl g0))) (gS rfl (gS rfl g0)) (gS rfl g0) (fun g => ?_)
                                          refine c_seq (fun K57 hK57 => ?_)
                                          exact (by
                                            refine c_region ?_
                                            refine l_step (y_moveV (et (gS rfl (gS rfl (gS rfl (gS rfl g0)))) rfl)) ?_
                                            refine l_step (y_moveV (et (gS rfl (gS rfl (gS rfl (gS rfl (gS rfl g0))))) rfl)) ?_
                                            refine l_step (y_moveV (et (gS rfl (gS rfl (gS rfl g0))) rfl)) ?_
                                            refine l_eff (e_callV cal_63 (aC (et (gS rfl g0) rfl) (aC (et g0 rfl) aN)) (yp_arg _ _ (tkN q - 4) _ _ _ _ _ _ hF kF (rF 8 _ rfl) (hSt.mono hL0) (by omega) (by first | decide | omega))) (fun v58 w58 h58 => ?_)
                                            obtain ⟨u58, n58, q58⟩ := h58
                                            replace G := G.tr (Go.ofUp hF u58)
                                            replace hF := hF.up u58
                                            replace k8 := k8.up u58
                                            replace k18 := k18.up u58
                                            replace kS := kS.up u58
                                            replace kF := kF.up u58
                                            replace kM := kM.up u58
                                            replace kL := kL.up u58
                                            replace kR := kR.up u58
                                            replace U := U.tr u58
                                            refine l_step (y_moveV (et (gS rfl (gS rfl (gS rfl (gS rfl (gS rfl (gS rfl (gS rfl (gS rfl g0)))))))) rfl)) ?_
                                            refine l_step (y_moveV (et (gS rfl (gS rfl (gS rfl (gS rfl (gS rfl (gS rfl g0)))))) rfl)) ?_
                                            refine l_step (y_add (et g0 rfl) rfl (addIN (y := 1) ?_)) ?_
                                            omega
                                            refine l_eff (e_callV cal_63 (aC (et (gS rfl (gS rfl g0)) rfl) (aC (et g0 rfl) aN)) (yp_arg _ _ (tkN q - 4 + 1) _ _ _ _ _ _ hF kF (rF 8 _ rfl) (hSt.mono hL0) (by omega) (by first | decide | omega))) (fun v59 w59 h59 => ?_)
                                            obtain ⟨u59, n59, q59⟩ := h59
                                            replace G := G.tr (Go.ofUp hF u59)
                                            replace hF := hF.up u59
                                            replace k8 := k8.up u59
                                            replace k18 := k18.up u59
                                            replace kS := kS.up u59
                                            replace kF := kF.up u59
                                            replace kM := kM.up u59
                                            replace kL := kL.up u59
                                            replace kR := kR.up u59
                                            replace U := U.tr u59
                                            exact (by
                                              refine l_eff (e_callV cal_62 (aC (et (gS rfl (gS rfl (gS rfl (gS rfl (gS rfl (gS rfl (gS rfl g0))))))) rfl) (aC (et (gS rfl (gS rfl (gS rfl (gS rfl g0)))) rfl) (aC (et g0 rfl) aN))) (yp_read hF _ _ _ _ _ kF hfP _ kM (Nat.lt_of_lt_of_le lM U.size) n58 n59 (bd_W q58) (bd_W q59) (Nat.le_trans (Nat.le_of_lt nh.rd) (by decide)))) (fun v60 w60 h60 => ?_)
                                              obtain ⟨H60, g60, b60⟩ := h60
                                              have hlew60 := g60.le
                                              replace nb8 := g60.nb nb8 k8.lt
                                              replace nb18 := g60.nb nb18 k18.lt
                                              replace nbS := g60.nb nbS kS.lt
                                              replace nbF := g60.nb nbF kF.lt
                                              replace nbM := g60.nb nbM (Nat.lt_of_lt_of_le lM U.size)
                                              replace n4 := n4.mono hlew60
                                              replace n6 := n6.mono hlew60
                                              replace lv12 := lv12.mono hlew60
                                              replace hvv := hvv.mono hlew60
                                              replace n29 := n29.mono hlew60
                                              replace n31 := n31.mono hlew60
                                              replace hfP := hfP.mono hlew60
                                              replace jSv := jSv.mono hlew60
                                              replace jPc := jPc.mono hlew60
                                              replace jGa := jGa.mono hlew60
                                              replace jVa := jVa.mono hlew60
                                              replace jOf := jOf.mono hlew60
                                              replace jOl := jOl.mono hlew60
                                              replace jSt := jSt.mono hlew60
                                              replace jCo := jCo.mono hlew60
                                              replace jIn := jIn.mono hlew60
                                              replace p47 := p47.mono hlew60
                                              replace hn48 := hn48.mono hlew60
                                              replace hbb48 := hbb48.mono hlew60
                                              replace hcd48 := hcd48.mono hlew60
                                              replace n58 := n58.mono hlew60
                                              replace n59 := n59.mono hlew60
                                              replace hL0 := hL0.trans hlew60
                                              replace k8 := k8.up g60.up
                                              replace k18 := k18.up g60.up
                                              replace kS := kS.up g60.up
                                              replace kF := kF.up g60.up
                                              replace kM := kM.up g60.up
                                              replace kL := kL.up g60.up
                                              replace kR := kR.up g60.up
                                              replace U := U.tr g60.up
                                              replace G := G.tr g60
                                              replace hF := g60.fz
                                              obtain ⟨ia60, ic60, rfl, hil60, hic60⟩ := b60.sv.val
                                              exact (by
                                                refine l_step (y_fld fld_146_11 (et (gS rfl (gS rfl (gS rfl (gS rfl (gS rfl (gS rfl (gS rfl (gS rfl (gS rfl g0))))))))) rfl)) ?_
                                                have rl61 := RowIn.le cF (Nat.succ_pos _)
                                                simp only [List.length_cons, List.length_nil, Nat.zero_add, Nat.reduceAdd] at rl61
                                                refine l_effN (e_store sz_38 (et g0 rfl) (cellsV (et (gS rfl g0) rfl) rfl) rfl (by first | exact one_bL _ | exact one_uL _ | (intro v hv; simp at hv; subst hv; rfl)) k18 (by first | exact Nat.le_trans (by omega) rl61 | exact Nat.le_of_ble_eq_true rfl | simp | omega)) (fun v61 w61 h61 => ?_)
                                                obtain ⟨rfl, x61⟩ := h61
                                                replace k8 := k8.ch x61.ch (by omega)
                                                replace kS := kS.ch x61.ch (by first | omega | (omega))
                                                replace kF := kF.ch x61.ch (by first | omega | (omega))
                                                replace kM := kM.ch x61.ch (by first | omega | (omega))
                                                replace kL := kL.ch x61.ch (by first | omega | (intro q hq hm; have := dL q hq; omega))
                                                replace kR := kR.ch x61.ch (by first | omega | (intro m hm; have := dR m hm; omega))
                                                replace k18 := x61.blk
                                                replace cF : RowIn _ _ [.int .u8 ((cFr (cK q) (cSt f q) (cVal f q) (cSelf f q) (cCal f q) (cG f q) 0 [] []).kind : Nat), .int .u8 ((cFr (cK q) (cSt f q) (cVal f q) (cSelf f q) (cCal f q) (cG f q) 0 [] []).ntv : Nat), .bool (cFr (cK q) (cSt f q) (cVal f q) (cSelf f q) (cCal f q) (cG f q) 0 [] []).static, ypc, ygas, yval, yoo, yol, .slice yka (cFr (cK q) (cSt f q) (cVal f q) (cSelf f q) (cCal f q) (cG f q) 0 [] []).stack.length ykc, .slice none 0 0, .slice yca (cFr (cK q) (cSt f q) (cVal f q) (cSelf f q) (cCal f q) (cG f q) 0 [] []).code.length ycc, _] := k18.rput cF 11 rfl
                                                replace cSe := k18.rputo cSe (by first | (left; omega) | (right; simp only [List.length_cons, List.length_nil, length_bL, length_be, jSv.len]; omega))
                                                replace cCa := k18.rputo cCa (by first | (left; omega) | (right; simp only [List.length_cons, List.length_nil, length_bL, length_be, jSv.len]; omega))
                                                replace cSv := k18.rputo cSv (by first | (left; omega) | (right; simp only [List.length_cons, List.length_nil, length_bL, length_be, jSv.len]; omega))
                                                replace G := G.wr x61 (by first | exact .inr f18 | omega | (simp; omega)) nb18
                                                replace hF := G.fz
                                                replace U := U.st x61 (.inr f18)
                                                refine l_nil ?_
                                                refine hK57 _ _ ?_
                                                refine fg6 0 1 6 10 12 13 (gS rfl (gS rfl (gS rfl (gS rfl (gS rfl (gS rfl (gS rfl (gS rfl (gS rfl (gS rfl (gS rfl (gS rfl (gS rfl (gS rfl (gS rfl g0))))))))))))))) (gS rfl (gS rfl (gS rfl (gS rfl (gS rfl (gS rfl (gS rfl (gS rfl (gS rfl (gS rfl (gS rfl (gS rfl (gS rfl (gS rfl g0)))))))))))))) (gS rfl (gS rfl (gS rfl (gS rfl (gS rfl (gS rfl (gS rfl (gS rfl (gS rfl (gS rfl (gS rfl (gS rfl (gS rfl g0))))))))))))) (gS rfl (gS rfl (gS rfl (gS rfl (gS rfl (gS rfl (gS rfl (gS rfl (gS rfl (gS rfl (gS rfl (gS rfl g0)))))))))))) (gS rfl (gS rfl (gS rfl (gS rfl (gS rfl (gS rfl (gS rfl (gS rfl (gS rfl (gS rfl (gS rfl g0))))))))))) (gS rfl (gS rfl (gS rfl (gS rfl (gS rfl (gS rfl (gS rfl (gS rfl (gS rfl (gS rfl g0)))))))))) (fun g => ?_)
                                                refine c_seq (fun K62 hK62 => ?_)
                                                exact (by
                                                  refine c_region ?_
                                                  refine l_step (y_loadB agg_25 sz_25 (et (gS rfl (gS rfl g0)) rfl) (by rw [List.size_toArray, length_bL, length_be]) (at1B k8)) ?_
                                                  refine l_eff (e_callV cal_53 (aC (et g0 rfl) aN) (yp_nativeAt _ _ (Nat.mod_lt _ A160_pos))) (fun v63 w63 h63 => ?_)
                                                  obtain ⟨rfl, u63⟩ := h63
                                                  replace G := G.tr (Go.ofUp hF u63)
                                                  replace hF := hF.up u63
                                                  replace k8 := k8.up u63
                                                  replace k18 := k18.up u63
                                                  replace kS := kS.up u63
                                                  replace kF := kF.up u63
                                                  replace kM := kM.up u63
                                                  replace kL := kL.up u63
                                                  replace kR := kR.up u63
                                                  replace U := U.tr u63
                                                  refine l_step (y_fld fld_146_1 (et (gS rfl (gS rfl g0)) rfl)) ?_
                                                  have rl64 := RowIn.le cF (Nat.succ_pos _)
                                                  simp only [List.length_cons, List.length_nil, Nat.zero_add, Nat.reduceAdd] at rl64
                                                  refine l_effN (e_store sz_5 (et g0 rfl) (cellsV (et (gS rfl g0) rfl) rfl) rfl (by first | exact one_bL _ | exact one_uL _ | (intro v hv; simp at hv; subst hv; rfl)) k18 (by first | exact Nat.le_trans (by omega) rl64 | exact Nat.le_of_ble_eq_true rfl | simp | omega)) (fun v64 w64 h64 => ?_)
                                                  obtain ⟨rfl, x64⟩ := h64
                                                  replace k8 := k8.ch x64.ch (by omega)
                                                  replace kS := kS.ch x64.ch (by first | omega | (omega))
                                                  replace kF := kF.ch x64.ch (by first | omega | (omega))
                                                  replace kM := kM.ch x64.ch (by first | omega | (omega))
                                                  replace kL := kL.ch x64.ch (by first | omega | (intro q hq hm; have := dL q hq; omega))
                                                  replace kR := kR.ch x64.ch (by first | omega | (intro m hm; have := dR m hm; omega))
                                                  replace k18 := x64.blk
                                                  replace cF : RowIn _ _ [.int .u8 ((cFr (cK q) (cSt f q) (cVal f q) (cSelf f q) (cCal f q) (cG f q) 0 [] []).kind : Nat), .int .u8 (natAt (ctT f) : Nat), .bool (cFr (cK q) (cSt f q) (cVal f q) (cSelf f q) (cCal f q) (cG f q) 0 [] []).static, ypc, ygas, yval, yoo, yol, .slice yka (cFr (cK q) (cSt f q) (cVal f q) (cSelf f q) (cCal f q) (cG f q) 0 [] []).stack.length ykc, .slice none 0 0, .slice yca (cFr (cK q) (cSt f q) (cVal f q) (cSelf f q) (cCal f q) (cG f q) 0 [] []).code.length ycc, _] := k18.rput cF 1 rfl
                                                  replace cSe := k18.rputo cSe (by first | (left; omega) | (right; simp only [List.length_cons, List.length_nil, length_bL, length_be, jSv.len]; omega))
                                                  replace cCa := k18.rputo cCa (by first | (left; omega) | (right; simp only [List.length_cons, List.length_nil, length_bL, length_be, jSv.len]; omega))
                                                  replace cSv := k18.rputo cSv (by first | (left; omega) | (right; simp only [List.length_cons, List.length_nil, length_bL, length_be, jSv.len]; omega))
                                                  replace G := G.wr x64 (by first | exact .inr f18 | omega | (simp; omega)) nb18
                                                  replace hF := G.fz
                                                  replace U := U.st x64 (.inr f18)
                                                  refine l_nil ?_
                                                  refine hK62 _ _ ?_
                                                  refine fg6 0 1 6 10 12 13 (gS rfl (gS rfl (gS rfl (gS rfl (gS rfl (gS rfl (gS rfl (gS rfl g0)))))))) (gS rfl (gS rfl (gS rfl (gS rfl (gS rfl (gS rfl (gS rfl g0))))))) (gS rfl (gS rfl (gS rfl (gS rfl (gS rfl (gS rfl g0)))))) (gS rfl (gS rfl (gS rfl (gS rfl (gS rfl g0))))) (gS rfl (gS rfl (gS rfl (gS rfl g0)))) (gS rfl (gS rfl (gS rfl g0))) (fun g => ?_)
                                                  refine c_seq (fun K65 hK65 => ?_)
                                                  refine c_seq (fun K66 hK66 => ?_)
                                                  exact (by
                                                    refine c_region ?_
                                                    refine l_step (y_fld fld_146_1 (et g0 rfl)) ?_
                                                    refine l_step (y_load1 one_5 (et g0 rfl) (at1 (k18.cell (cF 1 _ rfl)))) ?_
                                                    refine l_step (y_eql (et g0 rfl) rfl) ?_
                                                    refine l_nil ?_
                                                    refine hK66 _ _ ?_
                                                    refine fg7 0 1 6 10 12 13 157 (gS rfl (gS rfl (gS rfl (gS rfl (gS rfl (gS rfl (gS rfl (gS rfl g0)))))))) (gS rfl (gS rfl (gS rfl (gS rfl (gS rfl (gS rfl (gS rfl g0))))))) (gS rfl (gS rfl (gS rfl (gS rfl (gS rfl (gS rfl g0)))))) (gS rfl (gS rfl (gS rfl (gS rfl (gS rfl g0))))) (gS rfl (gS rfl (gS rfl (gS rfl g0)))) (gS rfl (gS rfl (gS rfl g0))) g0 (fun g => ?_)
                                                    refine c_cond (et g0 rfl) (fun cB7 => ?_) (fun cB7 => ?_)
                                                    · skip
                                                      
                                                      have hn7 : natAt (ctT f) = 0 := by have := of_decide_eq_true cB7; omega
                                                      exact (by
                                                        refine c_draw Up 8 [(0, true), (1, true), (2, true), (3, true), (4, false), (5, true), (6, false), (7, true), (8, false)] (by kernel_rfl) (fun w68 hu => ⟨Up.refl _, ?_⟩)
                                                        replace G := G.tr (Go.ofUp hF hu)
                                                        replace hF := hF.up hu
                                                        replace k8 := k8.up hu
                                                        replace k18 := k18.up hu
                                                        replace kS := kS.up hu
                                                        replace kF := kF.up hu
                                                        replace kM := kM.up hu
                                                        replace kL := kL.up hu
                                                        replace kR := kR.up hu
                                                        replace U := U.tr hu
                                                        have SU := Up.refl w68
                                                        refine p_step (by exact rfl) (y_moveV (et (gS rfl (gS rfl (gS rfl (gS rfl (gS rfl (gS rfl g0)))))) rfl)) ?_
                                                        refine p_step (by exact rfl) (y_nil (et g0 rfl)) ?_
                                                        refine p_step (by exact rfl) (y_fld fld_102_0 (et g0 rfl)) ?_
                                                        refine p_step (by exact rfl) (y_loadB agg_25 sz_25 (et (gS rfl (gS rfl (gS rfl (gS rfl (gS rfl (gS rfl g0)))))) rfl) (by rw [List.size_toArray, length_bL, length_be]) (atSB k8)) ?_
                                                        refine p_eff (by exact rfl) (e_callV cal_43 (aC (et (gS rfl g0) rfl) (aC (et g0 rfl) aN)) (yp_account _ _ _ _ _ _ _ _ _ hF kS (rS 0 _ rfl) (hAc.mono hL0) (Nat.mod_lt _ A160_pos) (by omega))) (fun v69 w69 h69 => ?_)
                                                        obtain ⟨c69, rfl, p69, u69⟩ := h69
                                                        replace G := G.tr (Go.ofUp hF u69)
                                                        replace hF := hF.up u69
                                                        replace k8 := k8.up u69
                                                        replace k18 := k18.up u69
                                                        replace kS := kS.up u69
                                                        replace kF := kF.up u69
                                                        replace kM := kM.up u69
                                                        replace kL := kL.up u69
                                                        replace kR := kR.up u69
                                                        replace U := U.tr u69
                                                        replace p69 : PA _ _ _ := ⟨p69⟩
                                                        refine ⟨.inr (SU.tr u69), ?_⟩
                                                        replace SU := SU.tr u69
                                                        exact (by
                                                          obtain ⟨vn70, vb70, vc70, vs70, hc70, hn70, hbb70, hcd70, hb170, hb270⟩ := acct_form p69.p
                                                          rw [hc70]
                                                          refine p_step (by exact rfl) (y_fldV (f := 3) Hvaa.underlying107 rfl rfl rfl one_38 (et g0 rfl) ((app20 (i := 2) rfl).trans rfl)) ?_
                                                          refine p_eff (by exact rfl) (e_callV cal_26 (aC (et g0 rfl) aN) (yp_bytes hF hcd70 (by have h9 := acct_bd p69.p; omega))) (fun v71 w71 h71 => ?_)
                                                          obtain ⟨H71, g71, b71⟩ := h71
                                                          have hlew71 := g71.le
                                                          replace nb8 := g71.nb nb8 k8.lt
                                                          replace nb18 := g71.nb nb18 k18.lt
                                                          replace nbS := g71.nb nbS kS.lt
                                                          replace nbF := g71.nb nbF kF.lt
                                                          replace nbM := g71.nb nbM (Nat.lt_of_lt_of_le lM U.size)
                                                          replace n4 := n4.mono hlew71
                                                          replace n6 := n6.mono hlew71
                                                          replace lv12 := lv12.mono hlew71
                                                          replace hvv := hvv.mono hlew71
                                                          replace n29 := n29.mono hlew71
                                                          replace n31 := n31.mono hlew71
                                                          replace hfP := hfP.mono hlew71
                                                          replace jSv := jSv.mono hlew71
                                                          replace jPc := jPc.mono hlew71
                                                          replace jGa := jGa.mono hlew71
                                                          replace jVa := jVa.mono hlew71
                                                          replace jOf := jOf.mono hlew71
                                                          replace jOl := jOl.mono hlew71
                                                          replace jSt := jSt.mono hlew71
                                                          replace jCo := jCo.mono hlew71
                                                          replace jIn := jIn.mono hlew71
                                                          replace p47 := p47.mono hlew71
                                                          replace hn48 := hn48.mono hlew71
                                                          replace hbb48 := hbb48.mono hlew71
                                                          replace hcd48 := hcd48.mono hlew71
                                                          replace n58 := n58.mono hlew71
                                                          replace n59 := n59.mono hlew71
                                                          replace b60 := b60.mono hlew71
                                                          replace p69 := p69.mono hlew71
                                                          replace hn70 := hn70.mono hlew71
                                                          replace hbb70 := hbb70.mono hlew71
                                                          replace hcd70 := hcd70.mono hlew71
                                                          replace hL0 := hL0.trans hlew71
                                                          replace k8 := k8.up g71.up
                                                          replace k18 := k18.up g71.up
                                                          replace kS := kS.up g71.up
                                                          replace kF := kF.up g71.up
                                                          replace kM := kM.up g71.up
                                                          replace kL := kL.up g71.up
                                                          replace kR := kR.up g71.up
                                                          replace U := U.tr g71.up
                                                          replace G := G.tr g71
                                                          replace hF := g71.fz
                                                          obtain ⟨ba71, bc71, rfl, hbl71, hbc71⟩ := b71.sv.val
                                                          refine ⟨.inr (SU.tr g71.up), ?_⟩
                                                          replace SU := SU.tr g71.up
                                                          exact (by
                                                            refine p_step (by exact rfl) (y_fld fld_146_10 (et (gS rfl (gS rfl (gS rfl (gS rfl (gS rfl (gS rfl (gS rfl (gS rfl g0)))))))) rfl)) ?_
                                                            have rl72 := RowIn.le cF (Nat.succ_pos _)
                                                            simp only [List.length_cons, List.length_nil, Nat.zero_add, Nat.reduceAdd] at rl72
                                                            refine p_effN (by exact rfl) (e_store sz_38 (et g0 rfl) (cellsV (et (gS rfl g0) rfl) rfl) rfl (by first | exact one_bL _ | exact one_uL _ | (intro v hv; simp at hv; subst hv; rfl)) k18 (by first | exact Nat.le_trans (by omega) rl72 | exact Nat.le_of_ble_eq_true rfl | simp | omega)) (fun v72 w72 h72 => ?_)
                                                            obtain ⟨rfl, x72⟩ := h72
                                                            replace k8 := k8.ch x72.ch (by omega)
                                                            replace kS := kS.ch x72.ch (by first | omega | (omega))
                                                            replace kF := kF.ch x72.ch (by first | omega | (omega))
                                                            replace kM := kM.ch x72.ch (by first | omega | (omega))
                                                            replace kL := kL.ch x72.ch (by first | omega | (intro q hq hm; have := dL q hq; omega))
                                                            replace kR := kR.ch x72.ch (by first | omega | (intro m hm; have := dR m hm; omega))
                                                            replace k18 := x72.blk
                                                            replace cF : RowIn _ _ [.int .u8 ((cFr (cK q) (cSt f q) (cVal f q) (cSelf f q) (cCal f q) (cG f q) 0 [] []).kind : Nat), .int .u8 (natAt (ctT f) : Nat), .bool (cFr (cK q) (cSt f q) (cVal f q) (cSelf f q) (cCal f q) (cG f q) 0 [] []).static, ypc, ygas, yval, yoo, yol, .slice yka (cFr (cK q) (cSt f q) (cVal f q) (cSelf f q) (cCal f q) (cG f q) 0 [] []).stack.length ykc, .slice none 0 0, _, _] := k18.rput cF 10 rfl
                                                            replace cSe := k18.rputo cSe (by first | (left; omega) | (right; simp only [List.length_cons, List.length_nil, length_bL, length_be, jSv.len]; omega))
                                                            replace cCa := k18.rputo cCa (by first | (left; omega) | (right; simp only [List.length_cons, List.length_nil, length_bL, length_be, jSv.len]; omega))
                                                            replace cSv := k18.rputo cSv (by first | (left; omega) | (right; simp only [List.length_cons, List.length_nil, length_bL, length_be, jSv.len]; omega))
                                                            replace G := G.wr x72 (by first | exact .inr f18 | omega | (simp; omega)) nb18
                                                            replace hF := G.fz
                                                            replace U := U.st x72 (.inr f18)
                                                            refine ⟨.inl rfl, ?_⟩
                                                            refine p_nil ?_
                                                            refine hK65 _ _ ?_
                                                            refine fg5 0 1 6 12 13 (gS rfl (gS rfl (gS rfl (gS rfl (gS rfl (gS rfl (gS rfl (gS rfl (gS rfl (gS rfl (gS rfl (gS rfl (gS rfl (gS rfl g0)))))))))))))) (gS rfl (gS rfl (gS rfl (gS rfl (gS rfl (gS rfl (gS rfl (gS rfl (gS rfl (gS rfl (gS rfl (gS rfl (gS rfl g0))))))))))))) (gS rfl (gS rfl (gS rfl (gS rfl (gS rfl (gS rfl (gS rfl (gS rfl (gS rfl (gS rfl (gS rfl (gS rfl g0)))))))))))) (gS rfl (gS rfl (gS rfl (gS rfl (gS rfl (gS rfl (gS rfl (gS rfl (gS rfl (gS rfl g0)))))))))) (gS rfl (gS rfl (gS rfl (gS rfl (gS rfl (gS rfl (gS rfl (gS rfl (gS rfl g0))))))))) (fun g => ?_)
                                                            refine c_seq (fun K73 hK73 => ?_)
                                                            exact (by
                                                              refine c_region ?_
                                                              refine l_step (y_moveV (et (gS rfl (gS rfl (gS rfl g0))) rfl)) ?_
                                                              refine l_step (y_moveV (et (gS rfl (gS rfl (gS rfl g0))) rfl)) ?_
                                                              refine l_step (y_moveV (et (gS rfl (gS rfl (gS rfl (gS rfl (gS rfl g0))))) rfl)) ?_
                                                              refine l_step (y_moveV (et (gS rfl (gS rfl (gS rfl (gS rfl g0)))) rfl)) ?_
                                                              refine l_step (y_add (et g0 rfl) rfl (addIN (y := 2) ?_)) ?_
                                                              omega
                                                              refine l_eff (e_callV cal_63 (aC (et (gS rfl (gS rfl g0)) rfl) (aC (et g0 rfl) aN)) (yp_arg _ _ (tkN q - 4 + 2) _ _ _ _ _ _ hF kF (rF 8 _ rfl) (hSt.mono hL0) (by omega) (by first | decide | omega))) (fun v74 w74 h74 => ?_)
                                                              obtain ⟨u74, n74, q74⟩ := h74
                                                              replace G := G.tr (Go.ofUp hF u74)
                                                              replace hF := hF.up u74
                                                              replace k8 := k8.up u74
                                                              replace k18 := k18.up u74
                                                              replace kS := kS.up u74
                                                              replace kF := kF.up u74
                                                              replace kM := kM.up u74
                                                              replace kL := kL.up u74
                                                              replace kR := kR.up u74
                                                              replace U := U.tr u74
                                                              refine l_step (y_moveV (et (gS rfl (gS rfl (gS rfl (gS rfl (gS rfl (gS rfl (gS rfl (gS rfl (gS rfl g0))))))))) rfl)) ?_
                                                              refine l_step (y_moveV (et (gS rfl (gS rfl (gS rfl (gS rfl (gS rfl (gS rfl (gS rfl (gS rfl g0)))))))) rfl)) ?_
                                                              refine l_step (y_add (et g0 rfl) rfl (addIN (y := 3) ?_)) ?_
                                                              omega
                                                              refine l_eff (e_callV cal_63 (aC (et (gS rfl (gS rfl g0)) rfl) (aC (et g0 rfl) aN)) (yp_arg _ _ (tkN q - 4 + 3) _ _ _ _ _ _ hF kF (rF 8 _ rfl) (hSt.mono hL0) (by omega) (by first | decide | omega))) (fun v75 w75 h75 => ?_)
                                                              obtain ⟨u75, n75, q75⟩ := h75
                                                              replace G := G.tr (Go.ofUp hF u75)
                                                              replace hF := hF.up u75
                                                              replace k8 := k8.up u75
                                                              replace k18 := k18.up u75
                                                              replace kS := kS.up u75
                                                              replace kF := kF.up u75
                                                              replace kM := kM.up u75
                                                              replace kL := kL.up u75
                                                              replace kR := kR.up u75
                                                              replace U := U.tr u75
                                                              exact (by
                                                                refine l_eff (e_callV cal_227 (aC (et (gS rfl (gS rfl (gS rfl (gS rfl (gS rfl (gS rfl (gS rfl (gS rfl (gS rfl g0))))))))) rfl) (aC (et (gS rfl (gS rfl (gS rfl (gS rfl (gS rfl (gS rfl (gS rfl (gS rfl g0)))))))) rfl) (aC (et (gS rfl (gS rfl (gS rfl (gS rfl g0)))) rfl) (aC (et g0 rfl) aN)))) (yp_wait hF _ _ _ _ _ kF hfP nbF (tkN q) nh.tk n74 n75 (bd_W q74) (bd_W q75))) (fun v76 w76 h76 => ?_)
                                                                obtain ⟨rfl, fs76, H76, g76, kf76, fc76, of76⟩ := h76
                                                                have hlew76 := g76.le
                                                                replace nb8 := g76.nb nb8 k8.lt
                                                                replace nb18 := g76.nb nb18 k18.lt
                                                                replace nbS := g76.nb nbS kS.lt
                                                                replace nbF := g76.nb nbF kF.lt
                                                                replace nbM := g76.nb nbM (Nat.lt_of_lt_of_le lM U.size)
                                                                replace n4 := n4.mono hlew76
                                                                replace n6 := n6.mono hlew76
                                                                replace lv12 := lv12.mono hlew76
                                                                replace hvv := hvv.mono hlew76
                                                                replace n29 := n29.mono hlew76
                                                                replace n31 := n31.mono hlew76
                                                                replace hfP := hfP.mono hlew76
                                                                replace jSv := jSv.mono hlew76
                                                                replace jPc := jPc.mono hlew76
                                                                replace jGa := jGa.mono hlew76
                                                                replace jVa := jVa.mono hlew76
                                                                replace jOf := jOf.mono hlew76
                                                                replace jOl := jOl.mono hlew76
                                                                replace jSt := jSt.mono hlew76
                                                                replace jCo := jCo.mono hlew76
                                                                replace jIn := jIn.mono hlew76
                                                                replace p47 := p47.mono hlew76
                                                                replace hn48 := hn48.mono hlew76
                                                                replace hbb48 := hbb48.mono hlew76
                                                                replace hcd48 := hcd48.mono hlew76
                                                                replace n58 := n58.mono hlew76
                                                                replace n59 := n59.mono hlew76
                                                                replace b60 := b60.mono hlew76
                                                                replace p69 := p69.mono hlew76
                                                                replace hn70 := hn70.mono hlew76
                                                                replace hbb70 := hbb70.mono hlew76
                                                                replace hcd70 := hcd70.mono hlew76
                                                                replace b71 := b71.mono hlew76
                                                                replace n74 := n74.mono hlew76
                                                                replace n75 := n75.mono hlew76
                                                                replace hL0 := hL0.trans hlew76
                                                                replace k8 := k8.ch g76.ch (by omega)
                                                                replace k18 := k18.ch g76.ch (by omega)
                                                                replace kS := kS.ch g76.ch (by omega)
                                                                replace kM := kM.ch g76.ch (by omega)
                                                                replace kL := kL.ch g76.ch (by intro q hq hm; have := dL q hq; omega)
                                                                replace kR := kR.ch g76.ch (by intro m hm; have := dR m hm; omega)
                                                                replace kF := kf76
                                                                replace U := U.cc g76.ch (by intro b hb; first | exact .inl hb | exact .inl (yOwn b (.inl hb)) | exact .inl (yOwn b (.inr (.inl hb))) | exact .inl (yOwn b (.inr (.inr (.inl hb)))) | exact .inl (yOwn b (.inr (.inr (.inr hb)))) | exact .inl (yOwn b hb) | exact .inl (yOwn b (hb.elim .inl (fun e => .inr (.inr (.inr e))))) | exact hb | exact .inr (by omega))
                                                                replace G := G.trans g76 (by intro b hb; first | exact .inl hb | exact .inl (yOwn b (.inl hb)) | exact .inl (yOwn b (.inr (.inl hb))) | exact .inl (yOwn b (.inr (.inr (.inl hb)))) | exact .inl (yOwn b (.inr (.inr (.inr hb)))) | exact .inl (yOwn b hb) | exact .inl (yOwn b (hb.elim .inl (fun e => .inr (.inr (.inr e))))) | exact hb | exact .inr (by omega))
                                                                replace hF := g76.fz
                                                                replace oF := oF.trans of76
                                                                have eCo : cCode s f = (acctAt s.now.accts (ctT f)).code := by rw [cCode, if_pos hn7]
                                                                have hcl := nh.code
                                                                rw [eCo] at hcl
                                                                have hfN0 := (FC.mkC (cK q) (cSt f q) (cVal f q) (cSelf f q) (cCal f q) (cG f q) (natAt (ctT f)) (acctAt s.now.accts (ctT f)).code (cIn f q) jo.kind (show natAt (ctT f) < 256 by unfold natAt; split <;> omega) jo.gas jo.value jo.self jo.caller hcl (show (cIn f q).length < 16777216 by unfold cIn; have := len_rd f.mem (argN f.stack (tkN q - 4)) (argN f.stack (tkN q - 4 + 1)); have := nh.rd; omega) cF cSe cCa cSv jSv jPc jGa jVa jOf jOl jSt b71 b60)
                                                                have eCh : cChild s f q = cFr (cK q) (cSt f q) (cVal f q) (cSelf f q) (cCal f q) (cG f q) (natAt (ctT f)) (acctAt s.now.accts (ctT f)).code (cIn f q) := by rw [cChild, eCo]
                                                                obtain ⟨r9, hr9l, kr9, hr9o, hfN⟩ := FC.whole k18 (by simp only [size_spl, Array.size_setIfInBounds]; exact hcz) hfN0 rfl
                                                                rw [← eCh] at hfN
                                                                replace k18 := kr9
                                                                refine l_nil ?_
                                                                refine hK73 _ _ ?_
                                                                refine fg2 0 13 (gS rfl (gS rfl (gS rfl (gS rfl (gS rfl (gS rfl (gS rfl (gS rfl (gS rfl (gS rfl (gS rfl (gS rfl (gS rfl (gS rfl (gS rfl g0))))))))))))))) (gS rfl (gS rfl (gS rfl (gS rfl (gS rfl (gS rfl (gS rfl (gS rfl (gS rfl (gS rfl (gS rfl g0))))))))))) (fun g => ?_)
                                                                refine c_region ?_
                                                                exact (by
                                                                  refine l_step (y_moveV (et (gS rfl g0) rfl)) ?_
                                                                  refine l_step (y_loadB agg_146 sz_146 (et (gS rfl g0) rfl) (by rw [List.size_toArray, hr9l]) (at1B k18)) ?_
                                                                  have hU9 := U.size
                                                                  refine l_eff (e_callV cal_55 (aC (et (gS rfl g0) rfl) (aC (et g0 rfl) aN)) (yp_enterY (s := { cS s f with frames := low ++ [cWait f q] }) (YT.close (low := low) (f := (cWait f q)) (msl := msl) (Y := fun b => Y b ∨ w.heap.size ≤ b) ⟨kS, SC.frames (show SC H76 _ (cS s f) _ from ⟨⟨so.accts, by show (withA s.now.warmA (ctT f)).length < _; have := len_withA s.now.warmA (ctT f); have := nh.warmA; omega, so.warmS, so.refund, so.logs, so.temps, so.made, so.gone, so.start, so.ret, so.phase, so.status, so.applied, so.limit, so.txGas, so.left, so.price, so.total, so.origin, so.mad⟩, eC.mono hL0, (by simp only [size_spl, Array.size_setIfInBounds]; exact hs.size), _, _, _, _, _, _, _, _, _, _, _, _, _, _, _, _, _, _, _, _, _, _, _, _, rS, rOr, rMd, (hAc.mono hL0), lv12, (hWS.mono hL0), (hRf.mono hL0), (hTm.mono hL0), (hMd.mono hL0), (hGn.mono hL0), (hSr.mono hL0), (hRt.mono hL0), (hLm.mono hL0), (hTx.mono hL0), (hLf.mono hL0), (hPr.mono hL0), (hTt.mono hL0)⟩) _, ⟨hcp, yt.hc.2.1, (by rw [oF.size]; exact yt.hc.2.2)⟩, kF, fc76, kM, (yt.hl.mono hL0).pre (oF.pre (Nat.le_refl _)) (Nat.le_refl _), kR, (show LG _ _ _ _ (cS s f).now.logs from kL.mono hL0), ((rS 4 _ rfl).trans (hv4.symm.trans hvl)), nbS, nbF, nbM, .inl yt.yS, .inl yt.yF, .inl yt.yM, Nat.lt_of_lt_of_le lM U.size, dSF, dMF, dSM, fun b e => ⟨Nat.lt_of_lt_of_le (dL b e).1 U.size, (dL b e).2⟩, fun b e => G.nb (yt.nbL b e) (dL b e).1, fun b e => .inl (yt.yL b e), fun m hm => ⟨Nat.lt_of_lt_of_le (dR m hm).1 U.size, (dR m hm).2⟩, fun m hm => ⟨G.nb (yt.nbR m hm).1 (dR m hm).1, .inl (yt.nbR m hm).2⟩, yt.ndR⟩ hF rfl) (by show (low ++ [cWait f q]).length < _; rw [List.length_append]; have := nh.len; simp only [List.length_cons, List.length_nil]; omega) hr9l hfN rfl (nh.en hfa))) (fun v77 w77 h77 => ?_)
                                                                  obtain ⟨rfl, H77, bf77, g77, ym77⟩ := h77
                                                                  replace G := G.trans g77 (by intro b hb; first | exact .inl hb | exact .inl (yOwn b (.inl hb)) | exact .inl (yOwn b (.inr (.inl hb))) | exact .inl (yOwn b (.inr (.inr (.inl hb)))) | exact .inl (yOwn b (.inr (.inr (.inr hb)))) | exact .inl (yOwn b hb) | exact .inl (yOwn b (hb.elim .inl (fun e => .inr (.inr (.inr e))))) | exact hb | exact .inr (by omega))
                                                                  replace U := U.cc g77.ch (by intro b hb; first | exact .inl hb | exact .inl (yOwn b (.inl hb)) | exact .inl (yOwn b (.inr (.inl hb))) | exact .inl (yOwn b (.inr (.inr (.inl hb)))) | exact .inl (yOwn b (.inr (.inr (.inr hb)))) | exact .inl (yOwn b hb) | exact .inl (yOwn b (hb.elim .inl (fun e => .inr (.inr (.inr e))))) | exact hb | exact .inr (by omega))
                                                                  refine l_nil ?_
                                                                  refine end0 rfl ?_
                                                                  refine ⟨rfl, _, bf77, G, ?_⟩
                                                                  rw [callY, if_neg hfa]
                                                                  exact ym77.wk (fun b hb => hb.elim id (fun h9 => .inr (Nat.le_trans hU9 h9)))))))))
                                                    · skip
                                                      
                                                      have hn7 : natAt (ctT f) ≠ 0 := by have := of_decide_eq_false cB7; omega
                                                      refine c_skip ?_
                                                      refine hK65 _ _ ?_
                                                      refine fg5 0 1 6 12 13 (gS rfl (gS rfl (gS rfl (gS rfl (gS rfl (gS rfl g0)))))) (gS rfl (gS rfl (gS rfl (gS rfl (gS rfl g0))))) (gS rfl (gS rfl (gS rfl (gS rfl g0)))) (gS rfl (gS rfl g0)) (gS rfl g0) (fun g => ?_)
                                                      refine c_seq (fun K78 hK78 => ?_)
                                                      exact (by
                                                        refine c_region ?_
                                                        refine l_step (y_moveV (et (gS rfl (gS rfl (gS rfl g0))) rfl)) ?_
                                                        refine l_step (y_moveV (et (gS rfl (gS rfl (gS rfl g0))) rfl)) ?_
                                                        refine l_step (y_moveV (et (gS rfl (gS rfl (gS rfl (gS rfl (gS rfl g0))))) rfl)) ?_
                                                        refine l_step (y_moveV (et (gS rfl (gS rfl (gS rfl (gS rfl g0)))) rfl)) ?_
                                                        refine l_step (y_add (et g0 rfl) rfl (addIN (y := 2) ?_)) ?_
                                                        omega
                                                        refine l_eff (e_callV cal_63 (aC (et (gS rfl (gS rfl g0)) rfl) (aC (et g0 rfl) aN)) (yp_arg _ _ (tkN q - 4 + 2) _ _ _ _ _ _ hF kF (rF 8 _ rfl) (hSt.mono hL0) (by omega) (by first | decide | omega))) (fun v79 w79 h79 => ?_)
                                                        obtain ⟨u79, n79, q79⟩ := h79
                                                        replace G := G.tr (Go.ofUp hF u79)
                                                        replace hF := hF.up u79
                                                        replace k8 := k8.up u79
                                                        replace k18 := k18.up u79
                                                        replace kS := kS.up u79
                                                        replace kF := kF.up u79
                                                        replace kM := kM.up u79
                                                        replace kL := kL.up u79
                                                        replace kR := kR.up u79
                                                        replace U := U.tr u79
                                                        refine l_step (y_moveV (et (gS rfl (gS rfl (gS rfl (gS rfl (gS rfl (gS rfl (gS rfl (gS rfl (gS rfl g0))))))))) rfl)) ?_
                                                        refine l_step (y_moveV (et (gS rfl (gS rfl (gS rfl (gS rfl (gS rfl (gS rfl (gS rfl (gS rfl g0)))))))) rfl)) ?_
                                                        refine l_step (y_add (et g0 rfl) rfl (addIN (y := 3) ?_)) ?_
                                                        omega
                                                        refine l_eff (e_callV cal_63 (aC (et (gS rfl (gS rfl g0)) rfl) (aC (et g0 rfl) aN)) (yp_arg _ _ (tkN q - 4 + 3) _ _ _ _ _ _ hF kF (rF 8 _ rfl) (hSt.mono hL0) (by omega) (by first | decide | omega))) (fun v80 w80 h80 => ?_)
                                                        obtain ⟨u80, n80, q80⟩ := h80
                                                        replace G := G.tr (Go.ofUp hF u80)
                                                        replace hF := hF.up u80
                                                        replace k8 := k8.up u80
                                                        replace k18 := k18.up u80
                                                        replace kS := kS.up u80
                                                        replace kF := kF.up u80
                                                        replace kM := kM.up u80
                                                        replace kL := kL.up u80
                                                        replace kR := kR.up u80
                                                        replace U := U.tr u80
                                                        exact (by
                                                          refine l_eff (e_callV cal_227 (aC (et (gS rfl (gS rfl (gS rfl (gS rfl (gS rfl (gS rfl (gS rfl (gS rfl (gS rfl g0))))))))) rfl) (aC (et (gS rfl (gS rfl (gS rfl (gS rfl (gS rfl (gS rfl (gS rfl (gS rfl g0)))))))) rfl) (aC (et (gS rfl (gS rfl (gS rfl (gS rfl g0)))) rfl) (aC (et g0 rfl) aN)))) (yp_wait hF _ _ _ _ _ kF hfP nbF (tkN q) nh.tk n79 n80 (bd_W q79) (bd_W q80))) (fun v81 w81 h81 => ?_)
                                                          obtain ⟨rfl, fs81, H81, g81, kf81, fc81, of81⟩ := h81
                                                          have hlew81 := g81.le
                                                          replace nb8 := g81.nb nb8 k8.lt
                                                          replace nb18 := g81.nb nb18 k18.lt
                                                          replace nbS := g81.nb nbS kS.lt
                                                          replace nbF := g81.nb nbF kF.lt
                                                          replace nbM := g81.nb nbM (Nat.lt_of_lt_of_le lM U.size)
                                                          replace n4 := n4.mono hlew81
                                                          replace n6 := n6.mono hlew81
                                                          replace lv12 := lv12.mono hlew81
                                                          replace hvv := hvv.mono hlew81
                                                          replace n29 := n29.mono hlew81
                                                          replace n31 := n31.mono hlew81
                                                          replace hfP := hfP.mono hlew81
                                                          replace jSv := jSv.mono hlew81
                                                          replace jPc := jPc.mono hlew81
                                                          replace jGa := jGa.mono hlew81
                                                          replace jVa := jVa.mono hlew81
                                                          replace jOf := jOf.mono hlew81
                                                          replace jOl := jOl.mono hlew81
                                                          replace jSt := jSt.mono hlew81
                                                          replace jCo := jCo.mono hlew81
                                                          replace jIn := jIn.mono hlew81
                                                          replace p47 := p47.mono hlew81
                                                          replace hn48 := hn48.mono hlew81
                                                          replace hbb48 := hbb48.mono hlew81
                                                          replace hcd48 := hcd48.mono hlew81
                                                          replace n58 := n58.mono hlew81
                                                          replace n59 := n59.mono hlew81
                                                          replace b60 := b60.mono hlew81
                                                          replace n79 := n79.mono hlew81
                                                          replace n80 := n80.mono hlew81
                                                          replace hL0 := hL0.trans hlew81
                                                          replace k8 := k8.ch g81.ch (by omega)
                                                          replace k18 := k18.ch g81.ch (by omega)
                                                          replace kS := kS.ch g81.ch (by omega)
                                                          replace kM := kM.ch g81.ch (by omega)
                                                          replace kL := kL.ch g81.ch (by intro q hq hm; have := dL q hq; omega)
                                                          replace kR := kR.ch g81.ch (by intro m hm; have := dR m hm; omega)
                                                          replace kF := kf81
                                                          replace U := U.cc g81.ch (by intro b hb; first | exact .inl hb | exact .inl (yOwn b (.inl hb)) | exact .inl (yOwn b (.inr (.inl hb))) | exact .inl (yOwn b (.inr (.inr (.inl hb)))) | exact .inl (yOwn b (.inr (.inr (.inr hb)))) | exact .inl (yOwn b hb) | exact .inl (yOwn b (hb.elim .inl (fun e => .inr (.inr (.inr e))))) | exact hb | exact .inr (by omega))
                                                          replace G := G.trans g81 (by intro b hb; first | exact .inl hb | exact .inl (yOwn b (.inl hb)) | exact .inl (yOwn b (.inr (.inl hb))) | exact .inl (yOwn b (.inr (.inr (.inl hb)))) | exact .inl (yOwn b (.inr (.inr (.inr hb)))) | exact .inl (yOwn b hb) | exact .inl (yOwn b (hb.elim .inl (fun e => .inr (.inr (.inr e))))) | exact hb | exact .inr (by omega))
                                                          replace hF := g81.fz
                                                          replace oF := oF.trans of81
                                                          have eCo : cCode s f = [] := by rw [cCode, if_neg hn7]
                                                          have hcl := nh.code
                                                          rw [eCo] at hcl
                                                          have hfN0 := (FC.mkC (cK q) (cSt f q) (cVal f q) (cSelf f q) (cCal f q) (cG f q) (natAt (ctT f)) [] (cIn f q) jo.kind (show natAt (ctT f) < 256 by unfold natAt; split <;> omega) jo.gas jo.value jo.self jo.caller hcl (show (cIn f q).length < 16777216 by unfold cIn; have := len_rd f.mem (argN f.stack (tkN q - 4)) (argN f.stack (tkN q - 4 + 1)); have := nh.rd; omega) cF cSe cCa cSv jSv jPc jGa jVa jOf jOl jSt jCo b60)
                                                          have eCh : cChild s f q = cFr (cK q) (cSt f q) (cVal f q) (cSelf f q) (cCal f q) (cG f q) (natAt (ctT f)) [] (cIn f q) := by rw [cChild, eCo]
                                                          obtain ⟨r9, hr9l, kr9, hr9o, hfN⟩ := FC.whole k18 (by simp only [size_spl, Array.size_setIfInBounds]; exact hcz) hfN0 rfl
                                                          rw [← eCh] at hfN
                                                          replace k18 := kr9
                                                          refine l_nil ?_
                                                          refine hK78 _ _ ?_
                                                          refine fg2 0 13 (gS rfl (gS rfl (gS rfl (gS rfl (gS rfl (gS rfl (gS rfl (gS rfl (gS rfl (gS rfl (gS rfl (gS rfl (gS rfl (gS rfl (gS rfl g0))))))))))))))) (gS rfl (gS rfl (gS rfl (gS rfl (gS rfl (gS rfl (gS rfl (gS rfl (gS rfl (gS rfl (gS rfl g0))))))))))) (fun g => ?_)
                                                          refine c_region ?_
                                                          exact (by
                                                            refine l_step (y_moveV (et (gS rfl g0) rfl)) ?_
                                                            refine l_step (y_loadB agg_146 sz_146 (et (gS rfl g0) rfl) (by rw [List.size_toArray, hr9l]) (at1B k18)) ?_
                                                            have hU9 := U.size
                                                            refine l_eff (e_callV cal_55 (aC (et (gS rfl g0) rfl) (aC (et g0 rfl) aN)) (yp_enterY (s := { cS s f with frames := low ++ [cWait f q] }) (YT.close (low := low) (f := (cWait f q)) (msl := msl) (Y := fun b => Y b ∨ w.heap.size ≤ b) ⟨kS, SC.frames (show SC H81 _ (cS s f) _ from ⟨⟨so.accts, by show (withA s.now.warmA (ctT f)).length < _; have := len_withA s.now.warmA (ctT f); have := nh.warmA; omega, so.warmS, so.refund, so.logs, so.temps, so.made, so.gone, so.start, so.ret, so.phase, so.status, so.applied, so.limit, so.txGas, so.left, so.price, so.total, so.origin, so.mad⟩, eC.mono hL0, (by simp only [size_spl, Array.size_setIfInBounds]; exact hs.size), _, _, _, _, _, _, _, _, _, _, _, _, _, _, _, _, _, _, _, _, _, _, _, _, rS, rOr, rMd, (hAc.mono hL0), lv12, (hWS.mono hL0), (hRf.mono hL0), (hTm.mono hL0), (hMd.mono hL0), (hGn.mono hL0), (hSr.mono hL0), (hRt.mono hL0), (hLm.mono hL0), (hTx.mono hL0), (hLf.mono hL0), (hPr.mono hL0), (hTt.mono hL0)⟩) _, ⟨hcp, yt.hc.2.1, (by rw [oF.size]; exact yt.hc.2.2)⟩, kF, fc81, kM, (yt.hl.mono hL0).pre (oF.pre (Nat.le_refl _)) (Nat.le_refl _), kR, (show LG _ _ _ _ (cS s f).now.logs from kL.mono hL0), ((rS 4 _ rfl).trans (hv4.symm.trans hvl)), nbS, nbF, nbM, .inl yt.yS, .inl yt.yF, .inl yt.yM, Nat.lt_of_lt_of_le lM U.size, dSF, dMF, dSM, fun b e => ⟨Nat.lt_of_lt_of_le (dL b e).1 U.size, (dL b e).2⟩, fun b e => G.nb (yt.nbL b e) (dL b e).1, fun b e => .inl (yt.yL b e), fun m hm => ⟨Nat.lt_of_lt_of_le (dR m hm).1 U.size, (dR m hm).2⟩, fun m hm => ⟨G.nb (yt.nbR m hm).1 (dR m hm).1, .inl (yt.nbR m hm).2⟩, yt.ndR⟩ hF rfl) (by show (low ++ [cWait f q]).length < _; rw [List.length_append]; have := nh.len; simp only [List.length_cons, List.length_nil]; omega) hr9l hfN rfl (nh.en hfa))) (fun v82 w82 h82 => ?_)
                                                            obtain ⟨rfl, H82, bf82, g82, ym82⟩ := h82
                                                            replace G := G.trans g82 (by intro b hb; first | exact .inl hb | exact .inl (yOwn b (.inl hb)) | exact .inl (yOwn b (.inr (.inl hb))) | exact .inl (yOwn b (.inr (.inr (.inl hb)))) | exact .inl (yOwn b (.inr (.inr (.inr hb)))) | exact .inl (yOwn b hb) | exact .inl (yOwn b (hb.elim .inl (fun e => .inr (.inr (.inr e))))) | exact hb | exact .inr (by omega))
                                                            replace U := U.cc g82.ch (by intro b hb; first | exact .inl hb | exact .inl (yOwn b (.inl hb)) | exact .inl (yOwn b (.inr (.inl hb))) | exact .inl (yOwn b (.inr (.inr (.inl hb)))) | exact .inl (yOwn b (.inr (.inr (.inr hb)))) | exact .inl (yOwn b hb) | exact .inl (yOwn b (hb.elim .inl (fun e => .inr (.inr (.inr e))))) | exact hb | exact .inr (by omega))
                                                            refine l_nil ?_
                                                            refine end0 rfl ?_
                                                            refine ⟨rfl, _, bf82, G, ?_⟩
                                                            rw [callY, if_neg hfa]
                                                            exact ym82.wk (fun b hb => hb.elim id (fun h9 => .inr (Nat.le_trans hU9 h9)))))))))))))
                                have V35 : Go (fun k => k = b18) w34 H31 w34 H31 := Go.refl hF
                                refine c_seq (fun K83 hK83 => ?_)
                                exact (by
                                  refine c_region ?_
                                  refine l_step (y_moveV (et (gS rfl (gS rfl (gS rfl g0))) rfl)) ?_
                                  refine l_eff (e_callV cal_79 (aC (et g0 rfl) aN) (yp_isZero hF hvv (bd_sm (bd_W hcV) (by decide)))) (fun v84 w84 h84 => ?_)
                                  obtain ⟨rfl, u84⟩ := h84
                                  replace G := G.tr (Go.ofUp hF u84)
                                  replace V35 := V35.tr (Go.ofUp hF u84)
                                  replace hF := hF.up u84
                                  replace k8 := k8.up u84
                                  replace k18 := k18.up u84
                                  replace kS := kS.up u84
                                  replace kF := kF.up u84
                                  replace kM := kM.up u84
                                  replace kL := kL.up u84
                                  replace kR := kR.up u84
                                  replace U := U.tr u84
                                  refine l_step (y_not (et g0 rfl)) ?_
                                  refine l_nil ?_
                                  refine hK83 _ _ ?_
                                  refine fg9 0 1 6 10 11 12 13 14 103 (gS rfl (gS rfl (gS rfl (gS rfl (gS rfl (gS rfl (gS rfl (gS rfl (gS rfl (gS rfl g0)))))))))) (gS rfl (gS rfl (gS rfl (gS rfl (gS rfl (gS rfl (gS rfl (gS rfl (gS rfl g0))))))))) (gS rfl (gS rfl (gS rfl (gS rfl (gS rfl (gS rfl (gS rfl (gS rfl g0)))))))) (gS rfl (gS rfl (gS rfl (gS rfl (gS rfl (gS rfl (gS rfl g0))))))) (gS rfl (gS rfl (gS rfl (gS rfl (gS rfl (gS rfl g0)))))) (gS rfl (gS rfl (gS rfl (gS rfl (gS rfl g0))))) (gS rfl (gS rfl (gS rfl (gS rfl g0)))) (gS rfl (gS rfl (gS rfl g0))) g0 (fun g => ?_)
                                  refine c_cond (et g0 rfl) (fun cB5 => ?_) (fun cB5 => ?_)
                                  · skip
                                    
                                    have hv5 : cV f q ≠ 0 := by simpa using cB5
                                    exact (by
                                      refine c_region ?_
                                      refine l_step (y_moveV (et (gS rfl g0) rfl)) ?_
                                      refine l_eff (e_callV cal_32 (aC (v := .int .u64 ((2300 : Nat) : Int)) rfl aN) (yp_num (x := 2300) hF (by decide))) (fun v86 w86 h86 => ?_)
                                      obtain ⟨H86, g86, n86⟩ := h86
                                      have hlew86 := g86.le
                                      replace nb8 := g86.nb nb8 k8.lt
                                      replace nb18 := g86.nb nb18 k18.lt
                                      replace nbS := g86.nb nbS kS.lt
                                      replace nbF := g86.nb nbF kF.lt
                                      replace nbM := g86.nb nbM (Nat.lt_of_lt_of_le lM U.size)
                                      replace n4 := n4.mono hlew86
                                      replace n6 := n6.mono hlew86
                                      replace lv12 := lv12.mono hlew86
                                      replace hvv := hvv.mono hlew86
                                      replace jSv := jSv.mono hlew86
                                      replace jPc := jPc.mono hlew86
                                      replace jGa := jGa.mono hlew86
                                      replace jVa := jVa.mono hlew86
                                      replace jOf := jOf.mono hlew86
                                      replace jOl := jOl.mono hlew86
                                      replace jSt := jSt.mono hlew86
                                      replace jCo := jCo.mono hlew86
                                      replace jIn := jIn.mono hlew86
                                      replace n29 := n29.mono hlew86
                                      replace n31 := n31.mono hlew86
                                      replace hfP := hfP.mono hlew86
                                      replace hL0 := hL0.trans hlew86
                                      replace k8 := k8.up g86.up
                                      replace k18 := k18.up g86.up
                                      replace kS := kS.up g86.up
                                      replace kF := kF.up g86.up
                                      replace kM := kM.up g86.up
                                      replace kL := kL.up g86.up
                                      replace kR := kR.up g86.up
                                      replace U := U.tr g86.up
                                      replace G := G.tr g86
                                      replace V35 := V35.tr g86
                                      replace hF := g86.fz
                                      have q86 : 2300 < 256 ^ 2 := by decide
                                      exact (by
                                        refine l_eff (e_callV cal_34 (aC (et (gS rfl g0) rfl) (aC (et g0 rfl) aN)) (nat_add hF n29 n86 (bd_sm q29 (by decide)) (bd_sm q86 (by decide)))) (fun v87 w87 h87 => ?_)
                                        obtain ⟨H87, g87, n87⟩ := h87
                                        have hlew87 := g87.le
                                        replace nb8 := g87.nb nb8 k8.lt
                                        replace nb18 := g87.nb nb18 k18.lt
                                        replace nbS := g87.nb nbS kS.lt
                                        replace nbF := g87.nb nbF kF.lt
                                        replace nbM := g87.nb nbM (Nat.lt_of_lt_of_le lM U.size)
                                        replace n4 := n4.mono hlew87
                                        replace n6 := n6.mono hlew87
                                        replace lv12 := lv12.mono hlew87
                                        replace hvv := hvv.mono hlew87
                                        replace jSv := jSv.mono hlew87
                                        replace jPc := jPc.mono hlew87
                                        replace jGa := jGa.mono hlew87
                                        replace jVa := jVa.mono hlew87
                                        replace jOf := jOf.mono hlew87
                                        replace jOl := jOl.mono hlew87
                                        replace jSt := jSt.mono hlew87
                                        replace jCo := jCo.mono hlew87
                                        replace jIn := jIn.mono hlew87
                                        replace n29 := n29.mono hlew87
                                        replace n31 := n31.mono hlew87
                                        replace hfP := hfP.mono hlew87
                                        replace n86 := n86.mono hlew87
                                        replace hL0 := hL0.trans hlew87
                                        replace k8 := k8.up g87.up
                                        replace k18 := k18.up g87.up
                                        replace kS := kS.up g87.up
                                        replace kF := kF.up g87.up
                                        replace kM := kM.up g87.up
                                        replace kL := kL.up g87.up
                                        replace kR := kR.up g87.up
                                        replace U := U.tr g87.up
                                        replace G := G.tr g87
                                        replace V35 := V35.tr g87
                                        replace hF := g87.fz
                                        have q87 := bd_add (c := 5) q29 q86 (by decide)
                                        exact (by
                                          refine l_step (y_fld fld_146_4 (et (gS rfl (gS rfl (gS rfl (gS rfl (gS rfl g0))))) rfl)) ?_
                                          obtain ⟨sa88, sn88, sc88, rfl⟩ := n87.sl
                                          have rl88 := RowIn.le cF (Nat.succ_pos _)
                                          simp only [List.length_cons, List.length_nil, Nat.zero_add, Nat.reduceAdd] at rl88
                                          refine l_effN (e_store sz_95 (et g0 rfl) (cellsV (et (gS rfl g0) rfl) rfl) rfl (by first | exact one_bL _ | exact one_uL _ | (intro v hv; simp at hv; subst hv; rfl)) k18 (by first | exact Nat.le_trans (by omega) rl88 | exact Nat.le_of_ble_eq_true rfl | simp | omega)) (fun v88 w88 h88 => ?_)
                                          obtain ⟨rfl, x88⟩ := h88
                                          replace k8 := k8.ch x88.ch (by omega)
                                          replace kS := kS.ch x88.ch (by first | omega | (omega))
                                          replace kF := kF.ch x88.ch (by first | omega | (omega))
                                          replace kM := kM.ch x88.ch (by first | omega | (omega))
                                          replace kL := kL.ch x88.ch (by first | omega | (intro q hq hm; have := dL q hq; omega))
                                          replace kR := kR.ch x88.ch (by first | omega | (intro m hm; have := dR m hm; omega))
                                          replace k18 := x88.blk
                                          replace cF : RowIn _ _ [.int .u8 ((cFr (cK q) (cSt f q) (cVal f q) (cSelf f q) (cCal f q) 0 0 [] []).kind : Nat), .int .u8 ((cFr (cK q) (cSt f q) (cVal f q) (cSelf f q) (cCal f q) 0 0 [] []).ntv : Nat), .bool (cFr (cK q) (cSt f q) (cVal f q) (cSelf f q) (cCal f q) 0 0 [] []).static, ypc, _, yval, yoo, yol, .slice yka (cFr (cK q) (cSt f q) (cVal f q) (cSelf f q) (cCal f q) 0 0 [] []).stack.length ykc, .slice none 0 0, .slice yca (cFr (cK q) (cSt f q) (cVal f q) (cSelf f q) (cCal f q) 0 0 [] []).code.length ycc, .slice yia (cFr (cK q) (cSt f q) (cVal f q) (cSelf f q) (cCal f q) 0 0 [] []).input.length yic] := k18.rput cF 4 rfl
                                          replace cSe := k18.rputo cSe (by first | (left; omega) | (right; simp only [List.length_cons, List.length_nil, length_bL, length_be, jSv.len]; omega))
                                          replace cCa := k18.rputo cCa (by first | (left; omega) | (right; simp only [List.length_cons, List.length_nil, length_bL, length_be, jSv.len]; omega))
                                          replace cSv := k18.rputo cSv (by first | (left; omega) | (right; simp only [List.length_cons, List.length_nil, length_bL, length_be, jSv.len]; omega))
                                          replace G := G.wr x88 (by first | exact .inr f18 | omega | (simp; omega)) nb18
                                          replace V35 := V35.wr x88 (by first | exact .inr f18 | omega | (simp; omega)) nb18
                                          replace hF := G.fz
                                          replace U := U.st x88 (.inr f18)
                                          refine l_nil ?_
                                          refine fK7 0 1 6 10 11 12 13 (gS rfl (gS rfl (gS rfl (gS rfl (gS rfl (gS rfl (gS rfl (gS rfl (gS rfl (gS rfl (gS rfl (gS rfl g0)))))))))))) (gS rfl (gS rfl (gS rfl (gS rfl (gS rfl (gS rfl (gS rfl (gS rfl (gS rfl (gS rfl (gS rfl g0))))))))))) (gS rfl (gS rfl (gS rfl (gS rfl (gS rfl (gS rfl (gS rfl (gS rfl (gS rfl (gS rfl g0)))))))))) (gS rfl (gS rfl (gS rfl (gS rfl (gS rfl (gS rfl (gS rfl (gS rfl (gS rfl g0))))))))) (gS rfl (gS rfl (gS rfl (gS rfl (gS rfl (gS rfl (gS rfl (gS rfl g0)))))))) (gS rfl (gS rfl (gS rfl (gS rfl (gS rfl (gS rfl (gS rfl g0))))))) (gS rfl (gS rfl (gS rfl (gS rfl (gS rfl (gS rfl g0)))))) (fun g => ?_)
                                          exact hJ35 _ _ ⟨g, _, _, rfl, (by rw [show cG f q = (cSent f + 2300) by rw [cG, if_neg hv5]]; exact (FC.mkC (cK q) (cSt f q) (cVal f q) (cSelf f q) (cCal f q) (cSent f + 2300) 0 [] [] jo.kind (show 0 < 256 by decide) (show cSent f + 2300 < 4294967296 by have := sent_le f.gas (argN f.stack 0); have := nh.gas; unfold cSent; omega) jo.value jo.self jo.caller (show 0 < 1048576 by decide) (show 0 < 16777216 by decide) cF cSe cCa cSv jSv jPc n87 jVa jOf jOl jSt jCo jIn)), (by first | (simp only [size_spl, Array.size_setIfInBounds]; exact hcz) | exact hcz), k18, V35⟩)))
                                  · skip
                                    
                                    have hv5 : cV f q = 0 := by simpa using cB5
                                    refine c_skip ?_
                                    refine fK7 0 1 6 10 11 12 13 (gS rfl (gS rfl (gS rfl (gS rfl (gS rfl (gS rfl (gS rfl (gS rfl g0)))))))) (gS rfl (gS rfl (gS rfl (gS rfl (gS rfl (gS rfl (gS rfl g0))))))) (gS rfl (gS rfl (gS rfl (gS rfl (gS rfl (gS rfl g0)))))) (gS rfl (gS rfl (gS rfl (gS rfl (gS rfl g0))))) (gS rfl (gS rfl (gS rfl (gS rfl g0)))) (gS rfl (gS rfl (gS rfl g0))) (gS rfl (gS rfl g0)) (fun g => ?_)
                                    exact hJ35 _ _ ⟨g, _, _, rfl, (by rw [show cG f q = (cSent f) by rw [cG, if_pos hv5, Nat.add_zero]]; exact (FC.mkC (cK q) (cSt f q) (cVal f q) (cSelf f q) (cCal f q) (cSent f) 0 [] [] jo.kind (show 0 < 256 by decide) (show cSent f < 4294967296 by have := sent_le f.gas (argN f.stack 0); have := nh.gas; unfold cSent; omega) jo.value jo.self jo.caller (show 0 < 1048576 by decide) (show 0 < 16777216 by decide) cF cSe cCa cSv jSv jPc n29 jVa jOf jOl jSt jCo jIn)), (by first | (simp only [size_spl, Array.size_setIfInBounds]; exact hcz) | exact hcz), k18, V35⟩))))))
                    have V27 : Go (fun k => k = b18) w26 Hj17 w26 Hj17 := Go.refl hF
                    refine c_seq (fun K89 hK89 => ?_)
                    exact (by
                      refine c_region ?_
                      refine l_step (y_moveV (et (gS rfl (gS rfl (gS rfl (gS rfl (gS rfl (gS rfl g0)))))) rfl)) ?_
                      refine l_nil ?_
                      refine hK89 _ _ ?_
                      refine fg9 0 1 6 9 10 11 12 13 53 (gS rfl (gS rfl (gS rfl (gS rfl (gS rfl (gS rfl (gS rfl (gS rfl (gS rfl g0))))))))) (gS rfl (gS rfl (gS rfl (gS rfl (gS rfl (gS rfl (gS rfl (gS rfl g0)))))))) (gS rfl (gS rfl (gS rfl (gS rfl (gS rfl (gS rfl g0)))))) (gS rfl (gS rfl (gS rfl (gS rfl (gS rfl g0))))) (gS rfl (gS rfl (gS rfl (gS rfl g0)))) (gS rfl (gS rfl (gS rfl g0))) (gS rfl (gS rfl g0)) (gS rfl g0) g0 (fun g => ?_)
                      refine c_block (fun Q90 hQ90 => ?_)
                      refine c_seq (fun K91 hK91 => ?_)
                      exact (by
                        refine c_region ?_
                        refine l_step (y_eql (et g0 rfl) rfl) ?_
                        refine l_step (y_assignV (et g0 rfl)) ?_
                        refine l_nil ?_
                        refine hK91 _ _ ?_
                        refine fg10 0 1 6 9 10 11 12 13 53 54 (gS rfl (gS rfl (gS rfl (gS rfl (gS rfl (gS rfl (gS rfl (gS rfl (gS rfl (gS rfl g0)))))))))) (gS rfl (gS rfl (gS rfl (gS rfl (gS rfl (gS rfl (gS rfl (gS rfl (gS rfl g0))))))))) (gS rfl (gS rfl (gS rfl (gS rfl (gS rfl (gS rfl (gS rfl (gS rfl g0)))))))) (gS rfl (gS rfl (gS rfl (gS rfl (gS rfl (gS rfl (gS rfl g0))))))) (gS rfl (gS rfl (gS rfl (gS rfl (gS rfl (gS rfl g0)))))) (gS rfl (gS rfl (gS rfl (gS rfl (gS rfl g0))))) (gS rfl (gS rfl (gS rfl (gS rfl g0)))) (gS rfl (gS rfl (gS rfl g0))) (gS rfl (gS rfl g0)) g0 (fun g => ?_)
                        refine c_cond (et g0 rfl) (fun cB2 => ?_) (fun cB2 => ?_)
                        · skip
                          
                          have hq2 : q = 242 := by have := of_decide_eq_true cB2; omega
                          refine c_seq (fun K93 hK93 => ?_)
                          exact (by
                            refine c_region ?_
                            refine l_step (y_fld fld_146_0 (et (gS rfl (gS rfl g0)) rfl)) ?_
                            have rl94 := RowIn.le cF (Nat.succ_pos _)
                            simp only [List.length_cons, List.length_nil, Nat.zero_add, Nat.reduceAdd] at rl94
                            refine l_effN (e_store sz_5 (et g0 rfl) (cellsV rfl rfl) rfl (by first | exact one_bL _ | exact one_uL _ | (intro v hv; simp at hv; subst hv; rfl)) k18 (by first | exact Nat.le_trans (by omega) rl94 | exact Nat.le_of_ble_eq_true rfl | simp | omega)) (fun v94 w94 h94 => ?_)
                            obtain ⟨rfl, x94⟩ := h94
                            replace k8 := k8.ch x94.ch (by omega)
                            replace kS := kS.ch x94.ch (by first | omega | (omega))
                            replace kF := kF.ch x94.ch (by first | omega | (omega))
                            replace kM := kM.ch x94.ch (by first | omega | (omega))
                            replace kL := kL.ch x94.ch (by first | omega | (intro q hq hm; have := dL q hq; omega))
                            replace kR := kR.ch x94.ch (by first | omega | (intro m hm; have := dR m hm; omega))
                            replace k18 := x94.blk
                            replace cF : RowIn _ _ [.int .u8 ((7 : Nat) : Int), .int .u8 ((0 : Nat) : Int), .bool f.static, .slice none 0 0, .slice none 0 0, .slice vx1 vx2 vx3, .slice none 0 0, .slice none 0 0, .slice none 0 0, .slice none 0 0, .slice none 0 0, .slice none 0 0] := k18.rput cF 0 rfl
                            replace cSe := k18.rputo cSe (by first | (left; omega) | (right; simp only [List.length_cons, List.length_nil, length_bL, length_be, jSv.len]; omega))
                            replace cCa := k18.rputo cCa (by first | (left; omega) | (right; simp only [List.length_cons, List.length_nil, length_bL, length_be, jSv.len]; omega))
                            replace cSv := k18.rputo cSv (by first | (left; omega) | (right; simp only [List.length_cons, List.length_nil, length_bL, length_be, jSv.len]; omega))
                            replace G := G.wr x94 (by first | exact .inr f18 | omega | (simp; omega)) nb18
                            replace V27 := V27.wr x94 (by first | exact .inr f18 | omega | (simp; omega)) nb18
                            replace hF := G.fz
                            replace U := U.st x94 (.inr f18)
                            refine l_nil ?_
                            refine hK93 _ _ ?_
                            refine fg8 0 1 6 9 10 11 12 13 (gS rfl (gS rfl (gS rfl (gS rfl (gS rfl (gS rfl (gS rfl (gS rfl (gS rfl (gS rfl g0)))))))))) (gS rfl (gS rfl (gS rfl (gS rfl (gS rfl (gS rfl (gS rfl (gS rfl (gS rfl g0))))))))) (gS rfl (gS rfl (gS rfl (gS rfl (gS rfl (gS rfl (gS rfl (gS rfl g0)))))))) (gS rfl (gS rfl (gS rfl (gS rfl (gS rfl (gS rfl (gS rfl g0))))))) (gS rfl (gS rfl (gS rfl (gS rfl (gS rfl (gS rfl g0)))))) (gS rfl (gS rfl (gS rfl (gS rfl (gS rfl g0))))) (gS rfl (gS rfl (gS rfl (gS rfl g0)))) (gS rfl (gS rfl (gS rfl g0))) (fun g => ?_)
                            refine c_region ?_
                            refine l_step (y_moveV (et (gS rfl (gS rfl (gS rfl (gS rfl (gS rfl (gS rfl g0)))))) rfl)) ?_
                            refine l_step (y_nil (et g0 rfl)) ?_
                            refine l_step (y_fld fld_146_12 (et g0 rfl)) ?_
                            refine l_step (y_loadR agg_25 sz_25 (et g0 rfl) (by rw [length_bL, length_be]) (at1R (kF.row rSe))) ?_
                            refine l_step (y_fld fld_146_12 (et (gS rfl (gS rfl (gS rfl (gS rfl g0)))) rfl)) ?_
                            have rl95 := RowIn.le cSe (by simp only [length_bL, length_be, jSv.len]; decide)
                            simp only [length_bL, length_be, jSv.len] at rl95
                            refine l_effN (e_store sz_25 (et g0 rfl) (cellsV (et (gS rfl g0) rfl) rfl) (by rw [length_bL, length_be]) (by exact one_bL _) k18 (by first | exact Nat.le_trans (by omega) rl95 | (rw [length_bL, length_be]; omega))) (fun v95 w95 h95 => ?_)
                            obtain ⟨rfl, x95⟩ := h95
                            replace k8 := k8.ch x95.ch (by omega)
                            replace kS := kS.ch x95.ch (by first | omega | (omega))
                            replace kF := kF.ch x95.ch (by first | omega | (omega))
                            replace kM := kM.ch x95.ch (by first | omega | (omega))
                            replace kL := kL.ch x95.ch (by first | omega | (intro q hq hm; have := dL q hq; omega))
                            replace kR := kR.ch x95.ch (by first | omega | (intro m hm; have := dR m hm; omega))
                            replace k18 := x95.blk
                            replace cF := k18.rputmo cF (by first | omega | (simp only [length_bL, length_be, List.length_cons, List.length_nil, jSv.len]; omega)) (by first | omega | (simp only [length_bL, length_be, List.length_cons, List.length_nil, jSv.len]; omega))
                            replace cSe := k18.rputs (by first | omega | (simp only [length_bL, length_be, List.length_cons, List.length_nil, jSv.len]; omega))
                            replace cCa := k18.rputmo cCa (by first | omega | (simp only [length_bL, length_be, List.length_cons, List.length_nil, jSv.len]; omega)) (by first | omega | (simp only [length_bL, length_be, List.length_cons, List.length_nil, jSv.len]; omega))
                            replace cSv := k18.rputmo cSv (by first | omega | (simp only [length_bL, length_be, List.length_cons, List.length_nil, jSv.len]; omega)) (by first | omega | (simp only [length_bL, length_be, List.length_cons, List.length_nil, jSv.len]; omega))
                            replace G := G.wr x95 (by first | exact .inr f18 | omega | (simp; omega)) nb18
                            replace V27 := V27.wr x95 (by first | exact .inr f18 | omega | (simp; omega)) nb18
                            replace hF := G.fz
                            replace U := U.st x95 (.inr f18)
                            refine l_nil ?_
                            refine hQ90 _ _ _ (in_normal ?_)
                            refine fK8 0 1 6 9 10 11 12 13 (gS rfl (gS rfl (gS rfl (gS rfl (gS rfl (gS rfl (gS rfl (gS rfl (gS rfl (gS rfl (gS rfl (gS rfl g0)))))))))))) (gS rfl (gS rfl (gS rfl (gS rfl (gS rfl (gS rfl (gS rfl (gS rfl (gS rfl (gS rfl (gS rfl g0))))))))))) (gS rfl (gS rfl (gS rfl (gS rfl (gS rfl (gS rfl (gS rfl (gS rfl (gS rfl (gS rfl g0)))))))))) (gS rfl (gS rfl (gS rfl (gS rfl (gS rfl (gS rfl (gS rfl (gS rfl (gS rfl g0))))))))) (gS rfl (gS rfl (gS rfl (gS rfl (gS rfl (gS rfl (gS rfl (gS rfl g0)))))))) (gS rfl (gS rfl (gS rfl (gS rfl (gS rfl (gS rfl (gS rfl g0))))))) (gS rfl (gS rfl (gS rfl (gS rfl (gS rfl (gS rfl g0)))))) (gS rfl (gS rfl (gS rfl (gS rfl (gS rfl g0))))) (fun g => ?_)
                            exact hJ27 _ _ ⟨g, _, _, rfl, (by rw [show cK q = 7 by simp [cK, hq2], show cSt f q = f.static by simp [cSt, hq2], show cVal f q = (cV f q) by simp [cVal, hq2], show cSelf f q = f.self by simp [cSelf, ctT, hq2], show cCal f q = f.self by simp [cCal, hq2]]; exact (FC.mkC 7 f.static (cV f q) f.self f.self 0 0 [] [] (show 7 < 256 by decide) (show 0 < 256 by decide) (show 0 < 4294967296 by decide) hcV fo.self fo.self (show 0 < 1048576 by decide) (show 0 < 16777216 by decide) cF cSe cCa cSv jSv (NV.nil _) (NV.nil _) hvx (NV.nil _) (NV.nil _) (LV.nil _ _ _) (BV.nil _) (BV.nil _))), (by first | (simp only [size_spl, Array.size_setIfInBounds]; exact hcz) | exact hcz), k18, V27⟩)
                        · skip
                          
                          have hq2 : q ≠ 242 := by have := of_decide_eq_false cB2; omega
                          refine c_seq (fun K96 hK96 => ?_)
                          exact (by
                            refine c_region ?_
                            refine l_step (y_eql (et (gS rfl g0) rfl) rfl) ?_
                            refine l_step (y_assignV (et g0 rfl)) ?_
                            refine l_nil ?_
                            refine hK96 _ _ ?_
                            refine fg10 0 1 6 9 10 11 12 13 53 62 (gS rfl (gS rfl (gS rfl (gS rfl (gS rfl (gS rfl (gS rfl (gS rfl (gS rfl (gS rfl (gS rfl g0))))))))))) (gS rfl (gS rfl (gS rfl (gS rfl (gS rfl (gS rfl (gS rfl (gS rfl (gS rfl (gS rfl g0)))))))))) (gS rfl (gS rfl (gS rfl (gS rfl (gS rfl (gS rfl (gS rfl (gS rfl (gS rfl g0))))))))) (gS rfl (gS rfl (gS rfl (gS rfl (gS rfl (gS rfl (gS rfl (gS rfl g0)))))))) (gS rfl (gS rfl (gS rfl (gS rfl (gS rfl (gS rfl (gS rfl g0))))))) (gS rfl (gS rfl (gS rfl (gS rfl (gS rfl (gS rfl g0)))))) (gS rfl (gS rfl (gS rfl (gS rfl (gS rfl g0))))) (gS rfl (gS rfl (gS rfl (gS rfl g0)))) (gS rfl (gS rfl (gS rfl g0))) g0 (fun g => ?_)
                            refine c_cond (et g0 rfl) (fun cB3 => ?_) (fun cB3 => ?_)
                            · skip
                              
                              have hq3 : q = 244 := by have := of_decide_eq_true cB3; omega
                              refine c_seq (fun K98 hK98 => ?_)
                              exact (by
                                refine c_region ?_
                                refine l_step (y_fld fld_146_0 (et (gS rfl (gS rfl g0)) rfl)) ?_
                                obtain ⟨vw1, vw2, vw3, rfl⟩ := hVa.sl
                                have rl99 := RowIn.le cF (Nat.succ_pos _)
                                simp only [List.length_cons, List.length_nil, Nat.zero_add, Nat.reduceAdd] at rl99
                                refine l_effN (e_store sz_5 (et g0 rfl) (cellsV rfl rfl) rfl (by first | exact one_bL _ | exact one_uL _ | (intro v hv; simp at hv; subst hv; rfl)) k18 (by first | exact Nat.le_trans (by omega) rl99 | exact Nat.le_of_ble_eq_true rfl | simp | omega)) (fun v99 w99 h99 => ?_)
                                obtain ⟨rfl, x99⟩ := h99
                                replace k8 := k8.ch x99.ch (by omega)
                                replace kS := kS.ch x99.ch (by first | omega | (omega))
                                replace kF := kF.ch x99.ch (by first | omega | (omega))
                                replace kM := kM.ch x99.ch (by first | omega | (omega))
                                replace kL := kL.ch x99.ch (by first | omega | (intro q hq hm; have := dL q hq; omega))
                                replace kR := kR.ch x99.ch (by first | omega | (intro m hm; have := dR m hm; omega))
                                replace k18 := x99.blk
                                replace cF : RowIn _ _ [.int .u8 ((3 : Nat) : Int), .int .u8 ((0 : Nat) : Int), .bool f.static, .slice none 0 0, .slice none 0 0, .slice vx1 vx2 vx3, .slice none 0 0, .slice none 0 0, .slice none 0 0, .slice none 0 0, .slice none 0 0, .slice none 0 0] := k18.rput cF 0 rfl
                                replace cSe := k18.rputo cSe (by first | (left; omega) | (right; simp only [List.length_cons, List.length_nil, length_bL, length_be, jSv.len]; omega))
                                replace cCa := k18.rputo cCa (by first | (left; omega) | (right; simp only [List.length_cons, List.length_nil, length_bL, length_be, jSv.len]; omega))
                                replace cSv := k18.rputo cSv (by first | (left; omega) | (right; simp only [List.length_cons, List.length_nil, length_bL, length_be, jSv.len]; omega))
                                replace G := G.wr x99 (by first | exact .inr f18 | omega | (simp; omega)) nb18
                                replace V27 := V27.wr x99 (by first | exact .inr f18 | omega | (simp; omega)) nb18
                                replace hF := G.fz
                                replace U := U.st x99 (.inr f18)
                                refine l_nil ?_
                                refine hK98 _ _ ?_
                                refine fg8 0 1 6 9 10 11 12 13 (gS rfl (gS rfl (gS rfl (gS rfl (gS rfl (gS rfl (gS rfl (gS rfl (gS rfl (gS rfl g0)))))))))) (gS rfl (gS rfl (gS rfl (gS rfl (gS rfl (gS rfl (gS rfl (gS rfl (gS rfl g0))))))))) (gS rfl (gS rfl (gS rfl (gS rfl (gS rfl (gS rfl (gS rfl (gS rfl g0)))))))) (gS rfl (gS rfl (gS rfl (gS rfl (gS rfl (gS rfl (gS rfl g0))))))) (gS rfl (gS rfl (gS rfl (gS rfl (gS rfl (gS rfl g0)))))) (gS rfl (gS rfl (gS rfl (gS rfl (gS rfl g0))))) (gS rfl (gS rfl (gS rfl (gS rfl g0)))) (gS rfl (gS rfl (gS rfl g0))) (fun g => ?_)
                                refine c_seq (fun K100 hK100 => ?_)
                                exact (by
                                  refine c_region ?_
                                  refine l_step (y_moveV (et (gS rfl (gS rfl (gS rfl (gS rfl (gS rfl (gS rfl g0)))))) rfl)) ?_
                                  refine l_step (y_nil (et g0 rfl)) ?_
                                  refine l_step (y_fld fld_146_5 (et g0 rfl)) ?_
                                  refine l_step (y_load1 one_95 (et g0 rfl) (at1 (kF.cell (rF 5 _ rfl)))) ?_
                                  refine l_step (y_fld fld_146_5 (et (gS rfl (gS rfl (gS rfl (gS rfl g0)))) rfl)) ?_
                                  have rl101 := RowIn.le cF (Nat.succ_pos _)
                                  simp only [List.length_cons, List.length_nil, Nat.zero_add, Nat.reduceAdd] at rl101
                                  refine l_effN (e_store sz_95 (et g0 rfl) (cellsV (et (gS rfl g0) rfl) rfl) rfl (by first | exact one_bL _ | exact one_uL _ | (intro v hv; simp at hv; subst hv; rfl)) k18 (by first | exact Nat.le_trans (by omega) rl101 | exact Nat.le_of_ble_eq_true rfl | simp | omega)) (fun v101 w101 h101 => ?_)
                                  obtain ⟨rfl, x101⟩ := h101
                                  replace k8 := k8.ch x101.ch (by omega)
                                  replace kS := kS.ch x101.ch (by first | omega | (omega))
                                  replace kF := kF.ch x101.ch (by first | omega | (omega))
                                  replace kM := kM.ch x101.ch (by first | omega | (omega))
                                  replace kL := kL.ch x101.ch (by first | omega | (intro q hq hm; have := dL q hq; omega))
                                  replace kR := kR.ch x101.ch (by first | omega | (intro m hm; have := dR m hm; omega))
                                  replace k18 := x101.blk
                                  replace cF : RowIn _ _ [.int .u8 ((3 : Nat) : Int), .int .u8 ((0 : Nat) : Int), .bool f.static, .slice none 0 0, .slice none 0 0, .slice vw1 vw2 vw3, .slice none 0 0, .slice none 0 0, .slice none 0 0, .slice none 0 0, .slice none 0 0, .slice none 0 0] := k18.rput cF 5 rfl
                                  replace cSe := k18.rputo cSe (by first | (left; omega) | (right; simp only [List.length_cons, List.length_nil, length_bL, length_be, jSv.len]; omega))
                                  replace cCa := k18.rputo cCa (by first | (left; omega) | (right; simp only [List.length_cons, List.length_nil, length_bL, length_be, jSv.len]; omega))
                                  replace cSv := k18.rputo cSv (by first | (left; omega) | (right; simp only [List.length_cons, List.length_nil, length_bL, length_be, jSv.len]; omega))
                                  replace G := G.wr x101 (by first | exact .inr f18 | omega | (simp; omega)) nb18
                                  replace V27 := V27.wr x101 (by first | exact .inr f18 | omega | (simp; omega)) nb18
                                  replace hF := G.fz
                                  replace U := U.st x101 (.inr f18)
                                  refine l_nil ?_
                                  refine hK100 _ _ ?_
                                  refine fg8 0 1 6 9 10 11 12 13 (gS rfl (gS rfl (gS rfl (gS rfl (gS rfl (gS rfl (gS rfl (gS rfl (gS rfl (gS rfl (gS rfl (gS rfl g0)))))))))))) (gS rfl (gS rfl (gS rfl (gS rfl (gS rfl (gS rfl (gS rfl (gS rfl (gS rfl (gS rfl (gS rfl g0))))))))))) (gS rfl (gS rfl (gS rfl (gS rfl (gS rfl (gS rfl (gS rfl (gS rfl (gS rfl (gS rfl g0)))))))))) (gS rfl (gS rfl (gS rfl (gS rfl (gS rfl (gS rfl (gS rfl (gS rfl (gS rfl g0))))))))) (gS rfl (gS rfl (gS rfl (gS rfl (gS rfl (gS rfl (gS rfl (gS rfl g0)))))))) (gS rfl (gS rfl (gS rfl (gS rfl (gS rfl (gS rfl (gS rfl g0))))))) (gS rfl (gS rfl (gS rfl (gS rfl (gS rfl (gS rfl g0)))))) (gS rfl (gS rfl (gS rfl (gS rfl (gS rfl g0))))) (fun g => ?_)
                                  refine c_seq (fun K102 hK102 => ?_)
                                  exact (by
                                    refine c_region ?_
                                    refine l_step (y_moveV (et (gS rfl (gS rfl (gS rfl (gS rfl (gS rfl (gS rfl g0)))))) rfl)) ?_
                                    refine l_step (y_nil (et g0 rfl)) ?_
                                    refine l_step (y_fld fld_146_12 (et g0 rfl)) ?_
                                    refine l_step (y_loadR agg_25 sz_25 (et g0 rfl) (by rw [length_bL, length_be]) (at1R (kF.row rSe))) ?_
                                    refine l_step (y_fld fld_146_12 (et (gS rfl (gS rfl (gS rfl (gS rfl g0)))) rfl)) ?_
                                    have rl103 := RowIn.le cSe (by simp only [length_bL, length_be, jSv.len]; decide)
                                    simp only [length_bL, length_be, jSv.len] at rl103
                                    refine l_effN (e_store sz_25 (et g0 rfl) (cellsV (et (gS rfl g0) rfl) rfl) (by rw [length_bL, length_be]) (by exact one_bL _) k18 (by first | exact Nat.le_trans (by omega) rl103 | (rw [length_bL, length_be]; omega))) (fun v103 w103 h103 => ?_)
                                    obtain ⟨rfl, x103⟩ := h103
                                    replace k8 := k8.ch x103.ch (by omega)
                                    replace kS := kS.ch x103.ch (by first | omega | (omega))
                                    replace kF := kF.ch x103.ch (by first | omega | (omega))
                                    replace kM := kM.ch x103.ch (by first | omega | (omega))
                                    replace kL := kL.ch x103.ch (by first | omega | (intro q hq hm; have := dL q hq; omega))
                                    replace kR := kR.ch x103.ch (by first | omega | (intro m hm; have := dR m hm; omega))
                                    replace k18 := x103.blk
                                    replace cF := k18.rputmo cF (by first | omega | (simp only [length_bL, length_be, List.length_cons, List.length_nil, jSv.len]; omega)) (by first | omega | (simp only [length_bL, length_be, List.length_cons, List.length_nil, jSv.len]; omega))
                                    replace cSe := k18.rputs (by first | omega | (simp only [length_bL, length_be, List.length_cons, List.length_nil, jSv.len]; omega))
                                    replace cCa := k18.rputmo cCa (by first | omega | (simp only [length_bL, length_be, List.length_cons, List.length_nil, jSv.len]; omega)) (by first | omega | (simp only [length_bL, length_be, List.length_cons, List.length_nil, jSv.len]; omega))
                                    replace cSv := k18.rputmo cSv (by first | omega | (simp only [length_bL, length_be, List.length_cons, List.length_nil, jSv.len]; omega)) (by first | omega | (simp only [length_bL, length_be, List.length_cons, List.length_nil, jSv.len]; omega))
                                    replace G := G.wr x103 (by first | exact .inr f18 | omega | (simp; omega)) nb18
                                    replace V27 := V27.wr x103 (by first | exact .inr f18 | omega | (simp; omega)) nb18
                                    replace hF := G.fz
                                    replace U := U.st x103 (.inr f18)
                                    refine l_nil ?_
                                    refine hK102 _ _ ?_
                                    refine fg8 0 1 6 9 10 11 12 13 (gS rfl (gS rfl (gS rfl (gS rfl (gS rfl (gS rfl (gS rfl (gS rfl (gS rfl (gS rfl (gS rfl (gS rfl g0)))))))))))) (gS rfl (gS rfl (gS rfl (gS rfl (gS rfl (gS rfl (gS rfl (gS rfl (gS rfl (gS rfl (gS rfl g0))))))))))) (gS rfl (gS rfl (gS rfl (gS rfl (gS rfl (gS rfl (gS rfl (gS rfl (gS rfl (gS rfl g0)))))))))) (gS rfl (gS rfl (gS rfl (gS rfl (gS rfl (gS rfl (gS rfl (gS rfl (gS rfl g0))))))))) (gS rfl (gS rfl (gS rfl (gS rfl (gS rfl (gS rfl (gS rfl (gS rfl g0)))))))) (gS rfl (gS rfl (gS rfl (gS rfl (gS rfl (gS rfl (gS rfl g0))))))) (gS rfl (gS rfl (gS rfl (gS rfl (gS rfl (gS rfl g0)))))) (gS rfl (gS rfl (gS rfl (gS rfl (gS rfl g0))))) (fun g => ?_)
                                    refine c_region ?_
                                    refine l_step (y_moveV (et (gS rfl (gS rfl (gS rfl (gS rfl (gS rfl (gS rfl g0)))))) rfl)) ?_
                                    refine l_step (y_nil (et g0 rfl)) ?_
                                    exact (by
                                      refine l_step (y_fld fld_146_13 (et g0 rfl)) ?_
                                      refine l_step (y_loadR agg_25 sz_25 (et g0 rfl) (by rw [length_bL, length_be]) (at1R (kF.row rCa))) ?_
                                      refine l_step (y_fld fld_146_13 (et (gS rfl (gS rfl (gS rfl (gS rfl g0)))) rfl)) ?_
                                      have rl104 := RowIn.le cCa (by simp only [length_bL, length_be, jSv.len]; decide)
                                      simp only [length_bL, length_be, jSv.len] at rl104
                                      refine l_effN (e_store sz_25 (et g0 rfl) (cellsV (et (gS rfl g0) rfl) rfl) (by rw [length_bL, length_be]) (by exact one_bL _) k18 (by first | exact Nat.le_trans (by omega) rl104 | (rw [length_bL, length_be]; omega))) (fun v104 w104 h104 => ?_)
                                      obtain ⟨rfl, x104⟩ := h104
                                      replace k8 := k8.ch x104.ch (by omega)
                                      replace kS := kS.ch x104.ch (by first | omega | (omega))
                                      replace kF := kF.ch x104.ch (by first | omega | (omega))
                                      replace kM := kM.ch x104.ch (by first | omega | (omega))
                                      replace kL := kL.ch x104.ch (by first | omega | (intro q hq hm; have := dL q hq; omega))
                                      replace kR := kR.ch x104.ch (by first | omega | (intro m hm; have := dR m hm; omega))
                                      replace k18 := x104.blk
                                      replace cF := k18.rputmo cF (by first | omega | (simp only [length_bL, length_be, List.length_cons, List.length_nil, jSv.len]; omega)) (by first | omega | (simp only [length_bL, length_be, List.length_cons, List.length_nil, jSv.len]; omega))
                                      replace cSe := k18.rputmo cSe (by first | omega | (simp only [length_bL, length_be, List.length_cons, List.length_nil, jSv.len]; omega)) (by first | omega | (simp only [length_bL, length_be, List.length_cons, List.length_nil, jSv.len]; omega))
                                      replace cCa := k18.rputs (by first | omega | (simp only [length_bL, length_be, List.length_cons, List.length_nil, jSv.len]; omega))
                                      replace cSv := k18.rputmo cSv (by first | omega | (simp only [length_bL, length_be, List.length_cons, List.length_nil, jSv.len]; omega)) (by first | omega | (simp only [length_bL, length_be, List.length_cons, List.length_nil, jSv.len]; omega))
                                      replace G := G.wr x104 (by first | exact .inr f18 | omega | (simp; omega)) nb18
                                      replace V27 := V27.wr x104 (by first | exact .inr f18 | omega | (simp; omega)) nb18
                                      replace hF := G.fz
                                      replace U := U.st x104 (.inr f18)
                                      refine l_nil ?_
                                      refine hQ90 _ _ _ (in_normal ?_)
                                      refine fK8 0 1 6 9 10 11 12 13 (gS rfl (gS rfl (gS rfl (gS rfl (gS rfl (gS rfl (gS rfl (gS rfl (gS rfl (gS rfl (gS rfl (gS rfl g0)))))))))))) (gS rfl (gS rfl (gS rfl (gS rfl (gS rfl (gS rfl (gS rfl (gS rfl (gS rfl (gS rfl (gS rfl g0))))))))))) (gS rfl (gS rfl (gS rfl (gS rfl (gS rfl (gS rfl (gS rfl (gS rfl (gS rfl (gS rfl g0)))))))))) (gS rfl (gS rfl (gS rfl (gS rfl (gS rfl (gS rfl (gS rfl (gS rfl (gS rfl g0))))))))) (gS rfl (gS rfl (gS rfl (gS rfl (gS rfl (gS rfl (gS rfl (gS rfl g0)))))))) (gS rfl (gS rfl (gS rfl (gS rfl (gS rfl (gS rfl (gS rfl g0))))))) (gS rfl (gS rfl (gS rfl (gS rfl (gS rfl (gS rfl g0)))))) (gS rfl (gS rfl (gS rfl (gS rfl (gS rfl g0))))) (fun g => ?_)
                                      exact hJ27 _ _ ⟨g, _, _, rfl, (by rw [show cK q = 3 by simp [cK, hq3], show cSt f q = f.static by simp [cSt, hq3], show cVal f q = f.value by simp [cVal, hq3], show cSelf f q = f.self by simp [cSelf, ctT, hq3], show cCal f q = f.caller by simp [cCal, hq3]]; exact (FC.mkC 3 f.static f.value f.self f.caller 0 0 [] [] (show 3 < 256 by decide) (show 0 < 256 by decide) (show 0 < 4294967296 by decide) fo.value fo.self fo.caller (show 0 < 1048576 by decide) (show 0 < 16777216 by decide) cF cSe cCa cSv jSv (NV.nil _) (NV.nil _) (hVa.mono hL0) (NV.nil _) (NV.nil _) (LV.nil _ _ _) (BV.nil _) (BV.nil _))), (by first | (simp only [size_spl, Array.size_setIfInBounds]; exact hcz) | exact hcz), k18, V27⟩))))
                            · skip
                              
                              have hq3 : q ≠ 244 := by have := of_decide_eq_false cB3; omega
                              refine c_seq (fun K105 hK105 => ?_)
                              exact (by
                                refine c_region ?_
                                refine l_step (y_eql (et (gS rfl g0) rfl) rfl) ?_
                                refine l_step (y_assignV (et g0 rfl)) ?_
                                refine l_nil ?_
                                refine hK105 _ _ ?_
                                refine fg9 0 1 6 9 10 11 12 13 80 (gS rfl (gS rfl (gS rfl (gS rfl (gS rfl (gS rfl (gS rfl (gS rfl (gS rfl (gS rfl (gS rfl g0))))))))))) (gS rfl (gS rfl (gS rfl (gS rfl (gS rfl (gS rfl (gS rfl (gS rfl (gS rfl (gS rfl g0)))))))))) (gS rfl (gS rfl (gS rfl (gS rfl (gS rfl (gS rfl (gS rfl (gS rfl (gS rfl g0))))))))) (gS rfl (gS rfl (gS rfl (gS rfl (gS rfl (gS rfl (gS rfl (gS rfl g0)))))))) (gS rfl (gS rfl (gS rfl (gS rfl (gS rfl (gS rfl (gS rfl g0))))))) (gS rfl (gS rfl (gS rfl (gS rfl (gS rfl (gS rfl g0)))))) (gS rfl (gS rfl (gS rfl (gS rfl (gS rfl g0))))) (gS rfl (gS rfl (gS rfl (gS rfl g0)))) g0 (fun g => ?_)
                                refine c_cond (et g0 rfl) (fun cB4 => ?_) (fun cB4 => ?_)
                                · skip
                                  
                                  have hq4 : q = 250 := by have := of_decide_eq_true cB4; omega
                                  refine c_seq (fun K107 hK107 => ?_)
                                  exact (by
                                    refine c_region ?_
                                    refine l_step (y_fld fld_146_0 (et (gS rfl g0) rfl)) ?_
                                    have rl108 := RowIn.le cF (Nat.succ_pos _)
                                    simp only [List.length_cons, List.length_nil, Nat.zero_add, Nat.reduceAdd] at rl108
                                    refine l_effN (e_store sz_5 (et g0 rfl) (cellsV rfl rfl) rfl (by first | exact one_bL _ | exact one_uL _ | (intro v hv; simp at hv; subst hv; rfl)) k18 (by first | exact Nat.le_trans (by omega) rl108 | exact Nat.le_of_ble_eq_true rfl | simp | omega)) (fun v108 w108 h108 => ?_)
                                    obtain ⟨rfl, x108⟩ := h108
                                    replace k8 := k8.ch x108.ch (by omega)
                                    replace kS := kS.ch x108.ch (by first | omega | (omega))
                                    replace kF := kF.ch x108.ch (by first | omega | (omega))
                                    replace kM := kM.ch x108.ch (by first | omega | (omega))
                                    replace kL := kL.ch x108.ch (by first | omega | (intro q hq hm; have := dL q hq; omega))
                                    replace kR := kR.ch x108.ch (by first | omega | (intro m hm; have := dR m hm; omega))
                                    replace k18 := x108.blk
                                    replace cF : RowIn _ _ [.int .u8 ((4 : Nat) : Int), .int .u8 ((0 : Nat) : Int), .bool f.static, .slice none 0 0, .slice none 0 0, .slice vx1 vx2 vx3, .slice none 0 0, .slice none 0 0, .slice none 0 0, .slice none 0 0, .slice none 0 0, .slice none 0 0] := k18.rput cF 0 rfl
                                    replace cSe := k18.rputo cSe (by first | (left; omega) | (right; simp only [List.length_cons, List.length_nil, length_bL, length_be, jSv.len]; omega))
                                    replace cCa := k18.rputo cCa (by first | (left; omega) | (right; simp only [List.length_cons, List.length_nil, length_bL, length_be, jSv.len]; omega))
                                    replace cSv := k18.rputo cSv (by first | (left; omega) | (right; simp only [List.length_cons, List.length_nil, length_bL, length_be, jSv.len]; omega))
                                    replace G := G.wr x108 (by first | exact .inr f18 | omega | (simp; omega)) nb18
                                    replace V27 := V27.wr x108 (by first | exact .inr f18 | omega | (simp; omega)) nb18
                                    replace hF := G.fz
                                    replace U := U.st x108 (.inr f18)
                                    refine l_nil ?_
                                    refine hK107 _ _ ?_
                                    refine fg8 0 1 6 9 10 11 12 13 (gS rfl (gS rfl (gS rfl (gS rfl (gS rfl (gS rfl (gS rfl (gS rfl (gS rfl g0))))))))) (gS rfl (gS rfl (gS rfl (gS rfl (gS rfl (gS rfl (gS rfl (gS rfl g0)))))))) (gS rfl (gS rfl (gS rfl (gS rfl (gS rfl (gS rfl (gS rfl g0))))))) (gS rfl (gS rfl (gS rfl (gS rfl (gS rfl (gS rfl g0)))))) (gS rfl (gS rfl (gS rfl (gS rfl (gS rfl g0))))) (gS rfl (gS rfl (gS rfl (gS rfl g0)))) (gS rfl (gS rfl (gS rfl g0))) (gS rfl (gS rfl g0)) (fun g => ?_)
                                    refine c_region ?_
                                    refine l_step (y_fld fld_146_2 (et g0 rfl)) ?_
                                    have rl109 := RowIn.le cF (Nat.succ_pos _)
                                    simp only [List.length_cons, List.length_nil, Nat.zero_add, Nat.reduceAdd] at rl109
                                    refine l_effN (e_store sz_4 (et g0 rfl) (cellsV rfl rfl) rfl (by first | exact one_bL _ | exact one_uL _ | (intro v hv; simp at hv; subst hv; rfl)) k18 (by first | exact Nat.le_trans (by omega) rl109 | exact Nat.le_of_ble_eq_true rfl | simp | omega)) (fun v109 w109 h109 => ?_)
                                    obtain ⟨rfl, x109⟩ := h109
                                    replace k8 := k8.ch x109.ch (by omega)
                                    replace kS := kS.ch x109.ch (by first | omega | (omega))
                                    replace kF := kF.ch x109.ch (by first | omega | (omega))
                                    replace kM := kM.ch x109.ch (by first | omega | (omega))
                                    replace kL := kL.ch x109.ch (by first | omega | (intro q hq hm; have := dL q hq; omega))
                                    replace kR := kR.ch x109.ch (by first | omega | (intro m hm; have := dR m hm; omega))
                                    replace k18 := x109.blk
                                    replace cF : RowIn _ _ [.int .u8 ((4 : Nat) : Int), .int .u8 ((0 : Nat) : Int), .bool true, .slice none 0 0, .slice none 0 0, .slice vx1 vx2 vx3, .slice none 0 0, .slice none 0 0, .slice none 0 0, .slice none 0 0, .slice none 0 0, .slice none 0 0] := k18.rput cF 2 rfl
                                    replace cSe := k18.rputo cSe (by first | (left; omega) | (right; simp only [List.length_cons, List.length_nil, length_bL, length_be, jSv.len]; omega))
                                    replace cCa := k18.rputo cCa (by first | (left; omega) | (right; simp only [List.length_cons, List.length_nil, length_bL, length_be, jSv.len]; omega))
                                    replace cSv := k18.rputo cSv (by first | (left; omega) | (right; simp only [List.length_cons, List.length_nil, length_bL, length_be, jSv.len]; omega))
                                    replace G := G.wr x109 (by first | exact .inr f18 | omega | (simp; omega)) nb18
                                    replace V27 := V27.wr x109 (by first | exact .inr f18 | omega | (simp; omega)) nb18
                                    replace hF := G.fz
                                    replace U := U.st x109 (.inr f18)
                                    refine l_nil ?_
                                    refine hQ90 _ _ _ (in_normal ?_)
                                    refine fK8 0 1 6 9 10 11 12 13 (gS rfl (gS rfl (gS rfl (gS rfl (gS rfl (gS rfl (gS rfl (gS rfl g0)))))))) (gS rfl (gS rfl (gS rfl (gS rfl (gS rfl (gS rfl (gS rfl g0))))))) (gS rfl (gS rfl (gS rfl (gS rfl (gS rfl (gS rfl g0)))))) (gS rfl (gS rfl (gS rfl (gS rfl (gS rfl g0))))) (gS rfl (gS rfl (gS rfl (gS rfl g0)))) (gS rfl (gS rfl (gS rfl g0))) (gS rfl (gS rfl g0)) (gS rfl g0) (fun g => ?_)
                                    exact hJ27 _ _ ⟨g, _, _, rfl, (by rw [show cK q = 4 by simp [cK, hq4], show cSt f q = true by simp [cSt, hq4], show cVal f q = (cV f q) by simp [cVal, hq4], show cSelf f q = (argN f.stack 1 % A160) by simp [cSelf, ctT, hq4], show cCal f q = f.self by simp [cCal, hq4]]; exact (FC.mkC 4 true (cV f q) (argN f.stack 1 % A160) f.self 0 0 [] [] (show 4 < 256 by decide) (show 0 < 256 by decide) (show 0 < 4294967296 by decide) hcV (Nat.mod_lt _ A160_pos) fo.self (show 0 < 1048576 by decide) (show 0 < 16777216 by decide) cF cSe cCa cSv jSv (NV.nil _) (NV.nil _) hvx (NV.nil _) (NV.nil _) (LV.nil _ _ _) (BV.nil _) (BV.nil _))), (by first | (simp only [size_spl, Array.size_setIfInBounds]; exact hcz) | exact hcz), k18, V27⟩)
                                · skip
                                  
                                  have hq4 : q ≠ 250 := by have := of_decide_eq_false cB4; omega
                                  refine c_skip ?_
                                  refine hQ90 _ _ _ (in_normal ?_)
                                  refine fK8 0 1 6 9 10 11 12 13 (gS rfl (gS rfl (gS rfl (gS rfl (gS rfl (gS rfl (gS rfl (gS rfl g0)))))))) (gS rfl (gS rfl (gS rfl (gS rfl (gS rfl (gS rfl (gS rfl g0))))))) (gS rfl (gS rfl (gS rfl (gS rfl (gS rfl (gS rfl g0)))))) (gS rfl (gS rfl (gS rfl (gS rfl (gS rfl g0))))) (gS rfl (gS rfl (gS rfl (gS rfl g0)))) (gS rfl (gS rfl (gS rfl g0))) (gS rfl (gS rfl g0)) (gS rfl g0) (fun g => ?_)
                                  exact hJ27 _ _ ⟨g, _, _, rfl, (by rw [show cK q = 2 by simp [cK, hq2, hq3, hq4], show cSt f q = f.static by simp [cSt, hq2, hq3, hq4], show cVal f q = (cV f q) by simp [cVal, hq2, hq3, hq4], show cSelf f q = (argN f.stack 1 % A160) by simp [cSelf, ctT, hq2, hq3, hq4], show cCal f q = f.self by simp [cCal, hq2, hq3, hq4]]; exact (FC.mkC 2 f.static (cV f q) (argN f.stack 1 % A160) f.self 0 0 [] [] (show 2 < 256 by decide) (show 0 < 256 by decide) (show 0 < 4294967296 by decide) hcV (Nat.mod_lt _ A160_pos) fo.self (show 0 < 1048576 by decide) (show 0 < 16777216 by decide) cF cSe cCa cSv jSv (NV.nil _) (NV.nil _) hvx (NV.nil _) (NV.nil _) (LV.nil _ _ _) (BV.nil _) (BV.nil _))), (by first | (simp only [size_spl, Array.size_setIfInBounds]; exact hcz) | exact hcz), k18, V27⟩))))))
              have V14 : Go (fun k => False) w12 H12 w12 H12 := Go.refl hF
              refine c_seq (fun K110 hK110 => ?_)
              exact (by
                refine c_region ?_
                refine l_step (y_moveV (et (gS rfl (gS rfl (gS rfl (gS rfl (gS rfl (gS rfl g0)))))) rfl)) ?_
                refine l_step (y_eql (et g0 rfl) rfl) ?_
                refine l_step (y_moveV (et g0 rfl)) ?_
                refine l_gpure (j := 2) (t := 33) (by exact rfl) (by exact rfl) (et g0 rfl) rfl (fun hc => (y_moveV (et (gS rfl (gS rfl (gS rfl (gS rfl (gS rfl (gS rfl (gS rfl (gS rfl (gS rfl g0))))))))) rfl))) ?_
                refine l_gpure (j := 2) (t := 33) (by exact rfl) (by exact rfl) (et (gS rfl g0) rfl) rfl (fun hc => (y_eql (et (cT g0 hc) rfl) rfl)) ?_
                refine l_step (y_pickO (et (gS rfl (gS rfl g0)) rfl) rfl (et g0 rfl)) ?_
                refine l_nil ?_
                refine hK110 _ _ ?_
                refine fg8 2 1 0 6 9 10 11 36 (gS rfl (gS rfl (gS rfl (gS rfl (gS rfl (gS rfl (gS rfl (gS rfl (gS rfl (gS rfl (gS rfl (gS rfl g0)))))))))))) (gS rfl (gS rfl (gS rfl (gS rfl (gS rfl (gS rfl (gS rfl (gS rfl (gS rfl (gS rfl (gS rfl g0))))))))))) (gS rfl (gS rfl (gS rfl (gS rfl (gS rfl (gS rfl (gS rfl (gS rfl (gS rfl (gS rfl g0)))))))))) (gS rfl (gS rfl (gS rfl (gS rfl (gS rfl (gS rfl (gS rfl (gS rfl (gS rfl g0))))))))) (gS rfl (gS rfl (gS rfl (gS rfl (gS rfl (gS rfl (gS rfl (gS rfl g0)))))))) (gS rfl (gS rfl (gS rfl (gS rfl (gS rfl (gS rfl (gS rfl g0))))))) (gS rfl (gS rfl (gS rfl (gS rfl (gS rfl (gS rfl g0)))))) g0 (fun g => ?_)
                refine c_cond (et g0 rfl) (fun cB1 => ?_) (fun cB1 => ?_)
                · skip
                  
                  have h12 : q = 241 ∨ q = 242 := by simp at cB1; omega
                  exact (by
                    refine c_region ?_
                    refine l_step (y_moveV (et (gS rfl (gS rfl (gS rfl (gS rfl (gS rfl (gS rfl g0)))))) rfl)) ?_
                    refine l_eff (e_callV cal_63 (aC (et g0 rfl) (aC (v := .int .i64 ((2 : Nat) : Int)) rfl aN)) (yp_arg _ _ 2 _ _ _ _ _ _ hF kF (rF 8 _ rfl) (hSt.mono hL0) (by omega) (by first | decide | omega))) (fun v112 w112 h112 => ?_)
                    obtain ⟨u112, n112, q112⟩ := h112
                    replace G := G.tr (Go.ofUp hF u112)
                    replace V14 := V14.tr (Go.ofUp hF u112)
                    replace hF := hF.up u112
                    replace k8 := k8.up u112
                    replace kS := kS.up u112
                    replace kF := kF.up u112
                    replace kM := kM.up u112
                    replace kL := kL.up u112
                    replace kR := kR.up u112
                    replace U := U.tr u112
                    refine l_step (y_assignV (et g0 rfl)) ?_
                    refine l_nil ?_
                    refine fK7 0 1 2 6 9 10 11 (gS rfl (gS rfl (gS rfl (gS rfl (gS rfl (gS rfl (gS rfl (gS rfl g0)))))))) (gS rfl (gS rfl (gS rfl (gS rfl (gS rfl (gS rfl (gS rfl (gS rfl (gS rfl g0))))))))) (gS rfl (gS rfl (gS rfl (gS rfl (gS rfl (gS rfl (gS rfl (gS rfl (gS rfl (gS rfl g0)))))))))) (gS rfl (gS rfl (gS rfl (gS rfl (gS rfl (gS rfl (gS rfl g0))))))) (gS rfl (gS rfl (gS rfl (gS rfl (gS rfl (gS rfl g0)))))) (gS rfl (gS rfl (gS rfl (gS rfl (gS rfl g0))))) g0 (fun g => ?_)
                    exact hJ14 _ _ ⟨g, _, _, rfl, n112.to (by rw [cV, if_pos h12]), V14⟩)
                · skip
                  
                  have h12 : ¬ (q = 241 ∨ q = 242) := by simp at cB1; omega
                  refine c_skip ?_
                  refine fK7 0 1 2 6 9 10 11 (gS rfl (gS rfl (gS rfl (gS rfl (gS rfl g0))))) (gS rfl (gS rfl (gS rfl (gS rfl (gS rfl (gS rfl g0)))))) (gS rfl (gS rfl (gS rfl (gS rfl (gS rfl (gS rfl (gS rfl g0))))))) (gS rfl (gS rfl (gS rfl (gS rfl g0)))) (gS rfl (gS rfl (gS rfl g0))) (gS rfl (gS rfl g0)) (gS rfl g0) (fun g => ?_)
                  exact hJ14 _ _ ⟨g, _, _, rfl, (by rw [cV, if_neg h12]; exact NV.nil _), V14⟩)))))))
end Go.Proofs.YgvaawGreat
