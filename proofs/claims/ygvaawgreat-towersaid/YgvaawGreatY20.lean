import Derived.Test.YgvaawGreatY19
set_option maxRecDepth 100000
set_option maxHeartbeats 4000000
set_option linter.unusedSimpArgs false
set_option linter.unusedVariables false
namespace Go.Proofs.YgvaawGreat
open Go
def yKey (f : YF) : Nat := argN f.stack 0
def yOrig (s : YSt) (f : YF) : Nat := triAt s.start f.self (yKey f)
def yVal (s : YSt) (f : YF) : Nat := slotAt (acctAt s.now.accts f.self).slots (yKey f)
def yCold (s : YSt) (f : YF) : Bool := !decide ((f.self, yKey f) ∈ s.now.warmS)
def yT (f : YF) (i : Nat) : Nat := argN f.stack i % A160
def dCost (s : YSt) (f : YF) : Nat :=
  (5000 + (if yT f 0 ∈ s.now.warmA then 0 else 2600)) + (if emptyB (acctAt s.now.accts (yT f 0)) = true ∧ (acctAt s.now.accts f.self).bal ≠ 0 then 25000 else 0)
def eCost (s : YSt) (f : YF) (o : Nat) : Nat :=
  if o = 240 then 32000 + 2 * wordsN (argN f.stack 2)
  else if o = 245 then 32000 + 8 * wordsN (argN f.stack 2)
  else if (o = 241 ∨ o = 242) ∧ argN f.stack 2 ≠ 0 then (if o = 241 ∧ emptyB (acctAt s.now.accts (yT f 1)) = true then accessN s.now.warmA (yT f 1) + 9000 + 25000 else accessN s.now.warmA (yT f 1) + 9000)
  else accessN s.now.warmA (yT f 1)
def bareN (s : YSt) (f : YF) (o : Nat) : Nat :=
  if (96 ≤ o ∧ o ≤ 159) ∨ (16 ≤ o ∧ o ≤ 29) ∨ o = 1 ∨ o = 3 ∨ o = 53 ∨ (81 ≤ o ∧ o ≤ 83) then 3
  else if o = 2 ∨ (4 ≤ o ∧ o ≤ 7) ∨ o = 11 ∨ o = 71 then 5
  else if o = 8 ∨ o = 9 ∨ o = 86 then 8
  else if o = 87 then 10
  else if o = 91 then 1
  else if o = 64 then 20
  else if o = 0 ∨ o = 243 ∨ o = 253 then 0
  else if o = 10 then expN (argN f.stack 1)
  else if o = 32 then 30 + 6 * wordsN (argN f.stack 1)
  else if o = 55 ∨ o = 57 ∨ o = 62 ∨ o = 94 then 3 + copyN (argN f.stack 2)
  else if o = 49 ∨ o = 59 ∨ o = 63 then accessN s.now.warmA (yT f 0)
  else if o = 60 then accessN s.now.warmA (yT f 0) + copyN (argN f.stack 3)
  else if 160 ≤ o ∧ o ≤ 164 then 375 + 375 * (o - 160) + 8 * argN f.stack 1
  else if o = 84 then (if (f.self, yKey f) ∈ s.now.warmS then 100 else 2100)
  else if o = 85 then sCost (yOrig s f) (yVal s f) (argN f.stack 1) (yCold s f)
  else if o = 92 ∨ o = 93 then 100
  else if o = 255 then dCost s f
  else if famN o = 16 then eCost s f o
  else 2
def costN (s : YSt) (f : YF) (o : Nat) : Nat :=
  if wordsN (yReach f.stack o) ≤ f.mem.length / 32 then bareN s f o else bareN s f o + (memN (wordsN (yReach f.stack o)) - memN (f.mem.length / 32))
theorem nvb {H : Store} {v : Value} {x y n m : Nat} (h : NV H v x) (b : x < 256 ^ n) (hn : n ≤ m) (e : y = x) : NV H v y ∧ y < 256 ^ m := by subst e; exact ⟨h, bd_up b hn⟩
theorem yp_sstore {w : World} {H : Store} (hF : Fz w H) (bs : Nat) (cs : Array Value) (s : YSt) (vf : Value) (kS : Blk w bs cs) (hs : SC H cs s vf) (bf o : Nat) (fs : Array Value) (f : YF) (vm : Value) (kF : Blk w bf fs) (hf : FC H fs o f vm) :
    Ret 334 [.pointer (some ⟨bs, 0, none⟩), .pointer (some ⟨bf, o, none⟩)] w (fun v w' => ∃ a b c H', v = .tuple #[a, b, c] ∧ Go No w H w' H' ∧ NV H' a (sCost (yOrig s f) (yVal s f) (argN f.stack 1) (yCold s f)) ∧ NV H' b (sPlus (yOrig s f) (yVal s f) (argN f.stack 1)) ∧ NV H' c (sMinus (yOrig s f) (yVal s f) (argN f.stack 1))) := by
  obtain ⟨aa, ac, wa, wc, sa, sc, vr, la, lc, ta, tc, ma, mc, ga, gc, oa, oc, ra, rc, vlim, vtx, vleft, vpr, vtot, rS, rOr, rMd, hAc, hWA, hWS, hRf, hTm, hMd, hGn, hSr, hRt, hLm, hTx, hLf, hPr, hTt⟩ := hs.ex
  have so := hs.ok
  have so1 := so.accts
  have so2 := so.warmA
  have so3 := so.warmS
  have so4 := so.temps
  have so5 := so.start
  have so6 := so.logs
  have so7 := so.made
  have so8 := so.gone
  have so9 := so.ret
  have eC := hs.env
  obtain ⟨vpc, vgas, vval, voo, vol, ka, kc, ca, cc, ia, ic, svc, rF, rSe, rCa, rSv, hSv, hPc, hGa, hVa, hOo, hOl, hSt, hCo, hIn⟩ := hf.ex
  have fo := hf.ok
  have fo1 := fo.stack
  have fo2 := fo.code
  have fo3 := fo.input
  have fo4 := fo.mem
  have lS := kS.lt
  have lF := kF.lt
  refine enter (n := 44) Hvaa.func334 rfl rfl (Nat.le_of_ble_eq_true rfl) ?_
  have U := Up.refl w
  have G : Go (No) w H w H := Go.refl hF
  have hL0 : Le H H := Le.refl H
  refine c_seq (fun K1 hK1 => ?_)
  exact (by
    refine c_region ?_
    refine l_step y_assignC ?_
    refine l_step y_assignC ?_
    refine l_step y_assignC ?_
    refine l_nil ?_
    refine hK1 _ _ ?_
    refine fg2 1 0 (gS rfl (gS rfl (gS rfl (gS rfl g0)))) (gS rfl (gS rfl (gS rfl g0))) (fun g => ?_)
    refine c_seq (fun K2 hK2 => ?_)
    exact (by
      refine c_region ?_
      refine l_step (y_moveV (et (gS rfl g0) rfl)) ?_
      refine l_eff (e_callV cal_63 (aC (et g0 rfl) (aC (v := .int .i64 ((0 : Nat) : Int)) rfl aN)) (yp_arg _ _ 0 _ _ _ _ _ _ hF kF (rF 8 _ rfl) (hSt.mono hL0) (by omega) (by first | decide | omega))) (fun v3 w3 h3 => ?_)
      obtain ⟨u3, n3, q3⟩ := h3
      replace G := G.tr (Go.ofUp hF u3)
      replace hF := hF.up u3
      replace kS := kS.up u3
      replace kF := kF.up u3
      replace U := U.tr u3
      refine l_step (y_assignV (et g0 rfl)) ?_
      refine l_nil ?_
      refine hK2 _ _ ?_
      refine fg3 1 0 7 (gS rfl (gS rfl (gS rfl (gS rfl g0)))) (gS rfl (gS rfl (gS rfl g0))) g0 (fun g => ?_)
      refine c_seq (fun K4 hK4 => ?_)
      exact (by
        refine c_draw Up 11 [(0, true), (1, true), (2, true), (3, true), (4, true), (5, true), (6, true), (7, true), (8, false), (9, true), (10, true)] (by kernel_rfl) (fun w5 hu => ⟨Up.refl _, ?_⟩)
        replace G := G.tr (Go.ofUp hF hu)
        replace hF := hF.up hu
        replace kS := kS.up hu
        replace kF := kF.up hu
        replace U := U.tr hu
        have SU := Up.refl w5
        refine p_step (by exact rfl) (y_moveV (et (gS rfl g0) rfl)) ?_
        refine p_step (by exact rfl) (y_nil (et g0 rfl)) ?_
        refine p_step (by exact rfl) (y_fld fld_102_0 (et g0 rfl)) ?_
        refine p_step (by exact rfl) (y_moveV (et (gS rfl (gS rfl (gS rfl (gS rfl (gS rfl g0))))) rfl)) ?_
        refine p_step (by exact rfl) (y_nil (et g0 rfl)) ?_
        refine p_step (by exact rfl) (y_fld fld_146_12 (et g0 rfl)) ?_
        refine p_step (by exact rfl) (y_loadR agg_25 sz_25 (et g0 rfl) (by rw [length_bL, length_be]) (atSR (kF.row rSe))) ?_
        refine p_step (by exact rfl) (y_moveV (et (gS rfl (gS rfl (gS rfl (gS rfl (gS rfl (gS rfl (gS rfl g0))))))) rfl)) ?_
        refine p_eff (by exact rfl) (e_callV cal_129 (aC (et (gS rfl (gS rfl (gS rfl (gS rfl (gS rfl g0))))) rfl) (aC (et (gS rfl g0) rfl) (aC (et g0 rfl) aN))) (yp_isWarmSlot _ _ _ _ _ _ _ _ _ hF kS (rS 2 _ rfl) (hWS.mono hL0) fo.self (by omega) n3 (bd_up (bd_W q3) (by decide)))) (fun v6 w6 h6 => ?_)
        obtain ⟨rfl, u6⟩ := h6
        replace G := G.tr (Go.ofUp hF u6)
        replace hF := hF.up u6
        replace kS := kS.up u6
        replace kF := kF.up u6
        replace U := U.tr u6
        refine ⟨.inr (SU.tr u6), ?_⟩
        replace SU := SU.tr u6
        refine p_step (by exact rfl) (y_not (et g0 rfl)) ?_
        refine p_step (by exact rfl) (y_assignV (et g0 rfl)) ?_
        refine p_nil ?_
        refine hK4 _ _ ?_
        refine fg4 1 0 7 8 (gS rfl (gS rfl (gS rfl (gS rfl (gS rfl (gS rfl (gS rfl (gS rfl (gS rfl (gS rfl (gS rfl (gS rfl (gS rfl g0))))))))))))) (gS rfl (gS rfl (gS rfl (gS rfl (gS rfl (gS rfl (gS rfl (gS rfl (gS rfl (gS rfl (gS rfl (gS rfl g0)))))))))))) (gS rfl (gS rfl (gS rfl (gS rfl (gS rfl (gS rfl (gS rfl (gS rfl (gS rfl (gS rfl (gS rfl g0))))))))))) g0 (fun g => ?_)
        refine c_seq (fun K7 hK7 => ?_)
        exact (by
          refine c_draw Up 26 [(0, true), (1, true), (2, true), (3, true), (4, true), (5, true), (7, true), (8, true), (9, true), (10, true), (11, true), (12, true), (13, true), (14, true), (16, true), (18, true), (6, false), (15, false), (17, false), (19, false), (20, true), (21, true), (22, true), (23, true), (24, true), (25, true)] (by kernel_rfl) (fun w8 hu => ⟨Up.refl _, ?_⟩)
          replace G := G.tr (Go.ofUp hF hu)
          replace hF := hF.up hu
          replace kS := kS.up hu
          replace kF := kF.up hu
          replace U := U.tr hu
          have SU := Up.refl w8
          refine p_step (by exact rfl) (y_moveV (et (gS rfl (gS rfl g0)) rfl)) ?_
          refine p_step (by exact rfl) (y_moveV (et (gS rfl (gS rfl (gS rfl (gS rfl g0)))) rfl)) ?_
          refine p_step (by exact rfl) (y_nil (et g0 rfl)) ?_
          refine p_step (by exact rfl) (y_fld fld_146_12 (et g0 rfl)) ?_
          refine p_step (by exact rfl) (y_loadR agg_25 sz_25 (et g0 rfl) (by rw [length_bL, length_be]) (atSR (kF.row rSe))) ?_
          refine p_step (by exact rfl) (y_moveV (et (gS rfl (gS rfl (gS rfl (gS rfl (gS rfl (gS rfl g0)))))) rfl)) ?_
          refine p_step (by exact rfl) (y_moveV (et (gS rfl (gS rfl (gS rfl (gS rfl (gS rfl (gS rfl (gS rfl (gS rfl g0)))))))) rfl)) ?_
          refine p_step (by exact rfl) (y_nil (et g0 rfl)) ?_
          refine p_step (by exact rfl) (y_fld fld_102_0 (et g0 rfl)) ?_
          refine p_step (by exact rfl) (y_moveV (et (gS rfl (gS rfl (gS rfl (gS rfl (gS rfl (gS rfl (gS rfl (gS rfl (gS rfl (gS rfl (gS rfl (gS rfl g0)))))))))))) rfl)) ?_
          refine p_step (by exact rfl) (y_nil (et g0 rfl)) ?_
          refine p_step (by exact rfl) (y_fld fld_146_12 (et g0 rfl)) ?_
          refine p_step (by exact rfl) (y_loadR agg_25 sz_25 (et g0 rfl) (by rw [length_bL, length_be]) (atSR (kF.row rSe))) ?_
          refine p_step (by exact rfl) (y_moveV (et (gS rfl (gS rfl (gS rfl (gS rfl (gS rfl (gS rfl (gS rfl (gS rfl (gS rfl (gS rfl (gS rfl (gS rfl (gS rfl (gS rfl g0)))))))))))))) rfl)) ?_
          refine p_step (by exact rfl) (y_moveV (et (gS rfl (gS rfl (gS rfl (gS rfl (gS rfl (gS rfl (gS rfl (gS rfl (gS rfl (gS rfl (gS rfl (gS rfl (gS rfl (gS rfl (gS rfl (gS rfl (gS rfl g0))))))))))))))))) rfl)) ?_
          refine p_step (by exact rfl) (y_moveV (et (gS rfl (gS rfl (gS rfl (gS rfl (gS rfl (gS rfl (gS rfl (gS rfl (gS rfl (gS rfl (gS rfl (gS rfl (gS rfl (gS rfl (gS rfl g0))))))))))))))) rfl)) ?_
          refine p_eff (by exact rfl) (e_callV cal_395 (aC (et (gS rfl (gS rfl (gS rfl (gS rfl (gS rfl (gS rfl (gS rfl (gS rfl (gS rfl (gS rfl (gS rfl (gS rfl (gS rfl (gS rfl (gS rfl g0))))))))))))))) rfl) (aC (et (gS rfl (gS rfl (gS rfl (gS rfl (gS rfl (gS rfl (gS rfl (gS rfl (gS rfl (gS rfl (gS rfl g0))))))))))) rfl) (aC (et (gS rfl (gS rfl (gS rfl (gS rfl (gS rfl (gS rfl (gS rfl (gS rfl (gS rfl (gS rfl g0)))))))))) rfl) aN))) (yp_orig _ _ _ _ _ _ _ _ _ hF kS (rS 8 _ rfl) (hSr.mono hL0) fo.self (by omega) n3 (bd_up (bd_W q3) (by decide)))) (fun v9 w9 h9 => ?_)
          obtain ⟨n9, u9⟩ := h9
          replace G := G.tr (Go.ofUp hF u9)
          replace hF := hF.up u9
          replace kS := kS.up u9
          replace kF := kF.up u9
          replace U := U.tr u9
          have q9 := tri_bd (hSr.mono hL0) n9
          refine ⟨.inr (SU.tr u9), ?_⟩
          replace SU := SU.tr u9
          exact (by
            refine p_eff (by exact rfl) (e_callV cal_232 (aC (et (gS rfl (gS rfl (gS rfl (gS rfl (gS rfl (gS rfl (gS rfl (gS rfl g0)))))))) rfl) (aC (et (gS rfl (gS rfl (gS rfl (gS rfl g0)))) rfl) (aC (et (gS rfl (gS rfl (gS rfl g0))) rfl) aN))) (yp_load _ _ _ _ _ _ _ _ _ hF kS (rS 0 _ rfl) (hAc.mono hL0) fo.self (by omega) n3 (bd_up (bd_W q3) (by decide)))) (fun v10 w10 h10 => ?_)
            obtain ⟨n10, u10⟩ := h10
            replace G := G.tr (Go.ofUp hF u10)
            replace hF := hF.up u10
            replace kS := kS.up u10
            replace kF := kF.up u10
            replace U := U.tr u10
            have q10 := slot_bd (hAc.mono hL0) n10
            refine ⟨.inr (SU.tr u10), ?_⟩
            replace SU := SU.tr u10
            refine p_eff (by exact rfl) (e_callV cal_63 (aC (et (gS rfl (gS rfl (gS rfl g0))) rfl) (aC (v := .int .i64 ((1 : Nat) : Int)) rfl aN)) (yp_arg _ _ 1 _ _ _ _ _ _ hF kF (rF 8 _ rfl) (hSt.mono hL0) (by omega) (by first | decide | omega))) (fun v11 w11 h11 => ?_)
            obtain ⟨u11, n11, q11⟩ := h11
            replace G := G.tr (Go.ofUp hF u11)
            replace hF := hF.up u11
            replace kS := kS.up u11
            replace kF := kF.up u11
            replace U := U.tr u11
            refine ⟨.inr (SU.tr u11), ?_⟩
            replace SU := SU.tr u11
            refine p_eff (by exact rfl) (e_callV cal_394 (aC (et (gS rfl (gS rfl g0)) rfl) (aC (et (gS rfl g0) rfl) (aC (et g0 rfl) (aC (et (gS rfl (gS rfl (gS rfl g0))) rfl) aN)))) (yp_Sstore _ hF n9 n10 n11 (bd_up q9 (by decide)) (bd_up q10 (by decide)) (bd_up (bd_W q11) (by decide)))) (fun v12 w12 h12 => ?_)
            obtain ⟨za12, zb12, zc12, H12, rfl, g12, n12, m12, l12⟩ := h12
            have hlew12 := g12.le
            replace n3 := n3.mono hlew12
            replace n9 := n9.mono hlew12
            replace n10 := n10.mono hlew12
            replace n11 := n11.mono hlew12
            replace hL0 := hL0.trans hlew12
            replace kS := kS.up g12.up
            replace kF := kF.up g12.up
            replace U := U.tr g12.up
            replace G := G.tr g12
            replace hF := g12.fz
            refine ⟨.inr (SU.tr g12.up), ?_⟩
            replace SU := SU.tr g12.up
            exact (by
              refine p_step (by exact rfl) (y_ext (et g0 rfl) rfl) ?_
              refine p_step (by exact rfl) (y_ext (et (gS rfl g0) rfl) rfl) ?_
              refine p_step (by exact rfl) (y_ext (et (gS rfl (gS rfl g0)) rfl) rfl) ?_
              refine p_step (by exact rfl) (y_assignV (et (gS rfl (gS rfl g0)) rfl)) ?_
              refine p_step (by exact rfl) (y_assignV (et (gS rfl (gS rfl g0)) rfl)) ?_
              refine p_step (by exact rfl) (y_assignV (et (gS rfl (gS rfl g0)) rfl)) ?_
              refine p_nil ?_
              refine hK7 _ _ ?_
              refine fg3 4 5 6 (gS rfl (gS rfl g0)) (gS rfl g0) g0 (fun g => ?_)
              refine c_ret ?_
              repeat with_reducible refine then_ret ?_
              refine ret3 rfl (res_tmp (et (gS rfl (gS rfl g0)) rfl)) (res_tmp (et (gS rfl g0) rfl)) (res_tmp (et g0 rfl)) ?_
              exact ⟨_, _, _, _, rfl, G, n12, m12, l12⟩))))))
theorem yp_destroyCost {w : World} {H : Store} (hF : Fz w H) (bs : Nat) (cs : Array Value) (s : YSt) (vf : Value) (kS : Blk w bs cs) (hs : SC H cs s vf) (bf o : Nat) (fs : Array Value) (f : YF) (vm : Value) (kF : Blk w bf fs) (hf : FC H fs o f vm) :
    Ret 335 [.pointer (some ⟨bs, 0, none⟩), .pointer (some ⟨bf, o, none⟩)] w (fun v w' => ∃ H', Go No w H w' H' ∧ NV H' v (dCost s f) ∧ dCost s f < 256 ^ 2) := by
  obtain ⟨aa, ac, wa, wc, sa, sc, vr, la, lc, ta, tc, ma, mc, ga, gc, oa, oc, ra, rc, vlim, vtx, vleft, vpr, vtot, rS, rOr, rMd, hAc, hWA, hWS, hRf, hTm, hMd, hGn, hSr, hRt, hLm, hTx, hLf, hPr, hTt⟩ := hs.ex
  have so := hs.ok
  have so1 := so.accts
  have so2 := so.warmA
  have so3 := so.warmS
  have so4 := so.temps
  have so5 := so.start
  have so6 := so.logs
  have so7 := so.made
  have so8 := so.gone
  have so9 := so.ret
  have eC := hs.env
  obtain ⟨vpc, vgas, vval, voo, vol, ka, kc, ca, cc, ia, ic, svc, rF, rSe, rCa, rSv, hSv, hPc, hGa, hVa, hOo, hOl, hSt, hCo, hIn⟩ := hf.ex
  have fo := hf.ok
  have fo1 := fo.stack
  have fo2 := fo.code
  have fo3 := fo.input
  have fo4 := fo.mem
  have lS := kS.lt
  have lF := kF.lt
  refine enter (n := 44) Hvaa.func335 rfl rfl (Nat.le_of_ble_eq_true rfl) ?_
  have U := Up.refl w
  have G : Go (No) w H w H := Go.refl hF
  have hL0 : Le H H := Le.refl H
  refine c_seq (fun K1 hK1 => ?_)
  exact (by
    refine c_region ?_
    refine l_step y_assignC ?_
    refine l_nil ?_
    refine hK1 _ _ ?_
    refine fg2 1 0 (gS rfl (gS rfl g0)) (gS rfl g0) (fun g => ?_)
    refine c_seq (fun K2 hK2 => ?_)
    exact (by
      refine c_region ?_
      refine l_eff (e_callV cal_32 (aC (v := .int .u64 ((5000 : Nat) : Int)) rfl aN) (yp_num (x := 5000) hF (by decide))) (fun v3 w3 h3 => ?_)
      obtain ⟨H3, g3, n3⟩ := h3
      have hlew3 := g3.le
      replace hL0 := hL0.trans hlew3
      replace kS := kS.up g3.up
      replace kF := kF.up g3.up
      replace U := U.tr g3.up
      replace G := G.tr g3
      replace hF := g3.fz
      have q3 : 5000 < 256 ^ 2 := by decide
      refine l_step (y_assignV (et g0 rfl)) ?_
      refine l_nil ?_
      refine hK2 _ _ ?_
      refine fg3 1 0 5 (gS rfl (gS rfl (gS rfl g0))) (gS rfl (gS rfl g0)) g0 (fun g => ?_)
      refine c_seq (fun K4 hK4 => ?_)
      exact (by
        refine c_region ?_
        refine l_step (y_moveV (et (gS rfl (gS rfl g0)) rfl)) ?_
        refine l_eff (e_callV cal_63 (aC (et g0 rfl) (aC (v := .int .i64 ((0 : Nat) : Int)) rfl aN)) (yp_arg _ _ 0 _ _ _ _ _ _ hF kF (rF 8 _ rfl) (hSt.mono hL0) (by omega) (by first | decide | omega))) (fun v5 w5 h5 => ?_)
        obtain ⟨u5, n5, q5⟩ := h5
        replace G := G.tr (Go.ofUp hF u5)
        replace hF := hF.up u5
        replace kS := kS.up u5
        replace kF := kF.up u5
        replace U := U.tr u5
        refine l_eff (e_callV cal_147 (aC (et g0 rfl) aN) (yp_addrOf hF n5 (bd_up (bd_W q5) (by decide)))) (fun v6 w6 h6 => ?_)
        obtain ⟨rfl, u6⟩ := h6
        replace G := G.tr (Go.ofUp hF u6)
        replace hF := hF.up u6
        replace kS := kS.up u6
        replace kF := kF.up u6
        replace U := U.tr u6
        refine l_eff (e_alloc zr_25) (fun v7 w7 h7 => ?_)
        obtain ⟨b7, rfl, n7⟩ := h7
        have f7 : w.heap.size ≤ b7 := Nat.le_trans U.size n7.fresh
        have nb7 := hF.nb n7.fresh
        replace G := G.tr (Go.ofUp hF n7.up)
        replace hF := hF.up n7.up
        replace kS := kS.up n7.up
        replace kF := kF.up n7.up
        replace U := U.tr n7.up
        have k7 := n7.blk
        refine l_effN (e_store sz_25 (et g0 rfl) (cellsV (et (gS rfl g0) rfl) rfl) (by rw [length_bL, length_be]) (by exact one_bL _) k7 (by exact Nat.le_of_ble_eq_true rfl)) (fun v8 w8 h8 => ?_)
        obtain ⟨rfl, x8⟩ := h8
        replace kS := kS.ch x8.ch (by first | omega | (omega))
        replace kF := kF.ch x8.ch (by first | omega | (omega))
        replace k7 := x8.blk.full (by rw [length_bL, length_be]; rfl)
        replace G := G.wr x8 (by first | exact .inr f7 | omega | (simp; omega)) nb7
        replace hF := G.fz
        replace U := U.st x8 f7
        refine l_nil ?_
        refine hK4 _ _ ?_
        refine fg4 1 0 5 6 (gS rfl (gS rfl (gS rfl (gS rfl (gS rfl (gS rfl g0)))))) (gS rfl (gS rfl (gS rfl (gS rfl (gS rfl g0))))) (gS rfl (gS rfl (gS rfl (gS rfl g0)))) g0 (fun g => ?_)
        refine c_seq (fun K9 hK9 => ?_)
        refine c_seq (fun K10 hK10 => ?_)
        exact (by
          refine c_draw Up 6 [(0, true), (1, true), (2, true), (3, true), (4, false), (5, true)] (by kernel_rfl) (fun w11 hu => ⟨Up.refl _, ?_⟩)
          replace G := G.tr (Go.ofUp hF hu)
          replace hF := hF.up hu
          replace k7 := k7.up hu
          replace kS := kS.up hu
          replace kF := kF.up hu
          replace U := U.tr hu
          have SU := Up.refl w11
          refine p_step (by exact rfl) (y_moveV (et (gS rfl (gS rfl g0)) rfl)) ?_
          refine p_step (by exact rfl) (y_nil (et g0 rfl)) ?_
          refine p_step (by exact rfl) (y_fld fld_102_0 (et g0 rfl)) ?_
          refine p_step (by exact rfl) (y_loadB agg_25 sz_25 (et (gS rfl (gS rfl (gS rfl g0))) rfl) (by rw [List.size_toArray, length_bL, length_be]) (atSB k7)) ?_
          refine p_eff (by exact rfl) (e_callV cal_393 (aC (et (gS rfl g0) rfl) (aC (et g0 rfl) aN)) (yp_isWarm _ _ _ _ _ _ _ _ _ hF kS (rS 1 _ rfl) (hWA.mono hL0) (Nat.mod_lt _ A160_pos) (by omega))) (fun v12 w12 h12 => ?_)
          obtain ⟨rfl, u12⟩ := h12
          replace G := G.tr (Go.ofUp hF u12)
          replace hF := hF.up u12
          replace k7 := k7.up u12
          replace kS := kS.up u12
          replace kF := kF.up u12
          replace U := U.tr u12
          refine ⟨.inr (SU.tr u12), ?_⟩
          replace SU := SU.tr u12
          refine p_step (by exact rfl) (y_not (et g0 rfl)) ?_
          refine p_nil ?_
          refine hK10 _ _ ?_
          refine fg5 1 0 5 6 17 (gS rfl (gS rfl (gS rfl (gS rfl (gS rfl (gS rfl (gS rfl (gS rfl (gS rfl g0))))))))) (gS rfl (gS rfl (gS rfl (gS rfl (gS rfl (gS rfl (gS rfl (gS rfl g0)))))))) (gS rfl (gS rfl (gS rfl (gS rfl (gS rfl (gS rfl (gS rfl g0))))))) (gS rfl (gS rfl (gS rfl (gS rfl (gS rfl (gS rfl g0)))))) g0 (fun g => ?_)
          refine c_cond (et g0 rfl) (fun cB1 => ?_) (fun cB1 => ?_)
          · skip
            simp only [decide_eq_true_eq, decide_eq_false_iff_not, Int.not_lt, Int.not_le, Bool.not_eq_true', Bool.not_eq_false', Bool.not_eq_eq_eq_not, Bool.not_true, Bool.not_false] at cB1
            have hw : ¬ (yT f 0 ∈ s.now.warmA) := by simpa [yT] using cB1
            exact (by
              refine c_region ?_
              refine l_step (y_moveV (et (gS rfl (gS rfl g0)) rfl)) ?_
              refine l_eff (e_callV cal_32 (aC (v := .int .u64 ((2600 : Nat) : Int)) rfl aN) (yp_num (x := 2600) hF (by decide))) (fun v14 w14 h14 => ?_)
              obtain ⟨H14, g14, n14⟩ := h14
              have hlew14 := g14.le
              replace nb7 := g14.nb nb7 k7.lt
              replace n3 := n3.mono hlew14
              replace n5 := n5.mono hlew14
              replace hL0 := hL0.trans hlew14
              replace k7 := k7.up g14.up
              replace kS := kS.up g14.up
              replace kF := kF.up g14.up
              replace U := U.tr g14.up
              replace G := G.tr g14
              replace hF := g14.fz
              have q14 : 2600 < 256 ^ 2 := by decide
              refine l_eff (e_callV cal_34 (aC (et (gS rfl g0) rfl) (aC (et g0 rfl) aN)) (nat_add hF n3 n14 (bd_sm q3 (by decide)) (bd_sm q14 (by decide)))) (fun v15 w15 h15 => ?_)
              obtain ⟨H15, g15, n15⟩ := h15
              have hlew15 := g15.le
              replace nb7 := g15.nb nb7 k7.lt
              replace n3 := n3.mono hlew15
              replace n5 := n5.mono hlew15
              replace n14 := n14.mono hlew15
              replace hL0 := hL0.trans hlew15
              replace k7 := k7.up g15.up
              replace kS := kS.up g15.up
              replace kF := kF.up g15.up
              replace U := U.tr g15.up
              replace G := G.tr g15
              replace hF := g15.fz
              have q15 := bd_add (c := 3) q3 q14 (by decide)
              exact (by
                refine l_step (y_assignV (et g0 rfl)) ?_
                refine l_nil ?_
                refine hK9 _ _ ?_
                refine fg4 1 0 5 6 (gS rfl (gS rfl (gS rfl (gS rfl (gS rfl (gS rfl (gS rfl (gS rfl g0)))))))) (gS rfl (gS rfl (gS rfl (gS rfl (gS rfl (gS rfl (gS rfl g0))))))) g0 (gS rfl (gS rfl (gS rfl (gS rfl (gS rfl g0))))) (fun g => ?_)
                refine c_seq (fun K16 hK16 => ?_)
                exact (by
                  refine fgv4 0 1 5 6 (gS rfl (gS rfl g0)) (gS rfl (gS rfl (gS rfl g0))) (gS rfl g0) g0 (fun g z0 z1 z5 z6 e0 e1 e5 e6 => ?_)
                  refine c_drawJ (fun s_ w_ => ∃ (g : Nat → Value) (b19 : Nat) (ca17 : List Value), s_ = (upd (upd (upd (upd g 0 z0) 1 z1) 5 z5) 7 (.pointer (some ⟨b19, 0, none⟩))) ∧ Ch (fun _ => False) w15 w_ ∧ w15.heap.size ≤ b19 ∧ Blk w_ b19 (ca17.toArray) ∧ (PA H15 ca17 (acctAt s.now.accts (yT f 0)))) Up 6 (.pure 0 (.pure 1 (.pure 2 (.pure 3 (.two 4 (.eff 5 (.eff 6 .fin)) 5 (.eff 4 (.eff 6 .fin))))))) (by kernel_rfl) (fun w20 hu => ⟨Up.refl _, ?_⟩) ?_
                  · skip
                    subst e0 e1 e5 e6
                    replace G := G.tr (Go.ofUp hF hu)
                    replace hF := hF.up hu
                    replace k7 := k7.up hu
                    replace kS := kS.up hu
                    replace kF := kF.up hu
                    replace U := U.tr hu
                    have SU := Up.refl w20
                    have V18 : Ch (fun _ => False) w15 w20 := hu
                    refine t_step (by exact rfl) (y_moveV (et (gS rfl (gS rfl (gS rfl g0))) rfl)) ?_
                    refine t_step (by exact rfl) (y_nil (et g0 rfl)) ?_
                    refine t_step (by exact rfl) (y_fld fld_102_0 (et g0 rfl)) ?_
                    refine t_step (by exact rfl) (y_loadB agg_25 sz_25 (et (gS rfl (gS rfl (gS rfl g0))) rfl) (by rw [List.size_toArray, length_bL, length_be]) (atSB k7)) ?_
                    refine t_two ?_ ?_
                    · skip
                      refine t_eff (by exact rfl) (e_callV cal_43 (aC (et (gS rfl g0) rfl) (aC (et g0 rfl) aN)) (yp_account _ _ _ _ _ _ _ _ _ hF kS (rS 0 _ rfl) (hAc.mono hL0) (Nat.mod_lt _ A160_pos) (by omega))) (fun v21 w21 h21 => ?_)
                      obtain ⟨c21, rfl, p21, u21⟩ := h21
                      replace G := G.tr (Go.ofUp hF u21)
                      replace hF := hF.up u21
                      replace k7 := k7.up u21
                      replace kS := kS.up u21
                      replace kF := kF.up u21
                      replace U := U.tr u21
                      replace V18 := V18.tr u21
                      replace p21 : PA _ _ _ := ⟨p21⟩
                      refine ⟨.inr (SU.tr u21), ?_⟩
                      replace SU := SU.tr u21
                      refine t_one ?_
                      refine t_eff (by exact rfl) (e_alloc zr_107) (fun v22 w22 h22 => ?_)
                      obtain ⟨b22, rfl, n22⟩ := h22
                      have d7_22 : b7 < b22 := Nat.lt_of_lt_of_le k7.lt n22.fresh
                      have f22 : w.heap.size ≤ b22 := Nat.le_trans U.size n22.fresh
                      have nb22 := hF.nb n22.fresh
                      have fS22 := Nat.le_trans SU.size n22.fresh
                      have fV18_22 := Nat.le_trans V18.size n22.fresh
                      replace G := G.tr (Go.ofUp hF n22.up)
                      replace hF := hF.up n22.up
                      replace k7 := k7.up n22.up
                      replace kS := kS.up n22.up
                      replace kF := kF.up n22.up
                      replace U := U.tr n22.up
                      replace V18 := V18.tr n22.up
                      have k22 := n22.blk
                      refine ⟨.inr (SU.tr n22.up), ?_⟩
                      replace SU := SU.tr n22.up
                      refine t_one ?_
                      refine t_effN (by exact rfl) (e_store sz_107 (et g0 rfl) (cellsV (et (gS rfl g0) rfl) rfl) (acct_len p21.p) (by exact acct_one p21.p) k22 (by exact Nat.le_of_ble_eq_true rfl)) (fun v23 w23 h23 => ?_)
                      obtain ⟨rfl, x23⟩ := h23
                      replace k7 := k7.ch x23.ch (by omega)
                      replace kS := kS.ch x23.ch (by first | omega | (omega))
                      replace kF := kF.ch x23.ch (by first | omega | (omega))
                      replace k22 := x23.blk.full (by rw [acct_len p21.p]; rfl)
                      replace G := G.wr x23 (by first | exact .inr f22 | omega | (simp; omega)) nb22
                      replace hF := G.fz
                      replace U := U.st x23 f22
                      replace V18 := V18.st x23 (by omega)
                      refine ⟨.inl rfl, ?_⟩
                      refine tl4 0 1 5 7 (gS rfl (gS rfl (gS rfl (gS rfl (gS rfl (gS rfl (gS rfl (gS rfl (gS rfl g0))))))))) (gS rfl (gS rfl (gS rfl (gS rfl (gS rfl (gS rfl (gS rfl (gS rfl g0)))))))) (gS rfl (gS rfl (gS rfl (gS rfl (gS rfl (gS rfl (gS rfl g0))))))) g0 (fun g => ?_)
                      exact ⟨g, _, _, rfl, V18, Nat.le_trans hu.size fS22, k22, p21⟩
                    · skip
                      refine t_eff (by exact rfl) (e_alloc zr_107) (fun v24 w24 h24 => ?_)
                      obtain ⟨b24, rfl, n24⟩ := h24
                      have d7_24 : b7 < b24 := Nat.lt_of_lt_of_le k7.lt n24.fresh
                      have f24 : w.heap.size ≤ b24 := Nat.le_trans U.size n24.fresh
                      have nb24 := hF.nb n24.fresh
                      have fS24 := Nat.le_trans SU.size n24.fresh
                      have fV18_24 := Nat.le_trans V18.size n24.fresh
                      replace G := G.tr (Go.ofUp hF n24.up)
                      replace hF := hF.up n24.up
                      replace k7 := k7.up n24.up
                      replace kS := kS.up n24.up
                      replace kF := kF.up n24.up
                      replace U := U.tr n24.up
                      replace V18 := V18.tr n24.up
                      have k24 := n24.blk
                      refine ⟨.inr (SU.tr n24.up), ?_⟩
                      replace SU := SU.tr n24.up
                      refine t_one ?_
                      refine t_eff (by exact rfl) (e_callV cal_43 (aC (et (gS rfl (gS rfl g0)) rfl) (aC (et (gS rfl g0) rfl) aN)) (yp_account _ _ _ _ _ _ _ _ _ hF kS (rS 0 _ rfl) (hAc.mono hL0) (Nat.mod_lt _ A160_pos) (by omega))) (fun v25 w25 h25 => ?_)
                      obtain ⟨c25, rfl, p25, u25⟩ := h25
                      replace G := G.tr (Go.ofUp hF u25)
                      replace hF := hF.up u25
                      replace k7 := k7.up u25
                      replace k24 := k24.up u25
                      replace kS := kS.up u25
                      replace kF := kF.up u25
                      replace U := U.tr u25
                      replace V18 := V18.tr u25
                      replace p25 : PA _ _ _ := ⟨p25⟩
                      refine ⟨.inr (SU.tr u25), ?_⟩
                      replace SU := SU.tr u25
                      refine t_one ?_
                      refine t_effN (by exact rfl) (e_store sz_107 (et (gS rfl g0) rfl) (cellsV (et g0 rfl) rfl) (acct_len p25.p) (by exact acct_one p25.p) k24 (by exact Nat.le_of_ble_eq_true rfl)) (fun v26 w26 h26 => ?_)
                      obtain ⟨rfl, x26⟩ := h26
                      replace k7 := k7.ch x26.ch (by omega)
                      replace kS := kS.ch x26.ch (by first | omega | (omega))
                      replace kF := kF.ch x26.ch (by first | omega | (omega))
                      replace k24 := x26.blk.full (by rw [acct_len p25.p]; rfl)
                      replace G := G.wr x26 (by first | exact .inr f24 | omega | (simp; omega)) nb24
                      replace hF := G.fz
                      replace U := U.st x26 f24
                      replace V18 := V18.st x26 (by omega)
                      refine ⟨.inl rfl, ?_⟩
                      refine tl4 0 1 5 7 (gS rfl (gS rfl (gS rfl (gS rfl (gS rfl (gS rfl (gS rfl (gS rfl (gS rfl g0))))))))) (gS rfl (gS rfl (gS rfl (gS rfl (gS rfl (gS rfl (gS rfl (gS rfl g0)))))))) (gS rfl (gS rfl (gS rfl (gS rfl (gS rfl (gS rfl (gS rfl g0))))))) (gS rfl g0) (fun g => ?_)
                      exact ⟨g, _, _, rfl, V18, Nat.le_trans hu.size fS24, k24, p25⟩
                  intro s_ w27 hJ
                  obtain ⟨g, b19, ca17, rfl, V18, fn19, kn19, pa17⟩ := hJ
                  subst e0 e1 e5 e6
                  have d7_19 : b7 < b19 := Nat.lt_of_lt_of_le k7.lt fn19
                  have f19 : w.heap.size ≤ b19 := Nat.le_trans U.size fn19
                  have nb19 := hF.nb fn19
                  replace G := G.tr (Go.ofUp hF V18)
                  replace hF := hF.up V18
                  replace k7 := k7.up V18
                  replace kS := kS.up V18
                  replace kF := kF.up V18
                  replace U := U.tr V18
                  have k19 := kn19
                  refine hK16 _ _ ?_
                  refine c_seq (fun K28 hK28 => ?_)
                  refine c_seq (fun K29 hK29 => ?_)
                  exact (by
                    refine c_draw Up 14 [(0, false), (1, true), (2, true), (3, true), (4, true), (5, true), (6, true), (7, true), (8, true), (9, false), (10, true), (11, false), (12, true), (13, true)] (by kernel_rfl) (fun w30 hu => ⟨Up.refl _, ?_⟩)
                    replace G := G.tr (Go.ofUp hF hu)
                    replace hF := hF.up hu
                    replace k7 := k7.up hu
                    replace k19 := k19.up hu
                    replace kS := kS.up hu
                    replace kF := kF.up hu
                    replace U := U.tr hu
                    have SU := Up.refl w30
                    have kS_s := kS
                    have kF_s := kF
                    have k7_s := k7
                    have k19_s := k19
                    refine p_eff (by exact rfl) (e_callV cal_23 (aC (et g0 rfl) aN) (yp_empty _ _ _ _ _ hF k19 pa17.p)) (fun v31 w31 h31 => ?_)
                    obtain ⟨rfl, u31⟩ := h31
                    replace G := G.tr (Go.ofUp hF u31)
                    replace hF := hF.up u31
                    replace k7 := k7.up u31
                    replace k19 := k19.up u31
                    replace kS := kS.up u31
                    replace kF := kF.up u31
                    replace U := U.tr u31
                    refine ⟨.inr (SU.tr u31), ?_⟩
                    replace SU := SU.tr u31
                    refine p_step (by exact rfl) (y_moveV (et g0 rfl)) ?_
                    refine gsplitP (i := 27) g0 (fun q32 => ?_) (fun q32 => ?_)
                    · skip
                      refine p_gstep (j := 1) (t := 27) (by exact rfl) (by exact rfl) (by exact rfl) (et g0 rfl) rfl (y_moveV (et (gS rfl (gS rfl (gS rfl (gS rfl (gS rfl (gS rfl g0)))))) rfl)) ?_
                      refine p_gstep (j := 1) (t := 27) (by exact rfl) (by exact rfl) (by exact rfl) (et (gS rfl g0) rfl) rfl (y_nil (et g0 rfl)) ?_
                      refine p_gstep (j := 1) (t := 27) (by exact rfl) (by exact rfl) (by exact rfl) (et (gS rfl (gS rfl g0)) rfl) rfl (y_fld fld_102_0 (et g0 rfl)) ?_
                      refine p_gstep (j := 1) (t := 27) (by exact rfl) (by exact rfl) (by exact rfl) (et (gS rfl (gS rfl (gS rfl g0))) rfl) rfl (y_moveV (et (gS rfl (gS rfl (gS rfl (gS rfl (gS rfl (gS rfl (gS rfl (gS rfl g0)))))))) rfl)) ?_
                      refine p_gstep (j := 1) (t := 27) (by exact rfl) (by exact rfl) (by exact rfl) (et (gS rfl (gS rfl (gS rfl (gS rfl g0)))) rfl) rfl (y_nil (et g0 rfl)) ?_
                      refine p_gstep (j := 1) (t := 27) (by exact rfl) (by exact rfl) (by exact rfl) (et (gS rfl (gS rfl (gS rfl (gS rfl (gS rfl g0))))) rfl) rfl (y_fld fld_146_12 (et g0 rfl)) ?_
                      refine p_gstep (j := 1) (t := 27) (by exact rfl) (by exact rfl) (by exact rfl) (et (gS rfl (gS rfl (gS rfl (gS rfl (gS rfl (gS rfl g0)))))) rfl) rfl (y_loadR agg_25 sz_25 (et g0 rfl) (by rw [length_bL, length_be]) (atSR (kF_s.row rSe))) ?_
                      refine p_geff (j := 1) (t := 27) (by exact rfl) (by exact rfl) (by exact rfl) (et (gS rfl (gS rfl (gS rfl (gS rfl (gS rfl (gS rfl (gS rfl g0))))))) rfl) rfl (e_callV cal_43 (aC (et (gS rfl (gS rfl (gS rfl (gS rfl g0)))) rfl) (aC (et g0 rfl) aN)) (yp_account _ _ _ _ _ _ _ _ _ hF kS (rS 0 _ rfl) (hAc.mono hL0) fo.self (by omega))) (fun v33 w33 h33 => ?_)
                      obtain ⟨c33, rfl, p33, u33⟩ := h33
                      replace G := G.tr (Go.ofUp hF u33)
                      replace hF := hF.up u33
                      replace k7 := k7.up u33
                      replace k19 := k19.up u33
                      replace kS := kS.up u33
                      replace kF := kF.up u33
                      replace U := U.tr u33
                      replace p33 : PA _ _ _ := ⟨p33⟩
                      refine ⟨.inr (SU.tr u33), ?_⟩
                      replace SU := SU.tr u33
                      obtain ⟨vn34, vb34, vc34, vs34, hc34, hn34, hbb34, hcd34, hb134, hb234⟩ := acct_form p33.p
                      rw [hc34]
                      refine p_gstep (j := 1) (t := 27) (by exact rfl) (by exact rfl) (by exact rfl) (et (gS rfl (gS rfl (gS rfl (gS rfl (gS rfl (gS rfl (gS rfl (gS rfl g0)))))))) rfl) rfl (y_fldV (f := 2) Hvaa.underlying107 rfl rfl rfl one_95 (et g0 rfl) ((app20 (i := 1) rfl).trans rfl)) ?_
                      refine p_geff (j := 1) (t := 27) (by exact rfl) (by exact rfl) (by exact rfl) (et (gS rfl (gS rfl (gS rfl (gS rfl (gS rfl (gS rfl (gS rfl (gS rfl (gS rfl g0))))))))) rfl) rfl (e_callV cal_79 (aC (et g0 rfl) aN) (yp_isZero hF hbb34 (bd_sm (bd_W hb234) (by decide)))) (fun v35 w35 h35 => ?_)
                      obtain ⟨rfl, u35⟩ := h35
                      replace G := G.tr (Go.ofUp hF u35)
                      replace hF := hF.up u35
                      replace k7 := k7.up u35
                      replace k19 := k19.up u35
                      replace kS := kS.up u35
                      replace kF := kF.up u35
                      replace U := U.tr u35
                      refine ⟨.inr (SU.tr u35), ?_⟩
                      replace SU := SU.tr u35
                      exact (by
                        refine p_gstep (j := 1) (t := 27) (by exact rfl) (by exact rfl) (by exact rfl) (et (gS rfl (gS rfl (gS rfl (gS rfl (gS rfl (gS rfl (gS rfl (gS rfl (gS rfl (gS rfl g0)))))))))) rfl) rfl (y_not (et g0 rfl)) ?_
                        refine p_step (by exact rfl) (y_pickT (et (gS rfl (gS rfl (gS rfl (gS rfl (gS rfl (gS rfl (gS rfl (gS rfl (gS rfl (gS rfl (gS rfl g0))))))))))) rfl) (et g0 rfl)) ?_
                        refine p_nil ?_
                        refine hK29 _ _ ?_
                        refine fg2 5 39 (gS rfl (gS rfl (gS rfl (gS rfl (gS rfl (gS rfl (gS rfl (gS rfl (gS rfl (gS rfl (gS rfl (gS rfl (gS rfl (gS rfl (gS rfl (gS rfl g0)))))))))))))))) g0 (fun g => ?_)
                        refine c_cond (et g0 rfl) (fun cB2 => ?_) (fun cB2 => ?_)
                        · skip
                          simp only [decide_eq_true_eq, decide_eq_false_iff_not, Int.not_lt, Int.not_le, Bool.not_eq_true', Bool.not_eq_false', Bool.not_eq_eq_eq_not, Bool.not_true, Bool.not_false] at cB2
                          exact (by
                            refine c_region ?_
                            refine l_step (y_moveV (et (gS rfl g0) rfl)) ?_
                            refine l_eff (e_callV cal_32 (aC (v := .int .u64 ((25000 : Nat) : Int)) rfl aN) (yp_num (x := 25000) hF (by decide))) (fun v37 w37 h37 => ?_)
                            obtain ⟨H37, g37, n37⟩ := h37
                            have hlew37 := g37.le
                            replace nb7 := g37.nb nb7 k7.lt
                            replace nb19 := g37.nb nb19 k19.lt
                            replace n3 := n3.mono hlew37
                            replace n5 := n5.mono hlew37
                            replace n14 := n14.mono hlew37
                            replace n15 := n15.mono hlew37
                            replace pa17 := pa17.mono hlew37
                            replace p33 := p33.mono hlew37
                            replace hn34 := hn34.mono hlew37
                            replace hbb34 := hbb34.mono hlew37
                            replace hcd34 := hcd34.mono hlew37
                            replace hL0 := hL0.trans hlew37
                            replace k7 := k7.up g37.up
                            replace k19 := k19.up g37.up
                            replace kS := kS.up g37.up
                            replace kF := kF.up g37.up
                            replace U := U.tr g37.up
                            replace G := G.tr g37
                            replace hF := g37.fz
                            have q37 : 25000 < 256 ^ 2 := by decide
                            refine l_eff (e_callV cal_34 (aC (et (gS rfl g0) rfl) (aC (et g0 rfl) aN)) (nat_add hF n15 n37 (bd_sm q15 (by decide)) (bd_sm q37 (by decide)))) (fun v38 w38 h38 => ?_)
                            obtain ⟨H38, g38, n38⟩ := h38
                            have hlew38 := g38.le
                            replace nb7 := g38.nb nb7 k7.lt
                            replace nb19 := g38.nb nb19 k19.lt
                            replace n3 := n3.mono hlew38
                            replace n5 := n5.mono hlew38
                            replace n14 := n14.mono hlew38
                            replace n15 := n15.mono hlew38
                            replace pa17 := pa17.mono hlew38
                            replace p33 := p33.mono hlew38
                            replace hn34 := hn34.mono hlew38
                            replace hbb34 := hbb34.mono hlew38
                            replace hcd34 := hcd34.mono hlew38
                            replace n37 := n37.mono hlew38
                            replace hL0 := hL0.trans hlew38
                            replace k7 := k7.up g38.up
                            replace k19 := k19.up g38.up
                            replace kS := kS.up g38.up
                            replace kF := kF.up g38.up
                            replace U := U.tr g38.up
                            replace G := G.tr g38
                            replace hF := g38.fz
                            have q38 := bd_add (c := 4) q15 q37 (by decide)
                            exact (by
                              refine l_step (y_assignV (et g0 rfl)) ?_
                              refine l_nil ?_
                              refine hK28 _ _ ?_
                              refine fg1 5 g0 (fun g => ?_)
                              refine c_seq (fun K39 hK39 => ?_)
                              exact (by
                                refine c_region ?_
                                refine l_step (y_moveV (et g0 rfl)) ?_
                                refine l_step (y_assignV (et g0 rfl)) ?_
                                refine l_nil ?_
                                refine hK39 _ _ ?_
                                refine fg1 4 g0 (fun g => ?_)
                                refine c_ret ?_
                                repeat with_reducible refine then_ret ?_
                                refine ret1 rfl (res_tmp (et g0 rfl)) ?_
                                refine ⟨_, G, n38.to ?_, ?_⟩
                                · unfold dCost
                                  simp_all
                                · refine Nat.lt_of_le_of_lt (m := 32600) ?_ (by decide)
                                  unfold dCost
                                  repeat' split
                                  all_goals omega)))
                        · skip
                          simp only [decide_eq_true_eq, decide_eq_false_iff_not, Int.not_lt, Int.not_le, Bool.not_eq_true', Bool.not_eq_false', Bool.not_eq_eq_eq_not, Bool.not_true, Bool.not_false] at cB2
                          refine c_skip ?_
                          refine hK28 _ _ ?_
                          refine fg1 5 (gS rfl g0) (fun g => ?_)
                          refine c_seq (fun K40 hK40 => ?_)
                          exact (by
                            refine c_region ?_
                            refine l_step (y_moveV (et g0 rfl)) ?_
                            refine l_step (y_assignV (et g0 rfl)) ?_
                            refine l_nil ?_
                            refine hK40 _ _ ?_
                            refine fg1 4 g0 (fun g => ?_)
                            refine c_ret ?_
                            repeat with_reducible refine then_ret ?_
                            refine ret1 rfl (res_tmp (et g0 rfl)) ?_
                            refine ⟨_, G, n15.to ?_, ?_⟩
                            · unfold dCost
                              simp_all
                            · refine Nat.lt_of_le_of_lt (m := 32600) ?_ (by decide)
                              unfold dCost
                              repeat' split
                              all_goals omega))
                    · skip
                      refine p_gskip (j := 1) (t := 27) (by exact rfl) (by exact rfl) (by exact rfl) (et g0 rfl) rfl rfl ?_
                      refine p_gskip (j := 1) (t := 27) (by exact rfl) (by exact rfl) (by exact rfl) (et (gS rfl g0) rfl) rfl rfl ?_
                      refine p_gskip (j := 1) (t := 27) (by exact rfl) (by exact rfl) (by exact rfl) (et (gS rfl (gS rfl g0)) rfl) rfl rfl ?_
                      refine p_gskip (j := 1) (t := 27) (by exact rfl) (by exact rfl) (by exact rfl) (et (gS rfl (gS rfl (gS rfl g0))) rfl) rfl rfl ?_
                      refine p_gskip (j := 1) (t := 27) (by exact rfl) (by exact rfl) (by exact rfl) (et (gS rfl (gS rfl (gS rfl (gS rfl g0)))) rfl) rfl rfl ?_
                      refine p_gskip (j := 1) (t := 27) (by exact rfl) (by exact rfl) (by exact rfl) (et (gS rfl (gS rfl (gS rfl (gS rfl (gS rfl g0))))) rfl) rfl rfl ?_
                      refine p_gskip (j := 1) (t := 27) (by exact rfl) (by exact rfl) (by exact rfl) (et (gS rfl (gS rfl (gS rfl (gS rfl (gS rfl (gS rfl g0)))))) rfl) rfl rfl ?_
                      refine p_geskip (j := 1) (t := 27) (by exact rfl) (by exact rfl) (by exact rfl) (et (gS rfl (gS rfl (gS rfl (gS rfl (gS rfl (gS rfl (gS rfl g0))))))) rfl) rfl rfl ⟨.inr SU, ?_⟩
                      refine p_gskip (j := 1) (t := 27) (by exact rfl) (by exact rfl) (by exact rfl) (et (gS rfl (gS rfl (gS rfl (gS rfl (gS rfl (gS rfl (gS rfl (gS rfl g0)))))))) rfl) rfl rfl ?_
                      refine p_geskip (j := 1) (t := 27) (by exact rfl) (by exact rfl) (by exact rfl) (et (gS rfl (gS rfl (gS rfl (gS rfl (gS rfl (gS rfl (gS rfl (gS rfl (gS rfl g0))))))))) rfl) rfl rfl ⟨.inr SU, ?_⟩
                      refine p_gskip (j := 1) (t := 27) (by exact rfl) (by exact rfl) (by exact rfl) (et (gS rfl (gS rfl (gS rfl (gS rfl (gS rfl (gS rfl (gS rfl (gS rfl (gS rfl (gS rfl g0)))))))))) rfl) rfl rfl ?_
                      refine p_step (by exact rfl) (y_pickF (et (gS rfl (gS rfl (gS rfl (gS rfl (gS rfl (gS rfl (gS rfl (gS rfl (gS rfl (gS rfl (gS rfl g0))))))))))) rfl) rfl) ?_
                      refine p_nil ?_
                      refine hK29 _ _ ?_
                      refine fg2 5 39 (gS rfl (gS rfl (gS rfl (gS rfl (gS rfl (gS rfl (gS rfl (gS rfl (gS rfl (gS rfl (gS rfl (gS rfl (gS rfl (gS rfl (gS rfl (gS rfl g0)))))))))))))))) g0 (fun g => ?_)
                      refine c_false (et g0 rfl) rfl ?_
                      refine c_skip ?_
                      refine hK28 _ _ ?_
                      refine fg1 5 (gS rfl g0) (fun g => ?_)
                      refine c_seq (fun K42 hK42 => ?_)
                      exact (by
                        refine c_region ?_
                        refine l_step (y_moveV (et g0 rfl)) ?_
                        refine l_step (y_assignV (et g0 rfl)) ?_
                        refine l_nil ?_
                        refine hK42 _ _ ?_
                        refine fg1 4 g0 (fun g => ?_)
                        refine c_ret ?_
                        repeat with_reducible refine then_ret ?_
                        refine ret1 rfl (res_tmp (et g0 rfl)) ?_
                        refine ⟨_, G, n15.to ?_, ?_⟩
                        · unfold dCost
                          simp_all
                        · refine Nat.lt_of_le_of_lt (m := 32600) ?_ (by decide)
                          unfold dCost
                          repeat' split
                          all_goals omega)))))
          · skip
            simp only [decide_eq_true_eq, decide_eq_false_iff_not, Int.not_lt, Int.not_le, Bool.not_eq_true', Bool.not_eq_false', Bool.not_eq_eq_eq_not, Bool.not_true, Bool.not_false] at cB1
            have hw : yT f 0 ∈ s.now.warmA := by simpa [yT] using cB1
            refine c_skip ?_
            refine hK9 _ _ ?_
            refine fg4 1 0 5 6 (gS rfl (gS rfl (gS rfl (gS rfl g0)))) (gS rfl (gS rfl (gS rfl g0))) (gS rfl (gS rfl g0)) (gS rfl g0) (fun g => ?_)
            refine c_seq (fun K43 hK43 => ?_)
            exact (by
              refine fgv4 0 1 5 6 (gS rfl (gS rfl g0)) (gS rfl (gS rfl (gS rfl g0))) (gS rfl g0) g0 (fun g z0 z1 z5 z6 e0 e1 e5 e6 => ?_)
              refine c_drawJ (fun s_ w_ => ∃ (g : Nat → Value) (b46 : Nat) (ca44 : List Value), s_ = (upd (upd (upd (upd g 0 z0) 1 z1) 5 z5) 7 (.pointer (some ⟨b46, 0, none⟩))) ∧ Ch (fun _ => False) w12 w_ ∧ w12.heap.size ≤ b46 ∧ Blk w_ b46 (ca44.toArray) ∧ (PA H3 ca44 (acctAt s.now.accts (yT f 0)))) Up 6 (.pure 0 (.pure 1 (.pure 2 (.pure 3 (.two 4 (.eff 5 (.eff 6 .fin)) 5 (.eff 4 (.eff 6 .fin))))))) (by kernel_rfl) (fun w47 hu => ⟨Up.refl _, ?_⟩) ?_
              · skip
                subst e0 e1 e5 e6
                replace G := G.tr (Go.ofUp hF hu)
                replace hF := hF.up hu
                replace k7 := k7.up hu
                replace kS := kS.up hu
                replace kF := kF.up hu
                replace U := U.tr hu
                have SU := Up.refl w47
                have V45 : Ch (fun _ => False) w12 w47 := hu
                refine t_step (by exact rfl) (y_moveV (et (gS rfl (gS rfl (gS rfl g0))) rfl)) ?_
                refine t_step (by exact rfl) (y_nil (et g0 rfl)) ?_
                refine t_step (by exact rfl) (y_fld fld_102_0 (et g0 rfl)) ?_
                refine t_step (by exact rfl) (y_loadB agg_25 sz_25 (et (gS rfl (gS rfl (gS rfl g0))) rfl) (by rw [List.size_toArray, length_bL, length_be]) (atSB k7)) ?_
                refine t_two ?_ ?_
                · skip
                  refine t_eff (by exact rfl) (e_callV cal_43 (aC (et (gS rfl g0) rfl) (aC (et g0 rfl) aN)) (yp_account _ _ _ _ _ _ _ _ _ hF kS (rS 0 _ rfl) (hAc.mono hL0) (Nat.mod_lt _ A160_pos) (by omega))) (fun v48 w48 h48 => ?_)
                  obtain ⟨c48, rfl, p48, u48⟩ := h48
                  replace G := G.tr (Go.ofUp hF u48)
                  replace hF := hF.up u48
                  replace k7 := k7.up u48
                  replace kS := kS.up u48
                  replace kF := kF.up u48
                  replace U := U.tr u48
                  replace V45 := V45.tr u48
                  replace p48 : PA _ _ _ := ⟨p48⟩
                  refine ⟨.inr (SU.tr u48), ?_⟩
                  replace SU := SU.tr u48
                  refine t_one ?_
                  refine t_eff (by exact rfl) (e_alloc zr_107) (fun v49 w49 h49 => ?_)
                  obtain ⟨b49, rfl, n49⟩ := h49
                  have d7_49 : b7 < b49 := Nat.lt_of_lt_of_le k7.lt n49.fresh
                  have f49 : w.heap.size ≤ b49 := Nat.le_trans U.size n49.fresh
                  have nb49 := hF.nb n49.fresh
                  have fS49 := Nat.le_trans SU.size n49.fresh
                  have fV45_49 := Nat.le_trans V45.size n49.fresh
                  replace G := G.tr (Go.ofUp hF n49.up)
                  replace hF := hF.up n49.up
                  replace k7 := k7.up n49.up
                  replace kS := kS.up n49.up
                  replace kF := kF.up n49.up
                  replace U := U.tr n49.up
                  replace V45 := V45.tr n49.up
                  have k49 := n49.blk
                  refine ⟨.inr (SU.tr n49.up), ?_⟩
                  replace SU := SU.tr n49.up
                  refine t_one ?_
                  refine t_effN (by exact rfl) (e_store sz_107 (et g0 rfl) (cellsV (et (gS rfl g0) rfl) rfl) (acct_len p48.p) (by exact acct_one p48.p) k49 (by exact Nat.le_of_ble_eq_true rfl)) (fun v50 w50 h50 => ?_)
                  obtain ⟨rfl, x50⟩ := h50
                  replace k7 := k7.ch x50.ch (by omega)
                  replace kS := kS.ch x50.ch (by first | omega | (omega))
                  replace kF := kF.ch x50.ch (by first | omega | (omega))
                  replace k49 := x50.blk.full (by rw [acct_len p48.p]; rfl)
                  replace G := G.wr x50 (by first | exact .inr f49 | omega | (simp; omega)) nb49
                  replace hF := G.fz
                  replace U := U.st x50 f49
                  replace V45 := V45.st x50 (by omega)
                  refine ⟨.inl rfl, ?_⟩
                  refine tl4 0 1 5 7 (gS rfl (gS rfl (gS rfl (gS rfl (gS rfl (gS rfl (gS rfl (gS rfl (gS rfl g0))))))))) (gS rfl (gS rfl (gS rfl (gS rfl (gS rfl (gS rfl (gS rfl (gS rfl g0)))))))) (gS rfl (gS rfl (gS rfl (gS rfl (gS rfl (gS rfl (gS rfl g0))))))) g0 (fun g => ?_)
                  exact ⟨g, _, _, rfl, V45, Nat.le_trans hu.size fS49, k49, p48⟩
                · skip
                  refine t_eff (by exact rfl) (e_alloc zr_107) (fun v51 w51 h51 => ?_)
                  obtain ⟨b51, rfl, n51⟩ := h51
                  have d7_51 : b7 < b51 := Nat.lt_of_lt_of_le k7.lt n51.fresh
                  have f51 : w.heap.size ≤ b51 := Nat.le_trans U.size n51.fresh
                  have nb51 := hF.nb n51.fresh
                  have fS51 := Nat.le_trans SU.size n51.fresh
                  have fV45_51 := Nat.le_trans V45.size n51.fresh
                  replace G := G.tr (Go.ofUp hF n51.up)
                  replace hF := hF.up n51.up
                  replace k7 := k7.up n51.up
                  replace kS := kS.up n51.up
                  replace kF := kF.up n51.up
                  replace U := U.tr n51.up
                  replace V45 := V45.tr n51.up
                  have k51 := n51.blk
                  refine ⟨.inr (SU.tr n51.up), ?_⟩
                  replace SU := SU.tr n51.up
                  refine t_one ?_
                  refine t_eff (by exact rfl) (e_callV cal_43 (aC (et (gS rfl (gS rfl g0)) rfl) (aC (et (gS rfl g0) rfl) aN)) (yp_account _ _ _ _ _ _ _ _ _ hF kS (rS 0 _ rfl) (hAc.mono hL0) (Nat.mod_lt _ A160_pos) (by omega))) (fun v52 w52 h52 => ?_)
                  obtain ⟨c52, rfl, p52, u52⟩ := h52
                  replace G := G.tr (Go.ofUp hF u52)
                  replace hF := hF.up u52
                  replace k7 := k7.up u52
                  replace k51 := k51.up u52
                  replace kS := kS.up u52
                  replace kF := kF.up u52
                  replace U := U.tr u52
                  replace V45 := V45.tr u52
                  replace p52 : PA _ _ _ := ⟨p52⟩
                  refine ⟨.inr (SU.tr u52), ?_⟩
                  replace SU := SU.tr u52
                  refine t_one ?_
                  refine t_effN (by exact rfl) (e_store sz_107 (et (gS rfl g0) rfl) (cellsV (et g0 rfl) rfl) (acct_len p52.p) (by exact acct_one p52.p) k51 (by exact Nat.le_of_ble_eq_true rfl)) (fun v53 w53 h53 => ?_)
                  obtain ⟨rfl, x53⟩ := h53
                  replace k7 := k7.ch x53.ch (by omega)
                  replace kS := kS.ch x53.ch (by first | omega | (omega))
                  replace kF := kF.ch x53.ch (by first | omega | (omega))
                  replace k51 := x53.blk.full (by rw [acct_len p52.p]; rfl)
                  replace G := G.wr x53 (by first | exact .inr f51 | omega | (simp; omega)) nb51
                  replace hF := G.fz
                  replace U := U.st x53 f51
                  replace V45 := V45.st x53 (by omega)
                  refine ⟨.inl rfl, ?_⟩
                  refine tl4 0 1 5 7 (gS rfl (gS rfl (gS rfl (gS rfl (gS rfl (gS rfl (gS rfl (gS rfl (gS rfl g0))))))))) (gS rfl (gS rfl (gS rfl (gS rfl (gS rfl (gS rfl (gS rfl (gS rfl g0)))))))) (gS rfl (gS rfl (gS rfl (gS rfl (gS rfl (gS rfl (gS rfl g0))))))) (gS rfl g0) (fun g => ?_)
                  exact ⟨g, _, _, rfl, V45, Nat.le_trans hu.size fS51, k51, p52⟩
              intro s_ w54 hJ
              obtain ⟨g, b46, ca44, rfl, V45, fn46, kn46, pa44⟩ := hJ
              subst e0 e1 e5 e6
              have d7_46 : b7 < b46 := Nat.lt_of_lt_of_le k7.lt fn46
              have f46 : w.heap.size ≤ b46 := Nat.le_trans U.size fn46
              have nb46 := hF.nb fn46
              replace G := G.tr (Go.ofUp hF V45)
              replace hF := hF.up V45
              replace k7 := k7.up V45
              replace kS := kS.up V45
              replace kF := kF.up V45
              replace U := U.tr V45
              have k46 := kn46
              refine hK43 _ _ ?_
              refine c_seq (fun K55 hK55 => ?_)
              refine c_seq (fun K56 hK56 => ?_)
              exact (by
                refine c_draw Up 14 [(0, false), (1, true), (2, true), (3, true), (4, true), (5, true), (6, true), (7, true), (8, true), (9, false), (10, true), (11, false), (12, true), (13, true)] (by kernel_rfl) (fun w57 hu => ⟨Up.refl _, ?_⟩)
                replace G := G.tr (Go.ofUp hF hu)
                replace hF := hF.up hu
                replace k7 := k7.up hu
                replace k46 := k46.up hu
                replace kS := kS.up hu
                replace kF := kF.up hu
                replace U := U.tr hu
                have SU := Up.refl w57
                have kS_s := kS
                have kF_s := kF
                have k7_s := k7
                have k46_s := k46
                refine p_eff (by exact rfl) (e_callV cal_23 (aC (et g0 rfl) aN) (yp_empty _ _ _ _ _ hF k46 pa44.p)) (fun v58 w58 h58 => ?_)
                obtain ⟨rfl, u58⟩ := h58
                replace G := G.tr (Go.ofUp hF u58)
                replace hF := hF.up u58
                replace k7 := k7.up u58
                replace k46 := k46.up u58
                replace kS := kS.up u58
                replace kF := kF.up u58
                replace U := U.tr u58
                refine ⟨.inr (SU.tr u58), ?_⟩
                replace SU := SU.tr u58
                refine p_step (by exact rfl) (y_moveV (et g0 rfl)) ?_
                refine gsplitP (i := 27) g0 (fun q59 => ?_) (fun q59 => ?_)
                · skip
                  refine p_gstep (j := 1) (t := 27) (by exact rfl) (by exact rfl) (by exact rfl) (et g0 rfl) rfl (y_moveV (et (gS rfl (gS rfl (gS rfl (gS rfl (gS rfl (gS rfl g0)))))) rfl)) ?_
                  refine p_gstep (j := 1) (t := 27) (by exact rfl) (by exact rfl) (by exact rfl) (et (gS rfl g0) rfl) rfl (y_nil (et g0 rfl)) ?_
                  refine p_gstep (j := 1) (t := 27) (by exact rfl) (by exact rfl) (by exact rfl) (et (gS rfl (gS rfl g0)) rfl) rfl (y_fld fld_102_0 (et g0 rfl)) ?_
                  refine p_gstep (j := 1) (t := 27) (by exact rfl) (by exact rfl) (by exact rfl) (et (gS rfl (gS rfl (gS rfl g0))) rfl) rfl (y_moveV (et (gS rfl (gS rfl (gS rfl (gS rfl (gS rfl (gS rfl (gS rfl (gS rfl g0)))))))) rfl)) ?_
                  refine p_gstep (j := 1) (t := 27) (by exact rfl) (by exact rfl) (by exact rfl) (et (gS rfl (gS rfl (gS rfl (gS rfl g0)))) rfl) rfl (y_nil (et g0 rfl)) ?_
                  refine p_gstep (j := 1) (t := 27) (by exact rfl) (by exact rfl) (by exact rfl) (et (gS rfl (gS rfl (gS rfl (gS rfl (gS rfl g0))))) rfl) rfl (y_fld fld_146_12 (et g0 rfl)) ?_
                  refine p_gstep (j := 1) (t := 27) (by exact rfl) (by exact rfl) (by exact rfl) (et (gS rfl (gS rfl (gS rfl (gS rfl (gS rfl (gS rfl g0)))))) rfl) rfl (y_loadR agg_25 sz_25 (et g0 rfl) (by rw [length_bL, length_be]) (atSR (kF_s.row rSe))) ?_
                  refine p_geff (j := 1) (t := 27) (by exact rfl) (by exact rfl) (by exact rfl) (et (gS rfl (gS rfl (gS rfl (gS rfl (gS rfl (gS rfl (gS rfl g0))))))) rfl) rfl (e_callV cal_43 (aC (et (gS rfl (gS rfl (gS rfl (gS rfl g0)))) rfl) (aC (et g0 rfl) aN)) (yp_account _ _ _ _ _ _ _ _ _ hF kS (rS 0 _ rfl) (hAc.mono hL0) fo.self (by omega))) (fun v60 w60 h60 => ?_)
                  obtain ⟨c60, rfl, p60, u60⟩ := h60
                  replace G := G.tr (Go.ofUp hF u60)
                  replace hF := hF.up u60
                  replace k7 := k7.up u60
                  replace k46 := k46.up u60
                  replace kS := kS.up u60
                  replace kF := kF.up u60
                  replace U := U.tr u60
                  replace p60 : PA _ _ _ := ⟨p60⟩
                  refine ⟨.inr (SU.tr u60), ?_⟩
                  replace SU := SU.tr u60
                  obtain ⟨vn61, vb61, vc61, vs61, hc61, hn61, hbb61, hcd61, hb161, hb261⟩ := acct_form p60.p
                  rw [hc61]
                  refine p_gstep (j := 1) (t := 27) (by exact rfl) (by exact rfl) (by exact rfl) (et (gS rfl (gS rfl (gS rfl (gS rfl (gS rfl (gS rfl (gS rfl (gS rfl g0)))))))) rfl) rfl (y_fldV (f := 2) Hvaa.underlying107 rfl rfl rfl one_95 (et g0 rfl) ((app20 (i := 1) rfl).trans rfl)) ?_
                  refine p_geff (j := 1) (t := 27) (by exact rfl) (by exact rfl) (by exact rfl) (et (gS rfl (gS rfl (gS rfl (gS rfl (gS rfl (gS rfl (gS rfl (gS rfl (gS rfl g0))))))))) rfl) rfl (e_callV cal_79 (aC (et g0 rfl) aN) (yp_isZero hF hbb61 (bd_sm (bd_W hb261) (by decide)))) (fun v62 w62 h62 => ?_)
                  obtain ⟨rfl, u62⟩ := h62
                  replace G := G.tr (Go.ofUp hF u62)
                  replace hF := hF.up u62
                  replace k7 := k7.up u62
                  replace k46 := k46.up u62
                  replace kS := kS.up u62
                  replace kF := kF.up u62
                  replace U := U.tr u62
                  refine ⟨.inr (SU.tr u62), ?_⟩
                  replace SU := SU.tr u62
                  exact (by
                    refine p_gstep (j := 1) (t := 27) (by exact rfl) (by exact rfl) (by exact rfl) (et (gS rfl (gS rfl (gS rfl (gS rfl (gS rfl (gS rfl (gS rfl (gS rfl (gS rfl (gS rfl g0)))))))))) rfl) rfl (y_not (et g0 rfl)) ?_
                    refine p_step (by exact rfl) (y_pickT (et (gS rfl (gS rfl (gS rfl (gS rfl (gS rfl (gS rfl (gS rfl (gS rfl (gS rfl (gS rfl (gS rfl g0))))))))))) rfl) (et g0 rfl)) ?_
                    refine p_nil ?_
                    refine hK56 _ _ ?_
                    refine fg2 5 39 (gS rfl (gS rfl (gS rfl (gS rfl (gS rfl (gS rfl (gS rfl (gS rfl (gS rfl (gS rfl (gS rfl (gS rfl (gS rfl (gS rfl (gS rfl (gS rfl g0)))))))))))))))) g0 (fun g => ?_)
                    refine c_cond (et g0 rfl) (fun cB2 => ?_) (fun cB2 => ?_)
                    · skip
                      simp only [decide_eq_true_eq, decide_eq_false_iff_not, Int.not_lt, Int.not_le, Bool.not_eq_true', Bool.not_eq_false', Bool.not_eq_eq_eq_not, Bool.not_true, Bool.not_false] at cB2
                      exact (by
                        refine c_region ?_
                        refine l_step (y_moveV (et (gS rfl g0) rfl)) ?_
                        refine l_eff (e_callV cal_32 (aC (v := .int .u64 ((25000 : Nat) : Int)) rfl aN) (yp_num (x := 25000) hF (by decide))) (fun v64 w64 h64 => ?_)
                        obtain ⟨H64, g64, n64⟩ := h64
                        have hlew64 := g64.le
                        replace nb7 := g64.nb nb7 k7.lt
                        replace nb46 := g64.nb nb46 k46.lt
                        replace n3 := n3.mono hlew64
                        replace n5 := n5.mono hlew64
                        replace pa44 := pa44.mono hlew64
                        replace p60 := p60.mono hlew64
                        replace hn61 := hn61.mono hlew64
                        replace hbb61 := hbb61.mono hlew64
                        replace hcd61 := hcd61.mono hlew64
                        replace hL0 := hL0.trans hlew64
                        replace k7 := k7.up g64.up
                        replace k46 := k46.up g64.up
                        replace kS := kS.up g64.up
                        replace kF := kF.up g64.up
                        replace U := U.tr g64.up
                        replace G := G.tr g64
                        replace hF := g64.fz
                        have q64 : 25000 < 256 ^ 2 := by decide
                        refine l_eff (e_callV cal_34 (aC (et (gS rfl g0) rfl) (aC (et g0 rfl) aN)) (nat_add hF n3 n64 (bd_sm q3 (by decide)) (bd_sm q64 (by decide)))) (fun v65 w65 h65 => ?_)
                        obtain ⟨H65, g65, n65⟩ := h65
                        have hlew65 := g65.le
                        replace nb7 := g65.nb nb7 k7.lt
                        replace nb46 := g65.nb nb46 k46.lt
                        replace n3 := n3.mono hlew65
                        replace n5 := n5.mono hlew65
                        replace pa44 := pa44.mono hlew65
                        replace p60 := p60.mono hlew65
                        replace hn61 := hn61.mono hlew65
                        replace hbb61 := hbb61.mono hlew65
                        replace hcd61 := hcd61.mono hlew65
                        replace n64 := n64.mono hlew65
                        replace hL0 := hL0.trans hlew65
                        replace k7 := k7.up g65.up
                        replace k46 := k46.up g65.up
                        replace kS := kS.up g65.up
                        replace kF := kF.up g65.up
                        replace U := U.tr g65.up
                        replace G := G.tr g65
                        replace hF := g65.fz
                        have q65 := bd_add (c := 3) q3 q64 (by decide)
                        exact (by
                          refine l_step (y_assignV (et g0 rfl)) ?_
                          refine l_nil ?_
                          refine hK55 _ _ ?_
                          refine fg1 5 g0 (fun g => ?_)
                          refine c_seq (fun K66 hK66 => ?_)
                          exact (by
                            refine c_region ?_
                            refine l_step (y_moveV (et g0 rfl)) ?_
                            refine l_step (y_assignV (et g0 rfl)) ?_
                            refine l_nil ?_
                            refine hK66 _ _ ?_
                            refine fg1 4 g0 (fun g => ?_)
                            refine c_ret ?_
                            repeat with_reducible refine then_ret ?_
                            refine ret1 rfl (res_tmp (et g0 rfl)) ?_
                            refine ⟨_, G, n65.to ?_, ?_⟩
                            · unfold dCost
                              simp_all
                            · refine Nat.lt_of_le_of_lt (m := 32600) ?_ (by decide)
                              unfold dCost
                              repeat' split
                              all_goals omega)))
                    · skip
                      simp only [decide_eq_true_eq, decide_eq_false_iff_not, Int.not_lt, Int.not_le, Bool.not_eq_true', Bool.not_eq_false', Bool.not_eq_eq_eq_not, Bool.not_true, Bool.not_false] at cB2
                      refine c_skip ?_
                      refine hK55 _ _ ?_
                      refine fg1 5 (gS rfl g0) (fun g => ?_)
                      refine c_seq (fun K67 hK67 => ?_)
                      exact (by
                        refine c_region ?_
                        refine l_step (y_moveV (et g0 rfl)) ?_
                        refine l_step (y_assignV (et g0 rfl)) ?_
                        refine l_nil ?_
                        refine hK67 _ _ ?_
                        refine fg1 4 g0 (fun g => ?_)
                        refine c_ret ?_
                        repeat with_reducible refine then_ret ?_
                        refine ret1 rfl (res_tmp (et g0 rfl)) ?_
                        refine ⟨_, G, n3.to ?_, ?_⟩
                        · unfold dCost
                          simp_all
                        · refine Nat.lt_of_le_of_lt (m := 32600) ?_ (by decide)
                          unfold dCost
                          repeat' split
                          all_goals omega))
                · skip
                  refine p_gskip (j := 1) (t := 27) (by exact rfl) (by exact rfl) (by exact rfl) (et g0 rfl) rfl rfl ?_
                  refine p_gskip (j := 1) (t := 27) (by exact rfl) (by exact rfl) (by exact rfl) (et (gS rfl g0) rfl) rfl rfl ?_
                  refine p_gskip (j := 1) (t := 27) (by exact rfl) (by exact rfl) (by exact rfl) (et (gS rfl (gS rfl g0)) rfl) rfl rfl ?_
                  refine p_gskip (j := 1) (t := 27) (by exact rfl) (by exact rfl) (by exact rfl) (et (gS rfl (gS rfl (gS rfl g0))) rfl) rfl rfl ?_
                  refine p_gskip (j := 1) (t := 27) (by exact rfl) (by exact rfl) (by exact rfl) (et (gS rfl (gS rfl (gS rfl (gS rfl g0)))) rfl) rfl rfl ?_
                  refine p_gskip (j := 1) (t := 27) (by exact rfl) (by exact rfl) (by exact rfl) (et (gS rfl (gS rfl (gS rfl (gS rfl (gS rfl g0))))) rfl) rfl rfl ?_
                  refine p_gskip (j := 1) (t := 27) (by exact rfl) (by exact rfl) (by exact rfl) (et (gS rfl (gS rfl (gS rfl (gS rfl (gS rfl (gS rfl g0)))))) rfl) rfl rfl ?_
                  refine p_geskip (j := 1) (t := 27) (by exact rfl) (by exact rfl) (by exact rfl) (et (gS rfl (gS rfl (gS rfl (gS rfl (gS rfl (gS rfl (gS rfl g0))))))) rfl) rfl rfl ⟨.inr SU, ?_⟩
                  refine p_gskip (j := 1) (t := 27) (by exact rfl) (by exact rfl) (by exact rfl) (et (gS rfl (gS rfl (gS rfl (gS rfl (gS rfl (gS rfl (gS rfl (gS rfl g0)))))))) rfl) rfl rfl ?_
                  refine p_geskip (j := 1) (t := 27) (by exact rfl) (by exact rfl) (by exact rfl) (et (gS rfl (gS rfl (gS rfl (gS rfl (gS rfl (gS rfl (gS rfl (gS rfl (gS rfl g0))))))))) rfl) rfl rfl ⟨.inr SU, ?_⟩
                  refine p_gskip (j := 1) (t := 27) (by exact rfl) (by exact rfl) (by exact rfl) (et (gS rfl (gS rfl (gS rfl (gS rfl (gS rfl (gS rfl (gS rfl (gS rfl (gS rfl (gS rfl g0)))))))))) rfl) rfl rfl ?_
                  refine p_step (by exact rfl) (y_pickF (et (gS rfl (gS rfl (gS rfl (gS rfl (gS rfl (gS rfl (gS rfl (gS rfl (gS rfl (gS rfl (gS rfl g0))))))))))) rfl) rfl) ?_
                  refine p_nil ?_
                  refine hK56 _ _ ?_
                  refine fg2 5 39 (gS rfl (gS rfl (gS rfl (gS rfl (gS rfl (gS rfl (gS rfl (gS rfl (gS rfl (gS rfl (gS rfl (gS rfl (gS rfl (gS rfl (gS rfl (gS rfl g0)))))))))))))))) g0 (fun g => ?_)
                  refine c_false (et g0 rfl) rfl ?_
                  refine c_skip ?_
                  refine hK55 _ _ ?_
                  refine fg1 5 (gS rfl g0) (fun g => ?_)
                  refine c_seq (fun K69 hK69 => ?_)
                  exact (by
                    refine c_region ?_
                    refine l_step (y_moveV (et g0 rfl)) ?_
                    refine l_step (y_assignV (et g0 rfl)) ?_
                    refine l_nil ?_
                    refine hK69 _ _ ?_
                    refine fg1 4 g0 (fun g => ?_)
                    refine c_ret ?_
                    repeat with_reducible refine then_ret ?_
                    refine ret1 rfl (res_tmp (et g0 rfl)) ?_
                    refine ⟨_, G, n3.to ?_, ?_⟩
                    · unfold dCost
                      simp_all
                    · refine Nat.lt_of_le_of_lt (m := 32600) ?_ (by decide)
                      unfold dCost
                      repeat' split
                      all_goals omega)))))))
theorem yp_enterCost {w : World} {H : Store} (hF : Fz w H) (bs : Nat) (cs : Array Value) (s : YSt) (vf : Value) (kS : Blk w bs cs) (hs : SC H cs s vf) (bf o : Nat) (fs : Array Value) (f : YF) (vm : Value) (kF : Blk w bf fs) (hf : FC H fs o f vm) (q : Nat) (hq : q < 256) :
    Ret 336 [.pointer (some ⟨bs, 0, none⟩), .pointer (some ⟨bf, o, none⟩), .int .u8 q] w (fun v w' => ∃ H', Go No w H w' H' ∧ NV H' v (eCost s f q) ∧ eCost s f q < 256 ^ 34) := by
  obtain ⟨aa, ac, wa, wc, sa, sc, vr, la, lc, ta, tc, ma, mc, ga, gc, oa, oc, ra, rc, vlim, vtx, vleft, vpr, vtot, rS, rOr, rMd, hAc, hWA, hWS, hRf, hTm, hMd, hGn, hSr, hRt, hLm, hTx, hLf, hPr, hTt⟩ := hs.ex
  have so := hs.ok
  have so1 := so.accts
  have so2 := so.warmA
  have so3 := so.warmS
  have so4 := so.temps
  have so5 := so.start
  have so6 := so.logs
  have so7 := so.made
  have so8 := so.gone
  have so9 := so.ret
  have eC := hs.env
  obtain ⟨vpc, vgas, vval, voo, vol, ka, kc, ca, cc, ia, ic, svc, rF, rSe, rCa, rSv, hSv, hPc, hGa, hVa, hOo, hOl, hSt, hCo, hIn⟩ := hf.ex
  have fo := hf.ok
  have fo1 := fo.stack
  have fo2 := fo.code
  have fo3 := fo.input
  have fo4 := fo.mem
  have lS := kS.lt
  have lF := kF.lt
  refine enter (n := 66) Hvaa.func336 rfl rfl (Nat.le_of_ble_eq_true rfl) ?_
  have U := Up.refl w
  have G : Go (No) w H w H := Go.refl hF
  have hL0 : Le H H := Le.refl H
  refine c_seq (fun K1 hK1 => ?_)
  exact (by
    refine c_region ?_
    refine l_step y_assignC ?_
    refine l_nil ?_
    refine hK1 _ _ ?_
    refine fg3 2 1 0 (gS rfl (gS rfl (gS rfl g0))) (gS rfl (gS rfl g0)) (gS rfl g0) (fun g => ?_)
    refine c_seq (fun K2 hK2 => ?_)
    refine c_seq (fun K3 hK3 => ?_)
    exact (by
      refine c_region ?_
      refine l_step (y_moveV (et (gS rfl (gS rfl g0)) rfl)) ?_
      refine l_nil ?_
      refine hK3 _ _ ?_
      refine c_block (fun Q4 hQ4 => ?_)
      refine c_seq (fun K5 hK5 => ?_)
      exact (by
        refine c_region ?_
        refine l_step (y_eql (et g0 rfl) rfl) ?_
        refine l_step (y_assignV (et g0 rfl)) ?_
        refine l_nil ?_
        refine hK5 _ _ ?_
        refine fg5 2 1 0 10 11 (gS rfl (gS rfl (gS rfl (gS rfl (gS rfl g0))))) (gS rfl (gS rfl (gS rfl (gS rfl g0)))) (gS rfl (gS rfl (gS rfl g0))) (gS rfl (gS rfl g0)) g0 (fun g => ?_)
        refine c_condV (i := 11) g0 rfl (fun cB1 => ?_) (fun cB1 => ?_)
        · skip
          simp only [Bool.and_eq_true, Bool.or_eq_true, Bool.and_eq_false_imp, Bool.or_eq_false_iff, decide_eq_true_eq, decide_eq_false_iff_not] at cB1
          refine c_seq (fun K7 hK7 => ?_)
          exact (by
            refine c_region ?_
            refine l_eff (e_callV cal_32 (aC (v := .int .u64 ((32000 : Nat) : Int)) rfl aN) (yp_num (x := 32000) hF (by decide))) (fun v8 w8 h8 => ?_)
            obtain ⟨H8, g8, n8⟩ := h8
            have hlew8 := g8.le
            replace hL0 := hL0.trans hlew8
            replace kS := kS.up g8.up
            replace kF := kF.up g8.up
            replace U := U.tr g8.up
            replace G := G.tr g8
            replace hF := g8.fz
            have q8 : 32000 < 256 ^ 2 := by decide
            refine l_eff (e_callV cal_32 (aC (v := .int .u64 ((2 : Nat) : Int)) rfl aN) (yp_num (x := 2) hF (by decide))) (fun v9 w9 h9 => ?_)
            obtain ⟨H9, g9, n9⟩ := h9
            have hlew9 := g9.le
            replace n8 := n8.mono hlew9
            replace hL0 := hL0.trans hlew9
            replace kS := kS.up g9.up
            replace kF := kF.up g9.up
            replace U := U.tr g9.up
            replace G := G.tr g9
            replace hF := g9.fz
            have q9 : 2 < 256 ^ 1 := by decide
            refine l_step (y_moveV (et (gS rfl (gS rfl (gS rfl (gS rfl (gS rfl (gS rfl g0)))))) rfl)) ?_
            refine l_eff (e_callV cal_63 (aC (et g0 rfl) (aC (v := .int .i64 ((2 : Nat) : Int)) rfl aN)) (yp_arg _ _ 2 _ _ _ _ _ _ hF kF (rF 8 _ rfl) (hSt.mono hL0) (by omega) (by first | decide | omega))) (fun v10 w10 h10 => ?_)
            obtain ⟨u10, n10, q10⟩ := h10
            replace G := G.tr (Go.ofUp hF u10)
            replace hF := hF.up u10
            replace kS := kS.up u10
            replace kF := kF.up u10
            replace U := U.tr u10
            refine l_eff (e_callV cal_126 (aC (et g0 rfl) aN) (yp_words' hF n10 (bd_W q10) (by decide))) (fun v11 w11 h11 => ?_)
            obtain ⟨H11, g11, n11⟩ := h11
            have hlew11 := g11.le
            replace n8 := n8.mono hlew11
            replace n9 := n9.mono hlew11
            replace n10 := n10.mono hlew11
            replace hL0 := hL0.trans hlew11
            replace kS := kS.up g11.up
            replace kF := kF.up g11.up
            replace U := U.tr g11.up
            replace G := G.tr g11
            replace hF := g11.fz
            have q11 := bd_words (bd_W q10) (by decide)
            exact (by
              refine l_eff (e_callV cal_50 (aC (et (gS rfl (gS rfl (gS rfl g0))) rfl) (aC (et g0 rfl) aN)) (nat_mul hF n9 n11 (bd_sm q9 (by decide)) (bd_sm q11 (by decide)))) (fun v12 w12 h12 => ?_)
              obtain ⟨H12, g12, n12⟩ := h12
              have hlew12 := g12.le
              replace n8 := n8.mono hlew12
              replace n9 := n9.mono hlew12
              replace n10 := n10.mono hlew12
              replace n11 := n11.mono hlew12
              replace hL0 := hL0.trans hlew12
              replace kS := kS.up g12.up
              replace kF := kF.up g12.up
              replace U := U.tr g12.up
              replace G := G.tr g12
              replace hF := g12.fz
              have q12 := bd_mul (c := 33) q9 q11 (by decide)
              refine l_eff (e_callV cal_34 (aC (et (gS rfl (gS rfl (gS rfl (gS rfl (gS rfl g0))))) rfl) (aC (et g0 rfl) aN)) (nat_add hF n8 n12 (bd_sm q8 (by decide)) (bd_sm q12 (by decide)))) (fun v13 w13 h13 => ?_)
              obtain ⟨H13, g13, n13⟩ := h13
              have hlew13 := g13.le
              replace n8 := n8.mono hlew13
              replace n9 := n9.mono hlew13
              replace n10 := n10.mono hlew13
              replace n11 := n11.mono hlew13
              replace n12 := n12.mono hlew13
              replace hL0 := hL0.trans hlew13
              replace kS := kS.up g13.up
              replace kF := kF.up g13.up
              replace U := U.tr g13.up
              replace G := G.tr g13
              replace hF := g13.fz
              have q13 := bd_add (c := 34) q8 q12 (by decide)
              refine l_step (y_assignV (et g0 rfl)) ?_
              refine l_nil ?_
              refine hK7 _ _ ?_
              refine fg1 6 g0 (fun g => ?_)
              refine c_ret ?_
              refine hQ4 _ _ _ (in_ret ?_)
              repeat with_reducible refine then_ret ?_
              refine ret1 rfl (res_tmp (et g0 rfl)) ?_
              exact ⟨_, G, nvb (n := 34) n13 q13 (by decide) (by rw [eCost, if_pos (by omega)])⟩))
        · skip
          simp only [Bool.and_eq_true, Bool.or_eq_true, Bool.and_eq_false_imp, Bool.or_eq_false_iff, decide_eq_true_eq, decide_eq_false_iff_not] at cB1
          refine c_seq (fun K14 hK14 => ?_)
          exact (by
            refine c_region ?_
            refine l_step (y_eql (et (gS rfl (gS rfl g0)) rfl) rfl) ?_
            refine l_step (y_assignV (et g0 rfl)) ?_
            refine l_nil ?_
            refine hK14 _ _ ?_
            refine fg4 2 1 0 20 (gS rfl (gS rfl (gS rfl (gS rfl (gS rfl (gS rfl (gS rfl g0))))))) (gS rfl (gS rfl (gS rfl (gS rfl (gS rfl (gS rfl g0)))))) (gS rfl (gS rfl (gS rfl (gS rfl (gS rfl g0))))) g0 (fun g => ?_)
            refine c_condV (i := 20) g0 rfl (fun cB2 => ?_) (fun cB2 => ?_)
            · skip
              simp only [Bool.and_eq_true, Bool.or_eq_true, Bool.and_eq_false_imp, Bool.or_eq_false_iff, decide_eq_true_eq, decide_eq_false_iff_not] at cB2
              refine c_seq (fun K16 hK16 => ?_)
              exact (by
                refine c_region ?_
                refine l_eff (e_callV cal_32 (aC (v := .int .u64 ((32000 : Nat) : Int)) rfl aN) (yp_num (x := 32000) hF (by decide))) (fun v17 w17 h17 => ?_)
                obtain ⟨H17, g17, n17⟩ := h17
                have hlew17 := g17.le
                replace hL0 := hL0.trans hlew17
                replace kS := kS.up g17.up
                replace kF := kF.up g17.up
                replace U := U.tr g17.up
                replace G := G.tr g17
                replace hF := g17.fz
                have q17 : 32000 < 256 ^ 2 := by decide
                refine l_eff (e_callV cal_32 (aC (v := .int .u64 ((8 : Nat) : Int)) rfl aN) (yp_num (x := 8) hF (by decide))) (fun v18 w18 h18 => ?_)
                obtain ⟨H18, g18, n18⟩ := h18
                have hlew18 := g18.le
                replace n17 := n17.mono hlew18
                replace hL0 := hL0.trans hlew18
                replace kS := kS.up g18.up
                replace kF := kF.up g18.up
                replace U := U.tr g18.up
                replace G := G.tr g18
                replace hF := g18.fz
                have q18 : 8 < 256 ^ 1 := by decide
                refine l_step (y_moveV (et (gS rfl (gS rfl (gS rfl (gS rfl (gS rfl g0))))) rfl)) ?_
                refine l_eff (e_callV cal_63 (aC (et g0 rfl) (aC (v := .int .i64 ((2 : Nat) : Int)) rfl aN)) (yp_arg _ _ 2 _ _ _ _ _ _ hF kF (rF 8 _ rfl) (hSt.mono hL0) (by omega) (by first | decide | omega))) (fun v19 w19 h19 => ?_)
                obtain ⟨u19, n19, q19⟩ := h19
                replace G := G.tr (Go.ofUp hF u19)
                replace hF := hF.up u19
                replace kS := kS.up u19
                replace kF := kF.up u19
                replace U := U.tr u19
                refine l_eff (e_callV cal_126 (aC (et g0 rfl) aN) (yp_words' hF n19 (bd_W q19) (by decide))) (fun v20 w20 h20 => ?_)
                obtain ⟨H20, g20, n20⟩ := h20
                have hlew20 := g20.le
                replace n17 := n17.mono hlew20
                replace n18 := n18.mono hlew20
                replace n19 := n19.mono hlew20
                replace hL0 := hL0.trans hlew20
                replace kS := kS.up g20.up
                replace kF := kF.up g20.up
                replace U := U.tr g20.up
                replace G := G.tr g20
                replace hF := g20.fz
                have q20 := bd_words (bd_W q19) (by decide)
                exact (by
                  refine l_eff (e_callV cal_50 (aC (et (gS rfl (gS rfl (gS rfl g0))) rfl) (aC (et g0 rfl) aN)) (nat_mul hF n18 n20 (bd_sm q18 (by decide)) (bd_sm q20 (by decide)))) (fun v21 w21 h21 => ?_)
                  obtain ⟨H21, g21, n21⟩ := h21
                  have hlew21 := g21.le
                  replace n17 := n17.mono hlew21
                  replace n18 := n18.mono hlew21
                  replace n19 := n19.mono hlew21
                  replace n20 := n20.mono hlew21
                  replace hL0 := hL0.trans hlew21
                  replace kS := kS.up g21.up
                  replace kF := kF.up g21.up
                  replace U := U.tr g21.up
                  replace G := G.tr g21
                  replace hF := g21.fz
                  have q21 := bd_mul (c := 33) q18 q20 (by decide)
                  refine l_eff (e_callV cal_34 (aC (et (gS rfl (gS rfl (gS rfl (gS rfl (gS rfl g0))))) rfl) (aC (et g0 rfl) aN)) (nat_add hF n17 n21 (bd_sm q17 (by decide)) (bd_sm q21 (by decide)))) (fun v22 w22 h22 => ?_)
                  obtain ⟨H22, g22, n22⟩ := h22
                  have hlew22 := g22.le
                  replace n17 := n17.mono hlew22
                  replace n18 := n18.mono hlew22
                  replace n19 := n19.mono hlew22
                  replace n20 := n20.mono hlew22
                  replace n21 := n21.mono hlew22
                  replace hL0 := hL0.trans hlew22
                  replace kS := kS.up g22.up
                  replace kF := kF.up g22.up
                  replace U := U.tr g22.up
                  replace G := G.tr g22
                  replace hF := g22.fz
                  have q22 := bd_add (c := 34) q17 q21 (by decide)
                  refine l_step (y_assignV (et g0 rfl)) ?_
                  refine l_nil ?_
                  refine hK16 _ _ ?_
                  refine fg1 6 g0 (fun g => ?_)
                  refine c_ret ?_
                  refine hQ4 _ _ _ (in_ret ?_)
                  repeat with_reducible refine then_ret ?_
                  refine ret1 rfl (res_tmp (et g0 rfl)) ?_
                  exact ⟨_, G, nvb (n := 34) n22 q22 (by decide) (by rw [eCost, if_neg (by omega), if_pos (by omega)])⟩))
            · skip
              simp only [Bool.and_eq_true, Bool.or_eq_true, Bool.and_eq_false_imp, Bool.or_eq_false_iff, decide_eq_true_eq, decide_eq_false_iff_not] at cB2
              refine c_skip ?_
              refine hQ4 _ _ _ (in_normal ?_)
              refine hK2 _ _ ?_
              refine fg3 2 1 0 (gS rfl (gS rfl (gS rfl (gS rfl g0)))) (gS rfl (gS rfl (gS rfl g0))) (gS rfl (gS rfl g0)) (fun g => ?_)
              refine c_seq (fun K23 hK23 => ?_)
              exact (by
                refine c_region ?_
                refine l_step (y_moveV (et (gS rfl g0) rfl)) ?_
                refine l_eff (e_callV cal_63 (aC (et g0 rfl) (aC (v := .int .i64 ((1 : Nat) : Int)) rfl aN)) (yp_arg _ _ 1 _ _ _ _ _ _ hF kF (rF 8 _ rfl) (hSt.mono hL0) (by omega) (by first | decide | omega))) (fun v24 w24 h24 => ?_)
                obtain ⟨u24, n24, q24⟩ := h24
                replace G := G.tr (Go.ofUp hF u24)
                replace hF := hF.up u24
                replace kS := kS.up u24
                replace kF := kF.up u24
                replace U := U.tr u24
                refine l_eff (e_callV cal_147 (aC (et g0 rfl) aN) (yp_addrOf hF n24 (bd_up (bd_W q24) (by decide)))) (fun v25 w25 h25 => ?_)
                obtain ⟨rfl, u25⟩ := h25
                replace G := G.tr (Go.ofUp hF u25)
                replace hF := hF.up u25
                replace kS := kS.up u25
                replace kF := kF.up u25
                replace U := U.tr u25
                refine l_eff (e_alloc zr_25) (fun v26 w26 h26 => ?_)
                obtain ⟨b26, rfl, n26⟩ := h26
                have f26 : w.heap.size ≤ b26 := Nat.le_trans U.size n26.fresh
                have nb26 := hF.nb n26.fresh
                replace G := G.tr (Go.ofUp hF n26.up)
                replace hF := hF.up n26.up
                replace kS := kS.up n26.up
                replace kF := kF.up n26.up
                replace U := U.tr n26.up
                have k26 := n26.blk
                refine l_effN (e_store sz_25 (et g0 rfl) (cellsV (et (gS rfl g0) rfl) rfl) (by rw [length_bL, length_be]) (by exact one_bL _) k26 (by exact Nat.le_of_ble_eq_true rfl)) (fun v27 w27 h27 => ?_)
                obtain ⟨rfl, x27⟩ := h27
                replace kS := kS.ch x27.ch (by first | omega | (omega))
                replace kF := kF.ch x27.ch (by first | omega | (omega))
                replace k26 := x27.blk.full (by rw [length_bL, length_be]; rfl)
                replace G := G.wr x27 (by first | exact .inr f26 | omega | (simp; omega)) nb26
                replace hF := G.fz
                replace U := U.st x27 f26
                refine l_nil ?_
                refine hK23 _ _ ?_
                refine fg4 2 1 0 7 (gS rfl (gS rfl (gS rfl (gS rfl (gS rfl (gS rfl g0)))))) (gS rfl (gS rfl (gS rfl (gS rfl (gS rfl g0))))) (gS rfl (gS rfl (gS rfl (gS rfl g0)))) g0 (fun g => ?_)
                refine c_seq (fun K28 hK28 => ?_)
                exact (by
                  refine c_draw Up 6 [(0, true), (1, true), (2, true), (3, true), (4, false), (5, true)] (by kernel_rfl) (fun w29 hu => ⟨Up.refl _, ?_⟩)
                  replace G := G.tr (Go.ofUp hF hu)
                  replace hF := hF.up hu
                  replace k26 := k26.up hu
                  replace kS := kS.up hu
                  replace kF := kF.up hu
                  replace U := U.tr hu
                  have SU := Up.refl w29
                  refine p_step (by exact rfl) (y_moveV (et (gS rfl g0) rfl)) ?_
                  refine p_step (by exact rfl) (y_nil (et g0 rfl)) ?_
                  refine p_step (by exact rfl) (y_fld fld_102_0 (et g0 rfl)) ?_
                  refine p_step (by exact rfl) (y_loadB agg_25 sz_25 (et (gS rfl (gS rfl (gS rfl g0))) rfl) (by rw [List.size_toArray, length_bL, length_be]) (atSB k26)) ?_
                  refine p_eff (by exact rfl) (e_callV cal_333 (aC (et (gS rfl g0) rfl) (aC (et g0 rfl) aN)) (yp_access _ _ _ _ _ _ _ _ _ hF kS (rS 1 _ rfl) (hWA.mono hL0) (Nat.mod_lt _ A160_pos) (by omega))) (fun v30 w30 h30 => ?_)
                  obtain ⟨H30, g30, n30⟩ := h30
                  have hlew30 := g30.le
                  replace nb26 := g30.nb nb26 k26.lt
                  replace n24 := n24.mono hlew30
                  replace hL0 := hL0.trans hlew30
                  replace k26 := k26.up g30.up
                  replace kS := kS.up g30.up
                  replace kF := kF.up g30.up
                  replace U := U.tr g30.up
                  replace G := G.tr g30
                  replace hF := g30.fz
                  have q30 := access_bd n30
                  refine ⟨.inr (SU.tr g30.up), ?_⟩
                  replace SU := SU.tr g30.up
                  refine p_step (by exact rfl) (y_assignV (et g0 rfl)) ?_
                  refine p_nil ?_
                  refine hK28 _ _ ?_
                  refine fg5 2 1 0 7 8 (gS rfl (gS rfl (gS rfl (gS rfl (gS rfl (gS rfl (gS rfl (gS rfl (gS rfl g0))))))))) (gS rfl (gS rfl (gS rfl (gS rfl (gS rfl (gS rfl (gS rfl (gS rfl g0)))))))) (gS rfl (gS rfl (gS rfl (gS rfl (gS rfl (gS rfl (gS rfl g0))))))) (gS rfl (gS rfl (gS rfl (gS rfl (gS rfl (gS rfl g0)))))) g0 (fun g => ?_)
                  refine c_seq (fun K31 hK31 => ?_)
                  refine c_seq (fun K32 hK32 => ?_)
                  exact (by
                    refine c_region ?_
                    refine l_step (y_moveV (et (gS rfl (gS rfl (gS rfl (gS rfl g0)))) rfl)) ?_
                    refine l_step (y_eql (et g0 rfl) rfl) ?_
                    refine l_step (y_moveV (et g0 rfl)) ?_
                    refine l_gpure (j := 2) (t := 39) (by exact rfl) (by exact rfl) (et g0 rfl) rfl (fun hc => (y_moveV (et (gS rfl (gS rfl (gS rfl (gS rfl (gS rfl (gS rfl (gS rfl g0))))))) rfl))) ?_
                    refine l_gpure (j := 2) (t := 39) (by exact rfl) (by exact rfl) (et (gS rfl g0) rfl) rfl (fun hc => (y_eql (et (cT g0 hc) rfl) rfl)) ?_
                    refine l_step (y_pickO (et (gS rfl (gS rfl g0)) rfl) rfl (et g0 rfl)) ?_
                    refine l_step (y_moveV (et g0 rfl)) ?_
                    refine gsplitL (i := 43) g0 (fun q33 => ?_) (fun q33 => ?_)
                    · skip
                      simp only [Bool.or_eq_true, decide_eq_true_eq] at q33
                      refine l_gstep (j := 6) (t := 43) (by exact rfl) (by exact rfl) (et g0 rfl) (by decide) (y_moveV (et (gS rfl (gS rfl (gS rfl (gS rfl (gS rfl (gS rfl (gS rfl (gS rfl (gS rfl (gS rfl (gS rfl g0))))))))))) rfl)) ?_
                      refine l_geff (j := 6) (t := 43) (by exact rfl) (by exact rfl) (et (gS rfl g0) rfl) rfl (e_callV cal_63 (aC (et g0 rfl) (aC (v := .int .i64 ((2 : Nat) : Int)) rfl aN)) (yp_arg _ _ 2 _ _ _ _ _ _ hF kF (rF 8 _ rfl) (hSt.mono hL0) (by omega) (by first | decide | omega))) (fun v34 w34 h34 => ?_)
                      obtain ⟨u34, n34, q34⟩ := h34
                      replace G := G.tr (Go.ofUp hF u34)
                      replace hF := hF.up u34
                      replace k26 := k26.up u34
                      replace kS := kS.up u34
                      replace kF := kF.up u34
                      replace U := U.tr u34
                      refine l_geff (j := 6) (t := 43) (by exact rfl) (by exact rfl) (et (gS rfl (gS rfl g0)) rfl) rfl (e_callV cal_79 (aC (et g0 rfl) aN) (yp_isZero hF n34 (bd_sm (bd_W q34) (by decide)))) (fun v35 w35 h35 => ?_)
                      obtain ⟨rfl, u35⟩ := h35
                      replace G := G.tr (Go.ofUp hF u35)
                      replace hF := hF.up u35
                      replace k26 := k26.up u35
                      replace kS := kS.up u35
                      replace kF := kF.up u35
                      replace U := U.tr u35
                      refine l_gstep (j := 6) (t := 43) (by exact rfl) (by exact rfl) (et (gS rfl (gS rfl (gS rfl g0))) rfl) (by decide) (y_not (et g0 rfl)) ?_
                      refine l_step (y_pickT (et (gS rfl (gS rfl (gS rfl (gS rfl g0)))) rfl) (et g0 rfl)) ?_
                      refine l_nil ?_
                      refine hK32 _ _ ?_
                      refine fg5 2 0 7 8 48 (gS rfl (gS rfl (gS rfl (gS rfl (gS rfl (gS rfl (gS rfl (gS rfl (gS rfl (gS rfl (gS rfl (gS rfl (gS rfl (gS rfl (gS rfl (gS rfl (gS rfl g0))))))))))))))))) (gS rfl (gS rfl (gS rfl (gS rfl (gS rfl (gS rfl (gS rfl (gS rfl (gS rfl (gS rfl (gS rfl (gS rfl (gS rfl (gS rfl (gS rfl g0))))))))))))))) (gS rfl (gS rfl (gS rfl (gS rfl (gS rfl (gS rfl (gS rfl (gS rfl (gS rfl (gS rfl (gS rfl (gS rfl (gS rfl (gS rfl g0)))))))))))))) (gS rfl (gS rfl (gS rfl (gS rfl (gS rfl (gS rfl (gS rfl (gS rfl (gS rfl (gS rfl (gS rfl (gS rfl (gS rfl g0))))))))))))) g0 (fun g => ?_)
                      refine c_condV (i := 48) g0 rfl (fun cB3 => ?_) (fun cB3 => ?_)
                      · skip
                        simp only [Bool.not_eq_true', decide_eq_false_iff_not, Bool.not_eq_false', decide_eq_true_eq] at cB3
                        refine c_seq (fun K37 hK37 => ?_)
                        exact (by
                          refine c_region ?_
                          refine l_step (y_moveV (et (gS rfl (gS rfl g0)) rfl)) ?_
                          refine l_eff (e_callV cal_32 (aC (v := .int .u64 ((9000 : Nat) : Int)) rfl aN) (yp_num (x := 9000) hF (by decide))) (fun v38 w38 h38 => ?_)
                          obtain ⟨H38, g38, n38⟩ := h38
                          have hlew38 := g38.le
                          replace nb26 := g38.nb nb26 k26.lt
                          replace n24 := n24.mono hlew38
                          replace n30 := n30.mono hlew38
                          replace n34 := n34.mono hlew38
                          replace hL0 := hL0.trans hlew38
                          replace k26 := k26.up g38.up
                          replace kS := kS.up g38.up
                          replace kF := kF.up g38.up
                          replace U := U.tr g38.up
                          replace G := G.tr g38
                          replace hF := g38.fz
                          have q38 : 9000 < 256 ^ 2 := by decide
                          refine l_eff (e_callV cal_34 (aC (et (gS rfl g0) rfl) (aC (et g0 rfl) aN)) (nat_add hF n30 n38 (bd_sm q30 (by decide)) (bd_sm q38 (by decide)))) (fun v39 w39 h39 => ?_)
                          obtain ⟨H39, g39, n39⟩ := h39
                          have hlew39 := g39.le
                          replace nb26 := g39.nb nb26 k26.lt
                          replace n24 := n24.mono hlew39
                          replace n30 := n30.mono hlew39
                          replace n34 := n34.mono hlew39
                          replace n38 := n38.mono hlew39
                          replace hL0 := hL0.trans hlew39
                          replace k26 := k26.up g39.up
                          replace kS := kS.up g39.up
                          replace kF := kF.up g39.up
                          replace U := U.tr g39.up
                          replace G := G.tr g39
                          replace hF := g39.fz
                          have q39 := bd_add (c := 3) q30 q38 (by decide)
                          exact (by
                            refine l_step (y_assignV (et g0 rfl)) ?_
                            refine l_nil ?_
                            refine hK37 _ _ ?_
                            refine fg4 2 0 7 8 (gS rfl (gS rfl (gS rfl (gS rfl (gS rfl (gS rfl (gS rfl (gS rfl (gS rfl g0))))))))) (gS rfl (gS rfl (gS rfl (gS rfl (gS rfl (gS rfl (gS rfl (gS rfl g0)))))))) (gS rfl (gS rfl (gS rfl (gS rfl (gS rfl (gS rfl (gS rfl g0))))))) g0 (fun g => ?_)
                            refine c_seq (fun K40 hK40 => ?_)
                            exact (by
                              refine fgv4 0 2 7 8 (gS rfl (gS rfl g0)) (gS rfl (gS rfl (gS rfl g0))) (gS rfl g0) g0 (fun g z0 z2 z7 z8 e0 e2 e7 e8 => ?_)
                              refine c_drawJ (fun s_ w_ => ∃ (g : Nat → Value) (b43 : Nat) (ca41 : List Value), s_ = (upd (upd (upd g 2 z2) 8 z8) 9 (.pointer (some ⟨b43, 0, none⟩))) ∧ Ch (fun _ => False) w39 w_ ∧ w39.heap.size ≤ b43 ∧ Blk w_ b43 (ca41.toArray) ∧ (PA H39 ca41 (acctAt s.now.accts (yT f 1)))) Up 6 (.pure 0 (.pure 1 (.pure 2 (.pure 3 (.two 4 (.eff 5 (.eff 6 .fin)) 5 (.eff 4 (.eff 6 .fin))))))) (by kernel_rfl) (fun w44 hu => ⟨Up.refl _, ?_⟩) ?_
                              · skip
                                subst e0 e2 e7 e8
                                replace G := G.tr (Go.ofUp hF hu)
                                replace hF := hF.up hu
                                replace k26 := k26.up hu
                                replace kS := kS.up hu
                                replace kF := kF.up hu
                                replace U := U.tr hu
                                have SU := Up.refl w44
                                have V42 : Ch (fun _ => False) w39 w44 := hu
                                refine t_step (by exact rfl) (y_moveV (et (gS rfl (gS rfl (gS rfl g0))) rfl)) ?_
                                refine t_step (by exact rfl) (y_nil (et g0 rfl)) ?_
                                refine t_step (by exact rfl) (y_fld fld_102_0 (et g0 rfl)) ?_
                                refine t_step (by exact rfl) (y_loadB agg_25 sz_25 (et (gS rfl (gS rfl (gS rfl (gS rfl g0)))) rfl) (by rw [List.size_toArray, length_bL, length_be]) (atSB k26)) ?_
                                refine t_two ?_ ?_
                                · skip
                                  refine t_eff (by exact rfl) (e_callV cal_43 (aC (et (gS rfl g0) rfl) (aC (et g0 rfl) aN)) (yp_account _ _ _ _ _ _ _ _ _ hF kS (rS 0 _ rfl) (hAc.mono hL0) (Nat.mod_lt _ A160_pos) (by omega))) (fun v45 w45 h45 => ?_)
                                  obtain ⟨c45, rfl, p45, u45⟩ := h45
                                  replace G := G.tr (Go.ofUp hF u45)
                                  replace hF := hF.up u45
                                  replace k26 := k26.up u45
                                  replace kS := kS.up u45
                                  replace kF := kF.up u45
                                  replace U := U.tr u45
                                  replace V42 := V42.tr u45
                                  replace p45 : PA _ _ _ := ⟨p45⟩
                                  refine ⟨.inr (SU.tr u45), ?_⟩
                                  replace SU := SU.tr u45
                                  refine t_one ?_
                                  refine t_eff (by exact rfl) (e_alloc zr_107) (fun v46 w46 h46 => ?_)
                                  obtain ⟨b46, rfl, n46⟩ := h46
                                  have d26_46 : b26 < b46 := Nat.lt_of_lt_of_le k26.lt n46.fresh
                                  have f46 : w.heap.size ≤ b46 := Nat.le_trans U.size n46.fresh
                                  have nb46 := hF.nb n46.fresh
                                  have fS46 := Nat.le_trans SU.size n46.fresh
                                  have fV42_46 := Nat.le_trans V42.size n46.fresh
                                  replace G := G.tr (Go.ofUp hF n46.up)
                                  replace hF := hF.up n46.up
                                  replace k26 := k26.up n46.up
                                  replace kS := kS.up n46.up
                                  replace kF := kF.up n46.up
                                  replace U := U.tr n46.up
                                  replace V42 := V42.tr n46.up
                                  have k46 := n46.blk
                                  refine ⟨.inr (SU.tr n46.up), ?_⟩
                                  replace SU := SU.tr n46.up
                                  refine t_one ?_
                                  refine t_effN (by exact rfl) (e_store sz_107 (et g0 rfl) (cellsV (et (gS rfl g0) rfl) rfl) (acct_len p45.p) (by exact acct_one p45.p) k46 (by exact Nat.le_of_ble_eq_true rfl)) (fun v47 w47 h47 => ?_)
                                  obtain ⟨rfl, x47⟩ := h47
                                  replace k26 := k26.ch x47.ch (by omega)
                                  replace kS := kS.ch x47.ch (by first | omega | (omega))
                                  replace kF := kF.ch x47.ch (by first | omega | (omega))
                                  replace k46 := x47.blk.full (by rw [acct_len p45.p]; rfl)
                                  replace G := G.wr x47 (by first | exact .inr f46 | omega | (simp; omega)) nb46
                                  replace hF := G.fz
                                  replace U := U.st x47 f46
                                  replace V42 := V42.st x47 (by omega)
                                  refine ⟨.inl rfl, ?_⟩
                                  refine tl3 2 8 9 (gS rfl (gS rfl (gS rfl (gS rfl (gS rfl (gS rfl (gS rfl (gS rfl g0)))))))) (gS rfl (gS rfl (gS rfl (gS rfl (gS rfl (gS rfl g0)))))) g0 (fun g => ?_)
                                  exact ⟨g, _, _, rfl, V42, Nat.le_trans hu.size fS46, k46, p45⟩
                                · skip
                                  refine t_eff (by exact rfl) (e_alloc zr_107) (fun v48 w48 h48 => ?_)
                                  obtain ⟨b48, rfl, n48⟩ := h48
                                  have d26_48 : b26 < b48 := Nat.lt_of_lt_of_le k26.lt n48.fresh
                                  have f48 : w.heap.size ≤ b48 := Nat.le_trans U.size n48.fresh
                                  have nb48 := hF.nb n48.fresh
                                  have fS48 := Nat.le_trans SU.size n48.fresh
                                  have fV42_48 := Nat.le_trans V42.size n48.fresh
                                  replace G := G.tr (Go.ofUp hF n48.up)
                                  replace hF := hF.up n48.up
                                  replace k26 := k26.up n48.up
                                  replace kS := kS.up n48.up
                                  replace kF := kF.up n48.up
                                  replace U := U.tr n48.up
                                  replace V42 := V42.tr n48.up
                                  have k48 := n48.blk
                                  refine ⟨.inr (SU.tr n48.up), ?_⟩
                                  replace SU := SU.tr n48.up
                                  refine t_one ?_
                                  refine t_eff (by exact rfl) (e_callV cal_43 (aC (et (gS rfl (gS rfl g0)) rfl) (aC (et (gS rfl g0) rfl) aN)) (yp_account _ _ _ _ _ _ _ _ _ hF kS (rS 0 _ rfl) (hAc.mono hL0) (Nat.mod_lt _ A160_pos) (by omega))) (fun v49 w49 h49 => ?_)
                                  obtain ⟨c49, rfl, p49, u49⟩ := h49
                                  replace G := G.tr (Go.ofUp hF u49)
                                  replace hF := hF.up u49
                                  replace k26 := k26.up u49
                                  replace k48 := k48.up u49
                                  replace kS := kS.up u49
                                  replace kF := kF.up u49
                                  replace U := U.tr u49
                                  replace V42 := V42.tr u49
                                  replace p49 : PA _ _ _ := ⟨p49⟩
                                  refine ⟨.inr (SU.tr u49), ?_⟩
                                  replace SU := SU.tr u49
                                  refine t_one ?_
                                  refine t_effN (by exact rfl) (e_store sz_107 (et (gS rfl g0) rfl) (cellsV (et g0 rfl) rfl) (acct_len p49.p) (by exact acct_one p49.p) k48 (by exact Nat.le_of_ble_eq_true rfl)) (fun v50 w50 h50 => ?_)
                                  obtain ⟨rfl, x50⟩ := h50
                                  replace k26 := k26.ch x50.ch (by omega)
                                  replace kS := kS.ch x50.ch (by first | omega | (omega))
                                  replace kF := kF.ch x50.ch (by first | omega | (omega))
                                  replace k48 := x50.blk.full (by rw [acct_len p49.p]; rfl)
                                  replace G := G.wr x50 (by first | exact .inr f48 | omega | (simp; omega)) nb48
                                  replace hF := G.fz
                                  replace U := U.st x50 f48
                                  replace V42 := V42.st x50 (by omega)
                                  refine ⟨.inl rfl, ?_⟩
                                  refine tl3 2 8 9 (gS rfl (gS rfl (gS rfl (gS rfl (gS rfl (gS rfl (gS rfl (gS rfl g0)))))))) (gS rfl (gS rfl (gS rfl (gS rfl (gS rfl (gS rfl g0)))))) (gS rfl g0) (fun g => ?_)
                                  exact ⟨g, _, _, rfl, V42, Nat.le_trans hu.size fS48, k48, p49⟩
                              intro s_ w51 hJ
                              obtain ⟨g, b43, ca41, rfl, V42, fn43, kn43, pa41⟩ := hJ
                              subst e0 e2 e7 e8
                              have d26_43 : b26 < b43 := Nat.lt_of_lt_of_le k26.lt fn43
                              have f43 : w.heap.size ≤ b43 := Nat.le_trans U.size fn43
                              have nb43 := hF.nb fn43
                              replace G := G.tr (Go.ofUp hF V42)
                              replace hF := hF.up V42
                              replace k26 := k26.up V42
                              replace kS := kS.up V42
                              replace kF := kF.up V42
                              replace U := U.tr V42
                              have k43 := kn43
                              refine hK40 _ _ ?_
                              refine c_seq (fun K52 hK52 => ?_)
                              exact (by
                                refine c_region ?_
                                refine l_step (y_moveV (et (gS rfl (gS rfl g0)) rfl)) ?_
                                refine l_step (y_eql (et g0 rfl) rfl) ?_
                                refine l_step (y_moveV (et g0 rfl)) ?_
                                refine gsplitL (i := 59) g0 (fun q53 => ?_) (fun q53 => ?_)
                                · skip
                                  simp only [Bool.or_eq_true, decide_eq_true_eq] at q53
                                  refine l_geff (j := 2) (t := 59) (by exact rfl) (by exact rfl) (et g0 rfl) rfl (e_callV cal_23 (aC (et (gS rfl (gS rfl (gS rfl (gS rfl g0)))) rfl) aN) (yp_empty _ _ _ _ _ hF k43 pa41.p)) (fun v54 w54 h54 => ?_)
                                  obtain ⟨rfl, u54⟩ := h54
                                  replace G := G.tr (Go.ofUp hF u54)
                                  replace hF := hF.up u54
                                  replace k26 := k26.up u54
                                  replace k43 := k43.up u54
                                  replace kS := kS.up u54
                                  replace kF := kF.up u54
                                  replace U := U.tr u54
                                  refine l_step (y_pickT (et (gS rfl g0) rfl) (et g0 rfl)) ?_
                                  refine l_nil ?_
                                  refine hK52 _ _ ?_
                                  refine fg2 8 61 (gS rfl (gS rfl (gS rfl (gS rfl (gS rfl (gS rfl (gS rfl g0))))))) g0 (fun g => ?_)
                                  refine c_condV (i := 61) g0 rfl (fun cB4 => ?_) (fun cB4 => ?_)
                                  · skip
                                    
                                    exact (by
                                      refine c_region ?_
                                      refine l_step (y_moveV (et (gS rfl (gS rfl g0)) rfl)) ?_
                                      refine l_eff (e_callV cal_32 (aC (v := .int .u64 ((25000 : Nat) : Int)) rfl aN) (yp_num (x := 25000) hF (by decide))) (fun v56 w56 h56 => ?_)
                                      obtain ⟨H56, g56, n56⟩ := h56
                                      have hlew56 := g56.le
                                      replace nb26 := g56.nb nb26 k26.lt
                                      replace nb43 := g56.nb nb43 k43.lt
                                      replace n24 := n24.mono hlew56
                                      replace n30 := n30.mono hlew56
                                      replace n34 := n34.mono hlew56
                                      replace n38 := n38.mono hlew56
                                      replace n39 := n39.mono hlew56
                                      replace pa41 := pa41.mono hlew56
                                      replace hL0 := hL0.trans hlew56
                                      replace k26 := k26.up g56.up
                                      replace k43 := k43.up g56.up
                                      replace kS := kS.up g56.up
                                      replace kF := kF.up g56.up
                                      replace U := U.tr g56.up
                                      replace G := G.tr g56
                                      replace hF := g56.fz
                                      have q56 : 25000 < 256 ^ 2 := by decide
                                      refine l_eff (e_callV cal_34 (aC (et (gS rfl g0) rfl) (aC (et g0 rfl) aN)) (nat_add hF n39 n56 (bd_sm q39 (by decide)) (bd_sm q56 (by decide)))) (fun v57 w57 h57 => ?_)
                                      obtain ⟨H57, g57, n57⟩ := h57
                                      have hlew57 := g57.le
                                      replace nb26 := g57.nb nb26 k26.lt
                                      replace nb43 := g57.nb nb43 k43.lt
                                      replace n24 := n24.mono hlew57
                                      replace n30 := n30.mono hlew57
                                      replace n34 := n34.mono hlew57
                                      replace n38 := n38.mono hlew57
                                      replace n39 := n39.mono hlew57
                                      replace pa41 := pa41.mono hlew57
                                      replace n56 := n56.mono hlew57
                                      replace hL0 := hL0.trans hlew57
                                      replace k26 := k26.up g57.up
                                      replace k43 := k43.up g57.up
                                      replace kS := kS.up g57.up
                                      replace kF := kF.up g57.up
                                      replace U := U.tr g57.up
                                      replace G := G.tr g57
                                      replace hF := g57.fz
                                      have q57 := bd_add (c := 4) q39 q56 (by decide)
                                      exact (by
                                        refine l_step (y_assignV (et g0 rfl)) ?_
                                        refine l_nil ?_
                                        refine hK31 _ _ ?_
                                        refine fg1 8 g0 (fun g => ?_)
                                        refine c_seq (fun K58 hK58 => ?_)
                                        exact (by
                                          refine c_region ?_
                                          refine l_step (y_moveV (et g0 rfl)) ?_
                                          refine l_step (y_assignV (et g0 rfl)) ?_
                                          refine l_nil ?_
                                          refine hK58 _ _ ?_
                                          refine fg1 6 g0 (fun g => ?_)
                                          refine c_ret ?_
                                          repeat with_reducible refine then_ret ?_
                                          refine ret1 rfl (res_tmp (et g0 rfl)) ?_
                                          exact ⟨_, G, nvb (n := 4) n57 q57 (by decide) (by rw [eCost, if_neg (by omega), if_neg (by omega), if_pos (by omega), if_pos ⟨by omega, cB4⟩]; try rfl)⟩)))
                                  · skip
                                    
                                    refine c_skip ?_
                                    refine hK31 _ _ ?_
                                    refine fg1 8 (gS rfl (gS rfl g0)) (fun g => ?_)
                                    refine c_seq (fun K59 hK59 => ?_)
                                    exact (by
                                      refine c_region ?_
                                      refine l_step (y_moveV (et g0 rfl)) ?_
                                      refine l_step (y_assignV (et g0 rfl)) ?_
                                      refine l_nil ?_
                                      refine hK59 _ _ ?_
                                      refine fg1 6 g0 (fun g => ?_)
                                      refine c_ret ?_
                                      repeat with_reducible refine then_ret ?_
                                      refine ret1 rfl (res_tmp (et g0 rfl)) ?_
                                      exact ⟨_, G, nvb (n := 3) n39 q39 (by decide) (by rw [eCost, if_neg (by omega), if_neg (by omega), if_pos (by omega), if_neg (by first | omega | (intro hh; rw [hh.2] at cB4; cases cB4))]; try rfl)⟩)
                                · skip
                                  simp only [Bool.or_eq_false_iff, decide_eq_false_iff_not] at q53
                                  refine l_gskip (j := 2) (t := 59) (by exact rfl) (by exact rfl) (et g0 rfl) (by decide) (by decide) ?_
                                  refine l_step (y_pickF (et (gS rfl g0) rfl) rfl) ?_
                                  refine l_nil ?_
                                  refine hK52 _ _ ?_
                                  refine fg2 8 61 (gS rfl (gS rfl (gS rfl (gS rfl (gS rfl (gS rfl (gS rfl g0))))))) g0 (fun g => ?_)
                                  refine c_false (et g0 rfl) rfl ?_
                                  refine c_skip ?_
                                  refine hK31 _ _ ?_
                                  refine fg1 8 (gS rfl g0) (fun g => ?_)
                                  refine c_seq (fun K61 hK61 => ?_)
                                  exact (by
                                    refine c_region ?_
                                    refine l_step (y_moveV (et g0 rfl)) ?_
                                    refine l_step (y_assignV (et g0 rfl)) ?_
                                    refine l_nil ?_
                                    refine hK61 _ _ ?_
                                    refine fg1 6 g0 (fun g => ?_)
                                    refine c_ret ?_
                                    repeat with_reducible refine then_ret ?_
                                    refine ret1 rfl (res_tmp (et g0 rfl)) ?_
                                    exact ⟨_, G, nvb (n := 3) n39 q39 (by decide) (by rw [eCost, if_neg (by omega), if_neg (by omega), if_pos (by omega), if_neg (by first | omega | (intro hh; rw [hh.2] at cB4; cases cB4))]; try rfl)⟩)))))
                      · skip
                        simp only [Bool.not_eq_true', decide_eq_false_iff_not, Bool.not_eq_false', decide_eq_true_eq] at cB3
                        refine c_skip ?_
                        refine hK31 _ _ ?_
                        refine fg1 8 (gS rfl (gS rfl g0)) (fun g => ?_)
                        refine c_seq (fun K62 hK62 => ?_)
                        exact (by
                          refine c_region ?_
                          refine l_step (y_moveV (et g0 rfl)) ?_
                          refine l_step (y_assignV (et g0 rfl)) ?_
                          refine l_nil ?_
                          refine hK62 _ _ ?_
                          refine fg1 6 g0 (fun g => ?_)
                          refine c_ret ?_
                          repeat with_reducible refine then_ret ?_
                          refine ret1 rfl (res_tmp (et g0 rfl)) ?_
                          exact ⟨_, G, nvb (n := 2) n30 q30 (by decide) (by rw [eCost, if_neg (by omega), if_neg (by omega), if_neg (by omega)]; try rfl)⟩)
                    · skip
                      simp only [Bool.or_eq_false_iff, decide_eq_false_iff_not] at q33
                      refine l_gskip (j := 6) (t := 43) (by exact rfl) (by exact rfl) (et g0 rfl) (by decide) (by decide) ?_
                      refine l_gskip (j := 6) (t := 43) (by exact rfl) (by exact rfl) (et (gS rfl g0) rfl) (by decide) (by decide) ?_
                      refine l_gskip (j := 6) (t := 43) (by exact rfl) (by exact rfl) (et (gS rfl (gS rfl g0)) rfl) (by decide) (by decide) ?_
                      refine l_gskip (j := 6) (t := 43) (by exact rfl) (by exact rfl) (et (gS rfl (gS rfl (gS rfl g0))) rfl) (by decide) (by decide) ?_
                      refine l_step (y_pickF (et (gS rfl (gS rfl (gS rfl (gS rfl g0)))) rfl) rfl) ?_
                      refine l_nil ?_
                      refine hK32 _ _ ?_
                      refine fg5 2 0 7 8 48 (gS rfl (gS rfl (gS rfl (gS rfl (gS rfl (gS rfl (gS rfl (gS rfl (gS rfl (gS rfl (gS rfl (gS rfl (gS rfl (gS rfl (gS rfl (gS rfl (gS rfl g0))))))))))))))))) (gS rfl (gS rfl (gS rfl (gS rfl (gS rfl (gS rfl (gS rfl (gS rfl (gS rfl (gS rfl (gS rfl (gS rfl (gS rfl (gS rfl (gS rfl g0))))))))))))))) (gS rfl (gS rfl (gS rfl (gS rfl (gS rfl (gS rfl (gS rfl (gS rfl (gS rfl (gS rfl (gS rfl (gS rfl (gS rfl (gS rfl g0)))))))))))))) (gS rfl (gS rfl (gS rfl (gS rfl (gS rfl (gS rfl (gS rfl (gS rfl (gS rfl (gS rfl (gS rfl (gS rfl (gS rfl g0))))))))))))) g0 (fun g => ?_)
                      refine c_false (et g0 rfl) rfl ?_
                      refine c_skip ?_
                      refine hK31 _ _ ?_
                      refine fg1 8 (gS rfl g0) (fun g => ?_)
                      refine c_seq (fun K64 hK64 => ?_)
                      exact (by
                        refine c_region ?_
                        refine l_step (y_moveV (et g0 rfl)) ?_
                        refine l_step (y_assignV (et g0 rfl)) ?_
                        refine l_nil ?_
                        refine hK64 _ _ ?_
                        refine fg1 6 g0 (fun g => ?_)
                        refine c_ret ?_
                        repeat with_reducible refine then_ret ?_
                        refine ret1 rfl (res_tmp (et g0 rfl)) ?_
                        exact ⟨_, G, nvb (n := 2) n30 q30 (by decide) (by rw [eCost, if_neg (by omega), if_neg (by omega), if_neg (by omega)]; try rfl)⟩))))))))
theorem yp_bareCost {w : World} {H : Store} (hF : Fz w H) (bs : Nat) (cs : Array Value) (s : YSt) (vf : Value) (kS : Blk w bs cs) (hs : SC H cs s vf) (bf o : Nat) (fs : Array Value) (f : YF) (vm : Value) (kF : Blk w bf fs) (hf : FC H fs o f vm) (q : Nat) (hq : q < 256) :
    Ret 223 [.pointer (some ⟨bs, 0, none⟩), .pointer (some ⟨bf, o, none⟩), .int .u8 q] w (fun v w' => ∃ H', Go No w H w' H' ∧ NV H' v (bareN s f q) ∧ bareN s f q < 256 ^ 34) := by
  obtain ⟨aa, ac, wa, wc, sa, sc, vr, la, lc, ta, tc, ma, mc, ga, gc, oa, oc, ra, rc, vlim, vtx, vleft, vpr, vtot, rS, rOr, rMd, hAc, hWA, hWS, hRf, hTm, hMd, hGn, hSr, hRt, hLm, hTx, hLf, hPr, hTt⟩ := hs.ex
  have so := hs.ok
  have so1 := so.accts
  have so2 := so.warmA
  have so3 := so.warmS
  have so4 := so.temps
  have so5 := so.start
  have so6 := so.logs
  have so7 := so.made
  have so8 := so.gone
  have so9 := so.ret
  have eC := hs.env
  obtain ⟨vpc, vgas, vval, voo, vol, ka, kc, ca, cc, ia, ic, svc, rF, rSe, rCa, rSv, hSv, hPc, hGa, hVa, hOo, hOl, hSt, hCo, hIn⟩ := hf.ex
  have fo := hf.ok
  have fo1 := fo.stack
  have fo2 := fo.code
  have fo3 := fo.input
  have fo4 := fo.mem
  have lS := kS.lt
  have lF := kF.lt
  refine enter (n := 201) Hvaa.func223 rfl rfl (Nat.le_of_ble_eq_true rfl) ?_
  have U := Up.refl w
  have G : Go (No) w H w H := Go.refl hF
  have hL0 : Le H H := Le.refl H
  refine c_seq (fun K1 hK1 => ?_)
  exact (by
    refine c_region ?_
    refine l_step y_assignC ?_
    refine l_nil ?_
    refine hK1 _ _ ?_
    refine fg3 2 1 0 (gS rfl (gS rfl (gS rfl g0))) (gS rfl (gS rfl g0)) (gS rfl g0) (fun g => ?_)
    refine c_seq (fun K2 hK2 => ?_)
    refine c_block (fun Q3 hQ3 => ?_)
    refine c_seq (fun K4 hK4 => ?_)
    refine c_seq (fun K5 hK5 => ?_)
    exact (by
      refine c_region ?_
      refine l_step (y_moveV (et (gS rfl (gS rfl g0)) rfl)) ?_
      refine l_step (y_geq (et g0 rfl) rfl) ?_
      refine l_step (y_moveV (et g0 rfl)) ?_
      refine l_gpure (j := 2) (t := 13) (by exact rfl) (by exact rfl) (et g0 rfl) rfl (fun hc => (y_moveV (et (gS rfl (gS rfl (gS rfl (gS rfl (gS rfl g0))))) rfl))) ?_
      refine l_gpure (j := 2) (t := 13) (by exact rfl) (by exact rfl) (et (gS rfl g0) rfl) rfl (fun hc => (y_leq (et (cT g0 hc) rfl) rfl)) ?_
      refine l_step (y_pickA (et (gS rfl (gS rfl g0)) rfl) (et g0 rfl) rfl) ?_
      refine l_step (y_assignV (et g0 rfl)) ?_
      refine l_nil ?_
      refine hK5 _ _ ?_
      refine fg4 2 1 0 10 (gS rfl (gS rfl (gS rfl (gS rfl (gS rfl (gS rfl (gS rfl (gS rfl (gS rfl g0))))))))) (gS rfl (gS rfl (gS rfl (gS rfl (gS rfl (gS rfl (gS rfl (gS rfl g0)))))))) (gS rfl (gS rfl (gS rfl (gS rfl (gS rfl (gS rfl (gS rfl g0))))))) g0 (fun g => ?_)
      refine c_condV (i := 10) g0 rfl (fun cB1 => ?_) (fun cB1 => ?_)
      · skip
        simp only [Bool.and_eq_true, Bool.or_eq_true, Bool.and_eq_false_imp, Bool.or_eq_false_iff, decide_eq_true_eq, decide_eq_false_iff_not] at cB1
        refine c_skip ?_
        refine hK4 _ _ ?_
        refine fg4 2 1 0 10 (gS rfl (gS rfl (gS rfl (gS rfl g0)))) (gS rfl (gS rfl (gS rfl g0))) (gS rfl (gS rfl g0)) g0 (fun g => ?_)
        refine c_true (et g0 rfl) rfl ?_
        refine c_seq (fun K8 hK8 => ?_)
        exact (by
          refine c_region ?_
          refine l_eff (e_callV cal_32 (aC (v := .int .u64 ((3 : Nat) : Int)) rfl aN) (yp_num (x := 3) hF (by decide))) (fun v9 w9 h9 => ?_)
          obtain ⟨H9, g9, n9⟩ := h9
          have hlew9 := g9.le
          replace hL0 := hL0.trans hlew9
          replace kS := kS.up g9.up
          replace kF := kF.up g9.up
          replace U := U.tr g9.up
          replace G := G.tr g9
          replace hF := g9.fz
          have q9 : 3 < 256 ^ 1 := by decide
          refine l_step (y_assignV (et g0 rfl)) ?_
          refine l_nil ?_
          refine hK8 _ _ ?_
          refine fg1 6 g0 (fun g => ?_)
          refine c_ret ?_
          refine hQ3 _ _ _ (in_ret ?_)
          repeat with_reducible refine then_ret ?_
          refine ret1 rfl (res_tmp (et g0 rfl)) ?_
          exact ⟨_, G, nvb (n := 1) n9 q9 (by decide) (by rw [bareN, if_pos (by omega)]; try rfl)⟩)
      · skip
        simp only [Bool.and_eq_true, Bool.or_eq_true, Bool.and_eq_false_imp, Bool.or_eq_false_iff, decide_eq_true_eq, decide_eq_false_iff_not] at cB1
        refine c_seq (fun K10 hK10 => ?_)
        exact (by
          refine c_region ?_
          refine l_step (y_moveV (et (gS rfl (gS rfl (gS rfl (gS rfl g0)))) rfl)) ?_
          refine l_step (y_geq (et g0 rfl) rfl) ?_
          refine l_step (y_moveV (et g0 rfl)) ?_
          refine l_gpure (j := 2) (t := 19) (by exact rfl) (by exact rfl) (et g0 rfl) rfl (fun hc => (y_moveV (et (gS rfl (gS rfl (gS rfl (gS rfl (gS rfl (gS rfl (gS rfl g0))))))) rfl))) ?_
          refine l_gpure (j := 2) (t := 19) (by exact rfl) (by exact rfl) (et (gS rfl g0) rfl) rfl (fun hc => (y_leq (et (cT g0 hc) rfl) rfl)) ?_
          refine l_step (y_pickA (et (gS rfl (gS rfl g0)) rfl) (et g0 rfl) rfl) ?_
          refine l_step (y_assignV (et g0 rfl)) ?_
          refine l_nil ?_
          refine hK10 _ _ ?_
          refine fg4 2 1 0 10 (gS rfl (gS rfl (gS rfl (gS rfl (gS rfl (gS rfl (gS rfl (gS rfl (gS rfl (gS rfl (gS rfl g0))))))))))) (gS rfl (gS rfl (gS rfl (gS rfl (gS rfl (gS rfl (gS rfl (gS rfl (gS rfl (gS rfl g0)))))))))) (gS rfl (gS rfl (gS rfl (gS rfl (gS rfl (gS rfl (gS rfl (gS rfl (gS rfl g0))))))))) g0 (fun g => ?_)
          refine c_condV (i := 10) g0 rfl (fun cB2 => ?_) (fun cB2 => ?_)
          · skip
            simp only [Bool.and_eq_true, Bool.or_eq_true, Bool.and_eq_false_imp, Bool.or_eq_false_iff, decide_eq_true_eq, decide_eq_false_iff_not] at cB2
            refine c_skip ?_
            refine hK4 _ _ ?_
            refine fg4 2 1 0 10 (gS rfl (gS rfl (gS rfl (gS rfl g0)))) (gS rfl (gS rfl (gS rfl g0))) (gS rfl (gS rfl g0)) g0 (fun g => ?_)
            refine c_true (et g0 rfl) rfl ?_
            refine c_seq (fun K13 hK13 => ?_)
            exact (by
              refine c_region ?_
              refine l_eff (e_callV cal_32 (aC (v := .int .u64 ((3 : Nat) : Int)) rfl aN) (yp_num (x := 3) hF (by decide))) (fun v14 w14 h14 => ?_)
              obtain ⟨H14, g14, n14⟩ := h14
              have hlew14 := g14.le
              replace hL0 := hL0.trans hlew14
              replace kS := kS.up g14.up
              replace kF := kF.up g14.up
              replace U := U.tr g14.up
              replace G := G.tr g14
              replace hF := g14.fz
              have q14 : 3 < 256 ^ 1 := by decide
              refine l_step (y_assignV (et g0 rfl)) ?_
              refine l_nil ?_
              refine hK13 _ _ ?_
              refine fg1 6 g0 (fun g => ?_)
              refine c_ret ?_
              refine hQ3 _ _ _ (in_ret ?_)
              repeat with_reducible refine then_ret ?_
              refine ret1 rfl (res_tmp (et g0 rfl)) ?_
              exact ⟨_, G, nvb (n := 1) n14 q14 (by decide) (by rw [bareN, if_pos (by omega)]; try rfl)⟩)
          · skip
            simp only [Bool.and_eq_true, Bool.or_eq_true, Bool.and_eq_false_imp, Bool.or_eq_false_iff, decide_eq_true_eq, decide_eq_false_iff_not] at cB2
            refine c_seq (fun K15 hK15 => ?_)
            exact (by
              refine c_region ?_
              refine l_step (y_moveV (et (gS rfl (gS rfl (gS rfl (gS rfl g0)))) rfl)) ?_
              refine l_step (y_eql (et g0 rfl) rfl) ?_
              refine l_step (y_assignV (et g0 rfl)) ?_
              refine l_nil ?_
              refine hK15 _ _ ?_
              refine fg4 2 1 0 10 (gS rfl (gS rfl (gS rfl (gS rfl (gS rfl (gS rfl (gS rfl g0))))))) (gS rfl (gS rfl (gS rfl (gS rfl (gS rfl (gS rfl g0)))))) (gS rfl (gS rfl (gS rfl (gS rfl (gS rfl g0))))) g0 (fun g => ?_)
              refine c_condV (i := 10) g0 rfl (fun cB3 => ?_) (fun cB3 => ?_)
              · skip
                simp only [Bool.and_eq_true, Bool.or_eq_true, Bool.and_eq_false_imp, Bool.or_eq_false_iff, decide_eq_true_eq, decide_eq_false_iff_not] at cB3
                refine c_skip ?_
                refine hK4 _ _ ?_
                refine fg4 2 1 0 10 (gS rfl (gS rfl (gS rfl (gS rfl g0)))) (gS rfl (gS rfl (gS rfl g0))) (gS rfl (gS rfl g0)) g0 (fun g => ?_)
                refine c_true (et g0 rfl) rfl ?_
                refine c_seq (fun K18 hK18 => ?_)
                exact (by
                  refine c_region ?_
                  refine l_eff (e_callV cal_32 (aC (v := .int .u64 ((3 : Nat) : Int)) rfl aN) (yp_num (x := 3) hF (by decide))) (fun v19 w19 h19 => ?_)
                  obtain ⟨H19, g19, n19⟩ := h19
                  have hlew19 := g19.le
                  replace hL0 := hL0.trans hlew19
                  replace kS := kS.up g19.up
                  replace kF := kF.up g19.up
                  replace U := U.tr g19.up
                  replace G := G.tr g19
                  replace hF := g19.fz
                  have q19 : 3 < 256 ^ 1 := by decide
                  refine l_step (y_assignV (et g0 rfl)) ?_
                  refine l_nil ?_
                  refine hK18 _ _ ?_
                  refine fg1 6 g0 (fun g => ?_)
                  refine c_ret ?_
                  refine hQ3 _ _ _ (in_ret ?_)
                  repeat with_reducible refine then_ret ?_
                  refine ret1 rfl (res_tmp (et g0 rfl)) ?_
                  exact ⟨_, G, nvb (n := 1) n19 q19 (by decide) (by rw [bareN, if_pos (by omega)]; try rfl)⟩)
              · skip
                simp only [Bool.and_eq_true, Bool.or_eq_true, Bool.and_eq_false_imp, Bool.or_eq_false_iff, decide_eq_true_eq, decide_eq_false_iff_not] at cB3
                refine c_seq (fun K20 hK20 => ?_)
                exact (by
                  refine c_region ?_
                  refine l_step (y_moveV (et (gS rfl (gS rfl (gS rfl (gS rfl g0)))) rfl)) ?_
                  refine l_step (y_eql (et g0 rfl) rfl) ?_
                  refine l_step (y_assignV (et g0 rfl)) ?_
                  refine l_nil ?_
                  refine hK20 _ _ ?_
                  refine fg4 2 1 0 10 (gS rfl (gS rfl (gS rfl (gS rfl (gS rfl (gS rfl (gS rfl g0))))))) (gS rfl (gS rfl (gS rfl (gS rfl (gS rfl (gS rfl g0)))))) (gS rfl (gS rfl (gS rfl (gS rfl (gS rfl g0))))) g0 (fun g => ?_)
                  refine c_condV (i := 10) g0 rfl (fun cB4 => ?_) (fun cB4 => ?_)
                  · skip
                    simp only [Bool.and_eq_true, Bool.or_eq_true, Bool.and_eq_false_imp, Bool.or_eq_false_iff, decide_eq_true_eq, decide_eq_false_iff_not] at cB4
                    refine c_skip ?_
                    refine hK4 _ _ ?_
                    refine fg4 2 1 0 10 (gS rfl (gS rfl (gS rfl (gS rfl g0)))) (gS rfl (gS rfl (gS rfl g0))) (gS rfl (gS rfl g0)) g0 (fun g => ?_)
                    refine c_true (et g0 rfl) rfl ?_
                    refine c_seq (fun K23 hK23 => ?_)
                    exact (by
                      refine c_region ?_
                      refine l_eff (e_callV cal_32 (aC (v := .int .u64 ((3 : Nat) : Int)) rfl aN) (yp_num (x := 3) hF (by decide))) (fun v24 w24 h24 => ?_)
                      obtain ⟨H24, g24, n24⟩ := h24
                      have hlew24 := g24.le
                      replace hL0 := hL0.trans hlew24
                      replace kS := kS.up g24.up
                      replace kF := kF.up g24.up
                      replace U := U.tr g24.up
                      replace G := G.tr g24
                      replace hF := g24.fz
                      have q24 : 3 < 256 ^ 1 := by decide
                      refine l_step (y_assignV (et g0 rfl)) ?_
                      refine l_nil ?_
                      refine hK23 _ _ ?_
                      refine fg1 6 g0 (fun g => ?_)
                      refine c_ret ?_
                      refine hQ3 _ _ _ (in_ret ?_)
                      repeat with_reducible refine then_ret ?_
                      refine ret1 rfl (res_tmp (et g0 rfl)) ?_
                      exact ⟨_, G, nvb (n := 1) n24 q24 (by decide) (by rw [bareN, if_pos (by omega)]; try rfl)⟩)
                  · skip
                    simp only [Bool.and_eq_true, Bool.or_eq_true, Bool.and_eq_false_imp, Bool.or_eq_false_iff, decide_eq_true_eq, decide_eq_false_iff_not] at cB4
                    refine c_seq (fun K25 hK25 => ?_)
                    exact (by
                      refine c_region ?_
                      refine l_step (y_moveV (et (gS rfl (gS rfl (gS rfl (gS rfl g0)))) rfl)) ?_
                      refine l_step (y_eql (et g0 rfl) rfl) ?_
                      refine l_step (y_assignV (et g0 rfl)) ?_
                      refine l_nil ?_
                      refine hK25 _ _ ?_
                      refine fg4 2 1 0 10 (gS rfl (gS rfl (gS rfl (gS rfl (gS rfl (gS rfl (gS rfl g0))))))) (gS rfl (gS rfl (gS rfl (gS rfl (gS rfl (gS rfl g0)))))) (gS rfl (gS rfl (gS rfl (gS rfl (gS rfl g0))))) g0 (fun g => ?_)
                      refine c_condV (i := 10) g0 rfl (fun cB5 => ?_) (fun cB5 => ?_)
                      · skip
                        simp only [Bool.and_eq_true, Bool.or_eq_true, Bool.and_eq_false_imp, Bool.or_eq_false_iff, decide_eq_true_eq, decide_eq_false_iff_not] at cB5
                        refine c_skip ?_
                        refine hK4 _ _ ?_
                        refine fg4 2 1 0 10 (gS rfl (gS rfl (gS rfl (gS rfl g0)))) (gS rfl (gS rfl (gS rfl g0))) (gS rfl (gS rfl g0)) g0 (fun g => ?_)
                        refine c_true (et g0 rfl) rfl ?_
                        refine c_seq (fun K28 hK28 => ?_)
                        exact (by
                          refine c_region ?_
                          refine l_eff (e_callV cal_32 (aC (v := .int .u64 ((3 : Nat) : Int)) rfl aN) (yp_num (x := 3) hF (by decide))) (fun v29 w29 h29 => ?_)
                          obtain ⟨H29, g29, n29⟩ := h29
                          have hlew29 := g29.le
                          replace hL0 := hL0.trans hlew29
                          replace kS := kS.up g29.up
                          replace kF := kF.up g29.up
                          replace U := U.tr g29.up
                          replace G := G.tr g29
                          replace hF := g29.fz
                          have q29 : 3 < 256 ^ 1 := by decide
                          refine l_step (y_assignV (et g0 rfl)) ?_
                          refine l_nil ?_
                          refine hK28 _ _ ?_
                          refine fg1 6 g0 (fun g => ?_)
                          refine c_ret ?_
                          refine hQ3 _ _ _ (in_ret ?_)
                          repeat with_reducible refine then_ret ?_
                          refine ret1 rfl (res_tmp (et g0 rfl)) ?_
                          exact ⟨_, G, nvb (n := 1) n29 q29 (by decide) (by rw [bareN, if_pos (by omega)]; try rfl)⟩)
                      · skip
                        simp only [Bool.and_eq_true, Bool.or_eq_true, Bool.and_eq_false_imp, Bool.or_eq_false_iff, decide_eq_true_eq, decide_eq_false_iff_not] at cB5
                        refine c_region ?_
                        refine l_step (y_moveV (et (gS rfl (gS rfl (gS rfl (gS rfl g0)))) rfl)) ?_
                        refine l_step (y_geq (et g0 rfl) rfl) ?_
                        refine l_step (y_moveV (et g0 rfl)) ?_
                        refine l_gpure (j := 2) (t := 31) (by exact rfl) (by exact rfl) (et g0 rfl) rfl (fun hc => (y_moveV (et (gS rfl (gS rfl (gS rfl (gS rfl (gS rfl (gS rfl (gS rfl g0))))))) rfl))) ?_
                        refine l_gpure (j := 2) (t := 31) (by exact rfl) (by exact rfl) (et (gS rfl g0) rfl) rfl (fun hc => (y_leq (et (cT g0 hc) rfl) rfl)) ?_
                        refine l_step (y_pickA (et (gS rfl (gS rfl g0)) rfl) (et g0 rfl) rfl) ?_
                        refine l_step (y_assignV (et g0 rfl)) ?_
                        refine l_nil ?_
                        refine hK4 _ _ ?_
                        refine fg4 2 1 0 10 (gS rfl (gS rfl (gS rfl (gS rfl (gS rfl (gS rfl (gS rfl (gS rfl (gS rfl (gS rfl (gS rfl g0))))))))))) (gS rfl (gS rfl (gS rfl (gS rfl (gS rfl (gS rfl (gS rfl (gS rfl (gS rfl (gS rfl g0)))))))))) (gS rfl (gS rfl (gS rfl (gS rfl (gS rfl (gS rfl (gS rfl (gS rfl (gS rfl g0))))))))) g0 (fun g => ?_)
                        refine c_condV (i := 10) g0 rfl (fun cB6 => ?_) (fun cB6 => ?_)
                        · skip
                          simp only [Bool.and_eq_true, Bool.or_eq_true, Bool.and_eq_false_imp, Bool.or_eq_false_iff, decide_eq_true_eq, decide_eq_false_iff_not] at cB6
                          refine c_seq (fun K31 hK31 => ?_)
                          exact (by
                            refine c_region ?_
                            refine l_eff (e_callV cal_32 (aC (v := .int .u64 ((3 : Nat) : Int)) rfl aN) (yp_num (x := 3) hF (by decide))) (fun v32 w32 h32 => ?_)
                            obtain ⟨H32, g32, n32⟩ := h32
                            have hlew32 := g32.le
                            replace hL0 := hL0.trans hlew32
                            replace kS := kS.up g32.up
                            replace kF := kF.up g32.up
                            replace U := U.tr g32.up
                            replace G := G.tr g32
                            replace hF := g32.fz
                            have q32 : 3 < 256 ^ 1 := by decide
                            refine l_step (y_assignV (et g0 rfl)) ?_
                            refine l_nil ?_
                            refine hK31 _ _ ?_
                            refine fg1 6 g0 (fun g => ?_)
                            refine c_ret ?_
                            refine hQ3 _ _ _ (in_ret ?_)
                            repeat with_reducible refine then_ret ?_
                            refine ret1 rfl (res_tmp (et g0 rfl)) ?_
                            exact ⟨_, G, nvb (n := 1) n32 q32 (by decide) (by rw [bareN, if_pos (by omega)]; try rfl)⟩)
                        · skip
                          simp only [Bool.and_eq_true, Bool.or_eq_true, Bool.and_eq_false_imp, Bool.or_eq_false_iff, decide_eq_true_eq, decide_eq_false_iff_not] at cB6
                          refine c_seq (fun K33 hK33 => ?_)
                          refine c_seq (fun K34 hK34 => ?_)
                          exact (by
                            refine c_region ?_
                            refine l_step (y_moveV (et (gS rfl (gS rfl (gS rfl (gS rfl g0)))) rfl)) ?_
                            refine l_step (y_eql (et g0 rfl) rfl) ?_
                            refine l_step (y_assignV (et g0 rfl)) ?_
                            refine l_nil ?_
                            refine hK34 _ _ ?_
                            refine fg4 2 1 0 36 (gS rfl (gS rfl (gS rfl (gS rfl (gS rfl (gS rfl (gS rfl g0))))))) (gS rfl (gS rfl (gS rfl (gS rfl (gS rfl (gS rfl g0)))))) (gS rfl (gS rfl (gS rfl (gS rfl (gS rfl g0))))) g0 (fun g => ?_)
                            refine c_condV (i := 36) g0 rfl (fun cB7 => ?_) (fun cB7 => ?_)
                            · skip
                              simp only [Bool.and_eq_true, Bool.or_eq_true, Bool.and_eq_false_imp, Bool.or_eq_false_iff, decide_eq_true_eq, decide_eq_false_iff_not] at cB7
                              refine c_skip ?_
                              refine hK33 _ _ ?_
                              refine fg4 2 1 0 36 (gS rfl (gS rfl (gS rfl (gS rfl g0)))) (gS rfl (gS rfl (gS rfl g0))) (gS rfl (gS rfl g0)) g0 (fun g => ?_)
                              refine c_true (et g0 rfl) rfl ?_
                              refine c_seq (fun K37 hK37 => ?_)
                              exact (by
                                refine c_region ?_
                                refine l_eff (e_callV cal_32 (aC (v := .int .u64 ((5 : Nat) : Int)) rfl aN) (yp_num (x := 5) hF (by decide))) (fun v38 w38 h38 => ?_)
                                obtain ⟨H38, g38, n38⟩ := h38
                                have hlew38 := g38.le
                                replace hL0 := hL0.trans hlew38
                                replace kS := kS.up g38.up
                                replace kF := kF.up g38.up
                                replace U := U.tr g38.up
                                replace G := G.tr g38
                                replace hF := g38.fz
                                have q38 : 5 < 256 ^ 1 := by decide
                                refine l_step (y_assignV (et g0 rfl)) ?_
                                refine l_nil ?_
                                refine hK37 _ _ ?_
                                refine fg1 6 g0 (fun g => ?_)
                                refine c_ret ?_
                                refine hQ3 _ _ _ (in_ret ?_)
                                repeat with_reducible refine then_ret ?_
                                refine ret1 rfl (res_tmp (et g0 rfl)) ?_
                                exact ⟨_, G, nvb (n := 1) n38 q38 (by decide) (by rw [bareN, if_neg (by omega), if_pos (by omega)]; try rfl)⟩)
                            · skip
                              simp only [Bool.and_eq_true, Bool.or_eq_true, Bool.and_eq_false_imp, Bool.or_eq_false_iff, decide_eq_true_eq, decide_eq_false_iff_not] at cB7
                              refine c_seq (fun K39 hK39 => ?_)
                              exact (by
                                refine c_region ?_
                                refine l_step (y_moveV (et (gS rfl (gS rfl (gS rfl (gS rfl g0)))) rfl)) ?_
                                refine l_step (y_geq (et g0 rfl) rfl) ?_
                                refine l_step (y_moveV (et g0 rfl)) ?_
                                refine l_gpure (j := 2) (t := 41) (by exact rfl) (by exact rfl) (et g0 rfl) rfl (fun hc => (y_moveV (et (gS rfl (gS rfl (gS rfl (gS rfl (gS rfl (gS rfl (gS rfl g0))))))) rfl))) ?_
                                refine l_gpure (j := 2) (t := 41) (by exact rfl) (by exact rfl) (et (gS rfl g0) rfl) rfl (fun hc => (y_leq (et (cT g0 hc) rfl) rfl)) ?_
                                refine l_step (y_pickA (et (gS rfl (gS rfl g0)) rfl) (et g0 rfl) rfl) ?_
                                refine l_step (y_assignV (et g0 rfl)) ?_
                                refine l_nil ?_
                                refine hK39 _ _ ?_
                                refine fg4 2 1 0 36 (gS rfl (gS rfl (gS rfl (gS rfl (gS rfl (gS rfl (gS rfl (gS rfl (gS rfl (gS rfl (gS rfl g0))))))))))) (gS rfl (gS rfl (gS rfl (gS rfl (gS rfl (gS rfl (gS rfl (gS rfl (gS rfl (gS rfl g0)))))))))) (gS rfl (gS rfl (gS rfl (gS rfl (gS rfl (gS rfl (gS rfl (gS rfl (gS rfl g0))))))))) g0 (fun g => ?_)
                                refine c_condV (i := 36) g0 rfl (fun cB8 => ?_) (fun cB8 => ?_)
                                · skip
                                  simp only [Bool.and_eq_true, Bool.or_eq_true, Bool.and_eq_false_imp, Bool.or_eq_false_iff, decide_eq_true_eq, decide_eq_false_iff_not] at cB8
                                  refine c_skip ?_
                                  refine hK33 _ _ ?_
                                  refine fg4 2 1 0 36 (gS rfl (gS rfl (gS rfl (gS rfl g0)))) (gS rfl (gS rfl (gS rfl g0))) (gS rfl (gS rfl g0)) g0 (fun g => ?_)
                                  refine c_true (et g0 rfl) rfl ?_
                                  refine c_seq (fun K42 hK42 => ?_)
                                  exact (by
                                    refine c_region ?_
                                    refine l_eff (e_callV cal_32 (aC (v := .int .u64 ((5 : Nat) : Int)) rfl aN) (yp_num (x := 5) hF (by decide))) (fun v43 w43 h43 => ?_)
                                    obtain ⟨H43, g43, n43⟩ := h43
                                    have hlew43 := g43.le
                                    replace hL0 := hL0.trans hlew43
                                    replace kS := kS.up g43.up
                                    replace kF := kF.up g43.up
                                    replace U := U.tr g43.up
                                    replace G := G.tr g43
                                    replace hF := g43.fz
                                    have q43 : 5 < 256 ^ 1 := by decide
                                    refine l_step (y_assignV (et g0 rfl)) ?_
                                    refine l_nil ?_
                                    refine hK42 _ _ ?_
                                    refine fg1 6 g0 (fun g => ?_)
                                    refine c_ret ?_
                                    refine hQ3 _ _ _ (in_ret ?_)
                                    repeat with_reducible refine then_ret ?_
                                    refine ret1 rfl (res_tmp (et g0 rfl)) ?_
                                    exact ⟨_, G, nvb (n := 1) n43 q43 (by decide) (by rw [bareN, if_neg (by omega), if_pos (by omega)]; try rfl)⟩)
                                · skip
                                  simp only [Bool.and_eq_true, Bool.or_eq_true, Bool.and_eq_false_imp, Bool.or_eq_false_iff, decide_eq_true_eq, decide_eq_false_iff_not] at cB8
                                  refine c_seq (fun K44 hK44 => ?_)
                                  exact (by
                                    refine c_region ?_
                                    refine l_step (y_moveV (et (gS rfl (gS rfl (gS rfl (gS rfl g0)))) rfl)) ?_
                                    refine l_step (y_eql (et g0 rfl) rfl) ?_
                                    refine l_step (y_assignV (et g0 rfl)) ?_
                                    refine l_nil ?_
                                    refine hK44 _ _ ?_
                                    refine fg4 2 1 0 36 (gS rfl (gS rfl (gS rfl (gS rfl (gS rfl (gS rfl (gS rfl g0))))))) (gS rfl (gS rfl (gS rfl (gS rfl (gS rfl (gS rfl g0)))))) (gS rfl (gS rfl (gS rfl (gS rfl (gS rfl g0))))) g0 (fun g => ?_)
                                    refine c_condV (i := 36) g0 rfl (fun cB9 => ?_) (fun cB9 => ?_)
                                    · skip
                                      simp only [Bool.and_eq_true, Bool.or_eq_true, Bool.and_eq_false_imp, Bool.or_eq_false_iff, decide_eq_true_eq, decide_eq_false_iff_not] at cB9
                                      refine c_skip ?_
                                      refine hK33 _ _ ?_
                                      refine fg4 2 1 0 36 (gS rfl (gS rfl (gS rfl (gS rfl g0)))) (gS rfl (gS rfl (gS rfl g0))) (gS rfl (gS rfl g0)) g0 (fun g => ?_)
                                      refine c_true (et g0 rfl) rfl ?_
                                      refine c_seq (fun K47 hK47 => ?_)
                                      exact (by
                                        refine c_region ?_
                                        refine l_eff (e_callV cal_32 (aC (v := .int .u64 ((5 : Nat) : Int)) rfl aN) (yp_num (x := 5) hF (by decide))) (fun v48 w48 h48 => ?_)
                                        obtain ⟨H48, g48, n48⟩ := h48
                                        have hlew48 := g48.le
                                        replace hL0 := hL0.trans hlew48
                                        replace kS := kS.up g48.up
                                        replace kF := kF.up g48.up
                                        replace U := U.tr g48.up
                                        replace G := G.tr g48
                                        replace hF := g48.fz
                                        have q48 : 5 < 256 ^ 1 := by decide
                                        refine l_step (y_assignV (et g0 rfl)) ?_
                                        refine l_nil ?_
                                        refine hK47 _ _ ?_
                                        refine fg1 6 g0 (fun g => ?_)
                                        refine c_ret ?_
                                        refine hQ3 _ _ _ (in_ret ?_)
                                        repeat with_reducible refine then_ret ?_
                                        refine ret1 rfl (res_tmp (et g0 rfl)) ?_
                                        exact ⟨_, G, nvb (n := 1) n48 q48 (by decide) (by rw [bareN, if_neg (by omega), if_pos (by omega)]; try rfl)⟩)
                                    · skip
                                      simp only [Bool.and_eq_true, Bool.or_eq_true, Bool.and_eq_false_imp, Bool.or_eq_false_iff, decide_eq_true_eq, decide_eq_false_iff_not] at cB9
                                      refine c_region ?_
                                      refine l_step (y_moveV (et (gS rfl (gS rfl (gS rfl (gS rfl g0)))) rfl)) ?_
                                      refine l_step (y_eql (et g0 rfl) rfl) ?_
                                      refine l_step (y_assignV (et g0 rfl)) ?_
                                      refine l_nil ?_
                                      refine hK33 _ _ ?_
                                      refine fg4 2 1 0 36 (gS rfl (gS rfl (gS rfl (gS rfl (gS rfl (gS rfl (gS rfl g0))))))) (gS rfl (gS rfl (gS rfl (gS rfl (gS rfl (gS rfl g0)))))) (gS rfl (gS rfl (gS rfl (gS rfl (gS rfl g0))))) g0 (fun g => ?_)
                                      refine c_condV (i := 36) g0 rfl (fun cB10 => ?_) (fun cB10 => ?_)
                                      · skip
                                        simp only [Bool.and_eq_true, Bool.or_eq_true, Bool.and_eq_false_imp, Bool.or_eq_false_iff, decide_eq_true_eq, decide_eq_false_iff_not] at cB10
                                        refine c_seq (fun K50 hK50 => ?_)
                                        exact (by
                                          refine c_region ?_
                                          refine l_eff (e_callV cal_32 (aC (v := .int .u64 ((5 : Nat) : Int)) rfl aN) (yp_num (x := 5) hF (by decide))) (fun v51 w51 h51 => ?_)
                                          obtain ⟨H51, g51, n51⟩ := h51
                                          have hlew51 := g51.le
                                          replace hL0 := hL0.trans hlew51
                                          replace kS := kS.up g51.up
                                          replace kF := kF.up g51.up
                                          replace U := U.tr g51.up
                                          replace G := G.tr g51
                                          replace hF := g51.fz
                                          have q51 : 5 < 256 ^ 1 := by decide
                                          refine l_step (y_assignV (et g0 rfl)) ?_
                                          refine l_nil ?_
                                          refine hK50 _ _ ?_
                                          refine fg1 6 g0 (fun g => ?_)
                                          refine c_ret ?_
                                          refine hQ3 _ _ _ (in_ret ?_)
                                          repeat with_reducible refine then_ret ?_
                                          refine ret1 rfl (res_tmp (et g0 rfl)) ?_
                                          exact ⟨_, G, nvb (n := 1) n51 q51 (by decide) (by rw [bareN, if_neg (by omega), if_pos (by omega)]; try rfl)⟩)
                                      · skip
                                        simp only [Bool.and_eq_true, Bool.or_eq_true, Bool.and_eq_false_imp, Bool.or_eq_false_iff, decide_eq_true_eq, decide_eq_false_iff_not] at cB10
                                        refine c_seq (fun K52 hK52 => ?_)
                                        refine c_seq (fun K53 hK53 => ?_)
                                        exact (by
                                          refine c_region ?_
                                          refine l_step (y_moveV (et (gS rfl (gS rfl (gS rfl (gS rfl g0)))) rfl)) ?_
                                          refine l_step (y_eql (et g0 rfl) rfl) ?_
                                          refine l_step (y_assignV (et g0 rfl)) ?_
                                          refine l_nil ?_
                                          refine hK53 _ _ ?_
                                          refine fg4 2 1 0 50 (gS rfl (gS rfl (gS rfl (gS rfl (gS rfl (gS rfl (gS rfl g0))))))) (gS rfl (gS rfl (gS rfl (gS rfl (gS rfl (gS rfl g0)))))) (gS rfl (gS rfl (gS rfl (gS rfl (gS rfl g0))))) g0 (fun g => ?_)
                                          refine c_condV (i := 50) g0 rfl (fun cB11 => ?_) (fun cB11 => ?_)
                                          · skip
                                            simp only [Bool.and_eq_true, Bool.or_eq_true, Bool.and_eq_false_imp, Bool.or_eq_false_iff, decide_eq_true_eq, decide_eq_false_iff_not] at cB11
                                            refine c_skip ?_
                                            refine hK52 _ _ ?_
                                            refine fg4 2 1 0 50 (gS rfl (gS rfl (gS rfl (gS rfl g0)))) (gS rfl (gS rfl (gS rfl g0))) (gS rfl (gS rfl g0)) g0 (fun g => ?_)
                                            refine c_true (et g0 rfl) rfl ?_
                                            refine c_seq (fun K56 hK56 => ?_)
                                            exact (by
                                              refine c_region ?_
                                              refine l_eff (e_callV cal_32 (aC (v := .int .u64 ((8 : Nat) : Int)) rfl aN) (yp_num (x := 8) hF (by decide))) (fun v57 w57 h57 => ?_)
                                              obtain ⟨H57, g57, n57⟩ := h57
                                              have hlew57 := g57.le
                                              replace hL0 := hL0.trans hlew57
                                              replace kS := kS.up g57.up
                                              replace kF := kF.up g57.up
                                              replace U := U.tr g57.up
                                              replace G := G.tr g57
                                              replace hF := g57.fz
                                              have q57 : 8 < 256 ^ 1 := by decide
                                              refine l_step (y_assignV (et g0 rfl)) ?_
                                              refine l_nil ?_
                                              refine hK56 _ _ ?_
                                              refine fg1 6 g0 (fun g => ?_)
                                              refine c_ret ?_
                                              refine hQ3 _ _ _ (in_ret ?_)
                                              repeat with_reducible refine then_ret ?_
                                              refine ret1 rfl (res_tmp (et g0 rfl)) ?_
                                              exact ⟨_, G, nvb (n := 1) n57 q57 (by decide) (by rw [bareN, if_neg (by omega), if_neg (by omega), if_pos (by omega)]; try rfl)⟩)
                                          · skip
                                            simp only [Bool.and_eq_true, Bool.or_eq_true, Bool.and_eq_false_imp, Bool.or_eq_false_iff, decide_eq_true_eq, decide_eq_false_iff_not] at cB11
                                            refine c_seq (fun K58 hK58 => ?_)
                                            exact (by
                                              refine c_region ?_
                                              refine l_step (y_moveV (et (gS rfl (gS rfl (gS rfl (gS rfl g0)))) rfl)) ?_
                                              refine l_step (y_eql (et g0 rfl) rfl) ?_
                                              refine l_step (y_assignV (et g0 rfl)) ?_
                                              refine l_nil ?_
                                              refine hK58 _ _ ?_
                                              refine fg4 2 1 0 50 (gS rfl (gS rfl (gS rfl (gS rfl (gS rfl (gS rfl (gS rfl g0))))))) (gS rfl (gS rfl (gS rfl (gS rfl (gS rfl (gS rfl g0)))))) (gS rfl (gS rfl (gS rfl (gS rfl (gS rfl g0))))) g0 (fun g => ?_)
                                              refine c_condV (i := 50) g0 rfl (fun cB12 => ?_) (fun cB12 => ?_)
                                              · skip
                                                simp only [Bool.and_eq_true, Bool.or_eq_true, Bool.and_eq_false_imp, Bool.or_eq_false_iff, decide_eq_true_eq, decide_eq_false_iff_not] at cB12
                                                refine c_skip ?_
                                                refine hK52 _ _ ?_
                                                refine fg4 2 1 0 50 (gS rfl (gS rfl (gS rfl (gS rfl g0)))) (gS rfl (gS rfl (gS rfl g0))) (gS rfl (gS rfl g0)) g0 (fun g => ?_)
                                                refine c_true (et g0 rfl) rfl ?_
                                                refine c_seq (fun K61 hK61 => ?_)
                                                exact (by
                                                  refine c_region ?_
                                                  refine l_eff (e_callV cal_32 (aC (v := .int .u64 ((8 : Nat) : Int)) rfl aN) (yp_num (x := 8) hF (by decide))) (fun v62 w62 h62 => ?_)
                                                  obtain ⟨H62, g62, n62⟩ := h62
                                                  have hlew62 := g62.le
                                                  replace hL0 := hL0.trans hlew62
                                                  replace kS := kS.up g62.up
                                                  replace kF := kF.up g62.up
                                                  replace U := U.tr g62.up
                                                  replace G := G.tr g62
                                                  replace hF := g62.fz
                                                  have q62 : 8 < 256 ^ 1 := by decide
                                                  refine l_step (y_assignV (et g0 rfl)) ?_
                                                  refine l_nil ?_
                                                  refine hK61 _ _ ?_
                                                  refine fg1 6 g0 (fun g => ?_)
                                                  refine c_ret ?_
                                                  refine hQ3 _ _ _ (in_ret ?_)
                                                  repeat with_reducible refine then_ret ?_
                                                  refine ret1 rfl (res_tmp (et g0 rfl)) ?_
                                                  exact ⟨_, G, nvb (n := 1) n62 q62 (by decide) (by rw [bareN, if_neg (by omega), if_neg (by omega), if_pos (by omega)]; try rfl)⟩)
                                              · skip
                                                simp only [Bool.and_eq_true, Bool.or_eq_true, Bool.and_eq_false_imp, Bool.or_eq_false_iff, decide_eq_true_eq, decide_eq_false_iff_not] at cB12
                                                refine c_region ?_
                                                refine l_step (y_moveV (et (gS rfl (gS rfl (gS rfl (gS rfl g0)))) rfl)) ?_
                                                refine l_step (y_eql (et g0 rfl) rfl) ?_
                                                refine l_step (y_assignV (et g0 rfl)) ?_
                                                refine l_nil ?_
                                                refine hK52 _ _ ?_
                                                refine fg4 2 1 0 50 (gS rfl (gS rfl (gS rfl (gS rfl (gS rfl (gS rfl (gS rfl g0))))))) (gS rfl (gS rfl (gS rfl (gS rfl (gS rfl (gS rfl g0)))))) (gS rfl (gS rfl (gS rfl (gS rfl (gS rfl g0))))) g0 (fun g => ?_)
                                                refine c_condV (i := 50) g0 rfl (fun cB13 => ?_) (fun cB13 => ?_)
                                                · skip
                                                  simp only [Bool.and_eq_true, Bool.or_eq_true, Bool.and_eq_false_imp, Bool.or_eq_false_iff, decide_eq_true_eq, decide_eq_false_iff_not] at cB13
                                                  refine c_seq (fun K64 hK64 => ?_)
                                                  exact (by
                                                    refine c_region ?_
                                                    refine l_eff (e_callV cal_32 (aC (v := .int .u64 ((8 : Nat) : Int)) rfl aN) (yp_num (x := 8) hF (by decide))) (fun v65 w65 h65 => ?_)
                                                    obtain ⟨H65, g65, n65⟩ := h65
                                                    have hlew65 := g65.le
                                                    replace hL0 := hL0.trans hlew65
                                                    replace kS := kS.up g65.up
                                                    replace kF := kF.up g65.up
                                                    replace U := U.tr g65.up
                                                    replace G := G.tr g65
                                                    replace hF := g65.fz
                                                    have q65 : 8 < 256 ^ 1 := by decide
                                                    refine l_step (y_assignV (et g0 rfl)) ?_
                                                    refine l_nil ?_
                                                    refine hK64 _ _ ?_
                                                    refine fg1 6 g0 (fun g => ?_)
                                                    refine c_ret ?_
                                                    refine hQ3 _ _ _ (in_ret ?_)
                                                    repeat with_reducible refine then_ret ?_
                                                    refine ret1 rfl (res_tmp (et g0 rfl)) ?_
                                                    exact ⟨_, G, nvb (n := 1) n65 q65 (by decide) (by rw [bareN, if_neg (by omega), if_neg (by omega), if_pos (by omega)]; try rfl)⟩)
                                                · skip
                                                  simp only [Bool.and_eq_true, Bool.or_eq_true, Bool.and_eq_false_imp, Bool.or_eq_false_iff, decide_eq_true_eq, decide_eq_false_iff_not] at cB13
                                                  refine c_seq (fun K66 hK66 => ?_)
                                                  exact (by
                                                    refine c_region ?_
                                                    refine l_step (y_moveV (et (gS rfl (gS rfl (gS rfl (gS rfl g0)))) rfl)) ?_
                                                    refine l_step (y_eql (et g0 rfl) rfl) ?_
                                                    refine l_step (y_assignV (et g0 rfl)) ?_
                                                    refine l_nil ?_
                                                    refine hK66 _ _ ?_
                                                    refine fg4 2 1 0 58 (gS rfl (gS rfl (gS rfl (gS rfl (gS rfl (gS rfl (gS rfl g0))))))) (gS rfl (gS rfl (gS rfl (gS rfl (gS rfl (gS rfl g0)))))) (gS rfl (gS rfl (gS rfl (gS rfl (gS rfl g0))))) g0 (fun g => ?_)
                                                    refine c_condV (i := 58) g0 rfl (fun cB14 => ?_) (fun cB14 => ?_)
                                                    · skip
                                                      simp only [Bool.and_eq_true, Bool.or_eq_true, Bool.and_eq_false_imp, Bool.or_eq_false_iff, decide_eq_true_eq, decide_eq_false_iff_not] at cB14
                                                      refine c_seq (fun K68 hK68 => ?_)
                                                      exact (by
                                                        refine c_region ?_
                                                        refine l_eff (e_callV cal_32 (aC (v := .int .u64 ((10 : Nat) : Int)) rfl aN) (yp_num (x := 10) hF (by decide))) (fun v69 w69 h69 => ?_)
                                                        obtain ⟨H69, g69, n69⟩ := h69
                                                        have hlew69 := g69.le
                                                        replace hL0 := hL0.trans hlew69
                                                        replace kS := kS.up g69.up
                                                        replace kF := kF.up g69.up
                                                        replace U := U.tr g69.up
                                                        replace G := G.tr g69
                                                        replace hF := g69.fz
                                                        have q69 : 10 < 256 ^ 1 := by decide
                                                        refine l_step (y_assignV (et g0 rfl)) ?_
                                                        refine l_nil ?_
                                                        refine hK68 _ _ ?_
                                                        refine fg1 6 g0 (fun g => ?_)
                                                        refine c_ret ?_
                                                        refine hQ3 _ _ _ (in_ret ?_)
                                                        repeat with_reducible refine then_ret ?_
                                                        refine ret1 rfl (res_tmp (et g0 rfl)) ?_
                                                        exact ⟨_, G, nvb (n := 1) n69 q69 (by decide) (by rw [bareN, if_neg (by omega), if_neg (by omega), if_neg (by omega), if_pos (by omega)]; try rfl)⟩)
                                                    · skip
                                                      simp only [Bool.and_eq_true, Bool.or_eq_true, Bool.and_eq_false_imp, Bool.or_eq_false_iff, decide_eq_true_eq, decide_eq_false_iff_not] at cB14
                                                      refine c_seq (fun K70 hK70 => ?_)
                                                      exact (by
                                                        refine c_region ?_
                                                        refine l_step (y_moveV (et (gS rfl (gS rfl (gS rfl (gS rfl g0)))) rfl)) ?_
                                                        refine l_step (y_eql (et g0 rfl) rfl) ?_
                                                        refine l_step (y_assignV (et g0 rfl)) ?_
                                                        refine l_nil ?_
                                                        refine hK70 _ _ ?_
                                                        refine fg4 2 1 0 62 (gS rfl (gS rfl (gS rfl (gS rfl (gS rfl (gS rfl (gS rfl g0))))))) (gS rfl (gS rfl (gS rfl (gS rfl (gS rfl (gS rfl g0)))))) (gS rfl (gS rfl (gS rfl (gS rfl (gS rfl g0))))) g0 (fun g => ?_)
                                                        refine c_condV (i := 62) g0 rfl (fun cB15 => ?_) (fun cB15 => ?_)
                                                        · skip
                                                          simp only [Bool.and_eq_true, Bool.or_eq_true, Bool.and_eq_false_imp, Bool.or_eq_false_iff, decide_eq_true_eq, decide_eq_false_iff_not] at cB15
                                                          refine c_seq (fun K72 hK72 => ?_)
                                                          exact (by
                                                            refine c_region ?_
                                                            refine l_eff (e_callV cal_32 (aC (v := .int .u64 ((1 : Nat) : Int)) rfl aN) (yp_num (x := 1) hF (by decide))) (fun v73 w73 h73 => ?_)
                                                            obtain ⟨H73, g73, n73⟩ := h73
                                                            have hlew73 := g73.le
                                                            replace hL0 := hL0.trans hlew73
                                                            replace kS := kS.up g73.up
                                                            replace kF := kF.up g73.up
                                                            replace U := U.tr g73.up
                                                            replace G := G.tr g73
                                                            replace hF := g73.fz
                                                            have q73 : 1 < 256 ^ 1 := by decide
                                                            refine l_step (y_assignV (et g0 rfl)) ?_
                                                            refine l_nil ?_
                                                            refine hK72 _ _ ?_
                                                            refine fg1 6 g0 (fun g => ?_)
                                                            refine c_ret ?_
                                                            refine hQ3 _ _ _ (in_ret ?_)
                                                            repeat with_reducible refine then_ret ?_
                                                            refine ret1 rfl (res_tmp (et g0 rfl)) ?_
                                                            exact ⟨_, G, nvb (n := 1) n73 q73 (by decide) (by rw [bareN, if_neg (by omega), if_neg (by omega), if_neg (by omega), if_neg (by omega), if_pos (by omega)]; try rfl)⟩)
                                                        · skip
                                                          simp only [Bool.and_eq_true, Bool.or_eq_true, Bool.and_eq_false_imp, Bool.or_eq_false_iff, decide_eq_true_eq, decide_eq_false_iff_not] at cB15
                                                          refine c_seq (fun K74 hK74 => ?_)
                                                          exact (by
                                                            refine c_region ?_
                                                            refine l_step (y_moveV (et (gS rfl (gS rfl (gS rfl (gS rfl g0)))) rfl)) ?_
                                                            refine l_step (y_eql (et g0 rfl) rfl) ?_
                                                            refine l_step (y_assignV (et g0 rfl)) ?_
                                                            refine l_nil ?_
                                                            refine hK74 _ _ ?_
                                                            refine fg4 2 1 0 66 (gS rfl (gS rfl (gS rfl (gS rfl (gS rfl (gS rfl (gS rfl g0))))))) (gS rfl (gS rfl (gS rfl (gS rfl (gS rfl (gS rfl g0)))))) (gS rfl (gS rfl (gS rfl (gS rfl (gS rfl g0))))) g0 (fun g => ?_)
                                                            refine c_condV (i := 66) g0 rfl (fun cB16 => ?_) (fun cB16 => ?_)
                                                            · skip
                                                              simp only [Bool.and_eq_true, Bool.or_eq_true, Bool.and_eq_false_imp, Bool.or_eq_false_iff, decide_eq_true_eq, decide_eq_false_iff_not] at cB16
                                                              refine c_seq (fun K76 hK76 => ?_)
                                                              exact (by
                                                                refine c_region ?_
                                                                refine l_eff (e_callV cal_32 (aC (v := .int .u64 ((20 : Nat) : Int)) rfl aN) (yp_num (x := 20) hF (by decide))) (fun v77 w77 h77 => ?_)
                                                                obtain ⟨H77, g77, n77⟩ := h77
                                                                have hlew77 := g77.le
                                                                replace hL0 := hL0.trans hlew77
                                                                replace kS := kS.up g77.up
                                                                replace kF := kF.up g77.up
                                                                replace U := U.tr g77.up
                                                                replace G := G.tr g77
                                                                replace hF := g77.fz
                                                                have q77 : 20 < 256 ^ 1 := by decide
                                                                refine l_step (y_assignV (et g0 rfl)) ?_
                                                                refine l_nil ?_
                                                                refine hK76 _ _ ?_
                                                                refine fg1 6 g0 (fun g => ?_)
                                                                refine c_ret ?_
                                                                refine hQ3 _ _ _ (in_ret ?_)
                                                                repeat with_reducible refine then_ret ?_
                                                                refine ret1 rfl (res_tmp (et g0 rfl)) ?_
                                                                exact ⟨_, G, nvb (n := 1) n77 q77 (by decide) (by rw [bareN, if_neg (by omega), if_neg (by omega), if_neg (by omega), if_neg (by omega), if_neg (by omega), if_pos (by omega)]; try rfl)⟩)
                                                            · skip
                                                              simp only [Bool.and_eq_true, Bool.or_eq_true, Bool.and_eq_false_imp, Bool.or_eq_false_iff, decide_eq_true_eq, decide_eq_false_iff_not] at cB16
                                                              refine c_seq (fun K78 hK78 => ?_)
                                                              refine c_seq (fun K79 hK79 => ?_)
                                                              exact (by
                                                                refine c_region ?_
                                                                refine l_step (y_moveV (et (gS rfl (gS rfl (gS rfl (gS rfl g0)))) rfl)) ?_
                                                                refine l_step (y_eql (et g0 rfl) rfl) ?_
                                                                refine l_step (y_assignV (et g0 rfl)) ?_
                                                                refine l_nil ?_
                                                                refine hK79 _ _ ?_
                                                                refine fg4 2 1 0 70 (gS rfl (gS rfl (gS rfl (gS rfl (gS rfl (gS rfl (gS rfl g0))))))) (gS rfl (gS rfl (gS rfl (gS rfl (gS rfl (gS rfl g0)))))) (gS rfl (gS rfl (gS rfl (gS rfl (gS rfl g0))))) g0 (fun g => ?_)
                                                                refine c_condV (i := 70) g0 rfl (fun cB17 => ?_) (fun cB17 => ?_)
                                                                · skip
                                                                  simp only [Bool.and_eq_true, Bool.or_eq_true, Bool.and_eq_false_imp, Bool.or_eq_false_iff, decide_eq_true_eq, decide_eq_false_iff_not] at cB17
                                                                  refine c_skip ?_
                                                                  refine hK78 _ _ ?_
                                                                  refine fg4 2 1 0 70 (gS rfl (gS rfl (gS rfl (gS rfl g0)))) (gS rfl (gS rfl (gS rfl g0))) (gS rfl (gS rfl g0)) g0 (fun g => ?_)
                                                                  refine c_true (et g0 rfl) rfl ?_
                                                                  refine c_seq (fun K82 hK82 => ?_)
                                                                  exact (by
                                                                    refine c_region ?_
                                                                    refine l_eff (e_callV cal_32 (aC (v := .int .u64 ((0 : Nat) : Int)) rfl aN) (yp_num (x := 0) hF (by decide))) (fun v83 w83 h83 => ?_)
                                                                    obtain ⟨H83, g83, n83⟩ := h83
                                                                    have hlew83 := g83.le
                                                                    replace hL0 := hL0.trans hlew83
                                                                    replace kS := kS.up g83.up
                                                                    replace kF := kF.up g83.up
                                                                    replace U := U.tr g83.up
                                                                    replace G := G.tr g83
                                                                    replace hF := g83.fz
                                                                    have q83 : 0 < 256 ^ 0 := by decide
                                                                    refine l_step (y_assignV (et g0 rfl)) ?_
                                                                    refine l_nil ?_
                                                                    refine hK82 _ _ ?_
                                                                    refine fg1 6 g0 (fun g => ?_)
                                                                    refine c_ret ?_
                                                                    refine hQ3 _ _ _ (in_ret ?_)
                                                                    repeat with_reducible refine then_ret ?_
                                                                    refine ret1 rfl (res_tmp (et g0 rfl)) ?_
                                                                    exact ⟨_, G, nvb (n := 0) n83 q83 (by decide) (by rw [bareN, if_neg (by omega), if_neg (by omega), if_neg (by omega), if_neg (by omega), if_neg (by omega), if_neg (by omega), if_pos (by omega)]; try rfl)⟩)
                                                                · skip
                                                                  simp only [Bool.and_eq_true, Bool.or_eq_true, Bool.and_eq_false_imp, Bool.or_eq_false_iff, decide_eq_true_eq, decide_eq_false_iff_not] at cB17
                                                                  refine c_seq (fun K84 hK84 => ?_)
                                                                  exact (by
                                                                    refine c_region ?_
                                                                    refine l_step (y_moveV (et (gS rfl (gS rfl (gS rfl (gS rfl g0)))) rfl)) ?_
                                                                    refine l_step (y_eql (et g0 rfl) rfl) ?_
                                                                    refine l_step (y_assignV (et g0 rfl)) ?_
                                                                    refine l_nil ?_
                                                                    refine hK84 _ _ ?_
                                                                    refine fg4 2 1 0 70 (gS rfl (gS rfl (gS rfl (gS rfl (gS rfl (gS rfl (gS rfl g0))))))) (gS rfl (gS rfl (gS rfl (gS rfl (gS rfl (gS rfl g0)))))) (gS rfl (gS rfl (gS rfl (gS rfl (gS rfl g0))))) g0 (fun g => ?_)
                                                                    refine c_condV (i := 70) g0 rfl (fun cB18 => ?_) (fun cB18 => ?_)
                                                                    · skip
                                                                      simp only [Bool.and_eq_true, Bool.or_eq_true, Bool.and_eq_false_imp, Bool.or_eq_false_iff, decide_eq_true_eq, decide_eq_false_iff_not] at cB18
                                                                      refine c_skip ?_
                                                                      refine hK78 _ _ ?_
                                                                      refine fg4 2 1 0 70 (gS rfl (gS rfl (gS rfl (gS rfl g0)))) (gS rfl (gS rfl (gS rfl g0))) (gS rfl (gS rfl g0)) g0 (fun g => ?_)
                                                                      refine c_true (et g0 rfl) rfl ?_
                                                                      refine c_seq (fun K87 hK87 => ?_)
                                                                      exact (by
                                                                        refine c_region ?_
                                                                        refine l_eff (e_callV cal_32 (aC (v := .int .u64 ((0 : Nat) : Int)) rfl aN) (yp_num (x := 0) hF (by decide))) (fun v88 w88 h88 => ?_)
                                                                        obtain ⟨H88, g88, n88⟩ := h88
                                                                        have hlew88 := g88.le
                                                                        replace hL0 := hL0.trans hlew88
                                                                        replace kS := kS.up g88.up
                                                                        replace kF := kF.up g88.up
                                                                        replace U := U.tr g88.up
                                                                        replace G := G.tr g88
                                                                        replace hF := g88.fz
                                                                        have q88 : 0 < 256 ^ 0 := by decide
                                                                        refine l_step (y_assignV (et g0 rfl)) ?_
                                                                        refine l_nil ?_
                                                                        refine hK87 _ _ ?_
                                                                        refine fg1 6 g0 (fun g => ?_)
                                                                        refine c_ret ?_
                                                                        refine hQ3 _ _ _ (in_ret ?_)
                                                                        repeat with_reducible refine then_ret ?_
                                                                        refine ret1 rfl (res_tmp (et g0 rfl)) ?_
                                                                        exact ⟨_, G, nvb (n := 0) n88 q88 (by decide) (by rw [bareN, if_neg (by omega), if_neg (by omega), if_neg (by omega), if_neg (by omega), if_neg (by omega), if_neg (by omega), if_pos (by omega)]; try rfl)⟩)
                                                                    · skip
                                                                      simp only [Bool.and_eq_true, Bool.or_eq_true, Bool.and_eq_false_imp, Bool.or_eq_false_iff, decide_eq_true_eq, decide_eq_false_iff_not] at cB18
                                                                      refine c_region ?_
                                                                      refine l_step (y_moveV (et (gS rfl (gS rfl (gS rfl (gS rfl g0)))) rfl)) ?_
                                                                      refine l_step (y_eql (et g0 rfl) rfl) ?_
                                                                      refine l_step (y_assignV (et g0 rfl)) ?_
                                                                      refine l_nil ?_
                                                                      refine hK78 _ _ ?_
                                                                      refine fg4 2 1 0 70 (gS rfl (gS rfl (gS rfl (gS rfl (gS rfl (gS rfl (gS rfl g0))))))) (gS rfl (gS rfl (gS rfl (gS rfl (gS rfl (gS rfl g0)))))) (gS rfl (gS rfl (gS rfl (gS rfl (gS rfl g0))))) g0 (fun g => ?_)
                                                                      refine c_condV (i := 70) g0 rfl (fun cB19 => ?_) (fun cB19 => ?_)
                                                                      · skip
                                                                        simp only [Bool.and_eq_true, Bool.or_eq_true, Bool.and_eq_false_imp, Bool.or_eq_false_iff, decide_eq_true_eq, decide_eq_false_iff_not] at cB19
                                                                        refine c_seq (fun K90 hK90 => ?_)
                                                                        exact (by
                                                                          refine c_region ?_
                                                                          refine l_eff (e_callV cal_32 (aC (v := .int .u64 ((0 : Nat) : Int)) rfl aN) (yp_num (x := 0) hF (by decide))) (fun v91 w91 h91 => ?_)
                                                                          obtain ⟨H91, g91, n91⟩ := h91
                                                                          have hlew91 := g91.le
                                                                          replace hL0 := hL0.trans hlew91
                                                                          replace kS := kS.up g91.up
                                                                          replace kF := kF.up g91.up
                                                                          replace U := U.tr g91.up
                                                                          replace G := G.tr g91
                                                                          replace hF := g91.fz
                                                                          have q91 : 0 < 256 ^ 0 := by decide
                                                                          refine l_step (y_assignV (et g0 rfl)) ?_
                                                                          refine l_nil ?_
                                                                          refine hK90 _ _ ?_
                                                                          refine fg1 6 g0 (fun g => ?_)
                                                                          refine c_ret ?_
                                                                          refine hQ3 _ _ _ (in_ret ?_)
                                                                          repeat with_reducible refine then_ret ?_
                                                                          refine ret1 rfl (res_tmp (et g0 rfl)) ?_
                                                                          exact ⟨_, G, nvb (n := 0) n91 q91 (by decide) (by rw [bareN, if_neg (by omega), if_neg (by omega), if_neg (by omega), if_neg (by omega), if_neg (by omega), if_neg (by omega), if_pos (by omega)]; try rfl)⟩)
                                                                      · skip
                                                                        simp only [Bool.and_eq_true, Bool.or_eq_true, Bool.and_eq_false_imp, Bool.or_eq_false_iff, decide_eq_true_eq, decide_eq_false_iff_not] at cB19
                                                                        refine c_seq (fun K92 hK92 => ?_)
                                                                        exact (by
                                                                          refine c_region ?_
                                                                          refine l_step (y_moveV (et (gS rfl (gS rfl (gS rfl (gS rfl g0)))) rfl)) ?_
                                                                          refine l_step (y_eql (et g0 rfl) rfl) ?_
                                                                          refine l_step (y_assignV (et g0 rfl)) ?_
                                                                          refine l_nil ?_
                                                                          refine hK92 _ _ ?_
                                                                          refine fg4 2 1 0 78 (gS rfl (gS rfl (gS rfl (gS rfl (gS rfl (gS rfl (gS rfl g0))))))) (gS rfl (gS rfl (gS rfl (gS rfl (gS rfl (gS rfl g0)))))) (gS rfl (gS rfl (gS rfl (gS rfl (gS rfl g0))))) g0 (fun g => ?_)
                                                                          refine c_condV (i := 78) g0 rfl (fun cB20 => ?_) (fun cB20 => ?_)
                                                                          · skip
                                                                            simp only [Bool.and_eq_true, Bool.or_eq_true, Bool.and_eq_false_imp, Bool.or_eq_false_iff, decide_eq_true_eq, decide_eq_false_iff_not] at cB20
                                                                            refine c_seq (fun K94 hK94 => ?_)
                                                                            exact (by
                                                                              refine c_region ?_
                                                                              refine l_step (y_moveV (et (gS rfl (gS rfl (gS rfl g0))) rfl)) ?_
                                                                              refine l_eff (e_callV cal_63 (aC (et g0 rfl) (aC (v := .int .i64 ((1 : Nat) : Int)) rfl aN)) (yp_arg _ _ 1 _ _ _ _ _ _ hF kF (rF 8 _ rfl) (hSt.mono hL0) (by omega) (by first | decide | omega))) (fun v95 w95 h95 => ?_)
                                                                              obtain ⟨u95, n95, q95⟩ := h95
                                                                              replace G := G.tr (Go.ofUp hF u95)
                                                                              replace hF := hF.up u95
                                                                              replace kS := kS.up u95
                                                                              replace kF := kF.up u95
                                                                              replace U := U.tr u95
                                                                              refine l_eff (e_callV cal_331 (aC (et g0 rfl) aN) (yp_expCost hF n95 (bd_up (bd_W q95) (by decide)))) (fun v96 w96 h96 => ?_)
                                                                              obtain ⟨H96, g96, n96⟩ := h96
                                                                              have hlew96 := g96.le
                                                                              replace n95 := n95.mono hlew96
                                                                              replace hL0 := hL0.trans hlew96
                                                                              replace kS := kS.up g96.up
                                                                              replace kF := kF.up g96.up
                                                                              replace U := U.tr g96.up
                                                                              replace G := G.tr g96
                                                                              replace hF := g96.fz
                                                                              have q96 := exp_lt (bd_up (bd_W q95) (by decide))
                                                                              refine l_step (y_assignV (et g0 rfl)) ?_
                                                                              refine l_nil ?_
                                                                              refine hK94 _ _ ?_
                                                                              refine fg1 6 g0 (fun g => ?_)
                                                                              refine c_ret ?_
                                                                              refine hQ3 _ _ _ (in_ret ?_)
                                                                              repeat with_reducible refine then_ret ?_
                                                                              refine ret1 rfl (res_tmp (et g0 rfl)) ?_
                                                                              exact ⟨_, G, nvb (n := 2) n96 q96 (by decide) (by rw [bareN, if_neg (by omega), if_neg (by omega), if_neg (by omega), if_neg (by omega), if_neg (by omega), if_neg (by omega), if_neg (by omega), if_pos (by omega)]; try rfl)⟩)
                                                                          · skip
                                                                            simp only [Bool.and_eq_true, Bool.or_eq_true, Bool.and_eq_false_imp, Bool.or_eq_false_iff, decide_eq_true_eq, decide_eq_false_iff_not] at cB20
                                                                            refine c_seq (fun K97 hK97 => ?_)
                                                                            exact (by
                                                                              refine c_region ?_
                                                                              refine l_step (y_moveV (et (gS rfl (gS rfl (gS rfl (gS rfl g0)))) rfl)) ?_
                                                                              refine l_step (y_eql (et g0 rfl) rfl) ?_
                                                                              refine l_step (y_assignV (et g0 rfl)) ?_
                                                                              refine l_nil ?_
                                                                              refine hK97 _ _ ?_
                                                                              refine fg4 2 1 0 84 (gS rfl (gS rfl (gS rfl (gS rfl (gS rfl (gS rfl (gS rfl g0))))))) (gS rfl (gS rfl (gS rfl (gS rfl (gS rfl (gS rfl g0)))))) (gS rfl (gS rfl (gS rfl (gS rfl (gS rfl g0))))) g0 (fun g => ?_)
                                                                              refine c_condV (i := 84) g0 rfl (fun cB21 => ?_) (fun cB21 => ?_)
                                                                              · skip
                                                                                simp only [Bool.and_eq_true, Bool.or_eq_true, Bool.and_eq_false_imp, Bool.or_eq_false_iff, decide_eq_true_eq, decide_eq_false_iff_not] at cB21
                                                                                refine c_seq (fun K99 hK99 => ?_)
                                                                                exact (by
                                                                                  refine c_region ?_
                                                                                  refine l_eff (e_callV cal_32 (aC (v := .int .u64 ((30 : Nat) : Int)) rfl aN) (yp_num (x := 30) hF (by decide))) (fun v100 w100 h100 => ?_)
                                                                                  obtain ⟨H100, g100, n100⟩ := h100
                                                                                  have hlew100 := g100.le
                                                                                  replace hL0 := hL0.trans hlew100
                                                                                  replace kS := kS.up g100.up
                                                                                  replace kF := kF.up g100.up
                                                                                  replace U := U.tr g100.up
                                                                                  replace G := G.tr g100
                                                                                  replace hF := g100.fz
                                                                                  have q100 : 30 < 256 ^ 1 := by decide
                                                                                  refine l_eff (e_callV cal_32 (aC (v := .int .u64 ((6 : Nat) : Int)) rfl aN) (yp_num (x := 6) hF (by decide))) (fun v101 w101 h101 => ?_)
                                                                                  obtain ⟨H101, g101, n101⟩ := h101
                                                                                  have hlew101 := g101.le
                                                                                  replace n100 := n100.mono hlew101
                                                                                  replace hL0 := hL0.trans hlew101
                                                                                  replace kS := kS.up g101.up
                                                                                  replace kF := kF.up g101.up
                                                                                  replace U := U.tr g101.up
                                                                                  replace G := G.tr g101
                                                                                  replace hF := g101.fz
                                                                                  have q101 : 6 < 256 ^ 1 := by decide
                                                                                  refine l_step (y_moveV (et (gS rfl (gS rfl (gS rfl (gS rfl (gS rfl g0))))) rfl)) ?_
                                                                                  refine l_eff (e_callV cal_63 (aC (et g0 rfl) (aC (v := .int .i64 ((1 : Nat) : Int)) rfl aN)) (yp_arg _ _ 1 _ _ _ _ _ _ hF kF (rF 8 _ rfl) (hSt.mono hL0) (by omega) (by first | decide | omega))) (fun v102 w102 h102 => ?_)
                                                                                  obtain ⟨u102, n102, q102⟩ := h102
                                                                                  replace G := G.tr (Go.ofUp hF u102)
                                                                                  replace hF := hF.up u102
                                                                                  replace kS := kS.up u102
                                                                                  replace kF := kF.up u102
                                                                                  replace U := U.tr u102
                                                                                  refine l_eff (e_callV cal_126 (aC (et g0 rfl) aN) (yp_words' hF n102 (bd_W q102) (by decide))) (fun v103 w103 h103 => ?_)
                                                                                  obtain ⟨H103, g103, n103⟩ := h103
                                                                                  have hlew103 := g103.le
                                                                                  replace n100 := n100.mono hlew103
                                                                                  replace n101 := n101.mono hlew103
                                                                                  replace n102 := n102.mono hlew103
                                                                                  replace hL0 := hL0.trans hlew103
                                                                                  replace kS := kS.up g103.up
                                                                                  replace kF := kF.up g103.up
                                                                                  replace U := U.tr g103.up
                                                                                  replace G := G.tr g103
                                                                                  replace hF := g103.fz
                                                                                  have q103 := bd_words (bd_W q102) (by decide)
                                                                                  exact (by
                                                                                    refine l_eff (e_callV cal_50 (aC (et (gS rfl (gS rfl (gS rfl g0))) rfl) (aC (et g0 rfl) aN)) (nat_mul hF n101 n103 (bd_sm q101 (by decide)) (bd_sm q103 (by decide)))) (fun v104 w104 h104 => ?_)
                                                                                    obtain ⟨H104, g104, n104⟩ := h104
                                                                                    have hlew104 := g104.le
                                                                                    replace n100 := n100.mono hlew104
                                                                                    replace n101 := n101.mono hlew104
                                                                                    replace n102 := n102.mono hlew104
                                                                                    replace n103 := n103.mono hlew104
                                                                                    replace hL0 := hL0.trans hlew104
                                                                                    replace kS := kS.up g104.up
                                                                                    replace kF := kF.up g104.up
                                                                                    replace U := U.tr g104.up
                                                                                    replace G := G.tr g104
                                                                                    replace hF := g104.fz
                                                                                    have q104 := bd_mul (c := 33) q101 q103 (by decide)
                                                                                    refine l_eff (e_callV cal_34 (aC (et (gS rfl (gS rfl (gS rfl (gS rfl (gS rfl g0))))) rfl) (aC (et g0 rfl) aN)) (nat_add hF n100 n104 (bd_sm q100 (by decide)) (bd_sm q104 (by decide)))) (fun v105 w105 h105 => ?_)
                                                                                    obtain ⟨H105, g105, n105⟩ := h105
                                                                                    have hlew105 := g105.le
                                                                                    replace n100 := n100.mono hlew105
                                                                                    replace n101 := n101.mono hlew105
                                                                                    replace n102 := n102.mono hlew105
                                                                                    replace n103 := n103.mono hlew105
                                                                                    replace n104 := n104.mono hlew105
                                                                                    replace hL0 := hL0.trans hlew105
                                                                                    replace kS := kS.up g105.up
                                                                                    replace kF := kF.up g105.up
                                                                                    replace U := U.tr g105.up
                                                                                    replace G := G.tr g105
                                                                                    replace hF := g105.fz
                                                                                    have q105 := bd_add (c := 34) q100 q104 (by decide)
                                                                                    refine l_step (y_assignV (et g0 rfl)) ?_
                                                                                    refine l_nil ?_
                                                                                    refine hK99 _ _ ?_
                                                                                    refine fg1 6 g0 (fun g => ?_)
                                                                                    refine c_ret ?_
                                                                                    refine hQ3 _ _ _ (in_ret ?_)
                                                                                    repeat with_reducible refine then_ret ?_
                                                                                    refine ret1 rfl (res_tmp (et g0 rfl)) ?_
                                                                                    exact ⟨_, G, nvb (n := 34) n105 q105 (by decide) (by rw [bareN, if_neg (by omega), if_neg (by omega), if_neg (by omega), if_neg (by omega), if_neg (by omega), if_neg (by omega), if_neg (by omega), if_neg (by omega), if_pos (by omega)]; try rfl)⟩))
                                                                              · skip
                                                                                simp only [Bool.and_eq_true, Bool.or_eq_true, Bool.and_eq_false_imp, Bool.or_eq_false_iff, decide_eq_true_eq, decide_eq_false_iff_not] at cB21
                                                                                refine c_seq (fun K106 hK106 => ?_)
                                                                                refine c_seq (fun K107 hK107 => ?_)
                                                                                exact (by
                                                                                  refine c_region ?_
                                                                                  refine l_step (y_moveV (et (gS rfl (gS rfl (gS rfl (gS rfl g0)))) rfl)) ?_
                                                                                  refine l_step (y_eql (et g0 rfl) rfl) ?_
                                                                                  refine l_step (y_assignV (et g0 rfl)) ?_
                                                                                  refine l_nil ?_
                                                                                  refine hK107 _ _ ?_
                                                                                  refine fg4 2 1 0 94 (gS rfl (gS rfl (gS rfl (gS rfl (gS rfl (gS rfl (gS rfl g0))))))) (gS rfl (gS rfl (gS rfl (gS rfl (gS rfl (gS rfl g0)))))) (gS rfl (gS rfl (gS rfl (gS rfl (gS rfl g0))))) g0 (fun g => ?_)
                                                                                  refine c_condV (i := 94) g0 rfl (fun cB22 => ?_) (fun cB22 => ?_)
                                                                                  · skip
                                                                                    simp only [Bool.and_eq_true, Bool.or_eq_true, Bool.and_eq_false_imp, Bool.or_eq_false_iff, decide_eq_true_eq, decide_eq_false_iff_not] at cB22
                                                                                    refine c_skip ?_
                                                                                    refine hK106 _ _ ?_
                                                                                    refine fg4 2 1 0 94 (gS rfl (gS rfl (gS rfl (gS rfl g0)))) (gS rfl (gS rfl (gS rfl g0))) (gS rfl (gS rfl g0)) g0 (fun g => ?_)
                                                                                    refine c_true (et g0 rfl) rfl ?_
                                                                                    refine c_seq (fun K110 hK110 => ?_)
                                                                                    exact (by
                                                                                      refine c_region ?_
                                                                                      refine l_eff (e_callV cal_32 (aC (v := .int .u64 ((3 : Nat) : Int)) rfl aN) (yp_num (x := 3) hF (by decide))) (fun v111 w111 h111 => ?_)
                                                                                      obtain ⟨H111, g111, n111⟩ := h111
                                                                                      have hlew111 := g111.le
                                                                                      replace hL0 := hL0.trans hlew111
                                                                                      replace kS := kS.up g111.up
                                                                                      replace kF := kF.up g111.up
                                                                                      replace U := U.tr g111.up
                                                                                      replace G := G.tr g111
                                                                                      replace hF := g111.fz
                                                                                      have q111 : 3 < 256 ^ 1 := by decide
                                                                                      refine l_step (y_moveV (et (gS rfl (gS rfl (gS rfl g0))) rfl)) ?_
                                                                                      refine l_eff (e_callV cal_63 (aC (et g0 rfl) (aC (v := .int .i64 ((2 : Nat) : Int)) rfl aN)) (yp_arg _ _ 2 _ _ _ _ _ _ hF kF (rF 8 _ rfl) (hSt.mono hL0) (by omega) (by first | decide | omega))) (fun v112 w112 h112 => ?_)
                                                                                      obtain ⟨u112, n112, q112⟩ := h112
                                                                                      replace G := G.tr (Go.ofUp hF u112)
                                                                                      replace hF := hF.up u112
                                                                                      replace kS := kS.up u112
                                                                                      replace kF := kF.up u112
                                                                                      replace U := U.tr u112
                                                                                      refine l_eff (e_callV cal_332 (aC (et g0 rfl) aN) (yp_copyCost hF n112 (bd_up (bd_W q112) (by decide)))) (fun v113 w113 h113 => ?_)
                                                                                      obtain ⟨H113, g113, n113⟩ := h113
                                                                                      have hlew113 := g113.le
                                                                                      replace n111 := n111.mono hlew113
                                                                                      replace n112 := n112.mono hlew113
                                                                                      replace hL0 := hL0.trans hlew113
                                                                                      replace kS := kS.up g113.up
                                                                                      replace kF := kF.up g113.up
                                                                                      replace U := U.tr g113.up
                                                                                      replace G := G.tr g113
                                                                                      replace hF := g113.fz
                                                                                      have q113 := bd_copy (a := 32) (bd_up (bd_W q112) (by decide)) (by decide)
                                                                                      exact (by
                                                                                        refine l_eff (e_callV cal_34 (aC (et (gS rfl (gS rfl (gS rfl g0))) rfl) (aC (et g0 rfl) aN)) (nat_add hF n111 n113 (bd_sm q111 (by decide)) (bd_sm q113 (by decide)))) (fun v114 w114 h114 => ?_)
                                                                                        obtain ⟨H114, g114, n114⟩ := h114
                                                                                        have hlew114 := g114.le
                                                                                        replace n111 := n111.mono hlew114
                                                                                        replace n112 := n112.mono hlew114
                                                                                        replace n113 := n113.mono hlew114
                                                                                        replace hL0 := hL0.trans hlew114
                                                                                        replace kS := kS.up g114.up
                                                                                        replace kF := kF.up g114.up
                                                                                        replace U := U.tr g114.up
                                                                                        replace G := G.tr g114
                                                                                        replace hF := g114.fz
                                                                                        have q114 := bd_add (c := 34) q111 q113 (by decide)
                                                                                        refine l_step (y_assignV (et g0 rfl)) ?_
                                                                                        refine l_nil ?_
                                                                                        refine hK110 _ _ ?_
                                                                                        refine fg1 6 g0 (fun g => ?_)
                                                                                        refine c_ret ?_
                                                                                        refine hQ3 _ _ _ (in_ret ?_)
                                                                                        repeat with_reducible refine then_ret ?_
                                                                                        refine ret1 rfl (res_tmp (et g0 rfl)) ?_
                                                                                        exact ⟨_, G, nvb (n := 34) n114 q114 (by decide) (by rw [bareN, if_neg (by omega), if_neg (by omega), if_neg (by omega), if_neg (by omega), if_neg (by omega), if_neg (by omega), if_neg (by omega), if_neg (by omega), if_neg (by omega), if_pos (by omega)]; try rfl)⟩))
                                                                                  · skip
                                                                                    simp only [Bool.and_eq_true, Bool.or_eq_true, Bool.and_eq_false_imp, Bool.or_eq_false_iff, decide_eq_true_eq, decide_eq_false_iff_not] at cB22
                                                                                    refine c_seq (fun K115 hK115 => ?_)
                                                                                    exact (by
                                                                                      refine c_region ?_
                                                                                      refine l_step (y_moveV (et (gS rfl (gS rfl (gS rfl (gS rfl g0)))) rfl)) ?_
                                                                                      refine l_step (y_eql (et g0 rfl) rfl) ?_
                                                                                      refine l_step (y_assignV (et g0 rfl)) ?_
                                                                                      refine l_nil ?_
                                                                                      refine hK115 _ _ ?_
                                                                                      refine fg4 2 1 0 94 (gS rfl (gS rfl (gS rfl (gS rfl (gS rfl (gS rfl (gS rfl g0))))))) (gS rfl (gS rfl (gS rfl (gS rfl (gS rfl (gS rfl g0)))))) (gS rfl (gS rfl (gS rfl (gS rfl (gS rfl g0))))) g0 (fun g => ?_)
                                                                                      refine c_condV (i := 94) g0 rfl (fun cB23 => ?_) (fun cB23 => ?_)
                                                                                      · skip
                                                                                        simp only [Bool.and_eq_true, Bool.or_eq_true, Bool.and_eq_false_imp, Bool.or_eq_false_iff, decide_eq_true_eq, decide_eq_false_iff_not] at cB23
                                                                                        refine c_skip ?_
                                                                                        refine hK106 _ _ ?_
                                                                                        refine fg4 2 1 0 94 (gS rfl (gS rfl (gS rfl (gS rfl g0)))) (gS rfl (gS rfl (gS rfl g0))) (gS rfl (gS rfl g0)) g0 (fun g => ?_)
                                                                                        refine c_true (et g0 rfl) rfl ?_
                                                                                        refine c_seq (fun K118 hK118 => ?_)
                                                                                        exact (by
                                                                                          refine c_region ?_
                                                                                          refine l_eff (e_callV cal_32 (aC (v := .int .u64 ((3 : Nat) : Int)) rfl aN) (yp_num (x := 3) hF (by decide))) (fun v119 w119 h119 => ?_)
                                                                                          obtain ⟨H119, g119, n119⟩ := h119
                                                                                          have hlew119 := g119.le
                                                                                          replace hL0 := hL0.trans hlew119
                                                                                          replace kS := kS.up g119.up
                                                                                          replace kF := kF.up g119.up
                                                                                          replace U := U.tr g119.up
                                                                                          replace G := G.tr g119
                                                                                          replace hF := g119.fz
                                                                                          have q119 : 3 < 256 ^ 1 := by decide
                                                                                          refine l_step (y_moveV (et (gS rfl (gS rfl (gS rfl g0))) rfl)) ?_
                                                                                          refine l_eff (e_callV cal_63 (aC (et g0 rfl) (aC (v := .int .i64 ((2 : Nat) : Int)) rfl aN)) (yp_arg _ _ 2 _ _ _ _ _ _ hF kF (rF 8 _ rfl) (hSt.mono hL0) (by omega) (by first | decide | omega))) (fun v120 w120 h120 => ?_)
                                                                                          obtain ⟨u120, n120, q120⟩ := h120
                                                                                          replace G := G.tr (Go.ofUp hF u120)
                                                                                          replace hF := hF.up u120
                                                                                          replace kS := kS.up u120
                                                                                          replace kF := kF.up u120
                                                                                          replace U := U.tr u120
                                                                                          refine l_eff (e_callV cal_332 (aC (et g0 rfl) aN) (yp_copyCost hF n120 (bd_up (bd_W q120) (by decide)))) (fun v121 w121 h121 => ?_)
                                                                                          obtain ⟨H121, g121, n121⟩ := h121
                                                                                          have hlew121 := g121.le
                                                                                          replace n119 := n119.mono hlew121
                                                                                          replace n120 := n120.mono hlew121
                                                                                          replace hL0 := hL0.trans hlew121
                                                                                          replace kS := kS.up g121.up
                                                                                          replace kF := kF.up g121.up
                                                                                          replace U := U.tr g121.up
                                                                                          replace G := G.tr g121
                                                                                          replace hF := g121.fz
                                                                                          have q121 := bd_copy (a := 32) (bd_up (bd_W q120) (by decide)) (by decide)
                                                                                          exact (by
                                                                                            refine l_eff (e_callV cal_34 (aC (et (gS rfl (gS rfl (gS rfl g0))) rfl) (aC (et g0 rfl) aN)) (nat_add hF n119 n121 (bd_sm q119 (by decide)) (bd_sm q121 (by decide)))) (fun v122 w122 h122 => ?_)
                                                                                            obtain ⟨H122, g122, n122⟩ := h122
                                                                                            have hlew122 := g122.le
                                                                                            replace n119 := n119.mono hlew122
                                                                                            replace n120 := n120.mono hlew122
                                                                                            replace n121 := n121.mono hlew122
                                                                                            replace hL0 := hL0.trans hlew122
                                                                                            replace kS := kS.up g122.up
                                                                                            replace kF := kF.up g122.up
                                                                                            replace U := U.tr g122.up
                                                                                            replace G := G.tr g122
                                                                                            replace hF := g122.fz
                                                                                            have q122 := bd_add (c := 34) q119 q121 (by decide)
                                                                                            refine l_step (y_assignV (et g0 rfl)) ?_
                                                                                            refine l_nil ?_
                                                                                            refine hK118 _ _ ?_
                                                                                            refine fg1 6 g0 (fun g => ?_)
                                                                                            refine c_ret ?_
                                                                                            refine hQ3 _ _ _ (in_ret ?_)
                                                                                            repeat with_reducible refine then_ret ?_
                                                                                            refine ret1 rfl (res_tmp (et g0 rfl)) ?_
                                                                                            exact ⟨_, G, nvb (n := 34) n122 q122 (by decide) (by rw [bareN, if_neg (by omega), if_neg (by omega), if_neg (by omega), if_neg (by omega), if_neg (by omega), if_neg (by omega), if_neg (by omega), if_neg (by omega), if_neg (by omega), if_pos (by omega)]; try rfl)⟩))
                                                                                      · skip
                                                                                        simp only [Bool.and_eq_true, Bool.or_eq_true, Bool.and_eq_false_imp, Bool.or_eq_false_iff, decide_eq_true_eq, decide_eq_false_iff_not] at cB23
                                                                                        refine c_seq (fun K123 hK123 => ?_)
                                                                                        exact (by
                                                                                          refine c_region ?_
                                                                                          refine l_step (y_moveV (et (gS rfl (gS rfl (gS rfl (gS rfl g0)))) rfl)) ?_
                                                                                          refine l_step (y_eql (et g0 rfl) rfl) ?_
                                                                                          refine l_step (y_assignV (et g0 rfl)) ?_
                                                                                          refine l_nil ?_
                                                                                          refine hK123 _ _ ?_
                                                                                          refine fg4 2 1 0 94 (gS rfl (gS rfl (gS rfl (gS rfl (gS rfl (gS rfl (gS rfl g0))))))) (gS rfl (gS rfl (gS rfl (gS rfl (gS rfl (gS rfl g0)))))) (gS rfl (gS rfl (gS rfl (gS rfl (gS rfl g0))))) g0 (fun g => ?_)
                                                                                          refine c_condV (i := 94) g0 rfl (fun cB24 => ?_) (fun cB24 => ?_)
                                                                                          · skip
                                                                                            simp only [Bool.and_eq_true, Bool.or_eq_true, Bool.and_eq_false_imp, Bool.or_eq_false_iff, decide_eq_true_eq, decide_eq_false_iff_not] at cB24
                                                                                            refine c_skip ?_
                                                                                            refine hK106 _ _ ?_
                                                                                            refine fg4 2 1 0 94 (gS rfl (gS rfl (gS rfl (gS rfl g0)))) (gS rfl (gS rfl (gS rfl g0))) (gS rfl (gS rfl g0)) g0 (fun g => ?_)
                                                                                            refine c_true (et g0 rfl) rfl ?_
                                                                                            refine c_seq (fun K126 hK126 => ?_)
                                                                                            exact (by
                                                                                              refine c_region ?_
                                                                                              refine l_eff (e_callV cal_32 (aC (v := .int .u64 ((3 : Nat) : Int)) rfl aN) (yp_num (x := 3) hF (by decide))) (fun v127 w127 h127 => ?_)
                                                                                              obtain ⟨H127, g127, n127⟩ := h127
                                                                                              have hlew127 := g127.le
                                                                                              replace hL0 := hL0.trans hlew127
                                                                                              replace kS := kS.up g127.up
                                                                                              replace kF := kF.up g127.up
                                                                                              replace U := U.tr g127.up
                                                                                              replace G := G.tr g127
                                                                                              replace hF := g127.fz
                                                                                              have q127 : 3 < 256 ^ 1 := by decide
                                                                                              refine l_step (y_moveV (et (gS rfl (gS rfl (gS rfl g0))) rfl)) ?_
                                                                                              refine l_eff (e_callV cal_63 (aC (et g0 rfl) (aC (v := .int .i64 ((2 : Nat) : Int)) rfl aN)) (yp_arg _ _ 2 _ _ _ _ _ _ hF kF (rF 8 _ rfl) (hSt.mono hL0) (by omega) (by first | decide | omega))) (fun v128 w128 h128 => ?_)
                                                                                              obtain ⟨u128, n128, q128⟩ := h128
                                                                                              replace G := G.tr (Go.ofUp hF u128)
                                                                                              replace hF := hF.up u128
                                                                                              replace kS := kS.up u128
                                                                                              replace kF := kF.up u128
                                                                                              replace U := U.tr u128
                                                                                              refine l_eff (e_callV cal_332 (aC (et g0 rfl) aN) (yp_copyCost hF n128 (bd_up (bd_W q128) (by decide)))) (fun v129 w129 h129 => ?_)
                                                                                              obtain ⟨H129, g129, n129⟩ := h129
                                                                                              have hlew129 := g129.le
                                                                                              replace n127 := n127.mono hlew129
                                                                                              replace n128 := n128.mono hlew129
                                                                                              replace hL0 := hL0.trans hlew129
                                                                                              replace kS := kS.up g129.up
                                                                                              replace kF := kF.up g129.up
                                                                                              replace U := U.tr g129.up
                                                                                              replace G := G.tr g129
                                                                                              replace hF := g129.fz
                                                                                              have q129 := bd_copy (a := 32) (bd_up (bd_W q128) (by decide)) (by decide)
                                                                                              exact (by
                                                                                                refine l_eff (e_callV cal_34 (aC (et (gS rfl (gS rfl (gS rfl g0))) rfl) (aC (et g0 rfl) aN)) (nat_add hF n127 n129 (bd_sm q127 (by decide)) (bd_sm q129 (by decide)))) (fun v130 w130 h130 => ?_)
                                                                                                obtain ⟨H130, g130, n130⟩ := h130
                                                                                                have hlew130 := g130.le
                                                                                                replace n127 := n127.mono hlew130
                                                                                                replace n128 := n128.mono hlew130
                                                                                                replace n129 := n129.mono hlew130
                                                                                                replace hL0 := hL0.trans hlew130
                                                                                                replace kS := kS.up g130.up
                                                                                                replace kF := kF.up g130.up
                                                                                                replace U := U.tr g130.up
                                                                                                replace G := G.tr g130
                                                                                                replace hF := g130.fz
                                                                                                have q130 := bd_add (c := 34) q127 q129 (by decide)
                                                                                                refine l_step (y_assignV (et g0 rfl)) ?_
                                                                                                refine l_nil ?_
                                                                                                refine hK126 _ _ ?_
                                                                                                refine fg1 6 g0 (fun g => ?_)
                                                                                                refine c_ret ?_
                                                                                                refine hQ3 _ _ _ (in_ret ?_)
                                                                                                repeat with_reducible refine then_ret ?_
                                                                                                refine ret1 rfl (res_tmp (et g0 rfl)) ?_
                                                                                                exact ⟨_, G, nvb (n := 34) n130 q130 (by decide) (by rw [bareN, if_neg (by omega), if_neg (by omega), if_neg (by omega), if_neg (by omega), if_neg (by omega), if_neg (by omega), if_neg (by omega), if_neg (by omega), if_neg (by omega), if_pos (by omega)]; try rfl)⟩))
                                                                                          · skip
                                                                                            simp only [Bool.and_eq_true, Bool.or_eq_true, Bool.and_eq_false_imp, Bool.or_eq_false_iff, decide_eq_true_eq, decide_eq_false_iff_not] at cB24
                                                                                            refine c_region ?_
                                                                                            refine l_step (y_moveV (et (gS rfl (gS rfl (gS rfl (gS rfl g0)))) rfl)) ?_
                                                                                            refine l_step (y_eql (et g0 rfl) rfl) ?_
                                                                                            refine l_step (y_assignV (et g0 rfl)) ?_
                                                                                            refine l_nil ?_
                                                                                            refine hK106 _ _ ?_
                                                                                            refine fg4 2 1 0 94 (gS rfl (gS rfl (gS rfl (gS rfl (gS rfl (gS rfl (gS rfl g0))))))) (gS rfl (gS rfl (gS rfl (gS rfl (gS rfl (gS rfl g0)))))) (gS rfl (gS rfl (gS rfl (gS rfl (gS rfl g0))))) g0 (fun g => ?_)
                                                                                            refine c_condV (i := 94) g0 rfl (fun cB25 => ?_) (fun cB25 => ?_)
                                                                                            · skip
                                                                                              simp only [Bool.and_eq_true, Bool.or_eq_true, Bool.and_eq_false_imp, Bool.or_eq_false_iff, decide_eq_true_eq, decide_eq_false_iff_not] at cB25
                                                                                              refine c_seq (fun K132 hK132 => ?_)
                                                                                              exact (by
                                                                                                refine c_region ?_
                                                                                                refine l_eff (e_callV cal_32 (aC (v := .int .u64 ((3 : Nat) : Int)) rfl aN) (yp_num (x := 3) hF (by decide))) (fun v133 w133 h133 => ?_)
                                                                                                obtain ⟨H133, g133, n133⟩ := h133
                                                                                                have hlew133 := g133.le
                                                                                                replace hL0 := hL0.trans hlew133
                                                                                                replace kS := kS.up g133.up
                                                                                                replace kF := kF.up g133.up
                                                                                                replace U := U.tr g133.up
                                                                                                replace G := G.tr g133
                                                                                                replace hF := g133.fz
                                                                                                have q133 : 3 < 256 ^ 1 := by decide
                                                                                                refine l_step (y_moveV (et (gS rfl (gS rfl (gS rfl (gS rfl g0)))) rfl)) ?_
                                                                                                refine l_eff (e_callV cal_63 (aC (et g0 rfl) (aC (v := .int .i64 ((2 : Nat) : Int)) rfl aN)) (yp_arg _ _ 2 _ _ _ _ _ _ hF kF (rF 8 _ rfl) (hSt.mono hL0) (by omega) (by first | decide | omega))) (fun v134 w134 h134 => ?_)
                                                                                                obtain ⟨u134, n134, q134⟩ := h134
                                                                                                replace G := G.tr (Go.ofUp hF u134)
                                                                                                replace hF := hF.up u134
                                                                                                replace kS := kS.up u134
                                                                                                replace kF := kF.up u134
                                                                                                replace U := U.tr u134
                                                                                                refine l_eff (e_callV cal_332 (aC (et g0 rfl) aN) (yp_copyCost hF n134 (bd_up (bd_W q134) (by decide)))) (fun v135 w135 h135 => ?_)
                                                                                                obtain ⟨H135, g135, n135⟩ := h135
                                                                                                have hlew135 := g135.le
                                                                                                replace n133 := n133.mono hlew135
                                                                                                replace n134 := n134.mono hlew135
                                                                                                replace hL0 := hL0.trans hlew135
                                                                                                replace kS := kS.up g135.up
                                                                                                replace kF := kF.up g135.up
                                                                                                replace U := U.tr g135.up
                                                                                                replace G := G.tr g135
                                                                                                replace hF := g135.fz
                                                                                                have q135 := bd_copy (a := 32) (bd_up (bd_W q134) (by decide)) (by decide)
                                                                                                exact (by
                                                                                                  refine l_eff (e_callV cal_34 (aC (et (gS rfl (gS rfl (gS rfl g0))) rfl) (aC (et g0 rfl) aN)) (nat_add hF n133 n135 (bd_sm q133 (by decide)) (bd_sm q135 (by decide)))) (fun v136 w136 h136 => ?_)
                                                                                                  obtain ⟨H136, g136, n136⟩ := h136
                                                                                                  have hlew136 := g136.le
                                                                                                  replace n133 := n133.mono hlew136
                                                                                                  replace n134 := n134.mono hlew136
                                                                                                  replace n135 := n135.mono hlew136
                                                                                                  replace hL0 := hL0.trans hlew136
                                                                                                  replace kS := kS.up g136.up
                                                                                                  replace kF := kF.up g136.up
                                                                                                  replace U := U.tr g136.up
                                                                                                  replace G := G.tr g136
                                                                                                  replace hF := g136.fz
                                                                                                  have q136 := bd_add (c := 34) q133 q135 (by decide)
                                                                                                  refine l_step (y_assignV (et g0 rfl)) ?_
                                                                                                  refine l_nil ?_
                                                                                                  refine hK132 _ _ ?_
                                                                                                  refine fg1 6 g0 (fun g => ?_)
                                                                                                  refine c_ret ?_
                                                                                                  refine hQ3 _ _ _ (in_ret ?_)
                                                                                                  repeat with_reducible refine then_ret ?_
                                                                                                  refine ret1 rfl (res_tmp (et g0 rfl)) ?_
                                                                                                  exact ⟨_, G, nvb (n := 34) n136 q136 (by decide) (by rw [bareN, if_neg (by omega), if_neg (by omega), if_neg (by omega), if_neg (by omega), if_neg (by omega), if_neg (by omega), if_neg (by omega), if_neg (by omega), if_neg (by omega), if_pos (by omega)]; try rfl)⟩))
                                                                                            · skip
                                                                                              simp only [Bool.and_eq_true, Bool.or_eq_true, Bool.and_eq_false_imp, Bool.or_eq_false_iff, decide_eq_true_eq, decide_eq_false_iff_not] at cB25
                                                                                              refine c_seq (fun K137 hK137 => ?_)
                                                                                              refine c_seq (fun K138 hK138 => ?_)
                                                                                              exact (by
                                                                                                refine c_region ?_
                                                                                                refine l_step (y_moveV (et (gS rfl (gS rfl (gS rfl (gS rfl g0)))) rfl)) ?_
                                                                                                refine l_step (y_eql (et g0 rfl) rfl) ?_
                                                                                                refine l_step (y_assignV (et g0 rfl)) ?_
                                                                                                refine l_nil ?_
                                                                                                refine hK138 _ _ ?_
                                                                                                refine fg4 2 1 0 108 (gS rfl (gS rfl (gS rfl (gS rfl (gS rfl (gS rfl (gS rfl g0))))))) (gS rfl (gS rfl (gS rfl (gS rfl (gS rfl (gS rfl g0)))))) (gS rfl (gS rfl (gS rfl (gS rfl (gS rfl g0))))) g0 (fun g => ?_)
                                                                                                refine c_condV (i := 108) g0 rfl (fun cB26 => ?_) (fun cB26 => ?_)
                                                                                                · skip
                                                                                                  simp only [Bool.and_eq_true, Bool.or_eq_true, Bool.and_eq_false_imp, Bool.or_eq_false_iff, decide_eq_true_eq, decide_eq_false_iff_not] at cB26
                                                                                                  refine c_skip ?_
                                                                                                  refine hK137 _ _ ?_
                                                                                                  refine fg4 2 1 0 108 (gS rfl (gS rfl (gS rfl (gS rfl g0)))) (gS rfl (gS rfl (gS rfl g0))) (gS rfl (gS rfl g0)) g0 (fun g => ?_)
                                                                                                  refine c_true (et g0 rfl) rfl ?_
                                                                                                  refine c_seq (fun K141 hK141 => ?_)
                                                                                                  exact (by
                                                                                                    refine c_draw Up 8 [(0, true), (1, true), (2, true), (3, true), (4, false), (5, false), (6, false), (7, true)] (by kernel_rfl) (fun w142 hu => ⟨Up.refl _, ?_⟩)
                                                                                                    replace G := G.tr (Go.ofUp hF hu)
                                                                                                    replace hF := hF.up hu
                                                                                                    replace kS := kS.up hu
                                                                                                    replace kF := kF.up hu
                                                                                                    replace U := U.tr hu
                                                                                                    have SU := Up.refl w142
                                                                                                    refine p_step (by exact rfl) (y_moveV (et (gS rfl g0) rfl)) ?_
                                                                                                    refine p_step (by exact rfl) (y_nil (et g0 rfl)) ?_
                                                                                                    refine p_step (by exact rfl) (y_fld fld_102_0 (et g0 rfl)) ?_
                                                                                                    refine p_step (by exact rfl) (y_moveV (et (gS rfl (gS rfl (gS rfl (gS rfl (gS rfl g0))))) rfl)) ?_
                                                                                                    refine p_eff (by exact rfl) (e_callV cal_63 (aC (et g0 rfl) (aC (v := .int .i64 ((0 : Nat) : Int)) rfl aN)) (yp_arg _ _ 0 _ _ _ _ _ _ hF kF (rF 8 _ rfl) (hSt.mono hL0) (by omega) (by first | decide | omega))) (fun v143 w143 h143 => ?_)
                                                                                                    obtain ⟨u143, n143, q143⟩ := h143
                                                                                                    replace G := G.tr (Go.ofUp hF u143)
                                                                                                    replace hF := hF.up u143
                                                                                                    replace kS := kS.up u143
                                                                                                    replace kF := kF.up u143
                                                                                                    replace U := U.tr u143
                                                                                                    refine ⟨.inr (SU.tr u143), ?_⟩
                                                                                                    replace SU := SU.tr u143
                                                                                                    refine p_eff (by exact rfl) (e_callV cal_147 (aC (et g0 rfl) aN) (yp_addrOf hF n143 (bd_up (bd_W q143) (by decide)))) (fun v144 w144 h144 => ?_)
                                                                                                    obtain ⟨rfl, u144⟩ := h144
                                                                                                    replace G := G.tr (Go.ofUp hF u144)
                                                                                                    replace hF := hF.up u144
                                                                                                    replace kS := kS.up u144
                                                                                                    replace kF := kF.up u144
                                                                                                    replace U := U.tr u144
                                                                                                    refine ⟨.inr (SU.tr u144), ?_⟩
                                                                                                    replace SU := SU.tr u144
                                                                                                    refine p_eff (by exact rfl) (e_callV cal_333 (aC (et (gS rfl (gS rfl (gS rfl g0))) rfl) (aC (et g0 rfl) aN)) (yp_access _ _ _ _ _ _ _ _ _ hF kS (rS 1 _ rfl) (hWA.mono hL0) (Nat.mod_lt _ A160_pos) (by omega))) (fun v145 w145 h145 => ?_)
                                                                                                    obtain ⟨H145, g145, n145⟩ := h145
                                                                                                    have hlew145 := g145.le
                                                                                                    replace n143 := n143.mono hlew145
                                                                                                    replace hL0 := hL0.trans hlew145
                                                                                                    replace kS := kS.up g145.up
                                                                                                    replace kF := kF.up g145.up
                                                                                                    replace U := U.tr g145.up
                                                                                                    replace G := G.tr g145
                                                                                                    replace hF := g145.fz
                                                                                                    have q145 := access_bd n145
                                                                                                    refine ⟨.inr (SU.tr g145.up), ?_⟩
                                                                                                    replace SU := SU.tr g145.up
                                                                                                    exact (by
                                                                                                      refine p_step (by exact rfl) (y_assignV (et g0 rfl)) ?_
                                                                                                      refine p_nil ?_
                                                                                                      refine hK141 _ _ ?_
                                                                                                      refine fg1 6 g0 (fun g => ?_)
                                                                                                      refine c_ret ?_
                                                                                                      refine hQ3 _ _ _ (in_ret ?_)
                                                                                                      repeat with_reducible refine then_ret ?_
                                                                                                      refine ret1 rfl (res_tmp (et g0 rfl)) ?_
                                                                                                      exact ⟨_, G, nvb (n := 2) n145 q145 (by decide) (by rw [bareN, if_neg (by omega), if_neg (by omega), if_neg (by omega), if_neg (by omega), if_neg (by omega), if_neg (by omega), if_neg (by omega), if_neg (by omega), if_neg (by omega), if_neg (by omega), if_pos (by omega)]; try rfl)⟩))
                                                                                                · skip
                                                                                                  simp only [Bool.and_eq_true, Bool.or_eq_true, Bool.and_eq_false_imp, Bool.or_eq_false_iff, decide_eq_true_eq, decide_eq_false_iff_not] at cB26
                                                                                                  refine c_seq (fun K146 hK146 => ?_)
                                                                                                  exact (by
                                                                                                    refine c_region ?_
                                                                                                    refine l_step (y_moveV (et (gS rfl (gS rfl (gS rfl (gS rfl g0)))) rfl)) ?_
                                                                                                    refine l_step (y_eql (et g0 rfl) rfl) ?_
                                                                                                    refine l_step (y_assignV (et g0 rfl)) ?_
                                                                                                    refine l_nil ?_
                                                                                                    refine hK146 _ _ ?_
                                                                                                    refine fg4 2 1 0 108 (gS rfl (gS rfl (gS rfl (gS rfl (gS rfl (gS rfl (gS rfl g0))))))) (gS rfl (gS rfl (gS rfl (gS rfl (gS rfl (gS rfl g0)))))) (gS rfl (gS rfl (gS rfl (gS rfl (gS rfl g0))))) g0 (fun g => ?_)
                                                                                                    refine c_condV (i := 108) g0 rfl (fun cB27 => ?_) (fun cB27 => ?_)
                                                                                                    · skip
                                                                                                      simp only [Bool.and_eq_true, Bool.or_eq_true, Bool.and_eq_false_imp, Bool.or_eq_false_iff, decide_eq_true_eq, decide_eq_false_iff_not] at cB27
                                                                                                      refine c_skip ?_
                                                                                                      refine hK137 _ _ ?_
                                                                                                      refine fg4 2 1 0 108 (gS rfl (gS rfl (gS rfl (gS rfl g0)))) (gS rfl (gS rfl (gS rfl g0))) (gS rfl (gS rfl g0)) g0 (fun g => ?_)
                                                                                                      refine c_true (et g0 rfl) rfl ?_
                                                                                                      refine c_seq (fun K149 hK149 => ?_)
                                                                                                      exact (by
                                                                                                        refine c_draw Up 8 [(0, true), (1, true), (2, true), (3, true), (4, false), (5, false), (6, false), (7, true)] (by kernel_rfl) (fun w150 hu => ⟨Up.refl _, ?_⟩)
                                                                                                        replace G := G.tr (Go.ofUp hF hu)
                                                                                                        replace hF := hF.up hu
                                                                                                        replace kS := kS.up hu
                                                                                                        replace kF := kF.up hu
                                                                                                        replace U := U.tr hu
                                                                                                        have SU := Up.refl w150
                                                                                                        refine p_step (by exact rfl) (y_moveV (et (gS rfl g0) rfl)) ?_
                                                                                                        refine p_step (by exact rfl) (y_nil (et g0 rfl)) ?_
                                                                                                        refine p_step (by exact rfl) (y_fld fld_102_0 (et g0 rfl)) ?_
                                                                                                        refine p_step (by exact rfl) (y_moveV (et (gS rfl (gS rfl (gS rfl (gS rfl (gS rfl g0))))) rfl)) ?_
                                                                                                        refine p_eff (by exact rfl) (e_callV cal_63 (aC (et g0 rfl) (aC (v := .int .i64 ((0 : Nat) : Int)) rfl aN)) (yp_arg _ _ 0 _ _ _ _ _ _ hF kF (rF 8 _ rfl) (hSt.mono hL0) (by omega) (by first | decide | omega))) (fun v151 w151 h151 => ?_)
                                                                                                        obtain ⟨u151, n151, q151⟩ := h151
                                                                                                        replace G := G.tr (Go.ofUp hF u151)
                                                                                                        replace hF := hF.up u151
                                                                                                        replace kS := kS.up u151
                                                                                                        replace kF := kF.up u151
                                                                                                        replace U := U.tr u151
                                                                                                        refine ⟨.inr (SU.tr u151), ?_⟩
                                                                                                        replace SU := SU.tr u151
                                                                                                        refine p_eff (by exact rfl) (e_callV cal_147 (aC (et g0 rfl) aN) (yp_addrOf hF n151 (bd_up (bd_W q151) (by decide)))) (fun v152 w152 h152 => ?_)
                                                                                                        obtain ⟨rfl, u152⟩ := h152
                                                                                                        replace G := G.tr (Go.ofUp hF u152)
                                                                                                        replace hF := hF.up u152
                                                                                                        replace kS := kS.up u152
                                                                                                        replace kF := kF.up u152
                                                                                                        replace U := U.tr u152
                                                                                                        refine ⟨.inr (SU.tr u152), ?_⟩
                                                                                                        replace SU := SU.tr u152
                                                                                                        refine p_eff (by exact rfl) (e_callV cal_333 (aC (et (gS rfl (gS rfl (gS rfl g0))) rfl) (aC (et g0 rfl) aN)) (yp_access _ _ _ _ _ _ _ _ _ hF kS (rS 1 _ rfl) (hWA.mono hL0) (Nat.mod_lt _ A160_pos) (by omega))) (fun v153 w153 h153 => ?_)
                                                                                                        obtain ⟨H153, g153, n153⟩ := h153
                                                                                                        have hlew153 := g153.le
                                                                                                        replace n151 := n151.mono hlew153
                                                                                                        replace hL0 := hL0.trans hlew153
                                                                                                        replace kS := kS.up g153.up
                                                                                                        replace kF := kF.up g153.up
                                                                                                        replace U := U.tr g153.up
                                                                                                        replace G := G.tr g153
                                                                                                        replace hF := g153.fz
                                                                                                        have q153 := access_bd n153
                                                                                                        refine ⟨.inr (SU.tr g153.up), ?_⟩
                                                                                                        replace SU := SU.tr g153.up
                                                                                                        exact (by
                                                                                                          refine p_step (by exact rfl) (y_assignV (et g0 rfl)) ?_
                                                                                                          refine p_nil ?_
                                                                                                          refine hK149 _ _ ?_
                                                                                                          refine fg1 6 g0 (fun g => ?_)
                                                                                                          refine c_ret ?_
                                                                                                          refine hQ3 _ _ _ (in_ret ?_)
                                                                                                          repeat with_reducible refine then_ret ?_
                                                                                                          refine ret1 rfl (res_tmp (et g0 rfl)) ?_
                                                                                                          exact ⟨_, G, nvb (n := 2) n153 q153 (by decide) (by rw [bareN, if_neg (by omega), if_neg (by omega), if_neg (by omega), if_neg (by omega), if_neg (by omega), if_neg (by omega), if_neg (by omega), if_neg (by omega), if_neg (by omega), if_neg (by omega), if_pos (by omega)]; try rfl)⟩))
                                                                                                    · skip
                                                                                                      simp only [Bool.and_eq_true, Bool.or_eq_true, Bool.and_eq_false_imp, Bool.or_eq_false_iff, decide_eq_true_eq, decide_eq_false_iff_not] at cB27
                                                                                                      refine c_region ?_
                                                                                                      refine l_step (y_moveV (et (gS rfl (gS rfl (gS rfl (gS rfl g0)))) rfl)) ?_
                                                                                                      refine l_step (y_eql (et g0 rfl) rfl) ?_
                                                                                                      refine l_step (y_assignV (et g0 rfl)) ?_
                                                                                                      refine l_nil ?_
                                                                                                      refine hK137 _ _ ?_
                                                                                                      refine fg4 2 1 0 108 (gS rfl (gS rfl (gS rfl (gS rfl (gS rfl (gS rfl (gS rfl g0))))))) (gS rfl (gS rfl (gS rfl (gS rfl (gS rfl (gS rfl g0)))))) (gS rfl (gS rfl (gS rfl (gS rfl (gS rfl g0))))) g0 (fun g => ?_)
                                                                                                      refine c_condV (i := 108) g0 rfl (fun cB28 => ?_) (fun cB28 => ?_)
                                                                                                      · skip
                                                                                                        simp only [Bool.and_eq_true, Bool.or_eq_true, Bool.and_eq_false_imp, Bool.or_eq_false_iff, decide_eq_true_eq, decide_eq_false_iff_not] at cB28
                                                                                                        refine c_seq (fun K155 hK155 => ?_)
                                                                                                        exact (by
                                                                                                          refine c_draw Up 8 [(0, true), (1, true), (2, true), (3, true), (4, false), (5, false), (6, false), (7, true)] (by kernel_rfl) (fun w156 hu => ⟨Up.refl _, ?_⟩)
                                                                                                          replace G := G.tr (Go.ofUp hF hu)
                                                                                                          replace hF := hF.up hu
                                                                                                          replace kS := kS.up hu
                                                                                                          replace kF := kF.up hu
                                                                                                          replace U := U.tr hu
                                                                                                          have SU := Up.refl w156
                                                                                                          refine p_step (by exact rfl) (y_moveV (et (gS rfl (gS rfl g0)) rfl)) ?_
                                                                                                          refine p_step (by exact rfl) (y_nil (et g0 rfl)) ?_
                                                                                                          refine p_step (by exact rfl) (y_fld fld_102_0 (et g0 rfl)) ?_
                                                                                                          refine p_step (by exact rfl) (y_moveV (et (gS rfl (gS rfl (gS rfl (gS rfl (gS rfl (gS rfl g0)))))) rfl)) ?_
                                                                                                          refine p_eff (by exact rfl) (e_callV cal_63 (aC (et g0 rfl) (aC (v := .int .i64 ((0 : Nat) : Int)) rfl aN)) (yp_arg _ _ 0 _ _ _ _ _ _ hF kF (rF 8 _ rfl) (hSt.mono hL0) (by omega) (by first | decide | omega))) (fun v157 w157 h157 => ?_)
                                                                                                          obtain ⟨u157, n157, q157⟩ := h157
                                                                                                          replace G := G.tr (Go.ofUp hF u157)
                                                                                                          replace hF := hF.up u157
                                                                                                          replace kS := kS.up u157
                                                                                                          replace kF := kF.up u157
                                                                                                          replace U := U.tr u157
                                                                                                          refine ⟨.inr (SU.tr u157), ?_⟩
                                                                                                          replace SU := SU.tr u157
                                                                                                          refine p_eff (by exact rfl) (e_callV cal_147 (aC (et g0 rfl) aN) (yp_addrOf hF n157 (bd_up (bd_W q157) (by decide)))) (fun v158 w158 h158 => ?_)
                                                                                                          obtain ⟨rfl, u158⟩ := h158
                                                                                                          replace G := G.tr (Go.ofUp hF u158)
                                                                                                          replace hF := hF.up u158
                                                                                                          replace kS := kS.up u158
                                                                                                          replace kF := kF.up u158
                                                                                                          replace U := U.tr u158
                                                                                                          refine ⟨.inr (SU.tr u158), ?_⟩
                                                                                                          replace SU := SU.tr u158
                                                                                                          refine p_eff (by exact rfl) (e_callV cal_333 (aC (et (gS rfl (gS rfl (gS rfl g0))) rfl) (aC (et g0 rfl) aN)) (yp_access _ _ _ _ _ _ _ _ _ hF kS (rS 1 _ rfl) (hWA.mono hL0) (Nat.mod_lt _ A160_pos) (by omega))) (fun v159 w159 h159 => ?_)
                                                                                                          obtain ⟨H159, g159, n159⟩ := h159
                                                                                                          have hlew159 := g159.le
                                                                                                          replace n157 := n157.mono hlew159
                                                                                                          replace hL0 := hL0.trans hlew159
                                                                                                          replace kS := kS.up g159.up
                                                                                                          replace kF := kF.up g159.up
                                                                                                          replace U := U.tr g159.up
                                                                                                          replace G := G.tr g159
                                                                                                          replace hF := g159.fz
                                                                                                          have q159 := access_bd n159
                                                                                                          refine ⟨.inr (SU.tr g159.up), ?_⟩
                                                                                                          replace SU := SU.tr g159.up
                                                                                                          exact (by
                                                                                                            refine p_step (by exact rfl) (y_assignV (et g0 rfl)) ?_
                                                                                                            refine p_nil ?_
                                                                                                            refine hK155 _ _ ?_
                                                                                                            refine fg1 6 g0 (fun g => ?_)
                                                                                                            refine c_ret ?_
                                                                                                            refine hQ3 _ _ _ (in_ret ?_)
                                                                                                            repeat with_reducible refine then_ret ?_
                                                                                                            refine ret1 rfl (res_tmp (et g0 rfl)) ?_
                                                                                                            exact ⟨_, G, nvb (n := 2) n159 q159 (by decide) (by rw [bareN, if_neg (by omega), if_neg (by omega), if_neg (by omega), if_neg (by omega), if_neg (by omega), if_neg (by omega), if_neg (by omega), if_neg (by omega), if_neg (by omega), if_neg (by omega), if_pos (by omega)]; try rfl)⟩))
                                                                                                      · skip
                                                                                                        simp only [Bool.and_eq_true, Bool.or_eq_true, Bool.and_eq_false_imp, Bool.or_eq_false_iff, decide_eq_true_eq, decide_eq_false_iff_not] at cB28
                                                                                                        refine c_seq (fun K160 hK160 => ?_)
                                                                                                        exact (by
                                                                                                          refine c_region ?_
                                                                                                          refine l_step (y_moveV (et (gS rfl (gS rfl (gS rfl (gS rfl g0)))) rfl)) ?_
                                                                                                          refine l_step (y_eql (et g0 rfl) rfl) ?_
                                                                                                          refine l_step (y_assignV (et g0 rfl)) ?_
                                                                                                          refine l_nil ?_
                                                                                                          refine hK160 _ _ ?_
                                                                                                          refine fg4 2 1 0 122 (gS rfl (gS rfl (gS rfl (gS rfl (gS rfl (gS rfl (gS rfl g0))))))) (gS rfl (gS rfl (gS rfl (gS rfl (gS rfl (gS rfl g0)))))) (gS rfl (gS rfl (gS rfl (gS rfl (gS rfl g0))))) g0 (fun g => ?_)
                                                                                                          refine c_condV (i := 122) g0 rfl (fun cB29 => ?_) (fun cB29 => ?_)
                                                                                                          · skip
                                                                                                            simp only [Bool.and_eq_true, Bool.or_eq_true, Bool.and_eq_false_imp, Bool.or_eq_false_iff, decide_eq_true_eq, decide_eq_false_iff_not] at cB29
                                                                                                            refine c_seq (fun K162 hK162 => ?_)
                                                                                                            exact (by
                                                                                                              refine c_draw Up 12 [(0, true), (1, true), (2, true), (3, true), (7, true), (4, false), (5, false), (6, false), (8, false), (9, false), (10, false), (11, true)] (by kernel_rfl) (fun w163 hu => ⟨Up.refl _, ?_⟩)
                                                                                                              replace G := G.tr (Go.ofUp hF hu)
                                                                                                              replace hF := hF.up hu
                                                                                                              replace kS := kS.up hu
                                                                                                              replace kF := kF.up hu
                                                                                                              replace U := U.tr hu
                                                                                                              have SU := Up.refl w163
                                                                                                              refine p_step (by exact rfl) (y_moveV (et (gS rfl (gS rfl g0)) rfl)) ?_
                                                                                                              refine p_step (by exact rfl) (y_nil (et g0 rfl)) ?_
                                                                                                              refine p_step (by exact rfl) (y_fld fld_102_0 (et g0 rfl)) ?_
                                                                                                              refine p_step (by exact rfl) (y_moveV (et (gS rfl (gS rfl (gS rfl (gS rfl (gS rfl (gS rfl g0)))))) rfl)) ?_
                                                                                                              refine p_step (by exact rfl) (y_moveV (et (gS rfl (gS rfl (gS rfl (gS rfl (gS rfl (gS rfl (gS rfl g0))))))) rfl)) ?_
                                                                                                              refine p_eff (by exact rfl) (e_callV cal_63 (aC (et (gS rfl g0) rfl) (aC (v := .int .i64 ((0 : Nat) : Int)) rfl aN)) (yp_arg _ _ 0 _ _ _ _ _ _ hF kF (rF 8 _ rfl) (hSt.mono hL0) (by omega) (by first | decide | omega))) (fun v164 w164 h164 => ?_)
                                                                                                              obtain ⟨u164, n164, q164⟩ := h164
                                                                                                              replace G := G.tr (Go.ofUp hF u164)
                                                                                                              replace hF := hF.up u164
                                                                                                              replace kS := kS.up u164
                                                                                                              replace kF := kF.up u164
                                                                                                              replace U := U.tr u164
                                                                                                              refine ⟨.inr (SU.tr u164), ?_⟩
                                                                                                              replace SU := SU.tr u164
                                                                                                              refine p_eff (by exact rfl) (e_callV cal_147 (aC (et g0 rfl) aN) (yp_addrOf hF n164 (bd_up (bd_W q164) (by decide)))) (fun v165 w165 h165 => ?_)
                                                                                                              obtain ⟨rfl, u165⟩ := h165
                                                                                                              replace G := G.tr (Go.ofUp hF u165)
                                                                                                              replace hF := hF.up u165
                                                                                                              replace kS := kS.up u165
                                                                                                              replace kF := kF.up u165
                                                                                                              replace U := U.tr u165
                                                                                                              refine ⟨.inr (SU.tr u165), ?_⟩
                                                                                                              replace SU := SU.tr u165
                                                                                                              refine p_eff (by exact rfl) (e_callV cal_333 (aC (et (gS rfl (gS rfl (gS rfl (gS rfl g0)))) rfl) (aC (et g0 rfl) aN)) (yp_access _ _ _ _ _ _ _ _ _ hF kS (rS 1 _ rfl) (hWA.mono hL0) (Nat.mod_lt _ A160_pos) (by omega))) (fun v166 w166 h166 => ?_)
                                                                                                              obtain ⟨H166, g166, n166⟩ := h166
                                                                                                              have hlew166 := g166.le
                                                                                                              replace n164 := n164.mono hlew166
                                                                                                              replace hL0 := hL0.trans hlew166
                                                                                                              replace kS := kS.up g166.up
                                                                                                              replace kF := kF.up g166.up
                                                                                                              replace U := U.tr g166.up
                                                                                                              replace G := G.tr g166
                                                                                                              replace hF := g166.fz
                                                                                                              have q166 := access_bd n166
                                                                                                              refine ⟨.inr (SU.tr g166.up), ?_⟩
                                                                                                              replace SU := SU.tr g166.up
                                                                                                              exact (by
                                                                                                                refine p_eff (by exact rfl) (e_callV cal_63 (aC (et (gS rfl (gS rfl (gS rfl g0))) rfl) (aC (v := .int .i64 ((3 : Nat) : Int)) rfl aN)) (yp_arg _ _ 3 _ _ _ _ _ _ hF kF (rF 8 _ rfl) (hSt.mono hL0) (by omega) (by first | decide | omega))) (fun v167 w167 h167 => ?_)
                                                                                                                obtain ⟨u167, n167, q167⟩ := h167
                                                                                                                replace G := G.tr (Go.ofUp hF u167)
                                                                                                                replace hF := hF.up u167
                                                                                                                replace kS := kS.up u167
                                                                                                                replace kF := kF.up u167
                                                                                                                replace U := U.tr u167
                                                                                                                refine ⟨.inr (SU.tr u167), ?_⟩
                                                                                                                replace SU := SU.tr u167
                                                                                                                refine p_eff (by exact rfl) (e_callV cal_332 (aC (et g0 rfl) aN) (yp_copyCost hF n167 (bd_up (bd_W q167) (by decide)))) (fun v168 w168 h168 => ?_)
                                                                                                                obtain ⟨H168, g168, n168⟩ := h168
                                                                                                                have hlew168 := g168.le
                                                                                                                replace n164 := n164.mono hlew168
                                                                                                                replace n166 := n166.mono hlew168
                                                                                                                replace n167 := n167.mono hlew168
                                                                                                                replace hL0 := hL0.trans hlew168
                                                                                                                replace kS := kS.up g168.up
                                                                                                                replace kF := kF.up g168.up
                                                                                                                replace U := U.tr g168.up
                                                                                                                replace G := G.tr g168
                                                                                                                replace hF := g168.fz
                                                                                                                have q168 := bd_copy (a := 32) (bd_up (bd_W q167) (by decide)) (by decide)
                                                                                                                refine ⟨.inr (SU.tr g168.up), ?_⟩
                                                                                                                replace SU := SU.tr g168.up
                                                                                                                refine p_eff (by exact rfl) (e_callV cal_34 (aC (et (gS rfl (gS rfl g0)) rfl) (aC (et g0 rfl) aN)) (nat_add hF n166 n168 (bd_sm q166 (by decide)) (bd_sm q168 (by decide)))) (fun v169 w169 h169 => ?_)
                                                                                                                obtain ⟨H169, g169, n169⟩ := h169
                                                                                                                have hlew169 := g169.le
                                                                                                                replace n164 := n164.mono hlew169
                                                                                                                replace n166 := n166.mono hlew169
                                                                                                                replace n167 := n167.mono hlew169
                                                                                                                replace n168 := n168.mono hlew169
                                                                                                                replace hL0 := hL0.trans hlew169
                                                                                                                replace kS := kS.up g169.up
                                                                                                                replace kF := kF.up g169.up
                                                                                                                replace U := U.tr g169.up
                                                                                                                replace G := G.tr g169
                                                                                                                replace hF := g169.fz
                                                                                                                have q169 := bd_add (c := 34) q166 q168 (by decide)
                                                                                                                refine ⟨.inr (SU.tr g169.up), ?_⟩
                                                                                                                replace SU := SU.tr g169.up
                                                                                                                exact (by
                                                                                                                  refine p_step (by exact rfl) (y_assignV (et g0 rfl)) ?_
                                                                                                                  refine p_nil ?_
                                                                                                                  refine hK162 _ _ ?_
                                                                                                                  refine fg1 6 g0 (fun g => ?_)
                                                                                                                  refine c_ret ?_
                                                                                                                  refine hQ3 _ _ _ (in_ret ?_)
                                                                                                                  repeat with_reducible refine then_ret ?_
                                                                                                                  refine ret1 rfl (res_tmp (et g0 rfl)) ?_
                                                                                                                  exact ⟨_, G, nvb (n := 34) n169 q169 (by decide) (by rw [bareN, if_neg (by omega), if_neg (by omega), if_neg (by omega), if_neg (by omega), if_neg (by omega), if_neg (by omega), if_neg (by omega), if_neg (by omega), if_neg (by omega), if_neg (by omega), if_neg (by omega), if_pos (by omega)]; try rfl)⟩)))
                                                                                                          · skip
                                                                                                            simp only [Bool.and_eq_true, Bool.or_eq_true, Bool.and_eq_false_imp, Bool.or_eq_false_iff, decide_eq_true_eq, decide_eq_false_iff_not] at cB29
                                                                                                            refine c_seq (fun K170 hK170 => ?_)
                                                                                                            exact (by
                                                                                                              refine c_region ?_
                                                                                                              refine l_step (y_moveV (et (gS rfl (gS rfl (gS rfl (gS rfl g0)))) rfl)) ?_
                                                                                                              refine l_step (y_geq (et g0 rfl) rfl) ?_
                                                                                                              refine l_step (y_moveV (et g0 rfl)) ?_
                                                                                                              refine l_gpure (j := 2) (t := 139) (by exact rfl) (by exact rfl) (et g0 rfl) rfl (fun hc => (y_moveV (et (gS rfl (gS rfl (gS rfl (gS rfl (gS rfl (gS rfl (gS rfl g0))))))) rfl))) ?_
                                                                                                              refine l_gpure (j := 2) (t := 139) (by exact rfl) (by exact rfl) (et (gS rfl g0) rfl) rfl (fun hc => (y_leq (et (cT g0 hc) rfl) rfl)) ?_
                                                                                                              refine l_step (y_pickA (et (gS rfl (gS rfl g0)) rfl) (et g0 rfl) rfl) ?_
                                                                                                              refine l_step (y_assignV (et g0 rfl)) ?_
                                                                                                              refine l_nil ?_
                                                                                                              refine hK170 _ _ ?_
                                                                                                              refine fg4 2 1 0 136 (gS rfl (gS rfl (gS rfl (gS rfl (gS rfl (gS rfl (gS rfl (gS rfl (gS rfl (gS rfl (gS rfl g0))))))))))) (gS rfl (gS rfl (gS rfl (gS rfl (gS rfl (gS rfl (gS rfl (gS rfl (gS rfl (gS rfl g0)))))))))) (gS rfl (gS rfl (gS rfl (gS rfl (gS rfl (gS rfl (gS rfl (gS rfl (gS rfl g0))))))))) g0 (fun g => ?_)
                                                                                                              refine c_condV (i := 136) g0 rfl (fun cB30 => ?_) (fun cB30 => ?_)
                                                                                                              · skip
                                                                                                                simp only [Bool.and_eq_true, Bool.or_eq_true, Bool.and_eq_false_imp, Bool.or_eq_false_iff, decide_eq_true_eq, decide_eq_false_iff_not] at cB30
                                                                                                                refine c_seq (fun K172 hK172 => ?_)
                                                                                                                exact (by
                                                                                                                  refine c_region ?_
                                                                                                                  refine l_step (y_moveV (et (gS rfl (gS rfl (gS rfl (gS rfl g0)))) rfl)) ?_
                                                                                                                  refine l_step (y_sub (et g0 rfl) rfl (wrapU_subN (b := 160) uk8 ?_ ?_)) ?_
                                                                                                                  omega
                                                                                                                  omega
                                                                                                                  refine l_step (y_conv Hvaa.underlying5 Hvaa.underlying26 (et g0 rfl) (wrapU_id uk64 ?_)) ?_
                                                                                                                  omega
                                                                                                                  refine l_step (y_mul rfl (et g0 rfl) (wrapU_mulN (a := 375) uk64 ?_)) ?_
                                                                                                                  omega
                                                                                                                  refine l_step (y_add rfl (et g0 rfl) (wrapU_addN (a := 375) uk64 ?_)) ?_
                                                                                                                  omega
                                                                                                                  refine l_eff (e_callV cal_32 (aC (et g0 rfl) aN) (yp_num hF (show 375 + 375 * (q - 160) < 18446744073709551616 by omega))) (fun v173 w173 h173 => ?_)
                                                                                                                  obtain ⟨H173, g173, n173⟩ := h173
                                                                                                                  have hlew173 := g173.le
                                                                                                                  replace hL0 := hL0.trans hlew173
                                                                                                                  replace kS := kS.up g173.up
                                                                                                                  replace kF := kF.up g173.up
                                                                                                                  replace U := U.tr g173.up
                                                                                                                  replace G := G.tr g173
                                                                                                                  replace hF := g173.fz
                                                                                                                  have q173 := bd_64 (show 375 + 375 * (q - 160) < 18446744073709551616 by omega)
                                                                                                                  refine l_eff (e_callV cal_32 (aC (v := .int .u64 ((8 : Nat) : Int)) rfl aN) (yp_num (x := 8) hF (by decide))) (fun v174 w174 h174 => ?_)
                                                                                                                  obtain ⟨H174, g174, n174⟩ := h174
                                                                                                                  have hlew174 := g174.le
                                                                                                                  replace n173 := n173.mono hlew174
                                                                                                                  replace hL0 := hL0.trans hlew174
                                                                                                                  replace kS := kS.up g174.up
                                                                                                                  replace kF := kF.up g174.up
                                                                                                                  replace U := U.tr g174.up
                                                                                                                  replace G := G.tr g174
                                                                                                                  replace hF := g174.fz
                                                                                                                  have q174 : 8 < 256 ^ 1 := by decide
                                                                                                                  exact (by
                                                                                                                    refine l_step (y_moveV (et (gS rfl (gS rfl (gS rfl (gS rfl (gS rfl (gS rfl (gS rfl (gS rfl (gS rfl (gS rfl g0)))))))))) rfl)) ?_
                                                                                                                    refine l_eff (e_callV cal_63 (aC (et g0 rfl) (aC (v := .int .i64 ((1 : Nat) : Int)) rfl aN)) (yp_arg _ _ 1 _ _ _ _ _ _ hF kF (rF 8 _ rfl) (hSt.mono hL0) (by omega) (by first | decide | omega))) (fun v175 w175 h175 => ?_)
                                                                                                                    obtain ⟨u175, n175, q175⟩ := h175
                                                                                                                    replace G := G.tr (Go.ofUp hF u175)
                                                                                                                    replace hF := hF.up u175
                                                                                                                    replace kS := kS.up u175
                                                                                                                    replace kF := kF.up u175
                                                                                                                    replace U := U.tr u175
                                                                                                                    refine l_eff (e_callV cal_50 (aC (et (gS rfl (gS rfl g0)) rfl) (aC (et g0 rfl) aN)) (nat_mul hF n174 n175 (bd_sm q174 (by decide)) (bd_sm (bd_W q175) (by decide)))) (fun v176 w176 h176 => ?_)
                                                                                                                    obtain ⟨H176, g176, n176⟩ := h176
                                                                                                                    have hlew176 := g176.le
                                                                                                                    replace n173 := n173.mono hlew176
                                                                                                                    replace n174 := n174.mono hlew176
                                                                                                                    replace n175 := n175.mono hlew176
                                                                                                                    replace hL0 := hL0.trans hlew176
                                                                                                                    replace kS := kS.up g176.up
                                                                                                                    replace kF := kF.up g176.up
                                                                                                                    replace U := U.tr g176.up
                                                                                                                    replace G := G.tr g176
                                                                                                                    replace hF := g176.fz
                                                                                                                    have q176 := bd_mul (c := 33) q174 (bd_W q175) (by decide)
                                                                                                                    refine l_eff (e_callV cal_34 (aC (et (gS rfl (gS rfl (gS rfl (gS rfl g0)))) rfl) (aC (et g0 rfl) aN)) (nat_add hF n173 n176 (bd_sm q173 (by decide)) (bd_sm q176 (by decide)))) (fun v177 w177 h177 => ?_)
                                                                                                                    obtain ⟨H177, g177, n177⟩ := h177
                                                                                                                    have hlew177 := g177.le
                                                                                                                    replace n173 := n173.mono hlew177
                                                                                                                    replace n174 := n174.mono hlew177
                                                                                                                    replace n175 := n175.mono hlew177
                                                                                                                    replace n176 := n176.mono hlew177
                                                                                                                    replace hL0 := hL0.trans hlew177
                                                                                                                    replace kS := kS.up g177.up
                                                                                                                    replace kF := kF.up g177.up
                                                                                                                    replace U := U.tr g177.up
                                                                                                                    replace G := G.tr g177
                                                                                                                    replace hF := g177.fz
                                                                                                                    have q177 := bd_add (c := 34) q173 q176 (by decide)
                                                                                                                    exact (by
                                                                                                                      refine l_step (y_assignV (et g0 rfl)) ?_
                                                                                                                      refine l_nil ?_
                                                                                                                      refine hK172 _ _ ?_
                                                                                                                      refine fg1 6 g0 (fun g => ?_)
                                                                                                                      refine c_ret ?_
                                                                                                                      refine hQ3 _ _ _ (in_ret ?_)
                                                                                                                      repeat with_reducible refine then_ret ?_
                                                                                                                      refine ret1 rfl (res_tmp (et g0 rfl)) ?_
                                                                                                                      exact ⟨_, G, nvb (n := 34) n177 q177 (by decide) (by rw [bareN, if_neg (by omega), if_neg (by omega), if_neg (by omega), if_neg (by omega), if_neg (by omega), if_neg (by omega), if_neg (by omega), if_neg (by omega), if_neg (by omega), if_neg (by omega), if_neg (by omega), if_neg (by omega), if_pos (by omega)]; try rfl)⟩)))
                                                                                                              · skip
                                                                                                                simp only [Bool.and_eq_true, Bool.or_eq_true, Bool.and_eq_false_imp, Bool.or_eq_false_iff, decide_eq_true_eq, decide_eq_false_iff_not] at cB30
                                                                                                                refine c_seq (fun K178 hK178 => ?_)
                                                                                                                exact (by
                                                                                                                  refine c_region ?_
                                                                                                                  refine l_step (y_moveV (et (gS rfl (gS rfl (gS rfl (gS rfl g0)))) rfl)) ?_
                                                                                                                  refine l_step (y_eql (et g0 rfl) rfl) ?_
                                                                                                                  refine l_step (y_assignV (et g0 rfl)) ?_
                                                                                                                  refine l_nil ?_
                                                                                                                  refine hK178 _ _ ?_
                                                                                                                  refine fg4 2 1 0 154 (gS rfl (gS rfl (gS rfl (gS rfl (gS rfl (gS rfl (gS rfl g0))))))) (gS rfl (gS rfl (gS rfl (gS rfl (gS rfl (gS rfl g0)))))) (gS rfl (gS rfl (gS rfl (gS rfl (gS rfl g0))))) g0 (fun g => ?_)
                                                                                                                  refine c_condV (i := 154) g0 rfl (fun cB31 => ?_) (fun cB31 => ?_)
                                                                                                                  · skip
                                                                                                                    simp only [Bool.and_eq_true, Bool.or_eq_true, Bool.and_eq_false_imp, Bool.or_eq_false_iff, decide_eq_true_eq, decide_eq_false_iff_not] at cB31
                                                                                                                    refine c_seq (fun K180 hK180 => ?_)
                                                                                                                    refine c_seq (fun K181 hK181 => ?_)
                                                                                                                    exact (by
                                                                                                                      refine c_draw Up 9 [(0, true), (1, true), (2, true), (3, true), (4, true), (5, true), (6, true), (7, true), (8, false), (9, false)] (by kernel_rfl) (fun w182 hu => ⟨Up.refl _, ?_⟩)
                                                                                                                      replace G := G.tr (Go.ofUp hF hu)
                                                                                                                      replace hF := hF.up hu
                                                                                                                      replace kS := kS.up hu
                                                                                                                      replace kF := kF.up hu
                                                                                                                      replace U := U.tr hu
                                                                                                                      have SU := Up.refl w182
                                                                                                                      refine p_step (by exact rfl) (y_moveV (et (gS rfl (gS rfl g0)) rfl)) ?_
                                                                                                                      refine p_step (by exact rfl) (y_nil (et g0 rfl)) ?_
                                                                                                                      refine p_step (by exact rfl) (y_fld fld_102_0 (et g0 rfl)) ?_
                                                                                                                      refine p_step (by exact rfl) (y_moveV (et (gS rfl (gS rfl (gS rfl (gS rfl (gS rfl (gS rfl g0)))))) rfl)) ?_
                                                                                                                      refine p_step (by exact rfl) (y_nil (et g0 rfl)) ?_
                                                                                                                      refine p_step (by exact rfl) (y_fld fld_146_12 (et g0 rfl)) ?_
                                                                                                                      refine p_step (by exact rfl) (y_loadR agg_25 sz_25 (et g0 rfl) (by rw [length_bL, length_be]) (atSR (kF.row rSe))) ?_
                                                                                                                      refine p_step (by exact rfl) (y_moveV (et (gS rfl (gS rfl (gS rfl (gS rfl (gS rfl (gS rfl (gS rfl (gS rfl (gS rfl (gS rfl g0)))))))))) rfl)) ?_
                                                                                                                      refine p_eff (by exact rfl) (e_callV cal_63 (aC (et g0 rfl) (aC (v := .int .i64 ((0 : Nat) : Int)) rfl aN)) (yp_arg _ _ 0 _ _ _ _ _ _ hF kF (rF 8 _ rfl) (hSt.mono hL0) (by omega) (by first | decide | omega))) (fun v183 w183 h183 => ?_)
                                                                                                                      obtain ⟨u183, n183, q183⟩ := h183
                                                                                                                      replace G := G.tr (Go.ofUp hF u183)
                                                                                                                      replace hF := hF.up u183
                                                                                                                      replace kS := kS.up u183
                                                                                                                      replace kF := kF.up u183
                                                                                                                      replace U := U.tr u183
                                                                                                                      refine ⟨.inr (SU.tr u183), ?_⟩
                                                                                                                      replace SU := SU.tr u183
                                                                                                                      refine p_eff (by exact rfl) (e_callV cal_129 (aC (et (gS rfl (gS rfl (gS rfl (gS rfl (gS rfl (gS rfl g0)))))) rfl) (aC (et (gS rfl (gS rfl g0)) rfl) (aC (et g0 rfl) aN))) (yp_isWarmSlot _ _ _ _ _ _ _ _ _ hF kS (rS 2 _ rfl) (hWS.mono hL0) fo.self (by omega) n183 (bd_up (bd_W q183) (by decide)))) (fun v184 w184 h184 => ?_)
                                                                                                                      obtain ⟨rfl, u184⟩ := h184
                                                                                                                      replace G := G.tr (Go.ofUp hF u184)
                                                                                                                      replace hF := hF.up u184
                                                                                                                      replace kS := kS.up u184
                                                                                                                      replace kF := kF.up u184
                                                                                                                      replace U := U.tr u184
                                                                                                                      refine ⟨.inl rfl, ?_⟩
                                                                                                                      refine p_nil ?_
                                                                                                                      refine hK181 _ _ ?_
                                                                                                                      refine fg1 166 g0 (fun g => ?_)
                                                                                                                      refine c_condV (i := 166) g0 rfl (fun cB32 => ?_) (fun cB32 => ?_)
                                                                                                                      · skip
                                                                                                                        
                                                                                                                        have hw : (f.self, yKey f) ∈ s.now.warmS := of_decide_eq_true cB32
                                                                                                                        refine c_seq (fun K186 hK186 => ?_)
                                                                                                                        exact (by
                                                                                                                          refine c_region ?_
                                                                                                                          refine l_eff (e_callV cal_32 (aC (v := .int .u64 ((100 : Nat) : Int)) rfl aN) (yp_num (x := 100) hF (by decide))) (fun v187 w187 h187 => ?_)
                                                                                                                          obtain ⟨H187, g187, n187⟩ := h187
                                                                                                                          have hlew187 := g187.le
                                                                                                                          replace n183 := n183.mono hlew187
                                                                                                                          replace hL0 := hL0.trans hlew187
                                                                                                                          replace kS := kS.up g187.up
                                                                                                                          replace kF := kF.up g187.up
                                                                                                                          replace U := U.tr g187.up
                                                                                                                          replace G := G.tr g187
                                                                                                                          replace hF := g187.fz
                                                                                                                          have q187 : 100 < 256 ^ 1 := by decide
                                                                                                                          refine l_step (y_assignV (et g0 rfl)) ?_
                                                                                                                          refine l_nil ?_
                                                                                                                          refine hK186 _ _ ?_
                                                                                                                          refine fg1 6 g0 (fun g => ?_)
                                                                                                                          refine c_ret ?_
                                                                                                                          refine hQ3 _ _ _ (in_ret ?_)
                                                                                                                          repeat with_reducible refine then_ret ?_
                                                                                                                          refine ret1 rfl (res_tmp (et g0 rfl)) ?_
                                                                                                                          exact ⟨_, G, nvb (n := 1) n187 q187 (by decide) (by rw [bareN, if_neg (by omega), if_neg (by omega), if_neg (by omega), if_neg (by omega), if_neg (by omega), if_neg (by omega), if_neg (by omega), if_neg (by omega), if_neg (by omega), if_neg (by omega), if_neg (by omega), if_neg (by omega), if_neg (by omega), if_pos (by omega), if_pos hw]; try rfl)⟩)
                                                                                                                      · skip
                                                                                                                        
                                                                                                                        have hw : ¬ (f.self, yKey f) ∈ s.now.warmS := of_decide_eq_false cB32
                                                                                                                        refine c_skip ?_
                                                                                                                        refine hK180 _ _ ?_
                                                                                                                        refine fg0 (fun g => ?_)
                                                                                                                        refine c_seq (fun K188 hK188 => ?_)
                                                                                                                        exact (by
                                                                                                                          refine c_region ?_
                                                                                                                          refine l_eff (e_callV cal_32 (aC (v := .int .u64 ((2100 : Nat) : Int)) rfl aN) (yp_num (x := 2100) hF (by decide))) (fun v189 w189 h189 => ?_)
                                                                                                                          obtain ⟨H189, g189, n189⟩ := h189
                                                                                                                          have hlew189 := g189.le
                                                                                                                          replace n183 := n183.mono hlew189
                                                                                                                          replace hL0 := hL0.trans hlew189
                                                                                                                          replace kS := kS.up g189.up
                                                                                                                          replace kF := kF.up g189.up
                                                                                                                          replace U := U.tr g189.up
                                                                                                                          replace G := G.tr g189
                                                                                                                          replace hF := g189.fz
                                                                                                                          have q189 : 2100 < 256 ^ 2 := by decide
                                                                                                                          refine l_step (y_assignV (et g0 rfl)) ?_
                                                                                                                          refine l_nil ?_
                                                                                                                          refine hK188 _ _ ?_
                                                                                                                          refine fg1 6 g0 (fun g => ?_)
                                                                                                                          refine c_ret ?_
                                                                                                                          refine hQ3 _ _ _ (in_ret ?_)
                                                                                                                          repeat with_reducible refine then_ret ?_
                                                                                                                          refine ret1 rfl (res_tmp (et g0 rfl)) ?_
                                                                                                                          exact ⟨_, G, nvb (n := 2) n189 q189 (by decide) (by rw [bareN, if_neg (by omega), if_neg (by omega), if_neg (by omega), if_neg (by omega), if_neg (by omega), if_neg (by omega), if_neg (by omega), if_neg (by omega), if_neg (by omega), if_neg (by omega), if_neg (by omega), if_neg (by omega), if_neg (by omega), if_pos (by omega), if_neg hw]; try rfl)⟩))
                                                                                                                  · skip
                                                                                                                    simp only [Bool.and_eq_true, Bool.or_eq_true, Bool.and_eq_false_imp, Bool.or_eq_false_iff, decide_eq_true_eq, decide_eq_false_iff_not] at cB31
                                                                                                                    refine c_seq (fun K190 hK190 => ?_)
                                                                                                                    exact (by
                                                                                                                      refine c_region ?_
                                                                                                                      refine l_step (y_moveV (et (gS rfl (gS rfl (gS rfl (gS rfl g0)))) rfl)) ?_
                                                                                                                      refine l_step (y_eql (et g0 rfl) rfl) ?_
                                                                                                                      refine l_step (y_assignV (et g0 rfl)) ?_
                                                                                                                      refine l_nil ?_
                                                                                                                      refine hK190 _ _ ?_
                                                                                                                      refine fg4 2 1 0 169 (gS rfl (gS rfl (gS rfl (gS rfl (gS rfl (gS rfl (gS rfl g0))))))) (gS rfl (gS rfl (gS rfl (gS rfl (gS rfl (gS rfl g0)))))) (gS rfl (gS rfl (gS rfl (gS rfl (gS rfl g0))))) g0 (fun g => ?_)
                                                                                                                      refine c_condV (i := 169) g0 rfl (fun cB33 => ?_) (fun cB33 => ?_)
                                                                                                                      · skip
                                                                                                                        simp only [Bool.and_eq_true, Bool.or_eq_true, Bool.and_eq_false_imp, Bool.or_eq_false_iff, decide_eq_true_eq, decide_eq_false_iff_not] at cB33
                                                                                                                        refine c_seq (fun K192 hK192 => ?_)
                                                                                                                        exact (by
                                                                                                                          refine c_region ?_
                                                                                                                          refine l_step (y_moveV (et (gS rfl (gS rfl g0)) rfl)) ?_
                                                                                                                          refine l_step (y_moveV (et (gS rfl (gS rfl (gS rfl (gS rfl g0)))) rfl)) ?_
                                                                                                                          refine l_eff (e_callV cal_334 (aC (et (gS rfl g0) rfl) (aC (et g0 rfl) aN)) (yp_sstore hF _ _ _ _ kS (hs.mono hL0) _ _ _ _ _ kF (hf.mono hL0))) (fun v193 w193 h193 => ?_)
                                                                                                                          obtain ⟨za193, zb193, zc193, H193, rfl, g193, n193, m193, l193⟩ := h193
                                                                                                                          have hlew193 := g193.le
                                                                                                                          replace hL0 := hL0.trans hlew193
                                                                                                                          replace kS := kS.up g193.up
                                                                                                                          replace kF := kF.up g193.up
                                                                                                                          replace U := U.tr g193.up
                                                                                                                          replace G := G.tr g193
                                                                                                                          replace hF := g193.fz
                                                                                                                          refine l_step (y_moveV (et g0 rfl)) ?_
                                                                                                                          refine l_step (y_ext (et g0 rfl) rfl) ?_
                                                                                                                          refine l_step (y_ext (et (gS rfl g0) rfl) rfl) ?_
                                                                                                                          refine l_step (y_ext (et (gS rfl (gS rfl g0)) rfl) rfl) ?_
                                                                                                                          refine l_step (y_assignV (et (gS rfl (gS rfl g0)) rfl)) ?_
                                                                                                                          refine l_step (y_assignV (et (gS rfl (gS rfl g0)) rfl)) ?_
                                                                                                                          refine l_step (y_assignV (et (gS rfl (gS rfl g0)) rfl)) ?_
                                                                                                                          refine l_nil ?_
                                                                                                                          refine hK192 _ _ ?_
                                                                                                                          refine fg1 7 (gS rfl (gS rfl g0)) (fun g => ?_)
                                                                                                                          refine c_seq (fun K194 hK194 => ?_)
                                                                                                                          exact (by
                                                                                                                            refine c_region ?_
                                                                                                                            refine l_step (y_moveV (et g0 rfl)) ?_
                                                                                                                            refine l_step (y_assignV (et g0 rfl)) ?_
                                                                                                                            refine l_nil ?_
                                                                                                                            refine hK194 _ _ ?_
                                                                                                                            refine fg1 6 g0 (fun g => ?_)
                                                                                                                            refine c_ret ?_
                                                                                                                            refine hQ3 _ _ _ (in_ret ?_)
                                                                                                                            repeat with_reducible refine then_ret ?_
                                                                                                                            refine ret1 rfl (res_tmp (et g0 rfl)) ?_
                                                                                                                            exact ⟨_, G, nvb (n := 2) n193 (bd_lt2 (b := 256 ^ 2) (sCost_lt (yOrig s f) (yVal s f) (argN f.stack 1) (yCold s f)) (by decide)) (by decide) (by rw [bareN, if_neg (by omega), if_neg (by omega), if_neg (by omega), if_neg (by omega), if_neg (by omega), if_neg (by omega), if_neg (by omega), if_neg (by omega), if_neg (by omega), if_neg (by omega), if_neg (by omega), if_neg (by omega), if_neg (by omega), if_neg (by omega), if_pos (by omega)]; try rfl)⟩))
                                                                                                                      · skip
                                                                                                                        simp only [Bool.and_eq_true, Bool.or_eq_true, Bool.and_eq_false_imp, Bool.or_eq_false_iff, decide_eq_true_eq, decide_eq_false_iff_not] at cB33
                                                                                                                        refine c_seq (fun K195 hK195 => ?_)
                                                                                                                        refine c_seq (fun K196 hK196 => ?_)
                                                                                                                        exact (by
                                                                                                                          refine c_region ?_
                                                                                                                          refine l_step (y_moveV (et (gS rfl (gS rfl (gS rfl (gS rfl g0)))) rfl)) ?_
                                                                                                                          refine l_step (y_eql (et g0 rfl) rfl) ?_
                                                                                                                          refine l_step (y_assignV (et g0 rfl)) ?_
                                                                                                                          refine l_nil ?_
                                                                                                                          refine hK196 _ _ ?_
                                                                                                                          refine fg4 2 1 0 180 (gS rfl (gS rfl (gS rfl (gS rfl (gS rfl (gS rfl (gS rfl g0))))))) (gS rfl (gS rfl (gS rfl (gS rfl (gS rfl (gS rfl g0)))))) (gS rfl (gS rfl (gS rfl (gS rfl (gS rfl g0))))) g0 (fun g => ?_)
                                                                                                                          refine c_condV (i := 180) g0 rfl (fun cB34 => ?_) (fun cB34 => ?_)
                                                                                                                          · skip
                                                                                                                            simp only [Bool.and_eq_true, Bool.or_eq_true, Bool.and_eq_false_imp, Bool.or_eq_false_iff, decide_eq_true_eq, decide_eq_false_iff_not] at cB34
                                                                                                                            refine c_skip ?_
                                                                                                                            refine hK195 _ _ ?_
                                                                                                                            refine fg4 2 1 0 180 (gS rfl (gS rfl (gS rfl (gS rfl g0)))) (gS rfl (gS rfl (gS rfl g0))) (gS rfl (gS rfl g0)) g0 (fun g => ?_)
                                                                                                                            refine c_true (et g0 rfl) rfl ?_
                                                                                                                            refine c_seq (fun K199 hK199 => ?_)
                                                                                                                            exact (by
                                                                                                                              refine c_region ?_
                                                                                                                              refine l_eff (e_callV cal_32 (aC (v := .int .u64 ((100 : Nat) : Int)) rfl aN) (yp_num (x := 100) hF (by decide))) (fun v200 w200 h200 => ?_)
                                                                                                                              obtain ⟨H200, g200, n200⟩ := h200
                                                                                                                              have hlew200 := g200.le
                                                                                                                              replace hL0 := hL0.trans hlew200
                                                                                                                              replace kS := kS.up g200.up
                                                                                                                              replace kF := kF.up g200.up
                                                                                                                              replace U := U.tr g200.up
                                                                                                                              replace G := G.tr g200
                                                                                                                              replace hF := g200.fz
                                                                                                                              have q200 : 100 < 256 ^ 1 := by decide
                                                                                                                              refine l_step (y_assignV (et g0 rfl)) ?_
                                                                                                                              refine l_nil ?_
                                                                                                                              refine hK199 _ _ ?_
                                                                                                                              refine fg1 6 g0 (fun g => ?_)
                                                                                                                              refine c_ret ?_
                                                                                                                              refine hQ3 _ _ _ (in_ret ?_)
                                                                                                                              repeat with_reducible refine then_ret ?_
                                                                                                                              refine ret1 rfl (res_tmp (et g0 rfl)) ?_
                                                                                                                              exact ⟨_, G, nvb (n := 1) n200 q200 (by decide) (by rw [bareN, if_neg (by omega), if_neg (by omega), if_neg (by omega), if_neg (by omega), if_neg (by omega), if_neg (by omega), if_neg (by omega), if_neg (by omega), if_neg (by omega), if_neg (by omega), if_neg (by omega), if_neg (by omega), if_neg (by omega), if_neg (by omega), if_neg (by omega), if_pos (by omega)]; try rfl)⟩)
                                                                                                                          · skip
                                                                                                                            simp only [Bool.and_eq_true, Bool.or_eq_true, Bool.and_eq_false_imp, Bool.or_eq_false_iff, decide_eq_true_eq, decide_eq_false_iff_not] at cB34
                                                                                                                            refine c_region ?_
                                                                                                                            refine l_step (y_moveV (et (gS rfl (gS rfl (gS rfl (gS rfl g0)))) rfl)) ?_
                                                                                                                            refine l_step (y_eql (et g0 rfl) rfl) ?_
                                                                                                                            refine l_step (y_assignV (et g0 rfl)) ?_
                                                                                                                            refine l_nil ?_
                                                                                                                            refine hK195 _ _ ?_
                                                                                                                            refine fg4 2 1 0 180 (gS rfl (gS rfl (gS rfl (gS rfl (gS rfl (gS rfl (gS rfl g0))))))) (gS rfl (gS rfl (gS rfl (gS rfl (gS rfl (gS rfl g0)))))) (gS rfl (gS rfl (gS rfl (gS rfl (gS rfl g0))))) g0 (fun g => ?_)
                                                                                                                            refine c_condV (i := 180) g0 rfl (fun cB35 => ?_) (fun cB35 => ?_)
                                                                                                                            · skip
                                                                                                                              simp only [Bool.and_eq_true, Bool.or_eq_true, Bool.and_eq_false_imp, Bool.or_eq_false_iff, decide_eq_true_eq, decide_eq_false_iff_not] at cB35
                                                                                                                              refine c_seq (fun K202 hK202 => ?_)
                                                                                                                              exact (by
                                                                                                                                refine c_region ?_
                                                                                                                                refine l_eff (e_callV cal_32 (aC (v := .int .u64 ((100 : Nat) : Int)) rfl aN) (yp_num (x := 100) hF (by decide))) (fun v203 w203 h203 => ?_)
                                                                                                                                obtain ⟨H203, g203, n203⟩ := h203
                                                                                                                                have hlew203 := g203.le
                                                                                                                                replace hL0 := hL0.trans hlew203
                                                                                                                                replace kS := kS.up g203.up
                                                                                                                                replace kF := kF.up g203.up
                                                                                                                                replace U := U.tr g203.up
                                                                                                                                replace G := G.tr g203
                                                                                                                                replace hF := g203.fz
                                                                                                                                have q203 : 100 < 256 ^ 1 := by decide
                                                                                                                                refine l_step (y_assignV (et g0 rfl)) ?_
                                                                                                                                refine l_nil ?_
                                                                                                                                refine hK202 _ _ ?_
                                                                                                                                refine fg1 6 g0 (fun g => ?_)
                                                                                                                                refine c_ret ?_
                                                                                                                                refine hQ3 _ _ _ (in_ret ?_)
                                                                                                                                repeat with_reducible refine then_ret ?_
                                                                                                                                refine ret1 rfl (res_tmp (et g0 rfl)) ?_
                                                                                                                                exact ⟨_, G, nvb (n := 1) n203 q203 (by decide) (by rw [bareN, if_neg (by omega), if_neg (by omega), if_neg (by omega), if_neg (by omega), if_neg (by omega), if_neg (by omega), if_neg (by omega), if_neg (by omega), if_neg (by omega), if_neg (by omega), if_neg (by omega), if_neg (by omega), if_neg (by omega), if_neg (by omega), if_neg (by omega), if_pos (by omega)]; try rfl)⟩)
                                                                                                                            · skip
                                                                                                                              simp only [Bool.and_eq_true, Bool.or_eq_true, Bool.and_eq_false_imp, Bool.or_eq_false_iff, decide_eq_true_eq, decide_eq_false_iff_not] at cB35
                                                                                                                              refine c_seq (fun K204 hK204 => ?_)
                                                                                                                              exact (by
                                                                                                                                refine c_region ?_
                                                                                                                                refine l_step (y_moveV (et (gS rfl (gS rfl (gS rfl (gS rfl g0)))) rfl)) ?_
                                                                                                                                refine l_step (y_eql (et g0 rfl) rfl) ?_
                                                                                                                                refine l_step (y_assignV (et g0 rfl)) ?_
                                                                                                                                refine l_nil ?_
                                                                                                                                refine hK204 _ _ ?_
                                                                                                                                refine fg4 2 1 0 186 (gS rfl (gS rfl (gS rfl (gS rfl (gS rfl (gS rfl (gS rfl g0))))))) (gS rfl (gS rfl (gS rfl (gS rfl (gS rfl (gS rfl g0)))))) (gS rfl (gS rfl (gS rfl (gS rfl (gS rfl g0))))) g0 (fun g => ?_)
                                                                                                                                refine c_condV (i := 186) g0 rfl (fun cB36 => ?_) (fun cB36 => ?_)
                                                                                                                                · skip
                                                                                                                                  simp only [Bool.and_eq_true, Bool.or_eq_true, Bool.and_eq_false_imp, Bool.or_eq_false_iff, decide_eq_true_eq, decide_eq_false_iff_not] at cB36
                                                                                                                                  refine c_seq (fun K206 hK206 => ?_)
                                                                                                                                  exact (by
                                                                                                                                    refine c_region ?_
                                                                                                                                    refine l_step (y_moveV (et (gS rfl (gS rfl g0)) rfl)) ?_
                                                                                                                                    refine l_step (y_moveV (et (gS rfl (gS rfl (gS rfl (gS rfl g0)))) rfl)) ?_
                                                                                                                                    refine l_eff (e_callV cal_335 (aC (et (gS rfl g0) rfl) (aC (et g0 rfl) aN)) (yp_destroyCost hF _ _ _ _ kS (hs.mono hL0) _ _ _ _ _ kF (hf.mono hL0))) (fun v207 w207 h207 => ?_)
                                                                                                                                    obtain ⟨H207, g207, n207, q207⟩ := h207
                                                                                                                                    have hlew207 := g207.le
                                                                                                                                    replace hL0 := hL0.trans hlew207
                                                                                                                                    replace kS := kS.up g207.up
                                                                                                                                    replace kF := kF.up g207.up
                                                                                                                                    replace U := U.tr g207.up
                                                                                                                                    replace G := G.tr g207
                                                                                                                                    replace hF := g207.fz
                                                                                                                                    refine l_step (y_assignV (et g0 rfl)) ?_
                                                                                                                                    refine l_nil ?_
                                                                                                                                    refine hK206 _ _ ?_
                                                                                                                                    refine fg1 6 g0 (fun g => ?_)
                                                                                                                                    refine c_ret ?_
                                                                                                                                    refine hQ3 _ _ _ (in_ret ?_)
                                                                                                                                    repeat with_reducible refine then_ret ?_
                                                                                                                                    refine ret1 rfl (res_tmp (et g0 rfl)) ?_
                                                                                                                                    exact ⟨_, G, nvb (n := 2) n207 q207 (by decide) (by rw [bareN, if_neg (by omega), if_neg (by omega), if_neg (by omega), if_neg (by omega), if_neg (by omega), if_neg (by omega), if_neg (by omega), if_neg (by omega), if_neg (by omega), if_neg (by omega), if_neg (by omega), if_neg (by omega), if_neg (by omega), if_neg (by omega), if_neg (by omega), if_neg (by omega), if_pos (by omega)]; try rfl)⟩)
                                                                                                                                · skip
                                                                                                                                  simp only [Bool.and_eq_true, Bool.or_eq_true, Bool.and_eq_false_imp, Bool.or_eq_false_iff, decide_eq_true_eq, decide_eq_false_iff_not] at cB36
                                                                                                                                  refine c_seq (fun K208 hK208 => ?_)
                                                                                                                                  exact (by
                                                                                                                                    refine c_region ?_
                                                                                                                                    refine l_step (y_moveV (et (gS rfl (gS rfl (gS rfl (gS rfl g0)))) rfl)) ?_
                                                                                                                                    refine l_eff (e_callV cal_65 (aC (et g0 rfl) aN) (fam_spec _ _ hq)) (fun v209 w209 h209 => ?_)
                                                                                                                                    obtain ⟨rfl, u209⟩ := h209
                                                                                                                                    replace G := G.tr (Go.ofUp hF u209)
                                                                                                                                    replace hF := hF.up u209
                                                                                                                                    replace kS := kS.up u209
                                                                                                                                    replace kF := kF.up u209
                                                                                                                                    replace U := U.tr u209
                                                                                                                                    refine l_step (y_eql (et g0 rfl) rfl) ?_
                                                                                                                                    refine l_step (y_assignV (et g0 rfl)) ?_
                                                                                                                                    refine l_nil ?_
                                                                                                                                    refine hK208 _ _ ?_
                                                                                                                                    refine fg4 2 1 0 192 (gS rfl (gS rfl (gS rfl (gS rfl (gS rfl (gS rfl (gS rfl (gS rfl g0)))))))) (gS rfl (gS rfl (gS rfl (gS rfl (gS rfl (gS rfl (gS rfl g0))))))) (gS rfl (gS rfl (gS rfl (gS rfl (gS rfl (gS rfl g0)))))) g0 (fun g => ?_)
                                                                                                                                    refine c_condV (i := 192) g0 rfl (fun cB37 => ?_) (fun cB37 => ?_)
                                                                                                                                    · skip
                                                                                                                                      simp only [Bool.and_eq_true, Bool.or_eq_true, Bool.and_eq_false_imp, Bool.or_eq_false_iff, decide_eq_true_eq, decide_eq_false_iff_not] at cB37
                                                                                                                                      refine c_seq (fun K211 hK211 => ?_)
                                                                                                                                      exact (by
                                                                                                                                        refine c_region ?_
                                                                                                                                        refine l_step (y_moveV (et (gS rfl (gS rfl g0)) rfl)) ?_
                                                                                                                                        refine l_step (y_moveV (et (gS rfl (gS rfl (gS rfl (gS rfl g0)))) rfl)) ?_
                                                                                                                                        refine l_step (y_moveV (et (gS rfl (gS rfl (gS rfl (gS rfl (gS rfl (gS rfl g0)))))) rfl)) ?_
                                                                                                                                        refine l_eff (e_callV cal_336 (aC (et (gS rfl (gS rfl g0)) rfl) (aC (et (gS rfl g0) rfl) (aC (et g0 rfl) aN))) (yp_enterCost hF _ _ _ _ kS (hs.mono hL0) _ _ _ _ _ kF (hf.mono hL0) _ hq)) (fun v212 w212 h212 => ?_)
                                                                                                                                        obtain ⟨H212, g212, n212, q212⟩ := h212
                                                                                                                                        have hlew212 := g212.le
                                                                                                                                        replace hL0 := hL0.trans hlew212
                                                                                                                                        replace kS := kS.up g212.up
                                                                                                                                        replace kF := kF.up g212.up
                                                                                                                                        replace U := U.tr g212.up
                                                                                                                                        replace G := G.tr g212
                                                                                                                                        replace hF := g212.fz
                                                                                                                                        refine l_step (y_assignV (et g0 rfl)) ?_
                                                                                                                                        refine l_nil ?_
                                                                                                                                        refine hK211 _ _ ?_
                                                                                                                                        refine fg1 6 g0 (fun g => ?_)
                                                                                                                                        refine c_ret ?_
                                                                                                                                        refine hQ3 _ _ _ (in_ret ?_)
                                                                                                                                        repeat with_reducible refine then_ret ?_
                                                                                                                                        refine ret1 rfl (res_tmp (et g0 rfl)) ?_
                                                                                                                                        exact ⟨_, G, nvb (n := 34) n212 q212 (by decide) (by rw [bareN, if_neg (by omega), if_neg (by omega), if_neg (by omega), if_neg (by omega), if_neg (by omega), if_neg (by omega), if_neg (by omega), if_neg (by omega), if_neg (by omega), if_neg (by omega), if_neg (by omega), if_neg (by omega), if_neg (by omega), if_neg (by omega), if_neg (by omega), if_neg (by omega), if_neg (by omega), if_pos (by omega)]; try rfl)⟩)
                                                                                                                                    · skip
                                                                                                                                      simp only [Bool.and_eq_true, Bool.or_eq_true, Bool.and_eq_false_imp, Bool.or_eq_false_iff, decide_eq_true_eq, decide_eq_false_iff_not] at cB37
                                                                                                                                      refine c_skip ?_
                                                                                                                                      refine hQ3 _ _ _ (in_normal ?_)
                                                                                                                                      refine hK2 _ _ ?_
                                                                                                                                      refine fg0 (fun g => ?_)
                                                                                                                                      refine c_seq (fun K213 hK213 => ?_)
                                                                                                                                      exact (by
                                                                                                                                        refine c_region ?_
                                                                                                                                        refine l_eff (e_callV cal_32 (aC (v := .int .u64 ((2 : Nat) : Int)) rfl aN) (yp_num (x := 2) hF (by decide))) (fun v214 w214 h214 => ?_)
                                                                                                                                        obtain ⟨H214, g214, n214⟩ := h214
                                                                                                                                        have hlew214 := g214.le
                                                                                                                                        replace hL0 := hL0.trans hlew214
                                                                                                                                        replace kS := kS.up g214.up
                                                                                                                                        replace kF := kF.up g214.up
                                                                                                                                        replace U := U.tr g214.up
                                                                                                                                        replace G := G.tr g214
                                                                                                                                        replace hF := g214.fz
                                                                                                                                        have q214 : 2 < 256 ^ 1 := by decide
                                                                                                                                        refine l_step (y_assignV (et g0 rfl)) ?_
                                                                                                                                        refine l_nil ?_
                                                                                                                                        refine hK213 _ _ ?_
                                                                                                                                        refine fg1 6 g0 (fun g => ?_)
                                                                                                                                        refine c_ret ?_
                                                                                                                                        repeat with_reducible refine then_ret ?_
                                                                                                                                        refine ret1 rfl (res_tmp (et g0 rfl)) ?_
                                                                                                                                        exact ⟨_, G, nvb (n := 1) n214 q214 (by decide) (by rw [bareN, if_neg (by omega), if_neg (by omega), if_neg (by omega), if_neg (by omega), if_neg (by omega), if_neg (by omega), if_neg (by omega), if_neg (by omega), if_neg (by omega), if_neg (by omega), if_neg (by omega), if_neg (by omega), if_neg (by omega), if_neg (by omega), if_neg (by omega), if_neg (by omega), if_neg (by omega), if_neg (by omega)]; try rfl)⟩)))))))))))))))))))))))))))))))
end Go.Proofs.YgvaawGreat
