import Derived.Test.YgvaawGreatY35
import Derived.Test.YgvaawGreatY26
set_option maxRecDepth 100000
set_option maxHeartbeats 4000000
set_option linter.unusedSimpArgs false
set_option linter.unusedVariables false
namespace Go.Proofs.YgvaawGreat
open Go
/-! leave: a frame ends -/
def setCode (A : YAcct) (l : List Nat) : YAcct := ⟨A.addr, A.nonce, A.bal, l, A.slots⟩
def lvSt (u : YF) (q : Nat) (l : List Nat) : Nat := if crN u.kind = true ∧ q = 0 then (depN u l).2 else q
def lvGas (u : YF) (q : Nat) (l : List Nat) : Nat := if 1 < lvSt u q l then 0 else if crN u.kind = true ∧ q = 0 then (depN u l).1 else u.gas
def lvOut (u : YF) (q : Nat) (l : List Nat) : List Nat := if 1 < lvSt u q l ∨ (crN u.kind = true ∧ lvSt u q l = 0) then [] else l
def lvW (s : YSt) (u : YF) (q : Nat) (l : List Nat) : YWorld := if lvSt u q l = 0 then (if crN u.kind = true ∧ 0 < l.length then { s.now with accts := putA s.now.accts (setCode (acctAt s.now.accts u.self) l) } else s.now) else u.saved
def lvFlag (u : YF) (q : Nat) (l : List Nat) : Nat := if lvSt u q l = 0 then (if crN u.kind = true then u.self else 1) else 0
def lvMem (f u : YF) (q : Nat) (l : List Nat) : List Nat := if 0 < min f.outLen (lvOut u q l).length then wrN f.mem f.outOff ((lvOut u q l).take (min f.outLen (lvOut u q l).length)) else f.mem
def lvP (f u : YF) (q : Nat) (l : List Nat) : YF := ansN { f with gas := f.gas + lvGas u q l, mem := lvMem f u q l } 0 (lvFlag u q l)
def lvS2 (s : YSt) (u : YF) (q : Nat) (l : List Nat) : YSt := { s with now := lvW s u q l, ret := lvOut u q l }
def lvS1 (s : YSt) (u : YF) (q : Nat) (l : List Nat) : YSt := { s with now := lvW s u q l, ret := lvOut u q l, phase := 2, status := lvSt u q l, left := lvGas u q l }
theorem set22 {a : Nat} {x y z t u : Value} : spl (bL (be 20 a) ++ [x, y, z, t]).toArray 22 [u] = (bL (be 20 a) ++ [x, y, u, t]).toArray := by
  have h := spl_mid (bL (be 20 a) ++ [x, y]) z [t] u 22 (by rw [List.length_append, length_bL, length_be]; rfl)
  simpa using h
theorem acct_code {H : Store} {c : List Value} {vn vb vc vs u : Value} {A : YAcct} {l : List Nat} (h : P_acct H c A) (hc : c = bL (be 20 A.addr) ++ [vn, vb, vc, vs]) (hu : BV H u l) (hn : l.length < 4294967296) : P_acct H (bL (be 20 A.addr) ++ [vn, vb, u, vs]) (setCode A l) := by
  obtain ⟨vn', vb', vc', vs', hc0, hA0, hn0, hb0, hcd0, hS0, hb1, hb2, hb3⟩ := h
  rw [hc] at hc0
  have e := List.append_cancel_left hc0
  simp only [List.cons.injEq, and_true] at e
  obtain ⟨rfl, rfl, rfl, rfl⟩ := e
  exact ⟨vn, vb, u, vs, rfl, hA0, hn0, hb0, hu, hS0, hb1, hb2, hn⟩
theorem dep_le (f : YF) (l : List Nat) : (depN f l).1 ≤ f.gas := by
  unfold depN
  repeat' split
  all_goals simp
theorem dep_st (f : YF) (l : List Nat) : (depN f l).2 = 0 ∨ (depN f l).2 = 2 ∨ (depN f l).2 = 10 ∨ (depN f l).2 = 11 := by
  unfold depN
  repeat' split
  all_goals simp
theorem BV.take {H : Store} {a : Option Addr} {n c k : Nat} {l : List Nat} (h : BV H (.slice a n c) l) (hk : k ≤ l.length) : BV H (.slice a k c) (l.take k) := by
  obtain ⟨h1, h2⟩ := h
  refine ⟨?_, fun d hd => h2 d (List.mem_of_mem_take hd)⟩
  rw [List.length_take, Nat.min_eq_left hk]
  refine ⟨by rw [length_bL, List.length_take, Nat.min_eq_left hk, Nat.mul_one], ?_⟩
  rcases h1.at' with ⟨e, h0⟩ | ⟨b, o, c', cs, e, g1, g2, g3, g4⟩
  · obtain ⟨q, e⟩ := e
    cases e
    exact .inl ⟨⟨a, by rw [show k = 0 by omega]⟩, by omega⟩
  · cases e
    refine .inr ⟨b, o, c, cs, rfl, by omega, g2, g3, ?_⟩
    rw [show bL (l.take k) = (bL l).take k by simp [bL]]
    exact g4.take k
structure SvOk (W : YWorld) : Prop where
  accts : W.accts.length < 1048576
  warmA : W.warmA.length < 1048576
  warmS : W.warmS.length < 1048576
  logs : W.logs.length < 1048576
  temps : W.temps.length < 1048576
  made : W.made.length < 1048576
  gone : W.gone.length < 1048576
structure LvH (s : YSt) (u : YF) (l : List Nat) : Prop where
  sv : SvOk u.saved
  accts : s.now.accts.length < 1000000
  len : l.length < 16777216
structure LvP (f u : YF) (q : Nat) (l : List Nat) : Prop where
  outl : f.outLen < 18446744073709551616
  gas : f.gas + lvGas u q l < 4294967296
  stk : f.stack.length < 60000
  pc : f.pc + 1 < 4294967296
theorem yp_leave1 {w : World} {H : Store} (hF : Fz w H) (bs : Nat) (cs : Array Value) (s : YSt) (kS : Blk w bs cs) {bf N cap : Nat} (hs : SC H cs s (.slice (some ⟨bf, 0, none⟩) N cap)) {fs : Array Value} (kF : Blk w bf fs) (hNc : N ≤ cap) (hN : N < 60000) {u : YF} {vu : Value} (hTp : FC H fs (0 + (N - 1) * 60) u vu) (hv1 : vu.one1 = true) {ol : Option Nat} {vl : Value} (kL : LG w H ol vl s.now.logs) (hvl : cs[4]? = some vl) (q : Nat) (hq : q < 256) {vo : Value} {l : List Nat} (hO : BV H vo l) (lh : LvH s u l) (nbS : ¬ H.has bs) (dSF : bs ≠ bf) (hN1 : N = 1) (dL : ∀ b, ol = some b → b < w.heap.size ∧ b ≠ bs ∧ b ≠ bf) :
    Ret 59 [.pointer (some ⟨bs, 0, none⟩), .int .u8 q, vo] w (fun v w' => v = .tuple #[] ∧ ∃ cs' H' vl', Go (fun k => k = bs) w H w' H' ∧ Blk w' bs cs' ∧ SC H' cs' (lvS1 s u q l) (.slice none 0 0) ∧ LG w' H' (if lvSt u q l = 0 then ol else none) vl' (lvW s u q l).logs ∧ cs'[4]? = some vl') := by
  obtain ⟨aa, ac, wa, wc, sa, sc, vr, la, lc, ta, tc, ma, mc, ga, gc, oa, oc, ra, rc, vlim, vtx, vleft, vpr, vtot, rS, rOr, rMd, hAc, hWA, hWS, hRf, hTm, hMd, hGn, hSr, hRt, hLm, hTx, hLf, hPr, hTt⟩ := hs.ex
  have so := hs.ok
  have so1 := so.accts
  have so2 := so.warmA
  have so3 := so.warmS
  have so4 := so.temps
  have so5 := so.start
  have so6 := so.logs
  have so7 := so.made
  have so8 := so.gone
  have so9 := so.ret
  have eC := hs.env
  have lS := kS.lt
  have lF := kF.lt
  have hv4 := rS 4 _ rfl
  obtain ⟨r6, hr6l, hr6, hr6o, hf6⟩ := hTp.row60 hv1
  obtain ⟨xpc, xgas, xval, xoo, xol, xka, xkc, xca, xcc, xia, xic, xwc, qF, qSe, qCa, qSv, ySv, yPc, yGa, yVa, yOf, yOl, ySt, yCo, yIn⟩ := hf6.ex
  obtain ⟨pa, pwa, pws, pr, pl, pt, pm, pg, rfl, zAc, zWA, zWS, zRf, zrb, zLg, zTm, zMd, zGn, pla, pln, rfl⟩ := ySv.ex
  obtain ⟨pa1, pa2, rfl, hpa, hpa'⟩ := zAc.val
  obtain ⟨pwa1, pwa2, rfl, hpwa, hpwa'⟩ := zWA.val
  obtain ⟨pws1, pws2, rfl, hpws, hpws'⟩ := zWS.val
  obtain ⟨pt1, pt2, rfl, hpt, hpt'⟩ := zTm.val
  obtain ⟨pm1, pm2, rfl, hpm, hpm'⟩ := zMd.val
  obtain ⟨pg1, pg2, rfl, hpg, hpg'⟩ := zGn.val
  obtain ⟨pr1, pr2, pr3, rfl⟩ := zRf.sl
  obtain ⟨xg1, xg2, xg3, rfl⟩ := yGa.sl
  obtain rfl : pln = u.saved.logs.length := zLg.cap.1
  have fo6 := hf6.ok
  have sv := lh.sv
  obtain ⟨oa9, oc9, rfl, hol, hol2⟩ := hO.sv.val
  have hl9 := lh.len
  obtain ⟨dp, hdp⟩ : ∃ x, Hid (x = depN u l) := ⟨_, ⟨rfl⟩⟩
  have hds : Hid (dp.2 = 0 ∨ dp.2 = 2 ∨ dp.2 = 10 ∨ dp.2 = 11) := ⟨by rw [hdp.out]; exact dep_st u l⟩
  have hdl : dp.1 ≤ u.gas := by rw [hdp.out]; exact dep_le u l
  refine enter (n := 161) Hvaa.func59 rfl rfl (Nat.le_of_ble_eq_true rfl) ?_
  have U : Ch (fun k => k = bs) w w := Ch.refl _ w
  have G : Go (fun k => k = bs) w H w H := Go.refl hF
  have hL0 : Le H H := Le.refl H
  refine c_seq (fun K1 hK1 => ?_)
  exact (by
    refine c_draw Up 13 [(0, true), (1, true), (2, true), (3, true), (4, true), (5, true), (6, true), (7, true), (8, true), (9, true), (10, true), (11, true), (12, false), (13, false)] (by kernel_rfl) (fun w2 hu => ⟨Up.refl _, ?_⟩)
    replace G := G.tr (Go.ofUp hF hu)
    replace hF := hF.up hu
    replace kS := kS.up hu
    replace kF := kF.up hu
    replace kL := kL.up hu
    replace U := U.tr hu
    have SU := Up.refl w2
    refine p_step (by exact rfl) (y_moveV (et g0 rfl)) ?_
    refine p_step (by exact rfl) (y_nil (et g0 rfl)) ?_
    refine p_step (by exact rfl) (y_fld fld_102_2 (et g0 rfl)) ?_
    refine p_step (by exact rfl) (y_load1 one_100 (et g0 rfl) (atS (kS.cell (rS 9 _ rfl)))) ?_
    refine p_step (by exact rfl) (y_moveV (et (gS rfl (gS rfl (gS rfl (gS rfl g0)))) rfl)) ?_
    refine p_step (by exact rfl) (y_nil (et g0 rfl)) ?_
    refine p_step (by exact rfl) (y_fld fld_102_2 (et g0 rfl)) ?_
    refine p_step (by exact rfl) (y_load1 one_100 (et g0 rfl) (atS (kS.cell (rS 9 _ rfl)))) ?_
    refine p_step (by exact rfl) (y_len Hvaa.underlying100 (et g0 rfl)) ?_
    refine p_step (by exact rfl) (y_sub (et g0 rfl) rfl (subIN (y := 1) ?_ ?_)) ?_
    omega
    omega
    refine p_step (by exact rfl) (y_idxSa rfl Hvaa.underlying100 sz_146 (et (gS rfl (gS rfl (gS rfl (gS rfl (gS rfl (gS rfl g0)))))) rfl) (et g0 rfl) ?_) ?_
    omega
    refine p_step (by exact rfl) (y_loadR agg_146 sz_146 (et g0 rfl) hr6l (atSR (kF.row hr6))) ?_
    refine p_eff (by exact rfl) (e_alloc zr_146) (fun v3 w3 h3 => ?_)
    obtain ⟨b3, rfl, n3⟩ := h3
    have f3 : w.heap.size ≤ b3 := Nat.le_trans U.size n3.fresh
    have nb3 := hF.nb n3.fresh
    have fS3 := Nat.le_trans SU.size n3.fresh
    replace G := G.tr (Go.ofUp hF n3.up)
    replace hF := hF.up n3.up
    replace kS := kS.up n3.up
    replace kF := kF.up n3.up
    replace kL := kL.up n3.up
    replace U := U.tr n3.up
    have k3 := n3.blk
    refine ⟨.inr (SU.tr n3.up), ?_⟩
    replace SU := SU.tr n3.up
    exact (by
      refine p_effN (by exact rfl) (e_store sz_146 (et g0 rfl) (cellsV (et (gS rfl g0) rfl) rfl) hr6l (by exact hr6o) k3 (by exact Nat.le_of_ble_eq_true rfl)) (fun v4 w4 h4 => ?_)
      obtain ⟨rfl, x4⟩ := h4
      replace kS := kS.ch x4.ch (by first | omega | (omega))
      replace kF := kF.ch x4.ch (by first | omega | (omega))
      replace kL := kL.ch x4.ch (by first | omega | (intro q hq hm; have := dL q hq; omega))
      replace k3 := x4.blk.full (by rw [hr6l]; rfl)
      replace G := G.wr x4 (by first | exact .inr f3 | omega | (simp; omega)) nb3
      replace hF := G.fz
      replace U := U.st x4 (.inr f3)
      refine ⟨.inl rfl, ?_⟩
      refine p_nil ?_
      refine hK1 _ _ ?_
      refine fg4 2 1 0 6 (gS rfl (gS rfl (gS rfl (gS rfl (gS rfl (gS rfl (gS rfl (gS rfl (gS rfl (gS rfl (gS rfl (gS rfl (gS rfl (gS rfl (gS rfl g0))))))))))))))) (gS rfl (gS rfl (gS rfl (gS rfl (gS rfl (gS rfl (gS rfl (gS rfl (gS rfl (gS rfl (gS rfl (gS rfl (gS rfl (gS rfl g0)))))))))))))) (gS rfl (gS rfl (gS rfl (gS rfl (gS rfl (gS rfl (gS rfl (gS rfl (gS rfl (gS rfl (gS rfl (gS rfl (gS rfl g0))))))))))))) g0 (fun g => ?_)
      refine c_seq (fun K5 hK5 => ?_)
      exact (by
        refine c_region ?_
        refine l_step (y_fld fld_146_4 (et g0 rfl)) ?_
        refine l_step (y_load1 one_95 (et g0 rfl) (at1 (k3.cell (qF 4 _ rfl)))) ?_
        refine l_step (y_assignV (et g0 rfl)) ?_
        refine l_nil ?_
        refine hK5 _ _ ?_
        refine fg5 2 1 0 6 7 (gS rfl (gS rfl (gS rfl (gS rfl (gS rfl (gS rfl g0)))))) (gS rfl (gS rfl (gS rfl (gS rfl (gS rfl g0))))) (gS rfl (gS rfl (gS rfl (gS rfl g0)))) (gS rfl (gS rfl (gS rfl g0))) g0 (fun g => ?_)
        refine c_seq (fun K6 hK6 => ?_)
        exact (by
          refine c_region ?_
          refine l_step (y_fld fld_146_0 (et (gS rfl g0) rfl)) ?_
          refine l_step (y_load1 one_5 (et g0 rfl) (at1 (k3.cell (qF 0 _ rfl)))) ?_
          refine l_eff (e_callV cal_132 (aC (et g0 rfl) aN) (yp_creates _ _)) (fun v7 w7 h7 => ?_)
          obtain ⟨rfl, u7⟩ := h7
          replace G := G.tr (Go.ofUp hF u7)
          replace hF := hF.up u7
          replace k3 := k3.up u7
          replace kS := kS.up u7
          replace kF := kF.up u7
          replace kL := kL.up u7
          replace U := U.tr u7
          refine l_step (y_assignV (et g0 rfl)) ?_
          refine l_nil ?_
          refine hK6 _ _ ?_
          refine fg6 2 1 0 6 7 8 (gS rfl (gS rfl (gS rfl (gS rfl (gS rfl (gS rfl (gS rfl (gS rfl g0)))))))) (gS rfl (gS rfl (gS rfl (gS rfl (gS rfl (gS rfl (gS rfl g0))))))) (gS rfl (gS rfl (gS rfl (gS rfl (gS rfl (gS rfl g0)))))) (gS rfl (gS rfl (gS rfl (gS rfl (gS rfl g0))))) (gS rfl (gS rfl (gS rfl (gS rfl g0)))) g0 (fun g => ?_)
          refine c_seq (fun K8 hK8 => ?_)
          refine c_seq (fun K9 hK9 => ?_)
          exact (by
            refine c_region ?_
            refine l_step (y_moveV (et g0 rfl)) ?_
            refine l_step (y_moveV (et g0 rfl)) ?_
            refine gsplitL (i := 31) g0 (fun q10 => ?_) (fun q10 => ?_)
            · skip
              have hcr : crN u.kind = true := by simpa using q10
              refine l_gstep (j := 1) (t := 31) (by exact rfl) (by exact rfl) (et g0 rfl) (by decide) (y_moveV (et (gS rfl (gS rfl (gS rfl (gS rfl (gS rfl (gS rfl (gS rfl g0))))))) rfl)) ?_
              refine l_gstep (j := 1) (t := 31) (by exact rfl) (by exact rfl) (et (gS rfl g0) rfl) (by decide) (y_eql (et g0 rfl) rfl) ?_
              refine l_step (y_pickT (et (gS rfl (gS rfl g0)) rfl) (et g0 rfl)) ?_
              refine l_nil ?_
              refine hK9 _ _ ?_
              refine fg7 2 1 0 6 7 8 34 (gS rfl (gS rfl (gS rfl (gS rfl (gS rfl (gS rfl (gS rfl (gS rfl (gS rfl (gS rfl (gS rfl g0))))))))))) (gS rfl (gS rfl (gS rfl (gS rfl (gS rfl (gS rfl (gS rfl (gS rfl (gS rfl (gS rfl g0)))))))))) (gS rfl (gS rfl (gS rfl (gS rfl (gS rfl (gS rfl (gS rfl (gS rfl (gS rfl g0))))))))) (gS rfl (gS rfl (gS rfl (gS rfl (gS rfl (gS rfl (gS rfl (gS rfl g0)))))))) (gS rfl (gS rfl (gS rfl (gS rfl (gS rfl (gS rfl (gS rfl g0))))))) (gS rfl (gS rfl (gS rfl (gS rfl (gS rfl (gS rfl g0)))))) g0 (fun g => ?_)
              refine c_cond (et g0 rfl) (fun cB1 => ?_) (fun cB1 => ?_)
              · skip
                
                have hq0 : q = 0 := by have := of_decide_eq_true cB1; omega
                have hS : lvSt u q l = dp.2 := by rw [lvSt, if_pos ⟨hcr, hq0⟩, hdp.out]
                refine c_seq (fun K12 hK12 => ?_)
                exact (by
                  refine c_region ?_
                  refine l_step (y_moveV (et (gS rfl (gS rfl (gS rfl (gS rfl (gS rfl (gS rfl g0)))))) rfl)) ?_
                  refine l_eff (e_callV cal_141 (aC (et (gS rfl (gS rfl (gS rfl (gS rfl g0)))) rfl) (aC (et g0 rfl) aN)) (yp_deposit hF _ _ _ _ _ k3 (hf6.mono hL0) (hO.mono hL0) hl9)) (fun v13 w13 h13 => ?_)
                  obtain ⟨vg13, H13, rfl, g13, n13⟩ := h13
                  rw [← hdp.out] at n13 ⊢
                  have hlew13 := g13.le
                  replace nb3 := g13.nb nb3 k3.lt
                  replace nbS := g13.nb nbS kS.lt
                  replace hL0 := hL0.trans hlew13
                  replace k3 := k3.up g13.up
                  replace kS := kS.up g13.up
                  replace kF := kF.up g13.up
                  replace kL := kL.up g13.up
                  replace U := U.tr g13.up
                  replace G := G.tr g13
                  replace hF := g13.fz
                  refine l_step (y_moveV (et g0 rfl)) ?_
                  refine l_step (y_ext (et g0 rfl) rfl) ?_
                  refine l_step (y_ext (et (gS rfl g0) rfl) rfl) ?_
                  refine l_step (y_assignV (et (gS rfl g0) rfl)) ?_
                  refine l_step (y_assignV (et (gS rfl g0) rfl)) ?_
                  refine l_nil ?_
                  refine hK12 _ _ ?_
                  refine fg6 2 1 0 6 7 8 (gS rfl (gS rfl (gS rfl (gS rfl (gS rfl (gS rfl (gS rfl (gS rfl (gS rfl (gS rfl (gS rfl (gS rfl (gS rfl g0))))))))))))) g0 (gS rfl (gS rfl (gS rfl (gS rfl (gS rfl (gS rfl (gS rfl (gS rfl (gS rfl (gS rfl (gS rfl g0))))))))))) (gS rfl (gS rfl (gS rfl (gS rfl (gS rfl (gS rfl (gS rfl (gS rfl (gS rfl (gS rfl g0)))))))))) (gS rfl g0) (gS rfl (gS rfl (gS rfl (gS rfl (gS rfl (gS rfl (gS rfl (gS rfl g0)))))))) (fun g => ?_)
                  refine c_seq (fun K14 hK14 => ?_)
                  exact (by
                    refine c_region ?_
                    refine l_step (y_moveV (et (gS rfl (gS rfl (gS rfl (gS rfl g0)))) rfl)) ?_
                    refine l_step (y_eql (et g0 rfl) rfl) ?_
                    refine l_nil ?_
                    refine hK14 _ _ ?_
                    refine fg7 2 1 0 6 7 8 41 (gS rfl (gS rfl (gS rfl (gS rfl (gS rfl (gS rfl (gS rfl g0))))))) (gS rfl (gS rfl (gS rfl (gS rfl (gS rfl (gS rfl g0)))))) (gS rfl (gS rfl (gS rfl (gS rfl (gS rfl g0))))) (gS rfl (gS rfl (gS rfl (gS rfl g0)))) (gS rfl (gS rfl (gS rfl g0))) (gS rfl (gS rfl g0)) g0 (fun g => ?_)
                    refine c_cond (et g0 rfl) (fun cB2 => ?_) (fun cB2 => ?_)
                    · skip
                      
                      have hd0 : dp.2 = 0 := by have := of_decide_eq_true cB2; omega
                      refine c_seq (fun K16 hK16 => ?_)
                      refine c_seq (fun K17 hK17 => ?_)
                      exact (by
                        refine c_region ?_
                        refine l_step (y_moveV (et (gS rfl (gS rfl (gS rfl (gS rfl (gS rfl (gS rfl g0)))))) rfl)) ?_
                        refine l_step (y_len Hvaa.underlying38 (et g0 rfl)) ?_
                        refine l_step (y_gtr (et g0 rfl) rfl) ?_
                        refine l_nil ?_
                        refine hK17 _ _ ?_
                        refine fg7 2 1 0 6 7 8 44 (gS rfl (gS rfl (gS rfl (gS rfl (gS rfl (gS rfl (gS rfl (gS rfl (gS rfl g0))))))))) (gS rfl (gS rfl (gS rfl (gS rfl (gS rfl (gS rfl (gS rfl (gS rfl g0)))))))) (gS rfl (gS rfl (gS rfl (gS rfl (gS rfl (gS rfl (gS rfl g0))))))) (gS rfl (gS rfl (gS rfl (gS rfl (gS rfl (gS rfl g0)))))) (gS rfl (gS rfl (gS rfl (gS rfl (gS rfl g0))))) (gS rfl (gS rfl (gS rfl (gS rfl g0)))) g0 (fun g => ?_)
                        refine c_cond (et g0 rfl) (fun cB3 => ?_) (fun cB3 => ?_)
                        · skip
                          
                          have hlp : 0 < l.length := by have := of_decide_eq_true cB3; omega
                          refine c_seq (fun K19 hK19 => ?_)
                          exact (by
                            refine fgv6 0 1 2 6 7 8 (gS rfl (gS rfl (gS rfl (gS rfl g0)))) (gS rfl (gS rfl (gS rfl (gS rfl (gS rfl g0))))) (gS rfl (gS rfl (gS rfl (gS rfl (gS rfl (gS rfl g0)))))) (gS rfl (gS rfl (gS rfl g0))) (gS rfl (gS rfl g0)) (gS rfl g0) (fun g z0 z1 z2 z6 z7 z8 e0 e1 e2 e6 e7 e8 => ?_)
                            refine c_drawJ (fun s_ w_ => ∃ (g : Nat → Value) (b22 : Nat) (ca20 : List Value), s_ = (upd (upd (upd (upd (upd (upd (upd g 0 z0) 1 z1) 2 z2) 6 z6) 7 z7) 8 z8) 9 (.pointer (some ⟨b22, 0, none⟩))) ∧ Ch (fun _ => False) w13 w_ ∧ w13.heap.size ≤ b22 ∧ Blk w_ b22 (ca20.toArray) ∧ (PA H13 ca20 (acctAt s.now.accts u.self))) Up 7 (.pure 0 (.pure 1 (.pure 2 (.pure 3 (.pure 4 (.two 5 (.eff 6 (.eff 7 .fin)) 6 (.eff 5 (.eff 7 .fin)))))))) (by kernel_rfl) (fun w23 hu => ⟨Up.refl _, ?_⟩) ?_
                            · skip
                              subst e0 e1 e2 e6 e7 e8
                              replace G := G.tr (Go.ofUp hF hu)
                              replace hF := hF.up hu
                              replace k3 := k3.up hu
                              replace kS := kS.up hu
                              replace kF := kF.up hu
                              replace kL := kL.up hu
                              replace U := U.tr hu
                              have SU := Up.refl w23
                              have V21 : Ch (fun _ => False) w13 w23 := hu
                              refine t_step (by exact rfl) (y_moveV (et (gS rfl (gS rfl (gS rfl (gS rfl (gS rfl g0))))) rfl)) ?_
                              refine t_step (by exact rfl) (y_nil (et g0 rfl)) ?_
                              refine t_step (by exact rfl) (y_fld fld_102_0 (et g0 rfl)) ?_
                              refine t_step (by exact rfl) (y_fld fld_146_12 (et (gS rfl (gS rfl (gS rfl (gS rfl (gS rfl g0))))) rfl)) ?_
                              refine t_step (by exact rfl) (y_loadR agg_25 sz_25 (et g0 rfl) (by rw [length_bL, length_be]) (atSR (k3.row qSe))) ?_
                              refine t_two ?_ ?_
                              · skip
                                refine t_eff (by exact rfl) (e_callV cal_43 (aC (et (gS rfl (gS rfl g0)) rfl) (aC (et g0 rfl) aN)) (yp_account _ _ _ _ _ _ _ _ _ hF kS (rS 0 _ rfl) (hAc.mono hL0) fo6.self (by omega))) (fun v24 w24 h24 => ?_)
                                obtain ⟨c24, rfl, p24, u24⟩ := h24
                                replace G := G.tr (Go.ofUp hF u24)
                                replace hF := hF.up u24
                                replace k3 := k3.up u24
                                replace kS := kS.up u24
                                replace kF := kF.up u24
                                replace kL := kL.up u24
                                replace U := U.tr u24
                                replace V21 := V21.tr u24
                                replace p24 : PA _ _ _ := ⟨p24⟩
                                refine ⟨.inr (SU.tr u24), ?_⟩
                                replace SU := SU.tr u24
                                refine t_one ?_
                                refine t_eff (by exact rfl) (e_alloc zr_107) (fun v25 w25 h25 => ?_)
                                obtain ⟨b25, rfl, n25⟩ := h25
                                have d3_25 : b3 < b25 := Nat.lt_of_lt_of_le k3.lt n25.fresh
                                have f25 : w.heap.size ≤ b25 := Nat.le_trans U.size n25.fresh
                                have nb25 := hF.nb n25.fresh
                                have fS25 := Nat.le_trans SU.size n25.fresh
                                have fV21_25 := Nat.le_trans V21.size n25.fresh
                                replace G := G.tr (Go.ofUp hF n25.up)
                                replace hF := hF.up n25.up
                                replace k3 := k3.up n25.up
                                replace kS := kS.up n25.up
                                replace kF := kF.up n25.up
                                replace kL := kL.up n25.up
                                replace U := U.tr n25.up
                                replace V21 := V21.tr n25.up
                                have k25 := n25.blk
                                refine ⟨.inr (SU.tr n25.up), ?_⟩
                                replace SU := SU.tr n25.up
                                refine t_one ?_
                                refine t_effN (by exact rfl) (e_store sz_107 (et g0 rfl) (cellsV (et (gS rfl g0) rfl) rfl) (acct_len p24.p) (by exact acct_one p24.p) k25 (by exact Nat.le_of_ble_eq_true rfl)) (fun v26 w26 h26 => ?_)
                                obtain ⟨rfl, x26⟩ := h26
                                replace k3 := k3.ch x26.ch (by omega)
                                replace kS := kS.ch x26.ch (by first | omega | (omega))
                                replace kF := kF.ch x26.ch (by first | omega | (omega))
                                replace kL := kL.ch x26.ch (by first | omega | (intro q hq hm; have := dL q hq; omega))
                                replace k25 := x26.blk.full (by rw [acct_len p24.p]; rfl)
                                replace G := G.wr x26 (by first | exact .inr f25 | omega | (simp; omega)) nb25
                                replace hF := G.fz
                                replace U := U.st x26 (.inr f25)
                                replace V21 := V21.st x26 (by omega)
                                refine ⟨.inl rfl, ?_⟩
                                refine tl7 0 1 2 6 7 8 9 (gS rfl (gS rfl (gS rfl (gS rfl (gS rfl (gS rfl (gS rfl (gS rfl (gS rfl (gS rfl (gS rfl (gS rfl g0)))))))))))) (gS rfl (gS rfl (gS rfl (gS rfl (gS rfl (gS rfl (gS rfl (gS rfl (gS rfl (gS rfl (gS rfl g0))))))))))) (gS rfl (gS rfl (gS rfl (gS rfl (gS rfl (gS rfl (gS rfl (gS rfl (gS rfl (gS rfl g0)))))))))) (gS rfl (gS rfl (gS rfl (gS rfl (gS rfl (gS rfl (gS rfl (gS rfl (gS rfl g0))))))))) (gS rfl (gS rfl (gS rfl (gS rfl (gS rfl (gS rfl (gS rfl (gS rfl g0)))))))) (gS rfl (gS rfl (gS rfl (gS rfl (gS rfl (gS rfl (gS rfl g0))))))) g0 (fun g => ?_)
                                exact ⟨g, _, _, rfl, V21, Nat.le_trans hu.size fS25, k25, p24⟩
                              · skip
                                refine t_eff (by exact rfl) (e_alloc zr_107) (fun v27 w27 h27 => ?_)
                                obtain ⟨b27, rfl, n27⟩ := h27
                                have d3_27 : b3 < b27 := Nat.lt_of_lt_of_le k3.lt n27.fresh
                                have f27 : w.heap.size ≤ b27 := Nat.le_trans U.size n27.fresh
                                have nb27 := hF.nb n27.fresh
                                have fS27 := Nat.le_trans SU.size n27.fresh
                                have fV21_27 := Nat.le_trans V21.size n27.fresh
                                replace G := G.tr (Go.ofUp hF n27.up)
                                replace hF := hF.up n27.up
                                replace k3 := k3.up n27.up
                                replace kS := kS.up n27.up
                                replace kF := kF.up n27.up
                                replace kL := kL.up n27.up
                                replace U := U.tr n27.up
                                replace V21 := V21.tr n27.up
                                have k27 := n27.blk
                                refine ⟨.inr (SU.tr n27.up), ?_⟩
                                replace SU := SU.tr n27.up
                                refine t_one ?_
                                refine t_eff (by exact rfl) (e_callV cal_43 (aC (et (gS rfl (gS rfl (gS rfl g0))) rfl) (aC (et (gS rfl g0) rfl) aN)) (yp_account _ _ _ _ _ _ _ _ _ hF kS (rS 0 _ rfl) (hAc.mono hL0) fo6.self (by omega))) (fun v28 w28 h28 => ?_)
                                obtain ⟨c28, rfl, p28, u28⟩ := h28
                                replace G := G.tr (Go.ofUp hF u28)
                                replace hF := hF.up u28
                                replace k3 := k3.up u28
                                replace k27 := k27.up u28
                                replace kS := kS.up u28
                                replace kF := kF.up u28
                                replace kL := kL.up u28
                                replace U := U.tr u28
                                replace V21 := V21.tr u28
                                replace p28 : PA _ _ _ := ⟨p28⟩
                                refine ⟨.inr (SU.tr u28), ?_⟩
                                replace SU := SU.tr u28
                                refine t_one ?_
                                refine t_effN (by exact rfl) (e_store sz_107 (et (gS rfl g0) rfl) (cellsV (et g0 rfl) rfl) (acct_len p28.p) (by exact acct_one p28.p) k27 (by exact Nat.le_of_ble_eq_true rfl)) (fun v29 w29 h29 => ?_)
                                obtain ⟨rfl, x29⟩ := h29
                                replace k3 := k3.ch x29.ch (by omega)
                                replace kS := kS.ch x29.ch (by first | omega | (omega))
                                replace kF := kF.ch x29.ch (by first | omega | (omega))
                                replace kL := kL.ch x29.ch (by first | omega | (intro q hq hm; have := dL q hq; omega))
                                replace k27 := x29.blk.full (by rw [acct_len p28.p]; rfl)
                                replace G := G.wr x29 (by first | exact .inr f27 | omega | (simp; omega)) nb27
                                replace hF := G.fz
                                replace U := U.st x29 (.inr f27)
                                replace V21 := V21.st x29 (by omega)
                                refine ⟨.inl rfl, ?_⟩
                                refine tl7 0 1 2 6 7 8 9 (gS rfl (gS rfl (gS rfl (gS rfl (gS rfl (gS rfl (gS rfl (gS rfl (gS rfl (gS rfl (gS rfl (gS rfl g0)))))))))))) (gS rfl (gS rfl (gS rfl (gS rfl (gS rfl (gS rfl (gS rfl (gS rfl (gS rfl (gS rfl (gS rfl g0))))))))))) (gS rfl (gS rfl (gS rfl (gS rfl (gS rfl (gS rfl (gS rfl (gS rfl (gS rfl (gS rfl g0)))))))))) (gS rfl (gS rfl (gS rfl (gS rfl (gS rfl (gS rfl (gS rfl (gS rfl (gS rfl g0))))))))) (gS rfl (gS rfl (gS rfl (gS rfl (gS rfl (gS rfl (gS rfl (gS rfl g0)))))))) (gS rfl (gS rfl (gS rfl (gS rfl (gS rfl (gS rfl (gS rfl g0))))))) (gS rfl g0) (fun g => ?_)
                                exact ⟨g, _, _, rfl, V21, Nat.le_trans hu.size fS27, k27, p28⟩
                            intro s_ w30 hJ
                            obtain ⟨g, b22, ca20, rfl, V21, fn22, kn22, pa20⟩ := hJ
                            subst e0 e1 e2 e6 e7 e8
                            have d3_22 : b3 < b22 := Nat.lt_of_lt_of_le k3.lt fn22
                            have f22 : w.heap.size ≤ b22 := Nat.le_trans U.size fn22
                            have nb22 := hF.nb fn22
                            replace G := G.tr (Go.ofUp hF V21)
                            replace hF := hF.up V21
                            replace k3 := k3.up V21
                            replace kS := kS.up V21
                            replace kF := kF.up V21
                            replace kL := kL.up V21
                            replace U := U.tr V21
                            have k22 := kn22
                            refine hK19 _ _ ?_
                            refine c_seq (fun K31 hK31 => ?_)
                            exact (by
                              refine c_region ?_
                              refine l_step (y_moveV (et (gS rfl (gS rfl (gS rfl (gS rfl g0)))) rfl)) ?_
                              refine l_step (y_fld fld_107_3 (et (gS rfl g0) rfl)) ?_
                              obtain ⟨vn9, vb9, vc9, vs9, hc9, hn9, hb9, hcd9, hb19, hb29⟩ := acct_form pa20.p
                              have hP9 := acct_code pa20.p hc9 (hO.mono hL0) (by omega)
                              have hl29 := acct_len hP9
                              rw [hc9] at k22
                              refine l_effN (e_store sz_38 (et g0 rfl) (cellsV (et (gS rfl g0) rfl) rfl) rfl (by exact one_one rfl) k22 (by (rw [List.size_toArray, List.length_append, length_bL, length_be]; exact Nat.le_of_ble_eq_true rfl))) (fun v32 w32 h32 => ?_)
                              obtain ⟨rfl, x32⟩ := h32
                              replace k3 := k3.ch x32.ch (by omega)
                              replace kS := kS.ch x32.ch (by first | omega | (omega))
                              replace kF := kF.ch x32.ch (by first | omega | (omega))
                              replace kL := kL.ch x32.ch (by first | omega | (intro q hq hm; have := dL q hq; omega))
                              replace k22 := x32.blk
                              replace G := G.wr x32 (by first | exact .inr f22 | omega | (simp; omega)) nb22
                              replace hF := G.fz
                              replace U := U.st x32 (.inr f22)
                              rw [show (0 + 22 : Nat) = 22 from rfl, set22] at k22
                              replace hP9 : PA _ _ _ := ⟨hP9⟩
                              refine l_nil ?_
                              refine hK31 _ _ ?_
                              refine fg6 0 1 6 7 8 9 (gS rfl (gS rfl (gS rfl (gS rfl (gS rfl (gS rfl (gS rfl (gS rfl g0)))))))) (gS rfl (gS rfl (gS rfl (gS rfl (gS rfl (gS rfl (gS rfl g0))))))) (gS rfl (gS rfl (gS rfl (gS rfl (gS rfl g0))))) (gS rfl (gS rfl (gS rfl (gS rfl g0)))) (gS rfl (gS rfl (gS rfl g0))) (gS rfl (gS rfl g0)) (fun g => ?_)
                              refine c_draw Up 4 [(0, true), (1, true), (2, true), (3, true), (4, false)] (by kernel_rfl) (fun w33 hu => ⟨Up.refl _, ?_⟩)
                              replace G := G.tr (Go.ofUp hF hu)
                              replace hF := hF.up hu
                              replace k3 := k3.up hu
                              replace k22 := k22.up hu
                              replace kS := kS.up hu
                              replace kF := kF.up hu
                              replace kL := kL.up hu
                              replace U := U.tr hu
                              have SU := Up.refl w33
                              exact (by
                                refine p_step (by exact rfl) (y_moveV (et (gS rfl (gS rfl (gS rfl (gS rfl (gS rfl g0))))) rfl)) ?_
                                refine p_step (by exact rfl) (y_nil (et g0 rfl)) ?_
                                refine p_step (by exact rfl) (y_fld fld_102_0 (et g0 rfl)) ?_
                                refine p_step (by exact rfl) (y_loadB agg_107 sz_107 (et (gS rfl (gS rfl (gS rfl g0))) rfl) (by rw [List.size_toArray, hl29]) (atSB k22)) ?_
                                refine p_eff (by exact rfl) (e_callV cal_127 (aC (et (gS rfl g0) rfl) (aC (et g0 rfl) aN)) (yp_put _ _ _ _ _ _ _ _ _ _ hF kS nbS (rS 0 _ rfl) (hAc.mono hL0) hP9.p (by omega))) (fun v34 w34 h34 => ?_)
                                obtain ⟨rfl, z34, H34, g34, lv34, kx34⟩ := h34
                                have hlew34 := g34.le
                                replace nb3 := g34.nb nb3 k3.lt
                                replace nb22 := g34.nb nb22 k22.lt
                                replace nbS := g34.nb nbS kS.lt
                                replace n13 := n13.mono hlew34
                                replace pa20 := pa20.mono hlew34
                                replace hP9 := hP9.mono hlew34
                                replace hL0 := hL0.trans hlew34
                                replace k3 := k3.ch g34.ch (by omega)
                                replace k22 := k22.ch g34.ch (by omega)
                                replace kF := kF.ch g34.ch (by omega)
                                replace kL := kL.ch g34.ch (by intro q hq hm; have := dL q hq; omega)
                                replace kS := kx34
                                replace U := U.cc g34.ch (by intro b hb; first | omega | exact .inl hb | exact .inr (hb ▸ U))
                                replace G := G.trans g34 (by intro b hb; first | omega | exact .inl hb | (simp at hb ⊢; omega))
                                replace hF := g34.fz
                                obtain ⟨xa34, xc34, rfl, hxl34, hxc34⟩ := lv34.val
                                replace eC := kS.eset eC (by omega)
                                replace rS : RowIn _ _ [_, .slice wa s.now.warmA.length wc, .slice sa s.now.warmS.length sc, vr, .slice la s.now.logs.length lc, .slice ta s.now.temps.length tc, .slice ma s.now.made.length mc, .slice ga s.now.gone.length gc, .slice oa s.start.length oc, .slice (some ⟨bf, 0, none⟩) N cap, .slice ra s.ret.length rc, .int .u8 (s.phase : Nat), .int .u8 (s.status : Nat), .int .u8 (s.applied : Nat), vlim, vtx, vleft, vpr, vtot] := kS.rset rS 0 rfl
                                replace rOr := kS.rseto rOr (by first | (left; omega) | (right; simp only [List.length_cons, List.length_nil, length_bL, length_be]; omega))
                                replace rMd := kS.rseto rMd (by first | (left; omega) | (right; simp only [List.length_cons, List.length_nil, length_bL, length_be]; omega))
                                refine ⟨.inl rfl, ?_⟩
                                refine p_nil ?_
                                refine hK16 _ _ ?_
                                refine fg5 0 1 6 7 8 (gS rfl (gS rfl (gS rfl (gS rfl (gS rfl (gS rfl (gS rfl (gS rfl (gS rfl (gS rfl g0)))))))))) (gS rfl (gS rfl (gS rfl (gS rfl (gS rfl (gS rfl (gS rfl (gS rfl (gS rfl g0))))))))) (gS rfl (gS rfl (gS rfl (gS rfl (gS rfl (gS rfl (gS rfl (gS rfl g0)))))))) (gS rfl (gS rfl (gS rfl (gS rfl (gS rfl (gS rfl (gS rfl g0))))))) (gS rfl (gS rfl (gS rfl (gS rfl (gS rfl (gS rfl g0)))))) (fun g => ?_)
                                refine c_region ?_
                                exact (by
                                  refine l_step y_assignC ?_
                                  refine l_nil ?_
                                  refine hK8 _ _ ?_
                                  refine c_seq (fun K35 hK35 => ?_)
                                  refine c_seq (fun K36 hK36 => ?_)
                                  exact (by
                                    refine c_region ?_
                                    refine l_step (y_moveV (et (gS rfl (gS rfl (gS rfl (gS rfl g0)))) rfl)) ?_
                                    refine l_step (y_neq (et g0 rfl) rfl) ?_
                                    refine l_nil ?_
                                    refine hK36 _ _ ?_
                                    refine fg7 0 1 6 7 8 2 59 (gS rfl (gS rfl (gS rfl (gS rfl (gS rfl (gS rfl (gS rfl g0))))))) (gS rfl (gS rfl (gS rfl (gS rfl (gS rfl (gS rfl g0)))))) (gS rfl (gS rfl (gS rfl (gS rfl (gS rfl g0))))) (gS rfl (gS rfl (gS rfl (gS rfl g0)))) (gS rfl (gS rfl (gS rfl g0))) (gS rfl (gS rfl g0)) g0 (fun g => ?_)
                                    refine c_cond (et g0 rfl) (fun cB4 => ?_) (fun cB4 => ?_)
                                    · skip
                                      
                                      have := of_decide_eq_true cB4; omega
                                    · skip
                                      
                                      refine c_skip ?_
                                      refine hK35 _ _ ?_
                                      refine fg6 0 1 6 7 8 2 (gS rfl (gS rfl (gS rfl (gS rfl (gS rfl (gS rfl g0)))))) (gS rfl (gS rfl (gS rfl (gS rfl (gS rfl g0))))) (gS rfl (gS rfl (gS rfl (gS rfl g0)))) (gS rfl (gS rfl (gS rfl g0))) (gS rfl (gS rfl g0)) (gS rfl g0) (fun g => ?_)
                                      refine c_seq (fun K38 hK38 => ?_)
                                      refine c_seq (fun K39 hK39 => ?_)
                                      exact (by
                                        refine c_region ?_
                                        refine l_step (y_moveV (et (gS rfl (gS rfl (gS rfl (gS rfl g0)))) rfl)) ?_
                                        refine l_step (y_gtr (et g0 rfl) rfl) ?_
                                        refine l_nil ?_
                                        refine hK39 _ _ ?_
                                        refine fg7 0 1 6 7 8 2 66 (gS rfl (gS rfl (gS rfl (gS rfl (gS rfl (gS rfl (gS rfl g0))))))) (gS rfl (gS rfl (gS rfl (gS rfl (gS rfl (gS rfl g0)))))) (gS rfl (gS rfl (gS rfl (gS rfl (gS rfl g0))))) (gS rfl (gS rfl (gS rfl (gS rfl g0)))) (gS rfl (gS rfl (gS rfl g0))) (gS rfl (gS rfl g0)) g0 (fun g => ?_)
                                        refine c_cond (et g0 rfl) (fun cB5 => ?_) (fun cB5 => ?_)
                                        · skip
                                          
                                          have := of_decide_eq_true cB5; omega
                                        · skip
                                          
                                          refine c_skip ?_
                                          refine hK38 _ _ ?_
                                          refine fg6 0 1 6 7 8 2 (gS rfl (gS rfl (gS rfl (gS rfl (gS rfl (gS rfl g0)))))) (gS rfl (gS rfl (gS rfl (gS rfl (gS rfl g0))))) (gS rfl (gS rfl (gS rfl (gS rfl g0)))) (gS rfl (gS rfl (gS rfl g0))) (gS rfl (gS rfl g0)) (gS rfl g0) (fun g => ?_)
                                          refine c_seq (fun K41 hK41 => ?_)
                                          exact (by
                                            refine c_region ?_
                                            refine l_step (y_moveV (et (gS rfl (gS rfl (gS rfl (gS rfl (gS rfl g0))))) rfl)) ?_
                                            refine l_step (y_moveV (et (gS rfl g0) rfl)) ?_
                                            refine l_step (y_nil (et (gS rfl g0) rfl)) ?_
                                            refine l_step (y_fld fld_102_3 (et g0 rfl)) ?_
                                            have rl42 := RowIn.le rS (Nat.succ_pos _)
                                            simp only [List.length_cons, List.length_nil, Nat.zero_add, Nat.reduceAdd] at rl42
                                            refine l_effN (e_store sz_38 (et g0 rfl) (cellsV (et (gS rfl (gS rfl g0)) rfl) rfl) rfl (by first | exact one_bL _ | exact one_uL _ | (intro v hv; simp at hv; subst hv; rfl)) kS (by first | exact Nat.le_trans (by omega) rl42 | exact Nat.le_of_ble_eq_true rfl | (simp; done) | (simp; omega) | omega | (simp only [size_spl, Array.size_setIfInBounds, hs.size]; exact Nat.le_of_ble_eq_true rfl))) (fun v42 w42 h42 => ?_)
                                            obtain ⟨rfl, x42⟩ := h42
                                            replace k3 := k3.ch x42.ch (by omega)
                                            replace k22 := k22.ch x42.ch (by omega)
                                            replace kF := kF.ch x42.ch (by omega)
                                            replace kL := kL.ch x42.ch (by intro q hq hm; have := dL q hq; omega)
                                            replace kS := x42.blk
                                            replace G := G.wr x42 (.inl (by first | rfl | (simp; done))) nbS
                                            replace hF := G.fz
                                            replace U := U.st x42 (.inl (by first | rfl | (simp; done)))
                                            replace eC := kS.eput eC (by omega)
                                            replace rS : RowIn _ _ [_, .slice wa s.now.warmA.length wc, .slice sa s.now.warmS.length sc, vr, .slice la s.now.logs.length lc, .slice ta s.now.temps.length tc, .slice ma s.now.made.length mc, .slice ga s.now.gone.length gc, .slice oa s.start.length oc, .slice (some ⟨bf, 0, none⟩) N cap, _, .int .u8 (s.phase : Nat), .int .u8 (s.status : Nat), .int .u8 (s.applied : Nat), vlim, vtx, vleft, vpr, vtot] := kS.rput rS 10 rfl
                                            replace rOr := kS.rputo rOr (by first | (left; omega) | (right; simp only [List.length_cons, List.length_nil, length_bL, length_be]; omega))
                                            replace rMd := kS.rputo rMd (by first | (left; omega) | (right; simp only [List.length_cons, List.length_nil, length_bL, length_be]; omega))
                                            refine l_nil ?_
                                            refine hK41 _ _ ?_
                                            refine fg6 0 1 6 7 8 2 (gS rfl (gS rfl (gS rfl (gS rfl (gS rfl (gS rfl (gS rfl (gS rfl (gS rfl g0))))))))) (gS rfl (gS rfl (gS rfl (gS rfl (gS rfl (gS rfl (gS rfl (gS rfl g0)))))))) (gS rfl (gS rfl (gS rfl (gS rfl (gS rfl (gS rfl (gS rfl g0))))))) (gS rfl (gS rfl (gS rfl (gS rfl (gS rfl (gS rfl g0)))))) (gS rfl (gS rfl (gS rfl (gS rfl (gS rfl g0))))) (gS rfl (gS rfl (gS rfl (gS rfl g0)))) (fun g => ?_)
                                            refine c_seq (fun K43 hK43 => ?_)
                                            exact (by
                                              refine c_draw Up 20 [(0, true), (1, true), (2, true), (3, true), (4, true), (5, true), (6, true), (7, true), (8, true), (9, true), (10, true), (11, true), (12, true), (13, true), (14, true), (15, true), (16, true), (17, true), (18, true), (19, true), (20, false)] (by kernel_rfl) (fun w44 hu => ⟨Up.refl _, ?_⟩)
                                              replace G := G.tr (Go.ofUp hF hu)
                                              replace hF := hF.up hu
                                              replace k3 := k3.up hu
                                              replace k22 := k22.up hu
                                              replace kS := kS.up hu
                                              replace kF := kF.up hu
                                              replace kL := kL.up hu
                                              replace U := U.tr hu
                                              have SU := Up.refl w44
                                              refine p_step (by exact rfl) (y_moveV (et (gS rfl (gS rfl (gS rfl (gS rfl (gS rfl g0))))) rfl)) ?_
                                              refine p_step (by exact rfl) (y_moveV (et (gS rfl (gS rfl (gS rfl (gS rfl (gS rfl (gS rfl g0)))))) rfl)) ?_
                                              refine p_step (by exact rfl) (y_nil (et g0 rfl)) ?_
                                              refine p_step (by exact rfl) (y_fld fld_102_2 (et g0 rfl)) ?_
                                              refine p_step (by exact rfl) (y_load1 one_100 (et g0 rfl) (atS (kS.cell (rS 9 _ rfl)))) ?_
                                              refine p_step (by exact rfl) (y_moveV (et (gS rfl (gS rfl (gS rfl (gS rfl (gS rfl (gS rfl (gS rfl (gS rfl (gS rfl (gS rfl g0)))))))))) rfl)) ?_
                                              refine p_step (by exact rfl) (y_nil (et g0 rfl)) ?_
                                              refine p_step (by exact rfl) (y_fld fld_102_2 (et g0 rfl)) ?_
                                              refine p_step (by exact rfl) (y_load1 one_100 (et g0 rfl) (atS (kS.cell (rS 9 _ rfl)))) ?_
                                              refine p_step (by exact rfl) (y_len Hvaa.underlying100 (et g0 rfl)) ?_
                                              refine p_step (by exact rfl) (y_sub (et g0 rfl) rfl (subIN (y := 1) ?_ ?_)) ?_
                                              omega
                                              omega
                                              refine p_step (by exact rfl) (y_moveV (et (gS rfl (gS rfl (gS rfl (gS rfl (gS rfl (gS rfl (gS rfl (gS rfl (gS rfl (gS rfl (gS rfl (gS rfl (gS rfl (gS rfl (gS rfl (gS rfl g0)))))))))))))))) rfl)) ?_
                                              refine p_step (by exact rfl) (y_nil (et g0 rfl)) ?_
                                              refine p_step (by exact rfl) (y_fld fld_102_2 (et g0 rfl)) ?_
                                              refine p_step (by exact rfl) (y_load1 one_100 (et g0 rfl) (atS (kS.cell (rS 9 _ rfl)))) ?_
                                              refine p_step (by exact rfl) (y_len Hvaa.underlying100 (et g0 rfl)) ?_
                                              refine p_step (by exact rfl) (y_sub (et g0 rfl) rfl (subIN (y := 1) ?_ ?_)) ?_
                                              omega
                                              omega
                                              exact (by
                                                refine p_step (by exact rfl) (y_slS011n Hvaa.underlying100 sz_146 (et (gS rfl (gS rfl (gS rfl (gS rfl (gS rfl (gS rfl (gS rfl (gS rfl (gS rfl (gS rfl (gS rfl (gS rfl g0)))))))))))) rfl) (et (gS rfl (gS rfl (gS rfl (gS rfl (gS rfl (gS rfl g0)))))) rfl) (et g0 rfl) ?_ ?_) ?_
                                                omega
                                                omega
                                                refine p_step (by exact rfl) (y_nil (et (gS rfl (gS rfl (gS rfl (gS rfl (gS rfl (gS rfl (gS rfl (gS rfl (gS rfl (gS rfl (gS rfl (gS rfl (gS rfl (gS rfl (gS rfl (gS rfl (gS rfl g0))))))))))))))))) rfl)) ?_
                                                refine p_step (by exact rfl) (y_fld fld_102_2 (et g0 rfl)) ?_
                                                have rl45 := RowIn.le rS (Nat.succ_pos _)
                                                simp only [List.length_cons, List.length_nil, Nat.zero_add, Nat.reduceAdd] at rl45
                                                refine p_effN (by exact rfl) (e_store sz_100 (et g0 rfl) (cellsV (et (gS rfl (gS rfl g0)) rfl) rfl) rfl (by first | exact one_bL _ | exact one_uL _ | (intro v hv; simp at hv; subst hv; rfl)) kS (by first | exact Nat.le_trans (by omega) rl45 | exact Nat.le_of_ble_eq_true rfl | (simp; done) | (simp; omega) | omega | (simp only [size_spl, Array.size_setIfInBounds, hs.size]; exact Nat.le_of_ble_eq_true rfl))) (fun v45 w45 h45 => ?_)
                                                obtain ⟨rfl, x45⟩ := h45
                                                replace k3 := k3.ch x45.ch (by omega)
                                                replace k22 := k22.ch x45.ch (by omega)
                                                replace kF := kF.ch x45.ch (by omega)
                                                replace kL := kL.ch x45.ch (by intro q hq hm; have := dL q hq; omega)
                                                replace kS := x45.blk
                                                replace G := G.wr x45 (.inl (by first | rfl | (simp; done))) nbS
                                                replace hF := G.fz
                                                replace U := U.st x45 (.inl (by first | rfl | (simp; done)))
                                                replace eC := kS.eput eC (by omega)
                                                replace rS : RowIn _ _ [_, .slice wa s.now.warmA.length wc, .slice sa s.now.warmS.length sc, vr, .slice la s.now.logs.length lc, .slice ta s.now.temps.length tc, .slice ma s.now.made.length mc, .slice ga s.now.gone.length gc, .slice oa s.start.length oc, .slice (some ⟨bf, 0, none⟩) (N - 1) (N - 1), _, .int .u8 (s.phase : Nat), .int .u8 (s.status : Nat), .int .u8 (s.applied : Nat), vlim, vtx, vleft, vpr, vtot] := kS.rput rS 9 rfl
                                                replace rOr := kS.rputo rOr (by first | (left; omega) | (right; simp only [List.length_cons, List.length_nil, length_bL, length_be]; omega))
                                                replace rMd := kS.rputo rMd (by first | (left; omega) | (right; simp only [List.length_cons, List.length_nil, length_bL, length_be]; omega))
                                                refine ⟨.inl rfl, ?_⟩
                                                refine p_nil ?_
                                                refine hK43 _ _ ?_
                                                refine fg6 0 1 6 7 8 2 (gS rfl (gS rfl (gS rfl (gS rfl (gS rfl (gS rfl (gS rfl (gS rfl (gS rfl (gS rfl (gS rfl (gS rfl (gS rfl (gS rfl (gS rfl (gS rfl (gS rfl (gS rfl (gS rfl (gS rfl (gS rfl (gS rfl (gS rfl (gS rfl (gS rfl g0))))))))))))))))))))))))) (gS rfl (gS rfl (gS rfl (gS rfl (gS rfl (gS rfl (gS rfl (gS rfl (gS rfl (gS rfl (gS rfl (gS rfl (gS rfl (gS rfl (gS rfl (gS rfl (gS rfl (gS rfl (gS rfl (gS rfl (gS rfl (gS rfl (gS rfl (gS rfl g0)))))))))))))))))))))))) (gS rfl (gS rfl (gS rfl (gS rfl (gS rfl (gS rfl (gS rfl (gS rfl (gS rfl (gS rfl (gS rfl (gS rfl (gS rfl (gS rfl (gS rfl (gS rfl (gS rfl (gS rfl (gS rfl (gS rfl (gS rfl (gS rfl (gS rfl g0))))))))))))))))))))))) (gS rfl (gS rfl (gS rfl (gS rfl (gS rfl (gS rfl (gS rfl (gS rfl (gS rfl (gS rfl (gS rfl (gS rfl (gS rfl (gS rfl (gS rfl (gS rfl (gS rfl (gS rfl (gS rfl (gS rfl (gS rfl (gS rfl g0)))))))))))))))))))))) (gS rfl (gS rfl (gS rfl (gS rfl (gS rfl (gS rfl (gS rfl (gS rfl (gS rfl (gS rfl (gS rfl (gS rfl (gS rfl (gS rfl (gS rfl (gS rfl (gS rfl (gS rfl (gS rfl (gS rfl (gS rfl g0))))))))))))))))))))) (gS rfl (gS rfl (gS rfl (gS rfl (gS rfl (gS rfl (gS rfl (gS rfl (gS rfl (gS rfl (gS rfl (gS rfl (gS rfl (gS rfl (gS rfl (gS rfl (gS rfl (gS rfl (gS rfl (gS rfl g0)))))))))))))))))))) (fun g => ?_)
                                                refine c_seq (fun K46 hK46 => ?_)
                                                refine c_seq (fun K47 hK47 => ?_)
                                                exact (by
                                                  refine c_region ?_
                                                  refine l_step (y_moveV (et (gS rfl (gS rfl (gS rfl (gS rfl (gS rfl g0))))) rfl)) ?_
                                                  refine l_step (y_nil (et g0 rfl)) ?_
                                                  refine l_step (y_fld fld_102_2 (et g0 rfl)) ?_
                                                  refine l_step (y_load1 one_100 (et g0 rfl) (at1 (kS.cell (rS 9 _ rfl)))) ?_
                                                  refine l_step (y_len Hvaa.underlying100 (et g0 rfl)) ?_
                                                  refine l_step (y_eql (et g0 rfl) rfl) ?_
                                                  refine l_nil ?_
                                                  refine hK47 _ _ ?_
                                                  refine fg7 0 1 6 7 8 2 96 (gS rfl (gS rfl (gS rfl (gS rfl (gS rfl (gS rfl (gS rfl (gS rfl (gS rfl (gS rfl (gS rfl g0))))))))))) (gS rfl (gS rfl (gS rfl (gS rfl (gS rfl (gS rfl (gS rfl (gS rfl (gS rfl (gS rfl g0)))))))))) (gS rfl (gS rfl (gS rfl (gS rfl (gS rfl (gS rfl (gS rfl (gS rfl (gS rfl g0))))))))) (gS rfl (gS rfl (gS rfl (gS rfl (gS rfl (gS rfl (gS rfl (gS rfl g0)))))))) (gS rfl (gS rfl (gS rfl (gS rfl (gS rfl (gS rfl (gS rfl g0))))))) (gS rfl (gS rfl (gS rfl (gS rfl (gS rfl (gS rfl g0)))))) g0 (fun g => ?_)
                                                  refine c_cond (et g0 rfl) (fun cB6 => ?_) (fun cB6 => ?_)
                                                  · skip
                                                    
                                                    refine c_seq (fun K49 hK49 => ?_)
                                                    exact (by
                                                      refine c_region ?_
                                                      refine l_step (y_moveV (et (gS rfl (gS rfl (gS rfl (gS rfl (gS rfl (gS rfl g0)))))) rfl)) ?_
                                                      refine l_step (y_nil (et g0 rfl)) ?_
                                                      refine l_step (y_fld fld_102_2 (et g0 rfl)) ?_
                                                      have rl50 := RowIn.le rS (Nat.succ_pos _)
                                                      simp only [List.length_cons, List.length_nil, Nat.zero_add, Nat.reduceAdd] at rl50
                                                      refine l_effN (e_store sz_100 (et g0 rfl) (cellsV rfl rfl) rfl (by first | exact one_bL _ | exact one_uL _ | (intro v hv; simp at hv; subst hv; rfl)) kS (by first | exact Nat.le_trans (by omega) rl50 | exact Nat.le_of_ble_eq_true rfl | (simp; done) | (simp; omega) | omega | (simp only [size_spl, Array.size_setIfInBounds, hs.size]; exact Nat.le_of_ble_eq_true rfl))) (fun v50 w50 h50 => ?_)
                                                      obtain ⟨rfl, x50⟩ := h50
                                                      replace k3 := k3.ch x50.ch (by omega)
                                                      replace k22 := k22.ch x50.ch (by omega)
                                                      replace kF := kF.ch x50.ch (by omega)
                                                      replace kL := kL.ch x50.ch (by intro q hq hm; have := dL q hq; omega)
                                                      replace kS := x50.blk
                                                      replace G := G.wr x50 (.inl (by first | rfl | (simp; done))) nbS
                                                      replace hF := G.fz
                                                      replace U := U.st x50 (.inl (by first | rfl | (simp; done)))
                                                      replace eC := kS.eput eC (by omega)
                                                      replace rS : RowIn _ _ [_, .slice wa s.now.warmA.length wc, .slice sa s.now.warmS.length sc, vr, .slice la s.now.logs.length lc, .slice ta s.now.temps.length tc, .slice ma s.now.made.length mc, .slice ga s.now.gone.length gc, .slice oa s.start.length oc, _, _, .int .u8 (s.phase : Nat), .int .u8 (s.status : Nat), .int .u8 (s.applied : Nat), vlim, vtx, vleft, vpr, vtot] := kS.rput rS 9 rfl
                                                      replace rOr := kS.rputo rOr (by first | (left; omega) | (right; simp only [List.length_cons, List.length_nil, length_bL, length_be]; omega))
                                                      replace rMd := kS.rputo rMd (by first | (left; omega) | (right; simp only [List.length_cons, List.length_nil, length_bL, length_be]; omega))
                                                      refine l_nil ?_
                                                      refine hK49 _ _ ?_
                                                      refine fg3 0 1 7 (gS rfl (gS rfl (gS rfl (gS rfl (gS rfl (gS rfl (gS rfl (gS rfl (gS rfl g0))))))))) (gS rfl (gS rfl (gS rfl (gS rfl (gS rfl (gS rfl (gS rfl (gS rfl g0)))))))) (gS rfl (gS rfl (gS rfl (gS rfl (gS rfl (gS rfl g0)))))) (fun g => ?_)
                                                      refine c_seq (fun K51 hK51 => ?_)
                                                      exact (by
                                                        refine c_region ?_
                                                        refine l_step (y_moveV (et (gS rfl (gS rfl g0)) rfl)) ?_
                                                        refine l_step (y_nil (et g0 rfl)) ?_
                                                        refine l_step (y_fld fld_102_4 (et g0 rfl)) ?_
                                                        have rl52 := RowIn.le rS (Nat.succ_pos _)
                                                        simp only [List.length_cons, List.length_nil, Nat.zero_add, Nat.reduceAdd] at rl52
                                                        refine l_effN (e_store sz_5 (et g0 rfl) (cellsV rfl rfl) rfl (by first | exact one_bL _ | exact one_uL _ | (intro v hv; simp at hv; subst hv; rfl)) kS (by first | exact Nat.le_trans (by omega) rl52 | exact Nat.le_of_ble_eq_true rfl | (simp; done) | (simp; omega) | omega | (simp only [size_spl, Array.size_setIfInBounds, hs.size]; exact Nat.le_of_ble_eq_true rfl))) (fun v52 w52 h52 => ?_)
                                                        obtain ⟨rfl, x52⟩ := h52
                                                        replace k3 := k3.ch x52.ch (by omega)
                                                        replace k22 := k22.ch x52.ch (by omega)
                                                        replace kF := kF.ch x52.ch (by omega)
                                                        replace kL := kL.ch x52.ch (by intro q hq hm; have := dL q hq; omega)
                                                        replace kS := x52.blk
                                                        replace G := G.wr x52 (.inl (by first | rfl | (simp; done))) nbS
                                                        replace hF := G.fz
                                                        replace U := U.st x52 (.inl (by first | rfl | (simp; done)))
                                                        replace eC := kS.eput eC (by omega)
                                                        replace rS : RowIn _ _ [_, .slice wa s.now.warmA.length wc, .slice sa s.now.warmS.length sc, vr, .slice la s.now.logs.length lc, .slice ta s.now.temps.length tc, .slice ma s.now.made.length mc, .slice ga s.now.gone.length gc, .slice oa s.start.length oc, _, _, .int .u8 ((2 : Nat) : Int), .int .u8 (s.status : Nat), .int .u8 (s.applied : Nat), vlim, vtx, vleft, vpr, vtot] := kS.rput rS 11 rfl
                                                        replace rOr := kS.rputo rOr (by first | (left; omega) | (right; simp only [List.length_cons, List.length_nil, length_bL, length_be]; omega))
                                                        replace rMd := kS.rputo rMd (by first | (left; omega) | (right; simp only [List.length_cons, List.length_nil, length_bL, length_be]; omega))
                                                        refine l_nil ?_
                                                        refine hK51 _ _ ?_
                                                        refine fg3 0 1 7 (gS rfl (gS rfl (gS rfl (gS rfl (gS rfl g0))))) (gS rfl (gS rfl (gS rfl (gS rfl g0)))) (gS rfl (gS rfl (gS rfl g0))) (fun g => ?_)
                                                        refine c_seq (fun K53 hK53 => ?_)
                                                        exact (by
                                                          refine c_region ?_
                                                          refine l_step (y_moveV (et (gS rfl (gS rfl g0)) rfl)) ?_
                                                          refine l_step (y_moveV (et (gS rfl (gS rfl g0)) rfl)) ?_
                                                          refine l_step (y_nil (et (gS rfl g0) rfl)) ?_
                                                          refine l_step (y_fld fld_102_5 (et g0 rfl)) ?_
                                                          have rl54 := RowIn.le rS (Nat.succ_pos _)
                                                          simp only [List.length_cons, List.length_nil, Nat.zero_add, Nat.reduceAdd] at rl54
                                                          refine l_effN (e_store sz_5 (et g0 rfl) (cellsV (et (gS rfl (gS rfl g0)) rfl) rfl) rfl (by first | exact one_bL _ | exact one_uL _ | (intro v hv; simp at hv; subst hv; rfl)) kS (by first | exact Nat.le_trans (by omega) rl54 | exact Nat.le_of_ble_eq_true rfl | (simp; done) | (simp; omega) | omega | (simp only [size_spl, Array.size_setIfInBounds, hs.size]; exact Nat.le_of_ble_eq_true rfl))) (fun v54 w54 h54 => ?_)
                                                          obtain ⟨rfl, x54⟩ := h54
                                                          replace k3 := k3.ch x54.ch (by omega)
                                                          replace k22 := k22.ch x54.ch (by omega)
                                                          replace kF := kF.ch x54.ch (by omega)
                                                          replace kL := kL.ch x54.ch (by intro q hq hm; have := dL q hq; omega)
                                                          replace kS := x54.blk
                                                          replace G := G.wr x54 (.inl (by first | rfl | (simp; done))) nbS
                                                          replace hF := G.fz
                                                          replace U := U.st x54 (.inl (by first | rfl | (simp; done)))
                                                          replace eC := kS.eput eC (by omega)
                                                          replace rS : RowIn _ _ [_, .slice wa s.now.warmA.length wc, .slice sa s.now.warmS.length sc, vr, .slice la s.now.logs.length lc, .slice ta s.now.temps.length tc, .slice ma s.now.made.length mc, .slice ga s.now.gone.length gc, .slice oa s.start.length oc, _, _, .int .u8 ((2 : Nat) : Int), _, .int .u8 (s.applied : Nat), vlim, vtx, vleft, vpr, vtot] := kS.rput rS 12 rfl
                                                          replace rOr := kS.rputo rOr (by first | (left; omega) | (right; simp only [List.length_cons, List.length_nil, length_bL, length_be]; omega))
                                                          replace rMd := kS.rputo rMd (by first | (left; omega) | (right; simp only [List.length_cons, List.length_nil, length_bL, length_be]; omega))
                                                          refine l_nil ?_
                                                          refine hK53 _ _ ?_
                                                          refine fg2 0 7 (gS rfl (gS rfl (gS rfl (gS rfl (gS rfl (gS rfl g0)))))) (gS rfl (gS rfl (gS rfl (gS rfl g0)))) (fun g => ?_)
                                                          refine c_seq (fun K55 hK55 => ?_)
                                                          exact (by
                                                            refine c_region ?_
                                                            refine l_step (y_moveV (et (gS rfl g0) rfl)) ?_
                                                            refine l_step (y_moveV (et (gS rfl g0) rfl)) ?_
                                                            refine l_step (y_nil (et (gS rfl g0) rfl)) ?_
                                                            refine l_step (y_fld fld_102_9 (et g0 rfl)) ?_
                                                            obtain ⟨sa56, sn56, sc56, rfl⟩ := n13.sl
                                                            have rl56 := RowIn.le rS (Nat.succ_pos _)
                                                            simp only [List.length_cons, List.length_nil, Nat.zero_add, Nat.reduceAdd] at rl56
                                                            refine l_effN (e_store sz_95 (et g0 rfl) (cellsV (et (gS rfl (gS rfl g0)) rfl) rfl) rfl (by first | exact one_bL _ | exact one_uL _ | (intro v hv; simp at hv; subst hv; rfl)) kS (by first | exact Nat.le_trans (by omega) rl56 | exact Nat.le_of_ble_eq_true rfl | (simp; done) | (simp; omega) | omega | (simp only [size_spl, Array.size_setIfInBounds, hs.size]; exact Nat.le_of_ble_eq_true rfl))) (fun v56 w56 h56 => ?_)
                                                            obtain ⟨rfl, x56⟩ := h56
                                                            replace k3 := k3.ch x56.ch (by omega)
                                                            replace k22 := k22.ch x56.ch (by omega)
                                                            replace kF := kF.ch x56.ch (by omega)
                                                            replace kL := kL.ch x56.ch (by intro q hq hm; have := dL q hq; omega)
                                                            replace kS := x56.blk
                                                            replace G := G.wr x56 (.inl (by first | rfl | (simp; done))) nbS
                                                            replace hF := G.fz
                                                            replace U := U.st x56 (.inl (by first | rfl | (simp; done)))
                                                            replace eC := kS.eput eC (by omega)
                                                            replace rS : RowIn _ _ [_, .slice wa s.now.warmA.length wc, .slice sa s.now.warmS.length sc, vr, .slice la s.now.logs.length lc, .slice ta s.now.temps.length tc, .slice ma s.now.made.length mc, .slice ga s.now.gone.length gc, .slice oa s.start.length oc, _, _, .int .u8 ((2 : Nat) : Int), _, .int .u8 (s.applied : Nat), vlim, vtx, _, vpr, vtot] := kS.rput rS 16 rfl
                                                            replace rOr := kS.rputo rOr (by first | (left; omega) | (right; simp only [List.length_cons, List.length_nil, length_bL, length_be]; omega))
                                                            replace rMd := kS.rputo rMd (by first | (left; omega) | (right; simp only [List.length_cons, List.length_nil, length_bL, length_be]; omega))
                                                            refine l_nil ?_
                                                            refine hK55 _ _ ?_
                                                            refine fg0 (fun g => ?_)
                                                            refine c_ret ?_
                                                            repeat with_reducible refine then_ret ?_
                                                            refine ret0 rfl ?_
                                                            have hG : lvGas u q l = dp.1 := by rw [lvGas, if_neg (by rw [hS]; omega), if_pos ⟨hcr, hq0⟩, hdp.out]
                                                            have hOu : lvOut u q l = [] := by rw [lvOut, if_pos (.inr ⟨hcr, by rw [hS]; exact hd0⟩)]
                                                            have hW : lvW s u q l = { s.now with accts := putA s.now.accts (setCode (acctAt s.now.accts u.self) l) } := by rw [lvW, if_pos (by rw [hS]; exact hd0), if_pos ⟨hcr, hlp⟩]
                                                            have hS0 : lvSt u q l = 0 := by rw [hS]; exact hd0
                                                            have eS : lvS1 s u q l = { s with now := { s.now with accts := putA s.now.accts (setCode (acctAt s.now.accts u.self) l) }, ret := [], phase := 2, status := dp.2, left := dp.1 } := by rw [lvS1, hW, hOu, hS, hG]
                                                            rw [eS, hW]
                                                            exact ⟨rfl, _, _, _, G, kS, ⟨⟨(by show (putA s.now.accts (setCode (acctAt s.now.accts u.self) l)).length < _; have := putA_len s.now.accts (setCode (acctAt s.now.accts u.self) l); have := lh.accts; omega), so.warmA, so.warmS, so.refund, so.logs, so.temps, so.made, so.gone, so.start, (show 0 < 16777216 by decide), (show 2 < 256 by decide), (by show dp.2 < 256; have := hds.out; omega), so.applied, so.limit, so.txGas, (Nat.lt_of_le_of_lt hdl (Nat.lt_trans fo6.gas (by decide))), so.price, so.total, so.origin, so.mad⟩, eC.mono hL0, (by simp only [size_spl, Array.size_setIfInBounds]; exact hs.size), _, _, _, _, _, _, _, _, _, _, _, _, _, _, _, _, _, _, _, _, _, _, _, _, rS, rOr, rMd, lv34, (hWA.mono hL0), (hWS.mono hL0), (hRf.mono hL0), (hTm.mono hL0), (hMd.mono hL0), (hGn.mono hL0), (hSr.mono hL0), (BV.nil _), (hLm.mono hL0), (hTx.mono hL0), n13, (hPr.mono hL0), (hTt.mono hL0)⟩, by rw [if_pos hS0]; exact kL.mono hL0, ((rS 4 _ rfl).trans (hv4.symm.trans hvl))⟩))))
                                                  · skip
                                                    
                                                    have := of_decide_eq_false cB6; omega))))))))))
                        · skip
                          
                          have hlp : ¬ 0 < l.length := by have := of_decide_eq_false cB3; omega
                          refine c_skip ?_
                          refine hK16 _ _ ?_
                          refine fg5 1 0 6 7 8 (gS rfl (gS rfl (gS rfl (gS rfl (gS rfl g0))))) (gS rfl (gS rfl (gS rfl (gS rfl g0)))) (gS rfl (gS rfl (gS rfl g0))) (gS rfl (gS rfl g0)) (gS rfl g0) (fun g => ?_)
                          refine c_region ?_
                          refine l_step y_assignC ?_
                          refine l_nil ?_
                          refine hK8 _ _ ?_
                          refine c_seq (fun K57 hK57 => ?_)
                          refine c_seq (fun K58 hK58 => ?_)
                          exact (by
                            refine c_region ?_
                            refine l_step (y_moveV (et (gS rfl (gS rfl (gS rfl (gS rfl (gS rfl g0))))) rfl)) ?_
                            refine l_step (y_neq (et g0 rfl) rfl) ?_
                            refine l_nil ?_
                            refine hK58 _ _ ?_
                            refine fg7 1 0 6 7 8 2 59 (gS rfl (gS rfl (gS rfl (gS rfl (gS rfl (gS rfl (gS rfl g0))))))) (gS rfl (gS rfl (gS rfl (gS rfl (gS rfl (gS rfl g0)))))) (gS rfl (gS rfl (gS rfl (gS rfl (gS rfl g0))))) (gS rfl (gS rfl (gS rfl (gS rfl g0)))) (gS rfl (gS rfl (gS rfl g0))) (gS rfl (gS rfl g0)) g0 (fun g => ?_)
                            refine c_cond (et g0 rfl) (fun cB4 => ?_) (fun cB4 => ?_)
                            · skip
                              
                              have := of_decide_eq_true cB4; omega
                            · skip
                              
                              refine c_skip ?_
                              refine hK57 _ _ ?_
                              refine fg6 1 0 6 7 8 2 (gS rfl (gS rfl (gS rfl (gS rfl (gS rfl (gS rfl g0)))))) (gS rfl (gS rfl (gS rfl (gS rfl (gS rfl g0))))) (gS rfl (gS rfl (gS rfl (gS rfl g0)))) (gS rfl (gS rfl (gS rfl g0))) (gS rfl (gS rfl g0)) (gS rfl g0) (fun g => ?_)
                              refine c_seq (fun K60 hK60 => ?_)
                              refine c_seq (fun K61 hK61 => ?_)
                              exact (by
                                refine c_region ?_
                                refine l_step (y_moveV (et (gS rfl (gS rfl (gS rfl (gS rfl (gS rfl g0))))) rfl)) ?_
                                refine l_step (y_gtr (et g0 rfl) rfl) ?_
                                refine l_nil ?_
                                refine hK61 _ _ ?_
                                refine fg7 1 0 6 7 8 2 66 (gS rfl (gS rfl (gS rfl (gS rfl (gS rfl (gS rfl (gS rfl g0))))))) (gS rfl (gS rfl (gS rfl (gS rfl (gS rfl (gS rfl g0)))))) (gS rfl (gS rfl (gS rfl (gS rfl (gS rfl g0))))) (gS rfl (gS rfl (gS rfl (gS rfl g0)))) (gS rfl (gS rfl (gS rfl g0))) (gS rfl (gS rfl g0)) g0 (fun g => ?_)
                                refine c_cond (et g0 rfl) (fun cB5 => ?_) (fun cB5 => ?_)
                                · skip
                                  
                                  have := of_decide_eq_true cB5; omega
                                · skip
                                  
                                  refine c_skip ?_
                                  refine hK60 _ _ ?_
                                  refine fg6 1 0 6 7 8 2 (gS rfl (gS rfl (gS rfl (gS rfl (gS rfl (gS rfl g0)))))) (gS rfl (gS rfl (gS rfl (gS rfl (gS rfl g0))))) (gS rfl (gS rfl (gS rfl (gS rfl g0)))) (gS rfl (gS rfl (gS rfl g0))) (gS rfl (gS rfl g0)) (gS rfl g0) (fun g => ?_)
                                  refine c_seq (fun K63 hK63 => ?_)
                                  exact (by
                                    refine c_region ?_
                                    refine l_step (y_moveV (et (gS rfl (gS rfl (gS rfl (gS rfl g0)))) rfl)) ?_
                                    refine l_step (y_moveV (et (gS rfl g0) rfl)) ?_
                                    refine l_step (y_nil (et (gS rfl g0) rfl)) ?_
                                    refine l_step (y_fld fld_102_3 (et g0 rfl)) ?_
                                    have rl64 := RowIn.le rS (Nat.succ_pos _)
                                    simp only [List.length_cons, List.length_nil, Nat.zero_add, Nat.reduceAdd] at rl64
                                    refine l_effN (e_store sz_38 (et g0 rfl) (cellsV (et (gS rfl (gS rfl g0)) rfl) rfl) rfl (by first | exact one_bL _ | exact one_uL _ | (intro v hv; simp at hv; subst hv; rfl)) kS (by first | exact Nat.le_trans (by omega) rl64 | exact Nat.le_of_ble_eq_true rfl | (simp; done) | (simp; omega) | omega | (simp only [size_spl, Array.size_setIfInBounds, hs.size]; exact Nat.le_of_ble_eq_true rfl))) (fun v64 w64 h64 => ?_)
                                    obtain ⟨rfl, x64⟩ := h64
                                    replace k3 := k3.ch x64.ch (by omega)
                                    replace kF := kF.ch x64.ch (by omega)
                                    replace kL := kL.ch x64.ch (by intro q hq hm; have := dL q hq; omega)
                                    replace kS := x64.blk
                                    replace G := G.wr x64 (.inl (by first | rfl | (simp; done))) nbS
                                    replace hF := G.fz
                                    replace U := U.st x64 (.inl (by first | rfl | (simp; done)))
                                    replace eC := kS.eput eC (by omega)
                                    replace rS : RowIn _ _ [.slice aa s.now.accts.length ac, .slice wa s.now.warmA.length wc, .slice sa s.now.warmS.length sc, vr, .slice la s.now.logs.length lc, .slice ta s.now.temps.length tc, .slice ma s.now.made.length mc, .slice ga s.now.gone.length gc, .slice oa s.start.length oc, .slice (some ⟨bf, 0, none⟩) N cap, _, .int .u8 (s.phase : Nat), .int .u8 (s.status : Nat), .int .u8 (s.applied : Nat), vlim, vtx, vleft, vpr, vtot] := kS.rput rS 10 rfl
                                    replace rOr := kS.rputo rOr (by first | (left; omega) | (right; simp only [List.length_cons, List.length_nil, length_bL, length_be]; omega))
                                    replace rMd := kS.rputo rMd (by first | (left; omega) | (right; simp only [List.length_cons, List.length_nil, length_bL, length_be]; omega))
                                    refine l_nil ?_
                                    refine hK63 _ _ ?_
                                    refine fg6 1 0 6 7 8 2 (gS rfl (gS rfl (gS rfl (gS rfl (gS rfl (gS rfl (gS rfl (gS rfl (gS rfl g0))))))))) (gS rfl (gS rfl (gS rfl (gS rfl (gS rfl (gS rfl (gS rfl (gS rfl g0)))))))) (gS rfl (gS rfl (gS rfl (gS rfl (gS rfl (gS rfl (gS rfl g0))))))) (gS rfl (gS rfl (gS rfl (gS rfl (gS rfl (gS rfl g0)))))) (gS rfl (gS rfl (gS rfl (gS rfl (gS rfl g0))))) (gS rfl (gS rfl (gS rfl (gS rfl g0)))) (fun g => ?_)
                                    refine c_seq (fun K65 hK65 => ?_)
                                    exact (by
                                      refine c_draw Up 20 [(0, true), (1, true), (2, true), (3, true), (4, true), (5, true), (6, true), (7, true), (8, true), (9, true), (10, true), (11, true), (12, true), (13, true), (14, true), (15, true), (16, true), (17, true), (18, true), (19, true), (20, false)] (by kernel_rfl) (fun w66 hu => ⟨Up.refl _, ?_⟩)
                                      replace G := G.tr (Go.ofUp hF hu)
                                      replace hF := hF.up hu
                                      replace k3 := k3.up hu
                                      replace kS := kS.up hu
                                      replace kF := kF.up hu
                                      replace kL := kL.up hu
                                      replace U := U.tr hu
                                      have SU := Up.refl w66
                                      refine p_step (by exact rfl) (y_moveV (et (gS rfl (gS rfl (gS rfl (gS rfl g0)))) rfl)) ?_
                                      refine p_step (by exact rfl) (y_moveV (et (gS rfl (gS rfl (gS rfl (gS rfl (gS rfl g0))))) rfl)) ?_
                                      refine p_step (by exact rfl) (y_nil (et g0 rfl)) ?_
                                      refine p_step (by exact rfl) (y_fld fld_102_2 (et g0 rfl)) ?_
                                      refine p_step (by exact rfl) (y_load1 one_100 (et g0 rfl) (atS (kS.cell (rS 9 _ rfl)))) ?_
                                      refine p_step (by exact rfl) (y_moveV (et (gS rfl (gS rfl (gS rfl (gS rfl (gS rfl (gS rfl (gS rfl (gS rfl (gS rfl g0))))))))) rfl)) ?_
                                      refine p_step (by exact rfl) (y_nil (et g0 rfl)) ?_
                                      refine p_step (by exact rfl) (y_fld fld_102_2 (et g0 rfl)) ?_
                                      refine p_step (by exact rfl) (y_load1 one_100 (et g0 rfl) (atS (kS.cell (rS 9 _ rfl)))) ?_
                                      refine p_step (by exact rfl) (y_len Hvaa.underlying100 (et g0 rfl)) ?_
                                      refine p_step (by exact rfl) (y_sub (et g0 rfl) rfl (subIN (y := 1) ?_ ?_)) ?_
                                      omega
                                      omega
                                      refine p_step (by exact rfl) (y_moveV (et (gS rfl (gS rfl (gS rfl (gS rfl (gS rfl (gS rfl (gS rfl (gS rfl (gS rfl (gS rfl (gS rfl (gS rfl (gS rfl (gS rfl (gS rfl g0))))))))))))))) rfl)) ?_
                                      refine p_step (by exact rfl) (y_nil (et g0 rfl)) ?_
                                      refine p_step (by exact rfl) (y_fld fld_102_2 (et g0 rfl)) ?_
                                      refine p_step (by exact rfl) (y_load1 one_100 (et g0 rfl) (atS (kS.cell (rS 9 _ rfl)))) ?_
                                      refine p_step (by exact rfl) (y_len Hvaa.underlying100 (et g0 rfl)) ?_
                                      refine p_step (by exact rfl) (y_sub (et g0 rfl) rfl (subIN (y := 1) ?_ ?_)) ?_
                                      omega
                                      omega
                                      refine p_step (by exact rfl) (y_slS011n Hvaa.underlying100 sz_146 (et (gS rfl (gS rfl (gS rfl (gS rfl (gS rfl (gS rfl (gS rfl (gS rfl (gS rfl (gS rfl (gS rfl (gS rfl g0)))))))))))) rfl) (et (gS rfl (gS rfl (gS rfl (gS rfl (gS rfl (gS rfl g0)))))) rfl) (et g0 rfl) ?_ ?_) ?_
                                      omega
                                      omega
                                      exact (by
                                        refine p_step (by exact rfl) (y_nil (et (gS rfl (gS rfl (gS rfl (gS rfl (gS rfl (gS rfl (gS rfl (gS rfl (gS rfl (gS rfl (gS rfl (gS rfl (gS rfl (gS rfl (gS rfl (gS rfl (gS rfl g0))))))))))))))))) rfl)) ?_
                                        refine p_step (by exact rfl) (y_fld fld_102_2 (et g0 rfl)) ?_
                                        have rl67 := RowIn.le rS (Nat.succ_pos _)
                                        simp only [List.length_cons, List.length_nil, Nat.zero_add, Nat.reduceAdd] at rl67
                                        refine p_effN (by exact rfl) (e_store sz_100 (et g0 rfl) (cellsV (et (gS rfl (gS rfl g0)) rfl) rfl) rfl (by first | exact one_bL _ | exact one_uL _ | (intro v hv; simp at hv; subst hv; rfl)) kS (by first | exact Nat.le_trans (by omega) rl67 | exact Nat.le_of_ble_eq_true rfl | (simp; done) | (simp; omega) | omega | (simp only [size_spl, Array.size_setIfInBounds, hs.size]; exact Nat.le_of_ble_eq_true rfl))) (fun v67 w67 h67 => ?_)
                                        obtain ⟨rfl, x67⟩ := h67
                                        replace k3 := k3.ch x67.ch (by omega)
                                        replace kF := kF.ch x67.ch (by omega)
                                        replace kL := kL.ch x67.ch (by intro q hq hm; have := dL q hq; omega)
                                        replace kS := x67.blk
                                        replace G := G.wr x67 (.inl (by first | rfl | (simp; done))) nbS
                                        replace hF := G.fz
                                        replace U := U.st x67 (.inl (by first | rfl | (simp; done)))
                                        replace eC := kS.eput eC (by omega)
                                        replace rS : RowIn _ _ [.slice aa s.now.accts.length ac, .slice wa s.now.warmA.length wc, .slice sa s.now.warmS.length sc, vr, .slice la s.now.logs.length lc, .slice ta s.now.temps.length tc, .slice ma s.now.made.length mc, .slice ga s.now.gone.length gc, .slice oa s.start.length oc, .slice (some ⟨bf, 0, none⟩) (N - 1) (N - 1), _, .int .u8 (s.phase : Nat), .int .u8 (s.status : Nat), .int .u8 (s.applied : Nat), vlim, vtx, vleft, vpr, vtot] := kS.rput rS 9 rfl
                                        replace rOr := kS.rputo rOr (by first | (left; omega) | (right; simp only [List.length_cons, List.length_nil, length_bL, length_be]; omega))
                                        replace rMd := kS.rputo rMd (by first | (left; omega) | (right; simp only [List.length_cons, List.length_nil, length_bL, length_be]; omega))
                                        refine ⟨.inl rfl, ?_⟩
                                        refine p_nil ?_
                                        refine hK65 _ _ ?_
                                        refine fg6 1 0 6 7 8 2 (gS rfl (gS rfl (gS rfl (gS rfl (gS rfl (gS rfl (gS rfl (gS rfl (gS rfl (gS rfl (gS rfl (gS rfl (gS rfl (gS rfl (gS rfl (gS rfl (gS rfl (gS rfl (gS rfl (gS rfl (gS rfl (gS rfl (gS rfl (gS rfl (gS rfl g0))))))))))))))))))))))))) (gS rfl (gS rfl (gS rfl (gS rfl (gS rfl (gS rfl (gS rfl (gS rfl (gS rfl (gS rfl (gS rfl (gS rfl (gS rfl (gS rfl (gS rfl (gS rfl (gS rfl (gS rfl (gS rfl (gS rfl (gS rfl (gS rfl (gS rfl (gS rfl g0)))))))))))))))))))))))) (gS rfl (gS rfl (gS rfl (gS rfl (gS rfl (gS rfl (gS rfl (gS rfl (gS rfl (gS rfl (gS rfl (gS rfl (gS rfl (gS rfl (gS rfl (gS rfl (gS rfl (gS rfl (gS rfl (gS rfl (gS rfl (gS rfl (gS rfl g0))))))))))))))))))))))) (gS rfl (gS rfl (gS rfl (gS rfl (gS rfl (gS rfl (gS rfl (gS rfl (gS rfl (gS rfl (gS rfl (gS rfl (gS rfl (gS rfl (gS rfl (gS rfl (gS rfl (gS rfl (gS rfl (gS rfl (gS rfl (gS rfl g0)))))))))))))))))))))) (gS rfl (gS rfl (gS rfl (gS rfl (gS rfl (gS rfl (gS rfl (gS rfl (gS rfl (gS rfl (gS rfl (gS rfl (gS rfl (gS rfl (gS rfl (gS rfl (gS rfl (gS rfl (gS rfl (gS rfl (gS rfl g0))))))))))))))))))))) (gS rfl (gS rfl (gS rfl (gS rfl (gS rfl (gS rfl (gS rfl (gS rfl (gS rfl (gS rfl (gS rfl (gS rfl (gS rfl (gS rfl (gS rfl (gS rfl (gS rfl (gS rfl (gS rfl (gS rfl g0)))))))))))))))))))) (fun g => ?_)
                                        refine c_seq (fun K68 hK68 => ?_)
                                        refine c_seq (fun K69 hK69 => ?_)
                                        exact (by
                                          refine c_region ?_
                                          refine l_step (y_moveV (et (gS rfl (gS rfl (gS rfl (gS rfl g0)))) rfl)) ?_
                                          refine l_step (y_nil (et g0 rfl)) ?_
                                          refine l_step (y_fld fld_102_2 (et g0 rfl)) ?_
                                          refine l_step (y_load1 one_100 (et g0 rfl) (at1 (kS.cell (rS 9 _ rfl)))) ?_
                                          refine l_step (y_len Hvaa.underlying100 (et g0 rfl)) ?_
                                          refine l_step (y_eql (et g0 rfl) rfl) ?_
                                          refine l_nil ?_
                                          refine hK69 _ _ ?_
                                          refine fg7 1 0 6 7 8 2 96 (gS rfl (gS rfl (gS rfl (gS rfl (gS rfl (gS rfl (gS rfl (gS rfl (gS rfl (gS rfl (gS rfl g0))))))))))) (gS rfl (gS rfl (gS rfl (gS rfl (gS rfl (gS rfl (gS rfl (gS rfl (gS rfl (gS rfl g0)))))))))) (gS rfl (gS rfl (gS rfl (gS rfl (gS rfl (gS rfl (gS rfl (gS rfl (gS rfl g0))))))))) (gS rfl (gS rfl (gS rfl (gS rfl (gS rfl (gS rfl (gS rfl (gS rfl g0)))))))) (gS rfl (gS rfl (gS rfl (gS rfl (gS rfl (gS rfl (gS rfl g0))))))) (gS rfl (gS rfl (gS rfl (gS rfl (gS rfl (gS rfl g0)))))) g0 (fun g => ?_)
                                          refine c_cond (et g0 rfl) (fun cB6 => ?_) (fun cB6 => ?_)
                                          · skip
                                            
                                            refine c_seq (fun K71 hK71 => ?_)
                                            exact (by
                                              refine c_region ?_
                                              refine l_step (y_moveV (et (gS rfl (gS rfl (gS rfl (gS rfl (gS rfl g0))))) rfl)) ?_
                                              refine l_step (y_nil (et g0 rfl)) ?_
                                              refine l_step (y_fld fld_102_2 (et g0 rfl)) ?_
                                              have rl72 := RowIn.le rS (Nat.succ_pos _)
                                              simp only [List.length_cons, List.length_nil, Nat.zero_add, Nat.reduceAdd] at rl72
                                              refine l_effN (e_store sz_100 (et g0 rfl) (cellsV rfl rfl) rfl (by first | exact one_bL _ | exact one_uL _ | (intro v hv; simp at hv; subst hv; rfl)) kS (by first | exact Nat.le_trans (by omega) rl72 | exact Nat.le_of_ble_eq_true rfl | (simp; done) | (simp; omega) | omega | (simp only [size_spl, Array.size_setIfInBounds, hs.size]; exact Nat.le_of_ble_eq_true rfl))) (fun v72 w72 h72 => ?_)
                                              obtain ⟨rfl, x72⟩ := h72
                                              replace k3 := k3.ch x72.ch (by omega)
                                              replace kF := kF.ch x72.ch (by omega)
                                              replace kL := kL.ch x72.ch (by intro q hq hm; have := dL q hq; omega)
                                              replace kS := x72.blk
                                              replace G := G.wr x72 (.inl (by first | rfl | (simp; done))) nbS
                                              replace hF := G.fz
                                              replace U := U.st x72 (.inl (by first | rfl | (simp; done)))
                                              replace eC := kS.eput eC (by omega)
                                              replace rS : RowIn _ _ [.slice aa s.now.accts.length ac, .slice wa s.now.warmA.length wc, .slice sa s.now.warmS.length sc, vr, .slice la s.now.logs.length lc, .slice ta s.now.temps.length tc, .slice ma s.now.made.length mc, .slice ga s.now.gone.length gc, .slice oa s.start.length oc, _, _, .int .u8 (s.phase : Nat), .int .u8 (s.status : Nat), .int .u8 (s.applied : Nat), vlim, vtx, vleft, vpr, vtot] := kS.rput rS 9 rfl
                                              replace rOr := kS.rputo rOr (by first | (left; omega) | (right; simp only [List.length_cons, List.length_nil, length_bL, length_be]; omega))
                                              replace rMd := kS.rputo rMd (by first | (left; omega) | (right; simp only [List.length_cons, List.length_nil, length_bL, length_be]; omega))
                                              refine l_nil ?_
                                              refine hK71 _ _ ?_
                                              refine fg3 1 0 7 (gS rfl (gS rfl (gS rfl (gS rfl (gS rfl (gS rfl (gS rfl (gS rfl (gS rfl g0))))))))) (gS rfl (gS rfl (gS rfl (gS rfl (gS rfl (gS rfl (gS rfl (gS rfl g0)))))))) (gS rfl (gS rfl (gS rfl (gS rfl (gS rfl (gS rfl g0)))))) (fun g => ?_)
                                              refine c_seq (fun K73 hK73 => ?_)
                                              exact (by
                                                refine c_region ?_
                                                refine l_step (y_moveV (et (gS rfl g0) rfl)) ?_
                                                refine l_step (y_nil (et g0 rfl)) ?_
                                                refine l_step (y_fld fld_102_4 (et g0 rfl)) ?_
                                                have rl74 := RowIn.le rS (Nat.succ_pos _)
                                                simp only [List.length_cons, List.length_nil, Nat.zero_add, Nat.reduceAdd] at rl74
                                                refine l_effN (e_store sz_5 (et g0 rfl) (cellsV rfl rfl) rfl (by first | exact one_bL _ | exact one_uL _ | (intro v hv; simp at hv; subst hv; rfl)) kS (by first | exact Nat.le_trans (by omega) rl74 | exact Nat.le_of_ble_eq_true rfl | (simp; done) | (simp; omega) | omega | (simp only [size_spl, Array.size_setIfInBounds, hs.size]; exact Nat.le_of_ble_eq_true rfl))) (fun v74 w74 h74 => ?_)
                                                obtain ⟨rfl, x74⟩ := h74
                                                replace k3 := k3.ch x74.ch (by omega)
                                                replace kF := kF.ch x74.ch (by omega)
                                                replace kL := kL.ch x74.ch (by intro q hq hm; have := dL q hq; omega)
                                                replace kS := x74.blk
                                                replace G := G.wr x74 (.inl (by first | rfl | (simp; done))) nbS
                                                replace hF := G.fz
                                                replace U := U.st x74 (.inl (by first | rfl | (simp; done)))
                                                replace eC := kS.eput eC (by omega)
                                                replace rS : RowIn _ _ [.slice aa s.now.accts.length ac, .slice wa s.now.warmA.length wc, .slice sa s.now.warmS.length sc, vr, .slice la s.now.logs.length lc, .slice ta s.now.temps.length tc, .slice ma s.now.made.length mc, .slice ga s.now.gone.length gc, .slice oa s.start.length oc, _, _, .int .u8 ((2 : Nat) : Int), .int .u8 (s.status : Nat), .int .u8 (s.applied : Nat), vlim, vtx, vleft, vpr, vtot] := kS.rput rS 11 rfl
                                                replace rOr := kS.rputo rOr (by first | (left; omega) | (right; simp only [List.length_cons, List.length_nil, length_bL, length_be]; omega))
                                                replace rMd := kS.rputo rMd (by first | (left; omega) | (right; simp only [List.length_cons, List.length_nil, length_bL, length_be]; omega))
                                                refine l_nil ?_
                                                refine hK73 _ _ ?_
                                                refine fg3 1 0 7 (gS rfl (gS rfl (gS rfl (gS rfl (gS rfl g0))))) (gS rfl (gS rfl (gS rfl (gS rfl g0)))) (gS rfl (gS rfl (gS rfl g0))) (fun g => ?_)
                                                refine c_seq (fun K75 hK75 => ?_)
                                                exact (by
                                                  refine c_region ?_
                                                  refine l_step (y_moveV (et (gS rfl g0) rfl)) ?_
                                                  refine l_step (y_moveV (et (gS rfl (gS rfl (gS rfl g0))) rfl)) ?_
                                                  refine l_step (y_nil (et (gS rfl g0) rfl)) ?_
                                                  refine l_step (y_fld fld_102_5 (et g0 rfl)) ?_
                                                  have rl76 := RowIn.le rS (Nat.succ_pos _)
                                                  simp only [List.length_cons, List.length_nil, Nat.zero_add, Nat.reduceAdd] at rl76
                                                  refine l_effN (e_store sz_5 (et g0 rfl) (cellsV (et (gS rfl (gS rfl g0)) rfl) rfl) rfl (by first | exact one_bL _ | exact one_uL _ | (intro v hv; simp at hv; subst hv; rfl)) kS (by first | exact Nat.le_trans (by omega) rl76 | exact Nat.le_of_ble_eq_true rfl | (simp; done) | (simp; omega) | omega | (simp only [size_spl, Array.size_setIfInBounds, hs.size]; exact Nat.le_of_ble_eq_true rfl))) (fun v76 w76 h76 => ?_)
                                                  obtain ⟨rfl, x76⟩ := h76
                                                  replace k3 := k3.ch x76.ch (by omega)
                                                  replace kF := kF.ch x76.ch (by omega)
                                                  replace kL := kL.ch x76.ch (by intro q hq hm; have := dL q hq; omega)
                                                  replace kS := x76.blk
                                                  replace G := G.wr x76 (.inl (by first | rfl | (simp; done))) nbS
                                                  replace hF := G.fz
                                                  replace U := U.st x76 (.inl (by first | rfl | (simp; done)))
                                                  replace eC := kS.eput eC (by omega)
                                                  replace rS : RowIn _ _ [.slice aa s.now.accts.length ac, .slice wa s.now.warmA.length wc, .slice sa s.now.warmS.length sc, vr, .slice la s.now.logs.length lc, .slice ta s.now.temps.length tc, .slice ma s.now.made.length mc, .slice ga s.now.gone.length gc, .slice oa s.start.length oc, _, _, .int .u8 ((2 : Nat) : Int), _, .int .u8 (s.applied : Nat), vlim, vtx, vleft, vpr, vtot] := kS.rput rS 12 rfl
                                                  replace rOr := kS.rputo rOr (by first | (left; omega) | (right; simp only [List.length_cons, List.length_nil, length_bL, length_be]; omega))
                                                  replace rMd := kS.rputo rMd (by first | (left; omega) | (right; simp only [List.length_cons, List.length_nil, length_bL, length_be]; omega))
                                                  refine l_nil ?_
                                                  refine hK75 _ _ ?_
                                                  refine fg2 0 7 (gS rfl (gS rfl (gS rfl (gS rfl (gS rfl g0))))) (gS rfl (gS rfl (gS rfl (gS rfl g0)))) (fun g => ?_)
                                                  refine c_seq (fun K77 hK77 => ?_)
                                                  exact (by
                                                    refine c_region ?_
                                                    refine l_step (y_moveV (et (gS rfl g0) rfl)) ?_
                                                    refine l_step (y_moveV (et (gS rfl g0) rfl)) ?_
                                                    refine l_step (y_nil (et (gS rfl g0) rfl)) ?_
                                                    refine l_step (y_fld fld_102_9 (et g0 rfl)) ?_
                                                    obtain ⟨sa78, sn78, sc78, rfl⟩ := n13.sl
                                                    have rl78 := RowIn.le rS (Nat.succ_pos _)
                                                    simp only [List.length_cons, List.length_nil, Nat.zero_add, Nat.reduceAdd] at rl78
                                                    refine l_effN (e_store sz_95 (et g0 rfl) (cellsV (et (gS rfl (gS rfl g0)) rfl) rfl) rfl (by first | exact one_bL _ | exact one_uL _ | (intro v hv; simp at hv; subst hv; rfl)) kS (by first | exact Nat.le_trans (by omega) rl78 | exact Nat.le_of_ble_eq_true rfl | (simp; done) | (simp; omega) | omega | (simp only [size_spl, Array.size_setIfInBounds, hs.size]; exact Nat.le_of_ble_eq_true rfl))) (fun v78 w78 h78 => ?_)
                                                    obtain ⟨rfl, x78⟩ := h78
                                                    replace k3 := k3.ch x78.ch (by omega)
                                                    replace kF := kF.ch x78.ch (by omega)
                                                    replace kL := kL.ch x78.ch (by intro q hq hm; have := dL q hq; omega)
                                                    replace kS := x78.blk
                                                    replace G := G.wr x78 (.inl (by first | rfl | (simp; done))) nbS
                                                    replace hF := G.fz
                                                    replace U := U.st x78 (.inl (by first | rfl | (simp; done)))
                                                    replace eC := kS.eput eC (by omega)
                                                    replace rS : RowIn _ _ [.slice aa s.now.accts.length ac, .slice wa s.now.warmA.length wc, .slice sa s.now.warmS.length sc, vr, .slice la s.now.logs.length lc, .slice ta s.now.temps.length tc, .slice ma s.now.made.length mc, .slice ga s.now.gone.length gc, .slice oa s.start.length oc, _, _, .int .u8 ((2 : Nat) : Int), _, .int .u8 (s.applied : Nat), vlim, vtx, _, vpr, vtot] := kS.rput rS 16 rfl
                                                    replace rOr := kS.rputo rOr (by first | (left; omega) | (right; simp only [List.length_cons, List.length_nil, length_bL, length_be]; omega))
                                                    replace rMd := kS.rputo rMd (by first | (left; omega) | (right; simp only [List.length_cons, List.length_nil, length_bL, length_be]; omega))
                                                    refine l_nil ?_
                                                    refine hK77 _ _ ?_
                                                    refine fg0 (fun g => ?_)
                                                    refine c_ret ?_
                                                    repeat with_reducible refine then_ret ?_
                                                    refine ret0 rfl ?_
                                                    have hG : lvGas u q l = dp.1 := by rw [lvGas, if_neg (by rw [hS]; omega), if_pos ⟨hcr, hq0⟩, hdp.out]
                                                    have hOu : lvOut u q l = [] := by rw [lvOut, if_pos (.inr ⟨hcr, by rw [hS]; exact hd0⟩)]
                                                    have hW : lvW s u q l = s.now := by rw [lvW, if_pos (by rw [hS]; exact hd0), if_neg (fun h => hlp h.2)]
                                                    have hS0 : lvSt u q l = 0 := by rw [hS]; exact hd0
                                                    have eS : lvS1 s u q l = { s with now := s.now, ret := [], phase := 2, status := dp.2, left := dp.1 } := by rw [lvS1, hW, hOu, hS, hG]
                                                    rw [eS, hW]
                                                    exact ⟨rfl, _, _, _, G, kS, ⟨⟨so.accts, so.warmA, so.warmS, so.refund, so.logs, so.temps, so.made, so.gone, so.start, (show 0 < 16777216 by decide), (show 2 < 256 by decide), (by show dp.2 < 256; have := hds.out; omega), so.applied, so.limit, so.txGas, (Nat.lt_of_le_of_lt hdl (Nat.lt_trans fo6.gas (by decide))), so.price, so.total, so.origin, so.mad⟩, eC.mono hL0, (by simp only [size_spl, Array.size_setIfInBounds]; exact hs.size), _, _, _, _, _, _, _, _, _, _, _, _, _, _, _, _, _, _, _, _, _, _, _, _, rS, rOr, rMd, (hAc.mono hL0), (hWA.mono hL0), (hWS.mono hL0), (hRf.mono hL0), (hTm.mono hL0), (hMd.mono hL0), (hGn.mono hL0), (hSr.mono hL0), (BV.nil _), (hLm.mono hL0), (hTx.mono hL0), n13, (hPr.mono hL0), (hTt.mono hL0)⟩, by rw [if_pos hS0]; exact kL.mono hL0, ((rS 4 _ rfl).trans (hv4.symm.trans hvl))⟩))))
                                          · skip
                                            
                                            have := of_decide_eq_false cB6; omega)))))))
                    · skip
                      
                      have hd0 : dp.2 ≠ 0 := by have := of_decide_eq_false cB2; omega
                      refine c_skip ?_
                      refine hK8 _ _ ?_
                      refine fg6 2 1 0 6 7 8 (gS rfl (gS rfl (gS rfl (gS rfl (gS rfl (gS rfl g0)))))) (gS rfl (gS rfl (gS rfl (gS rfl (gS rfl g0))))) (gS rfl (gS rfl (gS rfl (gS rfl g0)))) (gS rfl (gS rfl (gS rfl g0))) (gS rfl (gS rfl g0)) (gS rfl g0) (fun g => ?_)
                      refine c_seq (fun K79 hK79 => ?_)
                      refine c_seq (fun K80 hK80 => ?_)
                      exact (by
                        refine c_region ?_
                        refine l_step (y_moveV (et (gS rfl (gS rfl (gS rfl (gS rfl g0)))) rfl)) ?_
                        refine l_step (y_neq (et g0 rfl) rfl) ?_
                        refine l_nil ?_
                        refine hK80 _ _ ?_
                        refine fg7 2 1 0 6 7 8 59 (gS rfl (gS rfl (gS rfl (gS rfl (gS rfl (gS rfl (gS rfl g0))))))) (gS rfl (gS rfl (gS rfl (gS rfl (gS rfl (gS rfl g0)))))) (gS rfl (gS rfl (gS rfl (gS rfl (gS rfl g0))))) (gS rfl (gS rfl (gS rfl (gS rfl g0)))) (gS rfl (gS rfl (gS rfl g0))) (gS rfl (gS rfl g0)) g0 (fun g => ?_)
                        refine c_cond (et g0 rfl) (fun cB4 => ?_) (fun cB4 => ?_)
                        · skip
                          
                          exact (by
                            refine c_region ?_
                            refine l_step (y_moveV (et (gS rfl (gS rfl (gS rfl (gS rfl g0)))) rfl)) ?_
                            refine l_step (y_fld fld_146_14 (et (gS rfl (gS rfl (gS rfl (gS rfl g0)))) rfl)) ?_
                            refine l_step (y_loadR agg_98 sz_98 (et g0 rfl) rfl (at1R (k3.row qSv))) ?_
                            refine l_step (y_nil (et (gS rfl (gS rfl g0)) rfl)) ?_
                            refine l_step (y_fld fld_102_0 (et g0 rfl)) ?_
                            have rl82 := RowIn.le rS (Nat.succ_pos _)
                            simp only [List.length_cons, List.length_nil, Nat.zero_add, Nat.reduceAdd] at rl82
                            refine l_effN (e_store sz_98 (et g0 rfl) (cellsV (et (gS rfl (gS rfl g0)) rfl) rfl) rfl (by intro v hv; simp only [List.mem_cons, List.not_mem_nil, or_false] at hv; rcases hv with rfl | rfl | rfl | rfl | rfl | rfl | rfl | rfl <;> rfl) kS (by omega)) (fun v82 w82 h82 => ?_)
                            obtain ⟨rfl, x82⟩ := h82
                            replace k3 := k3.ch x82.ch (by omega)
                            replace kF := kF.ch x82.ch (by omega)
                            replace kL := kL.ch x82.ch (by intro q hq hm; have := dL q hq; omega)
                            replace kS := x82.blk
                            replace G := G.wr x82 (.inl (by first | rfl | (simp; done))) nbS
                            replace hF := G.fz
                            replace U := U.st x82 (.inl (by first | rfl | (simp; done)))
                            replace eC := kS.eputm eC (by first | omega | (simp only [length_bL, length_be, List.length_cons, List.length_nil]; omega)) (by first | omega | (simp only [length_bL, length_be, List.length_cons, List.length_nil]; omega))
                            replace rS : RowIn _ _ [.slice pa1 u.saved.accts.length pa2, .slice pwa1 u.saved.warmA.length pwa2, .slice pws1 u.saved.warmS.length pws2, .slice pr1 pr2 pr3, .slice pla u.saved.logs.length u.saved.logs.length, .slice pt1 u.saved.temps.length pt2, .slice pm1 u.saved.made.length pm2, .slice pg1 u.saved.gone.length pg2, .slice oa s.start.length oc, .slice (some ⟨bf, 0, none⟩) N cap, .slice ra s.ret.length rc, .int .u8 (s.phase : Nat), .int .u8 (s.status : Nat), .int .u8 (s.applied : Nat), vlim, vtx, vleft, vpr, vtot] := kS.rputm rS 0 (by first | omega | (simp only [length_bL, length_be, List.length_cons, List.length_nil]; omega)) rfl (Nat.le_of_ble_eq_true rfl)
                            replace rOr := kS.rputmo rOr (by first | omega | (simp only [length_bL, length_be, List.length_cons, List.length_nil]; omega)) (by first | omega | (simp only [length_bL, length_be, List.length_cons, List.length_nil]; omega))
                            replace rMd := kS.rputmo rMd (by first | omega | (simp only [length_bL, length_be, List.length_cons, List.length_nil]; omega)) (by first | omega | (simp only [length_bL, length_be, List.length_cons, List.length_nil]; omega))
                            refine l_nil ?_
                            refine hK79 _ _ ?_
                            refine fg6 2 1 0 6 7 8 (gS rfl (gS rfl (gS rfl (gS rfl (gS rfl (gS rfl (gS rfl (gS rfl (gS rfl (gS rfl (gS rfl g0))))))))))) (gS rfl (gS rfl (gS rfl (gS rfl (gS rfl (gS rfl (gS rfl (gS rfl (gS rfl (gS rfl g0)))))))))) (gS rfl (gS rfl (gS rfl (gS rfl (gS rfl (gS rfl (gS rfl (gS rfl (gS rfl g0))))))))) (gS rfl (gS rfl (gS rfl (gS rfl (gS rfl (gS rfl (gS rfl (gS rfl g0)))))))) (gS rfl (gS rfl (gS rfl (gS rfl (gS rfl (gS rfl (gS rfl g0))))))) (gS rfl (gS rfl (gS rfl (gS rfl (gS rfl (gS rfl g0)))))) (fun g => ?_)
                            refine c_seq (fun K83 hK83 => ?_)
                            refine c_seq (fun K84 hK84 => ?_)
                            exact (by
                              refine c_region ?_
                              refine l_step (y_moveV (et (gS rfl (gS rfl (gS rfl (gS rfl g0)))) rfl)) ?_
                              refine l_step (y_gtr (et g0 rfl) rfl) ?_
                              refine l_nil ?_
                              refine hK84 _ _ ?_
                              refine fg7 2 1 0 6 7 8 66 (gS rfl (gS rfl (gS rfl (gS rfl (gS rfl (gS rfl (gS rfl g0))))))) (gS rfl (gS rfl (gS rfl (gS rfl (gS rfl (gS rfl g0)))))) (gS rfl (gS rfl (gS rfl (gS rfl (gS rfl g0))))) (gS rfl (gS rfl (gS rfl (gS rfl g0)))) (gS rfl (gS rfl (gS rfl g0))) (gS rfl (gS rfl g0)) g0 (fun g => ?_)
                              refine c_cond (et g0 rfl) (fun cB5 => ?_) (fun cB5 => ?_)
                              · skip
                                
                                refine c_seq (fun K86 hK86 => ?_)
                                exact (by
                                  refine c_region ?_
                                  refine l_step y_assignC ?_
                                  refine l_nil ?_
                                  refine hK86 _ _ ?_
                                  refine fg5 1 0 6 7 8 (gS rfl (gS rfl (gS rfl (gS rfl (gS rfl (gS rfl g0)))))) (gS rfl (gS rfl (gS rfl (gS rfl (gS rfl g0))))) (gS rfl (gS rfl (gS rfl (gS rfl g0)))) g0 (gS rfl (gS rfl g0)) (fun g => ?_)
                                  refine c_region ?_
                                  refine l_step y_assignC ?_
                                  refine l_nil ?_
                                  refine hK83 _ _ ?_
                                  refine c_seq (fun K87 hK87 => ?_)
                                  exact (by
                                    refine c_region ?_
                                    refine l_step (y_moveV (et (gS rfl (gS rfl (gS rfl (gS rfl g0)))) rfl)) ?_
                                    refine l_step (y_moveV (et (gS rfl g0) rfl)) ?_
                                    refine l_step (y_nil (et (gS rfl g0) rfl)) ?_
                                    refine l_step (y_fld fld_102_3 (et g0 rfl)) ?_
                                    have rl88 := RowIn.le rS (Nat.succ_pos _)
                                    simp only [List.length_cons, List.length_nil, Nat.zero_add, Nat.reduceAdd] at rl88
                                    refine l_effN (e_store sz_38 (et g0 rfl) (cellsV (et (gS rfl (gS rfl g0)) rfl) rfl) rfl (by first | exact one_bL _ | exact one_uL _ | (intro v hv; simp at hv; subst hv; rfl)) kS (by first | exact Nat.le_trans (by omega) rl88 | exact Nat.le_of_ble_eq_true rfl | (simp; done) | (simp; omega) | omega | (simp only [size_spl, Array.size_setIfInBounds, hs.size]; exact Nat.le_of_ble_eq_true rfl))) (fun v88 w88 h88 => ?_)
                                    obtain ⟨rfl, x88⟩ := h88
                                    replace k3 := k3.ch x88.ch (by omega)
                                    replace kF := kF.ch x88.ch (by omega)
                                    replace kL := kL.ch x88.ch (by intro q hq hm; have := dL q hq; omega)
                                    replace kS := x88.blk
                                    replace G := G.wr x88 (.inl (by first | rfl | (simp; done))) nbS
                                    replace hF := G.fz
                                    replace U := U.st x88 (.inl (by first | rfl | (simp; done)))
                                    replace eC := kS.eput eC (by omega)
                                    replace rS : RowIn _ _ [.slice pa1 u.saved.accts.length pa2, .slice pwa1 u.saved.warmA.length pwa2, .slice pws1 u.saved.warmS.length pws2, .slice pr1 pr2 pr3, .slice pla u.saved.logs.length u.saved.logs.length, .slice pt1 u.saved.temps.length pt2, .slice pm1 u.saved.made.length pm2, .slice pg1 u.saved.gone.length pg2, .slice oa s.start.length oc, .slice (some ⟨bf, 0, none⟩) N cap, _, .int .u8 (s.phase : Nat), .int .u8 (s.status : Nat), .int .u8 (s.applied : Nat), vlim, vtx, vleft, vpr, vtot] := kS.rput rS 10 rfl
                                    replace rOr := kS.rputo rOr (by first | (left; omega) | (right; simp only [List.length_cons, List.length_nil, length_bL, length_be]; omega))
                                    replace rMd := kS.rputo rMd (by first | (left; omega) | (right; simp only [List.length_cons, List.length_nil, length_bL, length_be]; omega))
                                    refine l_nil ?_
                                    refine hK87 _ _ ?_
                                    refine fg6 1 0 6 7 8 2 (gS rfl (gS rfl (gS rfl (gS rfl (gS rfl (gS rfl (gS rfl (gS rfl (gS rfl g0))))))))) (gS rfl (gS rfl (gS rfl (gS rfl (gS rfl (gS rfl (gS rfl (gS rfl g0)))))))) (gS rfl (gS rfl (gS rfl (gS rfl (gS rfl (gS rfl (gS rfl g0))))))) (gS rfl (gS rfl (gS rfl (gS rfl (gS rfl (gS rfl g0)))))) (gS rfl (gS rfl (gS rfl (gS rfl (gS rfl g0))))) (gS rfl (gS rfl (gS rfl (gS rfl g0)))) (fun g => ?_)
                                    refine c_seq (fun K89 hK89 => ?_)
                                    exact (by
                                      refine c_draw Up 20 [(0, true), (1, true), (2, true), (3, true), (4, true), (5, true), (6, true), (7, true), (8, true), (9, true), (10, true), (11, true), (12, true), (13, true), (14, true), (15, true), (16, true), (17, true), (18, true), (19, true), (20, false)] (by kernel_rfl) (fun w90 hu => ⟨Up.refl _, ?_⟩)
                                      replace G := G.tr (Go.ofUp hF hu)
                                      replace hF := hF.up hu
                                      replace k3 := k3.up hu
                                      replace kS := kS.up hu
                                      replace kF := kF.up hu
                                      replace kL := kL.up hu
                                      replace U := U.tr hu
                                      have SU := Up.refl w90
                                      refine p_step (by exact rfl) (y_moveV (et (gS rfl (gS rfl (gS rfl (gS rfl g0)))) rfl)) ?_
                                      refine p_step (by exact rfl) (y_moveV (et (gS rfl (gS rfl (gS rfl (gS rfl (gS rfl g0))))) rfl)) ?_
                                      refine p_step (by exact rfl) (y_nil (et g0 rfl)) ?_
                                      refine p_step (by exact rfl) (y_fld fld_102_2 (et g0 rfl)) ?_
                                      refine p_step (by exact rfl) (y_load1 one_100 (et g0 rfl) (atS (kS.cell (rS 9 _ rfl)))) ?_
                                      refine p_step (by exact rfl) (y_moveV (et (gS rfl (gS rfl (gS rfl (gS rfl (gS rfl (gS rfl (gS rfl (gS rfl (gS rfl g0))))))))) rfl)) ?_
                                      refine p_step (by exact rfl) (y_nil (et g0 rfl)) ?_
                                      refine p_step (by exact rfl) (y_fld fld_102_2 (et g0 rfl)) ?_
                                      refine p_step (by exact rfl) (y_load1 one_100 (et g0 rfl) (atS (kS.cell (rS 9 _ rfl)))) ?_
                                      refine p_step (by exact rfl) (y_len Hvaa.underlying100 (et g0 rfl)) ?_
                                      refine p_step (by exact rfl) (y_sub (et g0 rfl) rfl (subIN (y := 1) ?_ ?_)) ?_
                                      omega
                                      omega
                                      refine p_step (by exact rfl) (y_moveV (et (gS rfl (gS rfl (gS rfl (gS rfl (gS rfl (gS rfl (gS rfl (gS rfl (gS rfl (gS rfl (gS rfl (gS rfl (gS rfl (gS rfl (gS rfl g0))))))))))))))) rfl)) ?_
                                      refine p_step (by exact rfl) (y_nil (et g0 rfl)) ?_
                                      refine p_step (by exact rfl) (y_fld fld_102_2 (et g0 rfl)) ?_
                                      refine p_step (by exact rfl) (y_load1 one_100 (et g0 rfl) (atS (kS.cell (rS 9 _ rfl)))) ?_
                                      refine p_step (by exact rfl) (y_len Hvaa.underlying100 (et g0 rfl)) ?_
                                      refine p_step (by exact rfl) (y_sub (et g0 rfl) rfl (subIN (y := 1) ?_ ?_)) ?_
                                      omega
                                      omega
                                      refine p_step (by exact rfl) (y_slS011n Hvaa.underlying100 sz_146 (et (gS rfl (gS rfl (gS rfl (gS rfl (gS rfl (gS rfl (gS rfl (gS rfl (gS rfl (gS rfl (gS rfl (gS rfl g0)))))))))))) rfl) (et (gS rfl (gS rfl (gS rfl (gS rfl (gS rfl (gS rfl g0)))))) rfl) (et g0 rfl) ?_ ?_) ?_
                                      omega
                                      omega
                                      exact (by
                                        refine p_step (by exact rfl) (y_nil (et (gS rfl (gS rfl (gS rfl (gS rfl (gS rfl (gS rfl (gS rfl (gS rfl (gS rfl (gS rfl (gS rfl (gS rfl (gS rfl (gS rfl (gS rfl (gS rfl (gS rfl g0))))))))))))))))) rfl)) ?_
                                        refine p_step (by exact rfl) (y_fld fld_102_2 (et g0 rfl)) ?_
                                        have rl91 := RowIn.le rS (Nat.succ_pos _)
                                        simp only [List.length_cons, List.length_nil, Nat.zero_add, Nat.reduceAdd] at rl91
                                        refine p_effN (by exact rfl) (e_store sz_100 (et g0 rfl) (cellsV (et (gS rfl (gS rfl g0)) rfl) rfl) rfl (by first | exact one_bL _ | exact one_uL _ | (intro v hv; simp at hv; subst hv; rfl)) kS (by first | exact Nat.le_trans (by omega) rl91 | exact Nat.le_of_ble_eq_true rfl | (simp; done) | (simp; omega) | omega | (simp only [size_spl, Array.size_setIfInBounds, hs.size]; exact Nat.le_of_ble_eq_true rfl))) (fun v91 w91 h91 => ?_)
                                        obtain ⟨rfl, x91⟩ := h91
                                        replace k3 := k3.ch x91.ch (by omega)
                                        replace kF := kF.ch x91.ch (by omega)
                                        replace kL := kL.ch x91.ch (by intro q hq hm; have := dL q hq; omega)
                                        replace kS := x91.blk
                                        replace G := G.wr x91 (.inl (by first | rfl | (simp; done))) nbS
                                        replace hF := G.fz
                                        replace U := U.st x91 (.inl (by first | rfl | (simp; done)))
                                        replace eC := kS.eput eC (by omega)
                                        replace rS : RowIn _ _ [.slice pa1 u.saved.accts.length pa2, .slice pwa1 u.saved.warmA.length pwa2, .slice pws1 u.saved.warmS.length pws2, .slice pr1 pr2 pr3, .slice pla u.saved.logs.length u.saved.logs.length, .slice pt1 u.saved.temps.length pt2, .slice pm1 u.saved.made.length pm2, .slice pg1 u.saved.gone.length pg2, .slice oa s.start.length oc, .slice (some ⟨bf, 0, none⟩) (N - 1) (N - 1), _, .int .u8 (s.phase : Nat), .int .u8 (s.status : Nat), .int .u8 (s.applied : Nat), vlim, vtx, vleft, vpr, vtot] := kS.rput rS 9 rfl
                                        replace rOr := kS.rputo rOr (by first | (left; omega) | (right; simp only [List.length_cons, List.length_nil, length_bL, length_be]; omega))
                                        replace rMd := kS.rputo rMd (by first | (left; omega) | (right; simp only [List.length_cons, List.length_nil, length_bL, length_be]; omega))
                                        refine ⟨.inl rfl, ?_⟩
                                        refine p_nil ?_
                                        refine hK89 _ _ ?_
                                        refine fg6 1 0 6 7 8 2 (gS rfl (gS rfl (gS rfl (gS rfl (gS rfl (gS rfl (gS rfl (gS rfl (gS rfl (gS rfl (gS rfl (gS rfl (gS rfl (gS rfl (gS rfl (gS rfl (gS rfl (gS rfl (gS rfl (gS rfl (gS rfl (gS rfl (gS rfl (gS rfl (gS rfl g0))))))))))))))))))))))))) (gS rfl (gS rfl (gS rfl (gS rfl (gS rfl (gS rfl (gS rfl (gS rfl (gS rfl (gS rfl (gS rfl (gS rfl (gS rfl (gS rfl (gS rfl (gS rfl (gS rfl (gS rfl (gS rfl (gS rfl (gS rfl (gS rfl (gS rfl (gS rfl g0)))))))))))))))))))))))) (gS rfl (gS rfl (gS rfl (gS rfl (gS rfl (gS rfl (gS rfl (gS rfl (gS rfl (gS rfl (gS rfl (gS rfl (gS rfl (gS rfl (gS rfl (gS rfl (gS rfl (gS rfl (gS rfl (gS rfl (gS rfl (gS rfl (gS rfl g0))))))))))))))))))))))) (gS rfl (gS rfl (gS rfl (gS rfl (gS rfl (gS rfl (gS rfl (gS rfl (gS rfl (gS rfl (gS rfl (gS rfl (gS rfl (gS rfl (gS rfl (gS rfl (gS rfl (gS rfl (gS rfl (gS rfl (gS rfl (gS rfl g0)))))))))))))))))))))) (gS rfl (gS rfl (gS rfl (gS rfl (gS rfl (gS rfl (gS rfl (gS rfl (gS rfl (gS rfl (gS rfl (gS rfl (gS rfl (gS rfl (gS rfl (gS rfl (gS rfl (gS rfl (gS rfl (gS rfl (gS rfl g0))))))))))))))))))))) (gS rfl (gS rfl (gS rfl (gS rfl (gS rfl (gS rfl (gS rfl (gS rfl (gS rfl (gS rfl (gS rfl (gS rfl (gS rfl (gS rfl (gS rfl (gS rfl (gS rfl (gS rfl (gS rfl (gS rfl g0)))))))))))))))))))) (fun g => ?_)
                                        refine c_seq (fun K92 hK92 => ?_)
                                        refine c_seq (fun K93 hK93 => ?_)
                                        exact (by
                                          refine c_region ?_
                                          refine l_step (y_moveV (et (gS rfl (gS rfl (gS rfl (gS rfl g0)))) rfl)) ?_
                                          refine l_step (y_nil (et g0 rfl)) ?_
                                          refine l_step (y_fld fld_102_2 (et g0 rfl)) ?_
                                          refine l_step (y_load1 one_100 (et g0 rfl) (at1 (kS.cell (rS 9 _ rfl)))) ?_
                                          refine l_step (y_len Hvaa.underlying100 (et g0 rfl)) ?_
                                          refine l_step (y_eql (et g0 rfl) rfl) ?_
                                          refine l_nil ?_
                                          refine hK93 _ _ ?_
                                          refine fg7 1 0 6 7 8 2 96 (gS rfl (gS rfl (gS rfl (gS rfl (gS rfl (gS rfl (gS rfl (gS rfl (gS rfl (gS rfl (gS rfl g0))))))))))) (gS rfl (gS rfl (gS rfl (gS rfl (gS rfl (gS rfl (gS rfl (gS rfl (gS rfl (gS rfl g0)))))))))) (gS rfl (gS rfl (gS rfl (gS rfl (gS rfl (gS rfl (gS rfl (gS rfl (gS rfl g0))))))))) (gS rfl (gS rfl (gS rfl (gS rfl (gS rfl (gS rfl (gS rfl (gS rfl g0)))))))) (gS rfl (gS rfl (gS rfl (gS rfl (gS rfl (gS rfl (gS rfl g0))))))) (gS rfl (gS rfl (gS rfl (gS rfl (gS rfl (gS rfl g0)))))) g0 (fun g => ?_)
                                          refine c_cond (et g0 rfl) (fun cB6 => ?_) (fun cB6 => ?_)
                                          · skip
                                            
                                            refine c_seq (fun K95 hK95 => ?_)
                                            exact (by
                                              refine c_region ?_
                                              refine l_step (y_moveV (et (gS rfl (gS rfl (gS rfl (gS rfl (gS rfl g0))))) rfl)) ?_
                                              refine l_step (y_nil (et g0 rfl)) ?_
                                              refine l_step (y_fld fld_102_2 (et g0 rfl)) ?_
                                              have rl96 := RowIn.le rS (Nat.succ_pos _)
                                              simp only [List.length_cons, List.length_nil, Nat.zero_add, Nat.reduceAdd] at rl96
                                              refine l_effN (e_store sz_100 (et g0 rfl) (cellsV rfl rfl) rfl (by first | exact one_bL _ | exact one_uL _ | (intro v hv; simp at hv; subst hv; rfl)) kS (by first | exact Nat.le_trans (by omega) rl96 | exact Nat.le_of_ble_eq_true rfl | (simp; done) | (simp; omega) | omega | (simp only [size_spl, Array.size_setIfInBounds, hs.size]; exact Nat.le_of_ble_eq_true rfl))) (fun v96 w96 h96 => ?_)
                                              obtain ⟨rfl, x96⟩ := h96
                                              replace k3 := k3.ch x96.ch (by omega)
                                              replace kF := kF.ch x96.ch (by omega)
                                              replace kL := kL.ch x96.ch (by intro q hq hm; have := dL q hq; omega)
                                              replace kS := x96.blk
                                              replace G := G.wr x96 (.inl (by first | rfl | (simp; done))) nbS
                                              replace hF := G.fz
                                              replace U := U.st x96 (.inl (by first | rfl | (simp; done)))
                                              replace eC := kS.eput eC (by omega)
                                              replace rS : RowIn _ _ [.slice pa1 u.saved.accts.length pa2, .slice pwa1 u.saved.warmA.length pwa2, .slice pws1 u.saved.warmS.length pws2, .slice pr1 pr2 pr3, .slice pla u.saved.logs.length u.saved.logs.length, .slice pt1 u.saved.temps.length pt2, .slice pm1 u.saved.made.length pm2, .slice pg1 u.saved.gone.length pg2, .slice oa s.start.length oc, _, _, .int .u8 (s.phase : Nat), .int .u8 (s.status : Nat), .int .u8 (s.applied : Nat), vlim, vtx, vleft, vpr, vtot] := kS.rput rS 9 rfl
                                              replace rOr := kS.rputo rOr (by first | (left; omega) | (right; simp only [List.length_cons, List.length_nil, length_bL, length_be]; omega))
                                              replace rMd := kS.rputo rMd (by first | (left; omega) | (right; simp only [List.length_cons, List.length_nil, length_bL, length_be]; omega))
                                              refine l_nil ?_
                                              refine hK95 _ _ ?_
                                              refine fg3 1 0 7 (gS rfl (gS rfl (gS rfl (gS rfl (gS rfl (gS rfl (gS rfl (gS rfl (gS rfl g0))))))))) (gS rfl (gS rfl (gS rfl (gS rfl (gS rfl (gS rfl (gS rfl (gS rfl g0)))))))) (gS rfl (gS rfl (gS rfl (gS rfl (gS rfl (gS rfl g0)))))) (fun g => ?_)
                                              refine c_seq (fun K97 hK97 => ?_)
                                              exact (by
                                                refine c_region ?_
                                                refine l_step (y_moveV (et (gS rfl g0) rfl)) ?_
                                                refine l_step (y_nil (et g0 rfl)) ?_
                                                refine l_step (y_fld fld_102_4 (et g0 rfl)) ?_
                                                have rl98 := RowIn.le rS (Nat.succ_pos _)
                                                simp only [List.length_cons, List.length_nil, Nat.zero_add, Nat.reduceAdd] at rl98
                                                refine l_effN (e_store sz_5 (et g0 rfl) (cellsV rfl rfl) rfl (by first | exact one_bL _ | exact one_uL _ | (intro v hv; simp at hv; subst hv; rfl)) kS (by first | exact Nat.le_trans (by omega) rl98 | exact Nat.le_of_ble_eq_true rfl | (simp; done) | (simp; omega) | omega | (simp only [size_spl, Array.size_setIfInBounds, hs.size]; exact Nat.le_of_ble_eq_true rfl))) (fun v98 w98 h98 => ?_)
                                                obtain ⟨rfl, x98⟩ := h98
                                                replace k3 := k3.ch x98.ch (by omega)
                                                replace kF := kF.ch x98.ch (by omega)
                                                replace kL := kL.ch x98.ch (by intro q hq hm; have := dL q hq; omega)
                                                replace kS := x98.blk
                                                replace G := G.wr x98 (.inl (by first | rfl | (simp; done))) nbS
                                                replace hF := G.fz
                                                replace U := U.st x98 (.inl (by first | rfl | (simp; done)))
                                                replace eC := kS.eput eC (by omega)
                                                replace rS : RowIn _ _ [.slice pa1 u.saved.accts.length pa2, .slice pwa1 u.saved.warmA.length pwa2, .slice pws1 u.saved.warmS.length pws2, .slice pr1 pr2 pr3, .slice pla u.saved.logs.length u.saved.logs.length, .slice pt1 u.saved.temps.length pt2, .slice pm1 u.saved.made.length pm2, .slice pg1 u.saved.gone.length pg2, .slice oa s.start.length oc, _, _, .int .u8 ((2 : Nat) : Int), .int .u8 (s.status : Nat), .int .u8 (s.applied : Nat), vlim, vtx, vleft, vpr, vtot] := kS.rput rS 11 rfl
                                                replace rOr := kS.rputo rOr (by first | (left; omega) | (right; simp only [List.length_cons, List.length_nil, length_bL, length_be]; omega))
                                                replace rMd := kS.rputo rMd (by first | (left; omega) | (right; simp only [List.length_cons, List.length_nil, length_bL, length_be]; omega))
                                                refine l_nil ?_
                                                refine hK97 _ _ ?_
                                                refine fg3 1 0 7 (gS rfl (gS rfl (gS rfl (gS rfl (gS rfl g0))))) (gS rfl (gS rfl (gS rfl (gS rfl g0)))) (gS rfl (gS rfl (gS rfl g0))) (fun g => ?_)
                                                refine c_seq (fun K99 hK99 => ?_)
                                                exact (by
                                                  refine c_region ?_
                                                  refine l_step (y_moveV (et (gS rfl g0) rfl)) ?_
                                                  refine l_step (y_moveV (et (gS rfl (gS rfl (gS rfl g0))) rfl)) ?_
                                                  refine l_step (y_nil (et (gS rfl g0) rfl)) ?_
                                                  refine l_step (y_fld fld_102_5 (et g0 rfl)) ?_
                                                  have rl100 := RowIn.le rS (Nat.succ_pos _)
                                                  simp only [List.length_cons, List.length_nil, Nat.zero_add, Nat.reduceAdd] at rl100
                                                  refine l_effN (e_store sz_5 (et g0 rfl) (cellsV (et (gS rfl (gS rfl g0)) rfl) rfl) rfl (by first | exact one_bL _ | exact one_uL _ | (intro v hv; simp at hv; subst hv; rfl)) kS (by first | exact Nat.le_trans (by omega) rl100 | exact Nat.le_of_ble_eq_true rfl | (simp; done) | (simp; omega) | omega | (simp only [size_spl, Array.size_setIfInBounds, hs.size]; exact Nat.le_of_ble_eq_true rfl))) (fun v100 w100 h100 => ?_)
                                                  obtain ⟨rfl, x100⟩ := h100
                                                  replace k3 := k3.ch x100.ch (by omega)
                                                  replace kF := kF.ch x100.ch (by omega)
                                                  replace kL := kL.ch x100.ch (by intro q hq hm; have := dL q hq; omega)
                                                  replace kS := x100.blk
                                                  replace G := G.wr x100 (.inl (by first | rfl | (simp; done))) nbS
                                                  replace hF := G.fz
                                                  replace U := U.st x100 (.inl (by first | rfl | (simp; done)))
                                                  replace eC := kS.eput eC (by omega)
                                                  replace rS : RowIn _ _ [.slice pa1 u.saved.accts.length pa2, .slice pwa1 u.saved.warmA.length pwa2, .slice pws1 u.saved.warmS.length pws2, .slice pr1 pr2 pr3, .slice pla u.saved.logs.length u.saved.logs.length, .slice pt1 u.saved.temps.length pt2, .slice pm1 u.saved.made.length pm2, .slice pg1 u.saved.gone.length pg2, .slice oa s.start.length oc, _, _, .int .u8 ((2 : Nat) : Int), _, .int .u8 (s.applied : Nat), vlim, vtx, vleft, vpr, vtot] := kS.rput rS 12 rfl
                                                  replace rOr := kS.rputo rOr (by first | (left; omega) | (right; simp only [List.length_cons, List.length_nil, length_bL, length_be]; omega))
                                                  replace rMd := kS.rputo rMd (by first | (left; omega) | (right; simp only [List.length_cons, List.length_nil, length_bL, length_be]; omega))
                                                  refine l_nil ?_
                                                  refine hK99 _ _ ?_
                                                  refine fg2 0 7 (gS rfl (gS rfl (gS rfl (gS rfl (gS rfl g0))))) (gS rfl (gS rfl (gS rfl (gS rfl g0)))) (fun g => ?_)
                                                  refine c_seq (fun K101 hK101 => ?_)
                                                  exact (by
                                                    refine c_region ?_
                                                    refine l_step (y_moveV (et (gS rfl g0) rfl)) ?_
                                                    refine l_step (y_moveV (et (gS rfl g0) rfl)) ?_
                                                    refine l_step (y_nil (et (gS rfl g0) rfl)) ?_
                                                    refine l_step (y_fld fld_102_9 (et g0 rfl)) ?_
                                                    have rl102 := RowIn.le rS (Nat.succ_pos _)
                                                    simp only [List.length_cons, List.length_nil, Nat.zero_add, Nat.reduceAdd] at rl102
                                                    refine l_effN (e_store sz_95 (et g0 rfl) (cellsV (et (gS rfl (gS rfl g0)) rfl) rfl) rfl (by first | exact one_bL _ | exact one_uL _ | (intro v hv; simp at hv; subst hv; rfl)) kS (by first | exact Nat.le_trans (by omega) rl102 | exact Nat.le_of_ble_eq_true rfl | (simp; done) | (simp; omega) | omega | (simp only [size_spl, Array.size_setIfInBounds, hs.size]; exact Nat.le_of_ble_eq_true rfl))) (fun v102 w102 h102 => ?_)
                                                    obtain ⟨rfl, x102⟩ := h102
                                                    replace k3 := k3.ch x102.ch (by omega)
                                                    replace kF := kF.ch x102.ch (by omega)
                                                    replace kL := kL.ch x102.ch (by intro q hq hm; have := dL q hq; omega)
                                                    replace kS := x102.blk
                                                    replace G := G.wr x102 (.inl (by first | rfl | (simp; done))) nbS
                                                    replace hF := G.fz
                                                    replace U := U.st x102 (.inl (by first | rfl | (simp; done)))
                                                    replace eC := kS.eput eC (by omega)
                                                    replace rS : RowIn _ _ [.slice pa1 u.saved.accts.length pa2, .slice pwa1 u.saved.warmA.length pwa2, .slice pws1 u.saved.warmS.length pws2, .slice pr1 pr2 pr3, .slice pla u.saved.logs.length u.saved.logs.length, .slice pt1 u.saved.temps.length pt2, .slice pm1 u.saved.made.length pm2, .slice pg1 u.saved.gone.length pg2, .slice oa s.start.length oc, _, _, .int .u8 ((2 : Nat) : Int), _, .int .u8 (s.applied : Nat), vlim, vtx, _, vpr, vtot] := kS.rput rS 16 rfl
                                                    replace rOr := kS.rputo rOr (by first | (left; omega) | (right; simp only [List.length_cons, List.length_nil, length_bL, length_be]; omega))
                                                    replace rMd := kS.rputo rMd (by first | (left; omega) | (right; simp only [List.length_cons, List.length_nil, length_bL, length_be]; omega))
                                                    refine l_nil ?_
                                                    refine hK101 _ _ ?_
                                                    refine fg0 (fun g => ?_)
                                                    refine c_ret ?_
                                                    repeat with_reducible refine then_ret ?_
                                                    refine ret0 rfl ?_
                                                    have hG : lvGas u q l = 0 := by rw [lvGas, if_pos (by rw [hS]; have := hds.out; omega)]
                                                    have hOu : lvOut u q l = [] := by rw [lvOut, if_pos (.inl (by rw [hS]; have := hds.out; omega))]
                                                    have hW : lvW s u q l = u.saved := by rw [lvW, if_neg (by rw [hS]; omega)]
                                                    have hS0 : lvSt u q l ≠ 0 := by rw [hS]; omega
                                                    have eS : lvS1 s u q l = { s with now := u.saved, ret := [], phase := 2, status := dp.2, left := 0 } := by rw [lvS1, hW, hOu, hS, hG]
                                                    rw [eS, hW]
                                                    exact ⟨rfl, _, _, _, G, kS, ⟨⟨sv.accts, sv.warmA, sv.warmS, zrb, sv.logs, sv.temps, sv.made, sv.gone, so.start, (show 0 < 16777216 by decide), (show 2 < 256 by decide), (by show dp.2 < 256; have := hds.out; omega), so.applied, so.limit, so.txGas, (show 0 < 18446744073709551616 by decide), so.price, so.total, so.origin, so.mad⟩, eC.mono hL0, (by simp only [size_spl, Array.size_setIfInBounds]; exact hs.size), _, _, _, _, _, _, _, _, _, _, _, _, _, _, _, _, _, _, _, _, _, _, _, _, rS, rOr, rMd, (zAc.mono hL0), (zWA.mono hL0), (zWS.mono hL0), (zRf.mono hL0), (zTm.mono hL0), (zMd.mono hL0), (zGn.mono hL0), (hSr.mono hL0), (BV.nil _), (hLm.mono hL0), (hTx.mono hL0), (NV.nil _), (hPr.mono hL0), (hTt.mono hL0)⟩, by rw [if_neg hS0]; exact ⟨.inl ⟨rfl, zLg.mono hL0, _, _, rfl⟩⟩, (rS 4 _ rfl)⟩))))
                                          · skip
                                            
                                            have := of_decide_eq_false cB6; omega)))))
                              · skip
                                
                                have := of_decide_eq_false cB5; have := hds.out; omega))
                        · skip
                          
                          have := of_decide_eq_false cB4; omega)))
              · skip
                
                have hq0 : q ≠ 0 := by have := of_decide_eq_false cB1; omega
                have hS : lvSt u q l = q := by rw [lvSt, if_neg (fun h => hq0 h.2)]
                refine c_skip ?_
                refine hK8 _ _ ?_
                refine fg6 2 1 0 6 7 8 (gS rfl (gS rfl (gS rfl (gS rfl (gS rfl (gS rfl g0)))))) (gS rfl (gS rfl (gS rfl (gS rfl (gS rfl g0))))) (gS rfl (gS rfl (gS rfl (gS rfl g0)))) (gS rfl (gS rfl (gS rfl g0))) (gS rfl (gS rfl g0)) (gS rfl g0) (fun g => ?_)
                refine c_seq (fun K103 hK103 => ?_)
                refine c_seq (fun K104 hK104 => ?_)
                exact (by
                  refine c_region ?_
                  refine l_step (y_moveV (et (gS rfl (gS rfl (gS rfl (gS rfl g0)))) rfl)) ?_
                  refine l_step (y_neq (et g0 rfl) rfl) ?_
                  refine l_nil ?_
                  refine hK104 _ _ ?_
                  refine fg7 2 1 0 6 7 8 59 (gS rfl (gS rfl (gS rfl (gS rfl (gS rfl (gS rfl (gS rfl g0))))))) (gS rfl (gS rfl (gS rfl (gS rfl (gS rfl (gS rfl g0)))))) (gS rfl (gS rfl (gS rfl (gS rfl (gS rfl g0))))) (gS rfl (gS rfl (gS rfl (gS rfl g0)))) (gS rfl (gS rfl (gS rfl g0))) (gS rfl (gS rfl g0)) g0 (fun g => ?_)
                  refine c_cond (et g0 rfl) (fun cB4 => ?_) (fun cB4 => ?_)
                  · skip
                    
                    have hq4 : q ≠ 0 := by have := of_decide_eq_true cB4; omega
                    exact (by
                      refine c_region ?_
                      refine l_step (y_moveV (et (gS rfl (gS rfl (gS rfl (gS rfl g0)))) rfl)) ?_
                      refine l_step (y_fld fld_146_14 (et (gS rfl (gS rfl (gS rfl (gS rfl g0)))) rfl)) ?_
                      refine l_step (y_loadR agg_98 sz_98 (et g0 rfl) rfl (at1R (k3.row qSv))) ?_
                      refine l_step (y_nil (et (gS rfl (gS rfl g0)) rfl)) ?_
                      refine l_step (y_fld fld_102_0 (et g0 rfl)) ?_
                      have rl106 := RowIn.le rS (Nat.succ_pos _)
                      simp only [List.length_cons, List.length_nil, Nat.zero_add, Nat.reduceAdd] at rl106
                      refine l_effN (e_store sz_98 (et g0 rfl) (cellsV (et (gS rfl (gS rfl g0)) rfl) rfl) rfl (by intro v hv; simp only [List.mem_cons, List.not_mem_nil, or_false] at hv; rcases hv with rfl | rfl | rfl | rfl | rfl | rfl | rfl | rfl <;> rfl) kS (by omega)) (fun v106 w106 h106 => ?_)
                      obtain ⟨rfl, x106⟩ := h106
                      replace k3 := k3.ch x106.ch (by omega)
                      replace kF := kF.ch x106.ch (by omega)
                      replace kL := kL.ch x106.ch (by intro q hq hm; have := dL q hq; omega)
                      replace kS := x106.blk
                      replace G := G.wr x106 (.inl (by first | rfl | (simp; done))) nbS
                      replace hF := G.fz
                      replace U := U.st x106 (.inl (by first | rfl | (simp; done)))
                      replace eC := kS.eputm eC (by first | omega | (simp only [length_bL, length_be, List.length_cons, List.length_nil]; omega)) (by first | omega | (simp only [length_bL, length_be, List.length_cons, List.length_nil]; omega))
                      replace rS : RowIn _ _ [.slice pa1 u.saved.accts.length pa2, .slice pwa1 u.saved.warmA.length pwa2, .slice pws1 u.saved.warmS.length pws2, .slice pr1 pr2 pr3, .slice pla u.saved.logs.length u.saved.logs.length, .slice pt1 u.saved.temps.length pt2, .slice pm1 u.saved.made.length pm2, .slice pg1 u.saved.gone.length pg2, .slice oa s.start.length oc, .slice (some ⟨bf, 0, none⟩) N cap, .slice ra s.ret.length rc, .int .u8 (s.phase : Nat), .int .u8 (s.status : Nat), .int .u8 (s.applied : Nat), vlim, vtx, vleft, vpr, vtot] := kS.rputm rS 0 (by first | omega | (simp only [length_bL, length_be, List.length_cons, List.length_nil]; omega)) rfl (Nat.le_of_ble_eq_true rfl)
                      replace rOr := kS.rputmo rOr (by first | omega | (simp only [length_bL, length_be, List.length_cons, List.length_nil]; omega)) (by first | omega | (simp only [length_bL, length_be, List.length_cons, List.length_nil]; omega))
                      replace rMd := kS.rputmo rMd (by first | omega | (simp only [length_bL, length_be, List.length_cons, List.length_nil]; omega)) (by first | omega | (simp only [length_bL, length_be, List.length_cons, List.length_nil]; omega))
                      refine l_nil ?_
                      refine hK103 _ _ ?_
                      refine fg6 2 1 0 6 7 8 (gS rfl (gS rfl (gS rfl (gS rfl (gS rfl (gS rfl (gS rfl (gS rfl (gS rfl (gS rfl (gS rfl g0))))))))))) (gS rfl (gS rfl (gS rfl (gS rfl (gS rfl (gS rfl (gS rfl (gS rfl (gS rfl (gS rfl g0)))))))))) (gS rfl (gS rfl (gS rfl (gS rfl (gS rfl (gS rfl (gS rfl (gS rfl (gS rfl g0))))))))) (gS rfl (gS rfl (gS rfl (gS rfl (gS rfl (gS rfl (gS rfl (gS rfl g0)))))))) (gS rfl (gS rfl (gS rfl (gS rfl (gS rfl (gS rfl (gS rfl g0))))))) (gS rfl (gS rfl (gS rfl (gS rfl (gS rfl (gS rfl g0)))))) (fun g => ?_)
                      refine c_seq (fun K107 hK107 => ?_)
                      refine c_seq (fun K108 hK108 => ?_)
                      exact (by
                        refine c_region ?_
                        refine l_step (y_moveV (et (gS rfl (gS rfl (gS rfl (gS rfl g0)))) rfl)) ?_
                        refine l_step (y_gtr (et g0 rfl) rfl) ?_
                        refine l_nil ?_
                        refine hK108 _ _ ?_
                        refine fg7 2 1 0 6 7 8 66 (gS rfl (gS rfl (gS rfl (gS rfl (gS rfl (gS rfl (gS rfl g0))))))) (gS rfl (gS rfl (gS rfl (gS rfl (gS rfl (gS rfl g0)))))) (gS rfl (gS rfl (gS rfl (gS rfl (gS rfl g0))))) (gS rfl (gS rfl (gS rfl (gS rfl g0)))) (gS rfl (gS rfl (gS rfl g0))) (gS rfl (gS rfl g0)) g0 (fun g => ?_)
                        refine c_cond (et g0 rfl) (fun cB5 => ?_) (fun cB5 => ?_)
                        · skip
                          
                          have hq5 : 1 < q := by have := of_decide_eq_true cB5; omega
                          refine c_seq (fun K110 hK110 => ?_)
                          exact (by
                            refine c_region ?_
                            refine l_step y_assignC ?_
                            refine l_nil ?_
                            refine hK110 _ _ ?_
                            refine fg5 1 0 6 7 8 (gS rfl (gS rfl (gS rfl (gS rfl (gS rfl (gS rfl g0)))))) (gS rfl (gS rfl (gS rfl (gS rfl (gS rfl g0))))) (gS rfl (gS rfl (gS rfl (gS rfl g0)))) g0 (gS rfl (gS rfl g0)) (fun g => ?_)
                            refine c_region ?_
                            refine l_step y_assignC ?_
                            refine l_nil ?_
                            refine hK107 _ _ ?_
                            refine c_seq (fun K111 hK111 => ?_)
                            exact (by
                              refine c_region ?_
                              refine l_step (y_moveV (et (gS rfl (gS rfl (gS rfl (gS rfl g0)))) rfl)) ?_
                              refine l_step (y_moveV (et (gS rfl g0) rfl)) ?_
                              refine l_step (y_nil (et (gS rfl g0) rfl)) ?_
                              refine l_step (y_fld fld_102_3 (et g0 rfl)) ?_
                              have rl112 := RowIn.le rS (Nat.succ_pos _)
                              simp only [List.length_cons, List.length_nil, Nat.zero_add, Nat.reduceAdd] at rl112
                              refine l_effN (e_store sz_38 (et g0 rfl) (cellsV (et (gS rfl (gS rfl g0)) rfl) rfl) rfl (by first | exact one_bL _ | exact one_uL _ | (intro v hv; simp at hv; subst hv; rfl)) kS (by first | exact Nat.le_trans (by omega) rl112 | exact Nat.le_of_ble_eq_true rfl | (simp; done) | (simp; omega) | omega | (simp only [size_spl, Array.size_setIfInBounds, hs.size]; exact Nat.le_of_ble_eq_true rfl))) (fun v112 w112 h112 => ?_)
                              obtain ⟨rfl, x112⟩ := h112
                              replace k3 := k3.ch x112.ch (by omega)
                              replace kF := kF.ch x112.ch (by omega)
                              replace kL := kL.ch x112.ch (by intro q hq hm; have := dL q hq; omega)
                              replace kS := x112.blk
                              replace G := G.wr x112 (.inl (by first | rfl | (simp; done))) nbS
                              replace hF := G.fz
                              replace U := U.st x112 (.inl (by first | rfl | (simp; done)))
                              replace eC := kS.eput eC (by omega)
                              replace rS : RowIn _ _ [.slice pa1 u.saved.accts.length pa2, .slice pwa1 u.saved.warmA.length pwa2, .slice pws1 u.saved.warmS.length pws2, .slice pr1 pr2 pr3, .slice pla u.saved.logs.length u.saved.logs.length, .slice pt1 u.saved.temps.length pt2, .slice pm1 u.saved.made.length pm2, .slice pg1 u.saved.gone.length pg2, .slice oa s.start.length oc, .slice (some ⟨bf, 0, none⟩) N cap, _, .int .u8 (s.phase : Nat), .int .u8 (s.status : Nat), .int .u8 (s.applied : Nat), vlim, vtx, vleft, vpr, vtot] := kS.rput rS 10 rfl
                              replace rOr := kS.rputo rOr (by first | (left; omega) | (right; simp only [List.length_cons, List.length_nil, length_bL, length_be]; omega))
                              replace rMd := kS.rputo rMd (by first | (left; omega) | (right; simp only [List.length_cons, List.length_nil, length_bL, length_be]; omega))
                              refine l_nil ?_
                              refine hK111 _ _ ?_
                              refine fg6 1 0 6 7 8 2 (gS rfl (gS rfl (gS rfl (gS rfl (gS rfl (gS rfl (gS rfl (gS rfl (gS rfl g0))))))))) (gS rfl (gS rfl (gS rfl (gS rfl (gS rfl (gS rfl (gS rfl (gS rfl g0)))))))) (gS rfl (gS rfl (gS rfl (gS rfl (gS rfl (gS rfl (gS rfl g0))))))) (gS rfl (gS rfl (gS rfl (gS rfl (gS rfl (gS rfl g0)))))) (gS rfl (gS rfl (gS rfl (gS rfl (gS rfl g0))))) (gS rfl (gS rfl (gS rfl (gS rfl g0)))) (fun g => ?_)
                              refine c_seq (fun K113 hK113 => ?_)
                              exact (by
                                refine c_draw Up 20 [(0, true), (1, true), (2, true), (3, true), (4, true), (5, true), (6, true), (7, true), (8, true), (9, true), (10, true), (11, true), (12, true), (13, true), (14, true), (15, true), (16, true), (17, true), (18, true), (19, true), (20, false)] (by kernel_rfl) (fun w114 hu => ⟨Up.refl _, ?_⟩)
                                replace G := G.tr (Go.ofUp hF hu)
                                replace hF := hF.up hu
                                replace k3 := k3.up hu
                                replace kS := kS.up hu
                                replace kF := kF.up hu
                                replace kL := kL.up hu
                                replace U := U.tr hu
                                have SU := Up.refl w114
                                refine p_step (by exact rfl) (y_moveV (et (gS rfl (gS rfl (gS rfl (gS rfl g0)))) rfl)) ?_
                                refine p_step (by exact rfl) (y_moveV (et (gS rfl (gS rfl (gS rfl (gS rfl (gS rfl g0))))) rfl)) ?_
                                refine p_step (by exact rfl) (y_nil (et g0 rfl)) ?_
                                refine p_step (by exact rfl) (y_fld fld_102_2 (et g0 rfl)) ?_
                                refine p_step (by exact rfl) (y_load1 one_100 (et g0 rfl) (atS (kS.cell (rS 9 _ rfl)))) ?_
                                refine p_step (by exact rfl) (y_moveV (et (gS rfl (gS rfl (gS rfl (gS rfl (gS rfl (gS rfl (gS rfl (gS rfl (gS rfl g0))))))))) rfl)) ?_
                                refine p_step (by exact rfl) (y_nil (et g0 rfl)) ?_
                                refine p_step (by exact rfl) (y_fld fld_102_2 (et g0 rfl)) ?_
                                refine p_step (by exact rfl) (y_load1 one_100 (et g0 rfl) (atS (kS.cell (rS 9 _ rfl)))) ?_
                                refine p_step (by exact rfl) (y_len Hvaa.underlying100 (et g0 rfl)) ?_
                                refine p_step (by exact rfl) (y_sub (et g0 rfl) rfl (subIN (y := 1) ?_ ?_)) ?_
                                omega
                                omega
                                refine p_step (by exact rfl) (y_moveV (et (gS rfl (gS rfl (gS rfl (gS rfl (gS rfl (gS rfl (gS rfl (gS rfl (gS rfl (gS rfl (gS rfl (gS rfl (gS rfl (gS rfl (gS rfl g0))))))))))))))) rfl)) ?_
                                refine p_step (by exact rfl) (y_nil (et g0 rfl)) ?_
                                refine p_step (by exact rfl) (y_fld fld_102_2 (et g0 rfl)) ?_
                                refine p_step (by exact rfl) (y_load1 one_100 (et g0 rfl) (atS (kS.cell (rS 9 _ rfl)))) ?_
                                refine p_step (by exact rfl) (y_len Hvaa.underlying100 (et g0 rfl)) ?_
                                refine p_step (by exact rfl) (y_sub (et g0 rfl) rfl (subIN (y := 1) ?_ ?_)) ?_
                                omega
                                omega
                                refine p_step (by exact rfl) (y_slS011n Hvaa.underlying100 sz_146 (et (gS rfl (gS rfl (gS rfl (gS rfl (gS rfl (gS rfl (gS rfl (gS rfl (gS rfl (gS rfl (gS rfl (gS rfl g0)))))))))))) rfl) (et (gS rfl (gS rfl (gS rfl (gS rfl (gS rfl (gS rfl g0)))))) rfl) (et g0 rfl) ?_ ?_) ?_
                                omega
                                omega
                                exact (by
                                  refine p_step (by exact rfl) (y_nil (et (gS rfl (gS rfl (gS rfl (gS rfl (gS rfl (gS rfl (gS rfl (gS rfl (gS rfl (gS rfl (gS rfl (gS rfl (gS rfl (gS rfl (gS rfl (gS rfl (gS rfl g0))))))))))))))))) rfl)) ?_
                                  refine p_step (by exact rfl) (y_fld fld_102_2 (et g0 rfl)) ?_
                                  have rl115 := RowIn.le rS (Nat.succ_pos _)
                                  simp only [List.length_cons, List.length_nil, Nat.zero_add, Nat.reduceAdd] at rl115
                                  refine p_effN (by exact rfl) (e_store sz_100 (et g0 rfl) (cellsV (et (gS rfl (gS rfl g0)) rfl) rfl) rfl (by first | exact one_bL _ | exact one_uL _ | (intro v hv; simp at hv; subst hv; rfl)) kS (by first | exact Nat.le_trans (by omega) rl115 | exact Nat.le_of_ble_eq_true rfl | (simp; done) | (simp; omega) | omega | (simp only [size_spl, Array.size_setIfInBounds, hs.size]; exact Nat.le_of_ble_eq_true rfl))) (fun v115 w115 h115 => ?_)
                                  obtain ⟨rfl, x115⟩ := h115
                                  replace k3 := k3.ch x115.ch (by omega)
                                  replace kF := kF.ch x115.ch (by omega)
                                  replace kL := kL.ch x115.ch (by intro q hq hm; have := dL q hq; omega)
                                  replace kS := x115.blk
                                  replace G := G.wr x115 (.inl (by first | rfl | (simp; done))) nbS
                                  replace hF := G.fz
                                  replace U := U.st x115 (.inl (by first | rfl | (simp; done)))
                                  replace eC := kS.eput eC (by omega)
                                  replace rS : RowIn _ _ [.slice pa1 u.saved.accts.length pa2, .slice pwa1 u.saved.warmA.length pwa2, .slice pws1 u.saved.warmS.length pws2, .slice pr1 pr2 pr3, .slice pla u.saved.logs.length u.saved.logs.length, .slice pt1 u.saved.temps.length pt2, .slice pm1 u.saved.made.length pm2, .slice pg1 u.saved.gone.length pg2, .slice oa s.start.length oc, .slice (some ⟨bf, 0, none⟩) (N - 1) (N - 1), _, .int .u8 (s.phase : Nat), .int .u8 (s.status : Nat), .int .u8 (s.applied : Nat), vlim, vtx, vleft, vpr, vtot] := kS.rput rS 9 rfl
                                  replace rOr := kS.rputo rOr (by first | (left; omega) | (right; simp only [List.length_cons, List.length_nil, length_bL, length_be]; omega))
                                  replace rMd := kS.rputo rMd (by first | (left; omega) | (right; simp only [List.length_cons, List.length_nil, length_bL, length_be]; omega))
                                  refine ⟨.inl rfl, ?_⟩
                                  refine p_nil ?_
                                  refine hK113 _ _ ?_
                                  refine fg6 1 0 6 7 8 2 (gS rfl (gS rfl (gS rfl (gS rfl (gS rfl (gS rfl (gS rfl (gS rfl (gS rfl (gS rfl (gS rfl (gS rfl (gS rfl (gS rfl (gS rfl (gS rfl (gS rfl (gS rfl (gS rfl (gS rfl (gS rfl (gS rfl (gS rfl (gS rfl (gS rfl g0))))))))))))))))))))))))) (gS rfl (gS rfl (gS rfl (gS rfl (gS rfl (gS rfl (gS rfl (gS rfl (gS rfl (gS rfl (gS rfl (gS rfl (gS rfl (gS rfl (gS rfl (gS rfl (gS rfl (gS rfl (gS rfl (gS rfl (gS rfl (gS rfl (gS rfl (gS rfl g0)))))))))))))))))))))))) (gS rfl (gS rfl (gS rfl (gS rfl (gS rfl (gS rfl (gS rfl (gS rfl (gS rfl (gS rfl (gS rfl (gS rfl (gS rfl (gS rfl (gS rfl (gS rfl (gS rfl (gS rfl (gS rfl (gS rfl (gS rfl (gS rfl (gS rfl g0))))))))))))))))))))))) (gS rfl (gS rfl (gS rfl (gS rfl (gS rfl (gS rfl (gS rfl (gS rfl (gS rfl (gS rfl (gS rfl (gS rfl (gS rfl (gS rfl (gS rfl (gS rfl (gS rfl (gS rfl (gS rfl (gS rfl (gS rfl (gS rfl g0)))))))))))))))))))))) (gS rfl (gS rfl (gS rfl (gS rfl (gS rfl (gS rfl (gS rfl (gS rfl (gS rfl (gS rfl (gS rfl (gS rfl (gS rfl (gS rfl (gS rfl (gS rfl (gS rfl (gS rfl (gS rfl (gS rfl (gS rfl g0))))))))))))))))))))) (gS rfl (gS rfl (gS rfl (gS rfl (gS rfl (gS rfl (gS rfl (gS rfl (gS rfl (gS rfl (gS rfl (gS rfl (gS rfl (gS rfl (gS rfl (gS rfl (gS rfl (gS rfl (gS rfl (gS rfl g0)))))))))))))))))))) (fun g => ?_)
                                  refine c_seq (fun K116 hK116 => ?_)
                                  refine c_seq (fun K117 hK117 => ?_)
                                  exact (by
                                    refine c_region ?_
                                    refine l_step (y_moveV (et (gS rfl (gS rfl (gS rfl (gS rfl g0)))) rfl)) ?_
                                    refine l_step (y_nil (et g0 rfl)) ?_
                                    refine l_step (y_fld fld_102_2 (et g0 rfl)) ?_
                                    refine l_step (y_load1 one_100 (et g0 rfl) (at1 (kS.cell (rS 9 _ rfl)))) ?_
                                    refine l_step (y_len Hvaa.underlying100 (et g0 rfl)) ?_
                                    refine l_step (y_eql (et g0 rfl) rfl) ?_
                                    refine l_nil ?_
                                    refine hK117 _ _ ?_
                                    refine fg7 1 0 6 7 8 2 96 (gS rfl (gS rfl (gS rfl (gS rfl (gS rfl (gS rfl (gS rfl (gS rfl (gS rfl (gS rfl (gS rfl g0))))))))))) (gS rfl (gS rfl (gS rfl (gS rfl (gS rfl (gS rfl (gS rfl (gS rfl (gS rfl (gS rfl g0)))))))))) (gS rfl (gS rfl (gS rfl (gS rfl (gS rfl (gS rfl (gS rfl (gS rfl (gS rfl g0))))))))) (gS rfl (gS rfl (gS rfl (gS rfl (gS rfl (gS rfl (gS rfl (gS rfl g0)))))))) (gS rfl (gS rfl (gS rfl (gS rfl (gS rfl (gS rfl (gS rfl g0))))))) (gS rfl (gS rfl (gS rfl (gS rfl (gS rfl (gS rfl g0)))))) g0 (fun g => ?_)
                                    refine c_cond (et g0 rfl) (fun cB6 => ?_) (fun cB6 => ?_)
                                    · skip
                                      
                                      refine c_seq (fun K119 hK119 => ?_)
                                      exact (by
                                        refine c_region ?_
                                        refine l_step (y_moveV (et (gS rfl (gS rfl (gS rfl (gS rfl (gS rfl g0))))) rfl)) ?_
                                        refine l_step (y_nil (et g0 rfl)) ?_
                                        refine l_step (y_fld fld_102_2 (et g0 rfl)) ?_
                                        have rl120 := RowIn.le rS (Nat.succ_pos _)
                                        simp only [List.length_cons, List.length_nil, Nat.zero_add, Nat.reduceAdd] at rl120
                                        refine l_effN (e_store sz_100 (et g0 rfl) (cellsV rfl rfl) rfl (by first | exact one_bL _ | exact one_uL _ | (intro v hv; simp at hv; subst hv; rfl)) kS (by first | exact Nat.le_trans (by omega) rl120 | exact Nat.le_of_ble_eq_true rfl | (simp; done) | (simp; omega) | omega | (simp only [size_spl, Array.size_setIfInBounds, hs.size]; exact Nat.le_of_ble_eq_true rfl))) (fun v120 w120 h120 => ?_)
                                        obtain ⟨rfl, x120⟩ := h120
                                        replace k3 := k3.ch x120.ch (by omega)
                                        replace kF := kF.ch x120.ch (by omega)
                                        replace kL := kL.ch x120.ch (by intro q hq hm; have := dL q hq; omega)
                                        replace kS := x120.blk
                                        replace G := G.wr x120 (.inl (by first | rfl | (simp; done))) nbS
                                        replace hF := G.fz
                                        replace U := U.st x120 (.inl (by first | rfl | (simp; done)))
                                        replace eC := kS.eput eC (by omega)
                                        replace rS : RowIn _ _ [.slice pa1 u.saved.accts.length pa2, .slice pwa1 u.saved.warmA.length pwa2, .slice pws1 u.saved.warmS.length pws2, .slice pr1 pr2 pr3, .slice pla u.saved.logs.length u.saved.logs.length, .slice pt1 u.saved.temps.length pt2, .slice pm1 u.saved.made.length pm2, .slice pg1 u.saved.gone.length pg2, .slice oa s.start.length oc, _, _, .int .u8 (s.phase : Nat), .int .u8 (s.status : Nat), .int .u8 (s.applied : Nat), vlim, vtx, vleft, vpr, vtot] := kS.rput rS 9 rfl
                                        replace rOr := kS.rputo rOr (by first | (left; omega) | (right; simp only [List.length_cons, List.length_nil, length_bL, length_be]; omega))
                                        replace rMd := kS.rputo rMd (by first | (left; omega) | (right; simp only [List.length_cons, List.length_nil, length_bL, length_be]; omega))
                                        refine l_nil ?_
                                        refine hK119 _ _ ?_
                                        refine fg3 1 0 7 (gS rfl (gS rfl (gS rfl (gS rfl (gS rfl (gS rfl (gS rfl (gS rfl (gS rfl g0))))))))) (gS rfl (gS rfl (gS rfl (gS rfl (gS rfl (gS rfl (gS rfl (gS rfl g0)))))))) (gS rfl (gS rfl (gS rfl (gS rfl (gS rfl (gS rfl g0)))))) (fun g => ?_)
                                        refine c_seq (fun K121 hK121 => ?_)
                                        exact (by
                                          refine c_region ?_
                                          refine l_step (y_moveV (et (gS rfl g0) rfl)) ?_
                                          refine l_step (y_nil (et g0 rfl)) ?_
                                          refine l_step (y_fld fld_102_4 (et g0 rfl)) ?_
                                          have rl122 := RowIn.le rS (Nat.succ_pos _)
                                          simp only [List.length_cons, List.length_nil, Nat.zero_add, Nat.reduceAdd] at rl122
                                          refine l_effN (e_store sz_5 (et g0 rfl) (cellsV rfl rfl) rfl (by first | exact one_bL _ | exact one_uL _ | (intro v hv; simp at hv; subst hv; rfl)) kS (by first | exact Nat.le_trans (by omega) rl122 | exact Nat.le_of_ble_eq_true rfl | (simp; done) | (simp; omega) | omega | (simp only [size_spl, Array.size_setIfInBounds, hs.size]; exact Nat.le_of_ble_eq_true rfl))) (fun v122 w122 h122 => ?_)
                                          obtain ⟨rfl, x122⟩ := h122
                                          replace k3 := k3.ch x122.ch (by omega)
                                          replace kF := kF.ch x122.ch (by omega)
                                          replace kL := kL.ch x122.ch (by intro q hq hm; have := dL q hq; omega)
                                          replace kS := x122.blk
                                          replace G := G.wr x122 (.inl (by first | rfl | (simp; done))) nbS
                                          replace hF := G.fz
                                          replace U := U.st x122 (.inl (by first | rfl | (simp; done)))
                                          replace eC := kS.eput eC (by omega)
                                          replace rS : RowIn _ _ [.slice pa1 u.saved.accts.length pa2, .slice pwa1 u.saved.warmA.length pwa2, .slice pws1 u.saved.warmS.length pws2, .slice pr1 pr2 pr3, .slice pla u.saved.logs.length u.saved.logs.length, .slice pt1 u.saved.temps.length pt2, .slice pm1 u.saved.made.length pm2, .slice pg1 u.saved.gone.length pg2, .slice oa s.start.length oc, _, _, .int .u8 ((2 : Nat) : Int), .int .u8 (s.status : Nat), .int .u8 (s.applied : Nat), vlim, vtx, vleft, vpr, vtot] := kS.rput rS 11 rfl
                                          replace rOr := kS.rputo rOr (by first | (left; omega) | (right; simp only [List.length_cons, List.length_nil, length_bL, length_be]; omega))
                                          replace rMd := kS.rputo rMd (by first | (left; omega) | (right; simp only [List.length_cons, List.length_nil, length_bL, length_be]; omega))
                                          refine l_nil ?_
                                          refine hK121 _ _ ?_
                                          refine fg3 1 0 7 (gS rfl (gS rfl (gS rfl (gS rfl (gS rfl g0))))) (gS rfl (gS rfl (gS rfl (gS rfl g0)))) (gS rfl (gS rfl (gS rfl g0))) (fun g => ?_)
                                          refine c_seq (fun K123 hK123 => ?_)
                                          exact (by
                                            refine c_region ?_
                                            refine l_step (y_moveV (et (gS rfl g0) rfl)) ?_
                                            refine l_step (y_moveV (et (gS rfl (gS rfl (gS rfl g0))) rfl)) ?_
                                            refine l_step (y_nil (et (gS rfl g0) rfl)) ?_
                                            refine l_step (y_fld fld_102_5 (et g0 rfl)) ?_
                                            have rl124 := RowIn.le rS (Nat.succ_pos _)
                                            simp only [List.length_cons, List.length_nil, Nat.zero_add, Nat.reduceAdd] at rl124
                                            refine l_effN (e_store sz_5 (et g0 rfl) (cellsV (et (gS rfl (gS rfl g0)) rfl) rfl) rfl (by first | exact one_bL _ | exact one_uL _ | (intro v hv; simp at hv; subst hv; rfl)) kS (by first | exact Nat.le_trans (by omega) rl124 | exact Nat.le_of_ble_eq_true rfl | (simp; done) | (simp; omega) | omega | (simp only [size_spl, Array.size_setIfInBounds, hs.size]; exact Nat.le_of_ble_eq_true rfl))) (fun v124 w124 h124 => ?_)
                                            obtain ⟨rfl, x124⟩ := h124
                                            replace k3 := k3.ch x124.ch (by omega)
                                            replace kF := kF.ch x124.ch (by omega)
                                            replace kL := kL.ch x124.ch (by intro q hq hm; have := dL q hq; omega)
                                            replace kS := x124.blk
                                            replace G := G.wr x124 (.inl (by first | rfl | (simp; done))) nbS
                                            replace hF := G.fz
                                            replace U := U.st x124 (.inl (by first | rfl | (simp; done)))
                                            replace eC := kS.eput eC (by omega)
                                            replace rS : RowIn _ _ [.slice pa1 u.saved.accts.length pa2, .slice pwa1 u.saved.warmA.length pwa2, .slice pws1 u.saved.warmS.length pws2, .slice pr1 pr2 pr3, .slice pla u.saved.logs.length u.saved.logs.length, .slice pt1 u.saved.temps.length pt2, .slice pm1 u.saved.made.length pm2, .slice pg1 u.saved.gone.length pg2, .slice oa s.start.length oc, _, _, .int .u8 ((2 : Nat) : Int), _, .int .u8 (s.applied : Nat), vlim, vtx, vleft, vpr, vtot] := kS.rput rS 12 rfl
                                            replace rOr := kS.rputo rOr (by first | (left; omega) | (right; simp only [List.length_cons, List.length_nil, length_bL, length_be]; omega))
                                            replace rMd := kS.rputo rMd (by first | (left; omega) | (right; simp only [List.length_cons, List.length_nil, length_bL, length_be]; omega))
                                            refine l_nil ?_
                                            refine hK123 _ _ ?_
                                            refine fg2 0 7 (gS rfl (gS rfl (gS rfl (gS rfl (gS rfl g0))))) (gS rfl (gS rfl (gS rfl (gS rfl g0)))) (fun g => ?_)
                                            refine c_seq (fun K125 hK125 => ?_)
                                            exact (by
                                              refine c_region ?_
                                              refine l_step (y_moveV (et (gS rfl g0) rfl)) ?_
                                              refine l_step (y_moveV (et (gS rfl g0) rfl)) ?_
                                              refine l_step (y_nil (et (gS rfl g0) rfl)) ?_
                                              refine l_step (y_fld fld_102_9 (et g0 rfl)) ?_
                                              have rl126 := RowIn.le rS (Nat.succ_pos _)
                                              simp only [List.length_cons, List.length_nil, Nat.zero_add, Nat.reduceAdd] at rl126
                                              refine l_effN (e_store sz_95 (et g0 rfl) (cellsV (et (gS rfl (gS rfl g0)) rfl) rfl) rfl (by first | exact one_bL _ | exact one_uL _ | (intro v hv; simp at hv; subst hv; rfl)) kS (by first | exact Nat.le_trans (by omega) rl126 | exact Nat.le_of_ble_eq_true rfl | (simp; done) | (simp; omega) | omega | (simp only [size_spl, Array.size_setIfInBounds, hs.size]; exact Nat.le_of_ble_eq_true rfl))) (fun v126 w126 h126 => ?_)
                                              obtain ⟨rfl, x126⟩ := h126
                                              replace k3 := k3.ch x126.ch (by omega)
                                              replace kF := kF.ch x126.ch (by omega)
                                              replace kL := kL.ch x126.ch (by intro q hq hm; have := dL q hq; omega)
                                              replace kS := x126.blk
                                              replace G := G.wr x126 (.inl (by first | rfl | (simp; done))) nbS
                                              replace hF := G.fz
                                              replace U := U.st x126 (.inl (by first | rfl | (simp; done)))
                                              replace eC := kS.eput eC (by omega)
                                              replace rS : RowIn _ _ [.slice pa1 u.saved.accts.length pa2, .slice pwa1 u.saved.warmA.length pwa2, .slice pws1 u.saved.warmS.length pws2, .slice pr1 pr2 pr3, .slice pla u.saved.logs.length u.saved.logs.length, .slice pt1 u.saved.temps.length pt2, .slice pm1 u.saved.made.length pm2, .slice pg1 u.saved.gone.length pg2, .slice oa s.start.length oc, _, _, .int .u8 ((2 : Nat) : Int), _, .int .u8 (s.applied : Nat), vlim, vtx, _, vpr, vtot] := kS.rput rS 16 rfl
                                              replace rOr := kS.rputo rOr (by first | (left; omega) | (right; simp only [List.length_cons, List.length_nil, length_bL, length_be]; omega))
                                              replace rMd := kS.rputo rMd (by first | (left; omega) | (right; simp only [List.length_cons, List.length_nil, length_bL, length_be]; omega))
                                              refine l_nil ?_
                                              refine hK125 _ _ ?_
                                              refine fg0 (fun g => ?_)
                                              refine c_ret ?_
                                              repeat with_reducible refine then_ret ?_
                                              refine ret0 rfl ?_
                                              have hG : lvGas u q l = 0 := by rw [lvGas, if_pos (by rw [hS]; have := hds.out; omega)]
                                              have hOu : lvOut u q l = [] := by rw [lvOut, if_pos (.inl (by rw [hS]; have := hds.out; omega))]
                                              have hW : lvW s u q l = u.saved := by rw [lvW, if_neg (by rw [hS]; omega)]
                                              have hS0 : lvSt u q l ≠ 0 := by rw [hS]; omega
                                              have eS : lvS1 s u q l = { s with now := u.saved, ret := [], phase := 2, status := q, left := 0 } := by rw [lvS1, hW, hOu, hS, hG]
                                              rw [eS, hW]
                                              exact ⟨rfl, _, _, _, G, kS, ⟨⟨sv.accts, sv.warmA, sv.warmS, zrb, sv.logs, sv.temps, sv.made, sv.gone, so.start, (show 0 < 16777216 by decide), (show 2 < 256 by decide), hq, so.applied, so.limit, so.txGas, (show 0 < 18446744073709551616 by decide), so.price, so.total, so.origin, so.mad⟩, eC.mono hL0, (by simp only [size_spl, Array.size_setIfInBounds]; exact hs.size), _, _, _, _, _, _, _, _, _, _, _, _, _, _, _, _, _, _, _, _, _, _, _, _, rS, rOr, rMd, (zAc.mono hL0), (zWA.mono hL0), (zWS.mono hL0), (zRf.mono hL0), (zTm.mono hL0), (zMd.mono hL0), (zGn.mono hL0), (hSr.mono hL0), (BV.nil _), (hLm.mono hL0), (hTx.mono hL0), (NV.nil _), (hPr.mono hL0), (hTt.mono hL0)⟩, by rw [if_neg hS0]; exact ⟨.inl ⟨rfl, zLg.mono hL0, _, _, rfl⟩⟩, (rS 4 _ rfl)⟩))))
                                    · skip
                                      
                                      have := of_decide_eq_false cB6; omega)))))
                        · skip
                          
                          have hq5 : ¬ 1 < q := by have := of_decide_eq_false cB5; omega
                          refine c_skip ?_
                          refine hK107 _ _ ?_
                          refine fg6 2 1 0 6 7 8 (gS rfl (gS rfl (gS rfl (gS rfl (gS rfl (gS rfl g0)))))) (gS rfl (gS rfl (gS rfl (gS rfl (gS rfl g0))))) (gS rfl (gS rfl (gS rfl (gS rfl g0)))) (gS rfl (gS rfl (gS rfl g0))) (gS rfl (gS rfl g0)) (gS rfl g0) (fun g => ?_)
                          refine c_seq (fun K127 hK127 => ?_)
                          exact (by
                            refine c_region ?_
                            refine l_step (y_moveV (et (gS rfl (gS rfl (gS rfl g0))) rfl)) ?_
                            refine l_step (y_moveV (et (gS rfl (gS rfl (gS rfl (gS rfl (gS rfl (gS rfl g0)))))) rfl)) ?_
                            refine l_step (y_nil (et (gS rfl g0) rfl)) ?_
                            refine l_step (y_fld fld_102_3 (et g0 rfl)) ?_
                            have rl128 := RowIn.le rS (Nat.succ_pos _)
                            simp only [List.length_cons, List.length_nil, Nat.zero_add, Nat.reduceAdd] at rl128
                            refine l_effN (e_store sz_38 (et g0 rfl) (cellsV (et (gS rfl (gS rfl g0)) rfl) rfl) rfl (by first | exact one_bL _ | exact one_uL _ | (intro v hv; simp at hv; subst hv; rfl)) kS (by first | exact Nat.le_trans (by omega) rl128 | exact Nat.le_of_ble_eq_true rfl | (simp; done) | (simp; omega) | omega | (simp only [size_spl, Array.size_setIfInBounds, hs.size]; exact Nat.le_of_ble_eq_true rfl))) (fun v128 w128 h128 => ?_)
                            obtain ⟨rfl, x128⟩ := h128
                            replace k3 := k3.ch x128.ch (by omega)
                            replace kF := kF.ch x128.ch (by omega)
                            replace kL := kL.ch x128.ch (by intro q hq hm; have := dL q hq; omega)
                            replace kS := x128.blk
                            replace G := G.wr x128 (.inl (by first | rfl | (simp; done))) nbS
                            replace hF := G.fz
                            replace U := U.st x128 (.inl (by first | rfl | (simp; done)))
                            replace eC := kS.eput eC (by omega)
                            replace rS : RowIn _ _ [.slice pa1 u.saved.accts.length pa2, .slice pwa1 u.saved.warmA.length pwa2, .slice pws1 u.saved.warmS.length pws2, .slice pr1 pr2 pr3, .slice pla u.saved.logs.length u.saved.logs.length, .slice pt1 u.saved.temps.length pt2, .slice pm1 u.saved.made.length pm2, .slice pg1 u.saved.gone.length pg2, .slice oa s.start.length oc, .slice (some ⟨bf, 0, none⟩) N cap, _, .int .u8 (s.phase : Nat), .int .u8 (s.status : Nat), .int .u8 (s.applied : Nat), vlim, vtx, vleft, vpr, vtot] := kS.rput rS 10 rfl
                            replace rOr := kS.rputo rOr (by first | (left; omega) | (right; simp only [List.length_cons, List.length_nil, length_bL, length_be]; omega))
                            replace rMd := kS.rputo rMd (by first | (left; omega) | (right; simp only [List.length_cons, List.length_nil, length_bL, length_be]; omega))
                            refine l_nil ?_
                            refine hK127 _ _ ?_
                            refine fg6 2 1 0 6 7 8 (gS rfl (gS rfl (gS rfl (gS rfl (gS rfl (gS rfl (gS rfl (gS rfl (gS rfl g0))))))))) (gS rfl (gS rfl (gS rfl (gS rfl (gS rfl (gS rfl (gS rfl (gS rfl g0)))))))) (gS rfl (gS rfl (gS rfl (gS rfl (gS rfl (gS rfl (gS rfl g0))))))) (gS rfl (gS rfl (gS rfl (gS rfl (gS rfl (gS rfl g0)))))) (gS rfl (gS rfl (gS rfl (gS rfl (gS rfl g0))))) (gS rfl (gS rfl (gS rfl (gS rfl g0)))) (fun g => ?_)
                            refine c_seq (fun K129 hK129 => ?_)
                            exact (by
                              refine c_draw Up 20 [(0, true), (1, true), (2, true), (3, true), (4, true), (5, true), (6, true), (7, true), (8, true), (9, true), (10, true), (11, true), (12, true), (13, true), (14, true), (15, true), (16, true), (17, true), (18, true), (19, true), (20, false)] (by kernel_rfl) (fun w130 hu => ⟨Up.refl _, ?_⟩)
                              replace G := G.tr (Go.ofUp hF hu)
                              replace hF := hF.up hu
                              replace k3 := k3.up hu
                              replace kS := kS.up hu
                              replace kF := kF.up hu
                              replace kL := kL.up hu
                              replace U := U.tr hu
                              have SU := Up.refl w130
                              refine p_step (by exact rfl) (y_moveV (et (gS rfl (gS rfl (gS rfl g0))) rfl)) ?_
                              refine p_step (by exact rfl) (y_moveV (et (gS rfl (gS rfl (gS rfl (gS rfl g0)))) rfl)) ?_
                              refine p_step (by exact rfl) (y_nil (et g0 rfl)) ?_
                              refine p_step (by exact rfl) (y_fld fld_102_2 (et g0 rfl)) ?_
                              refine p_step (by exact rfl) (y_load1 one_100 (et g0 rfl) (atS (kS.cell (rS 9 _ rfl)))) ?_
                              refine p_step (by exact rfl) (y_moveV (et (gS rfl (gS rfl (gS rfl (gS rfl (gS rfl (gS rfl (gS rfl (gS rfl g0)))))))) rfl)) ?_
                              refine p_step (by exact rfl) (y_nil (et g0 rfl)) ?_
                              refine p_step (by exact rfl) (y_fld fld_102_2 (et g0 rfl)) ?_
                              refine p_step (by exact rfl) (y_load1 one_100 (et g0 rfl) (atS (kS.cell (rS 9 _ rfl)))) ?_
                              refine p_step (by exact rfl) (y_len Hvaa.underlying100 (et g0 rfl)) ?_
                              refine p_step (by exact rfl) (y_sub (et g0 rfl) rfl (subIN (y := 1) ?_ ?_)) ?_
                              omega
                              omega
                              refine p_step (by exact rfl) (y_moveV (et (gS rfl (gS rfl (gS rfl (gS rfl (gS rfl (gS rfl (gS rfl (gS rfl (gS rfl (gS rfl (gS rfl (gS rfl (gS rfl (gS rfl g0)))))))))))))) rfl)) ?_
                              refine p_step (by exact rfl) (y_nil (et g0 rfl)) ?_
                              refine p_step (by exact rfl) (y_fld fld_102_2 (et g0 rfl)) ?_
                              refine p_step (by exact rfl) (y_load1 one_100 (et g0 rfl) (atS (kS.cell (rS 9 _ rfl)))) ?_
                              refine p_step (by exact rfl) (y_len Hvaa.underlying100 (et g0 rfl)) ?_
                              refine p_step (by exact rfl) (y_sub (et g0 rfl) rfl (subIN (y := 1) ?_ ?_)) ?_
                              omega
                              omega
                              refine p_step (by exact rfl) (y_slS011n Hvaa.underlying100 sz_146 (et (gS rfl (gS rfl (gS rfl (gS rfl (gS rfl (gS rfl (gS rfl (gS rfl (gS rfl (gS rfl (gS rfl (gS rfl g0)))))))))))) rfl) (et (gS rfl (gS rfl (gS rfl (gS rfl (gS rfl (gS rfl g0)))))) rfl) (et g0 rfl) ?_ ?_) ?_
                              omega
                              omega
                              exact (by
                                refine p_step (by exact rfl) (y_nil (et (gS rfl (gS rfl (gS rfl (gS rfl (gS rfl (gS rfl (gS rfl (gS rfl (gS rfl (gS rfl (gS rfl (gS rfl (gS rfl (gS rfl (gS rfl (gS rfl (gS rfl g0))))))))))))))))) rfl)) ?_
                                refine p_step (by exact rfl) (y_fld fld_102_2 (et g0 rfl)) ?_
                                have rl131 := RowIn.le rS (Nat.succ_pos _)
                                simp only [List.length_cons, List.length_nil, Nat.zero_add, Nat.reduceAdd] at rl131
                                refine p_effN (by exact rfl) (e_store sz_100 (et g0 rfl) (cellsV (et (gS rfl (gS rfl g0)) rfl) rfl) rfl (by first | exact one_bL _ | exact one_uL _ | (intro v hv; simp at hv; subst hv; rfl)) kS (by first | exact Nat.le_trans (by omega) rl131 | exact Nat.le_of_ble_eq_true rfl | (simp; done) | (simp; omega) | omega | (simp only [size_spl, Array.size_setIfInBounds, hs.size]; exact Nat.le_of_ble_eq_true rfl))) (fun v131 w131 h131 => ?_)
                                obtain ⟨rfl, x131⟩ := h131
                                replace k3 := k3.ch x131.ch (by omega)
                                replace kF := kF.ch x131.ch (by omega)
                                replace kL := kL.ch x131.ch (by intro q hq hm; have := dL q hq; omega)
                                replace kS := x131.blk
                                replace G := G.wr x131 (.inl (by first | rfl | (simp; done))) nbS
                                replace hF := G.fz
                                replace U := U.st x131 (.inl (by first | rfl | (simp; done)))
                                replace eC := kS.eput eC (by omega)
                                replace rS : RowIn _ _ [.slice pa1 u.saved.accts.length pa2, .slice pwa1 u.saved.warmA.length pwa2, .slice pws1 u.saved.warmS.length pws2, .slice pr1 pr2 pr3, .slice pla u.saved.logs.length u.saved.logs.length, .slice pt1 u.saved.temps.length pt2, .slice pm1 u.saved.made.length pm2, .slice pg1 u.saved.gone.length pg2, .slice oa s.start.length oc, .slice (some ⟨bf, 0, none⟩) (N - 1) (N - 1), _, .int .u8 (s.phase : Nat), .int .u8 (s.status : Nat), .int .u8 (s.applied : Nat), vlim, vtx, vleft, vpr, vtot] := kS.rput rS 9 rfl
                                replace rOr := kS.rputo rOr (by first | (left; omega) | (right; simp only [List.length_cons, List.length_nil, length_bL, length_be]; omega))
                                replace rMd := kS.rputo rMd (by first | (left; omega) | (right; simp only [List.length_cons, List.length_nil, length_bL, length_be]; omega))
                                refine ⟨.inl rfl, ?_⟩
                                refine p_nil ?_
                                refine hK129 _ _ ?_
                                refine fg6 2 1 0 6 7 8 (gS rfl (gS rfl (gS rfl (gS rfl (gS rfl (gS rfl (gS rfl (gS rfl (gS rfl (gS rfl (gS rfl (gS rfl (gS rfl (gS rfl (gS rfl (gS rfl (gS rfl (gS rfl (gS rfl (gS rfl (gS rfl (gS rfl (gS rfl (gS rfl (gS rfl g0))))))))))))))))))))))))) (gS rfl (gS rfl (gS rfl (gS rfl (gS rfl (gS rfl (gS rfl (gS rfl (gS rfl (gS rfl (gS rfl (gS rfl (gS rfl (gS rfl (gS rfl (gS rfl (gS rfl (gS rfl (gS rfl (gS rfl (gS rfl (gS rfl (gS rfl (gS rfl g0)))))))))))))))))))))))) (gS rfl (gS rfl (gS rfl (gS rfl (gS rfl (gS rfl (gS rfl (gS rfl (gS rfl (gS rfl (gS rfl (gS rfl (gS rfl (gS rfl (gS rfl (gS rfl (gS rfl (gS rfl (gS rfl (gS rfl (gS rfl (gS rfl (gS rfl g0))))))))))))))))))))))) (gS rfl (gS rfl (gS rfl (gS rfl (gS rfl (gS rfl (gS rfl (gS rfl (gS rfl (gS rfl (gS rfl (gS rfl (gS rfl (gS rfl (gS rfl (gS rfl (gS rfl (gS rfl (gS rfl (gS rfl (gS rfl (gS rfl g0)))))))))))))))))))))) (gS rfl (gS rfl (gS rfl (gS rfl (gS rfl (gS rfl (gS rfl (gS rfl (gS rfl (gS rfl (gS rfl (gS rfl (gS rfl (gS rfl (gS rfl (gS rfl (gS rfl (gS rfl (gS rfl (gS rfl (gS rfl g0))))))))))))))))))))) (gS rfl (gS rfl (gS rfl (gS rfl (gS rfl (gS rfl (gS rfl (gS rfl (gS rfl (gS rfl (gS rfl (gS rfl (gS rfl (gS rfl (gS rfl (gS rfl (gS rfl (gS rfl (gS rfl (gS rfl g0)))))))))))))))))))) (fun g => ?_)
                                refine c_seq (fun K132 hK132 => ?_)
                                refine c_seq (fun K133 hK133 => ?_)
                                exact (by
                                  refine c_region ?_
                                  refine l_step (y_moveV (et (gS rfl (gS rfl (gS rfl g0))) rfl)) ?_
                                  refine l_step (y_nil (et g0 rfl)) ?_
                                  refine l_step (y_fld fld_102_2 (et g0 rfl)) ?_
                                  refine l_step (y_load1 one_100 (et g0 rfl) (at1 (kS.cell (rS 9 _ rfl)))) ?_
                                  refine l_step (y_len Hvaa.underlying100 (et g0 rfl)) ?_
                                  refine l_step (y_eql (et g0 rfl) rfl) ?_
                                  refine l_nil ?_
                                  refine hK133 _ _ ?_
                                  refine fg7 2 1 0 6 7 8 96 (gS rfl (gS rfl (gS rfl (gS rfl (gS rfl (gS rfl (gS rfl (gS rfl (gS rfl (gS rfl (gS rfl g0))))))))))) (gS rfl (gS rfl (gS rfl (gS rfl (gS rfl (gS rfl (gS rfl (gS rfl (gS rfl (gS rfl g0)))))))))) (gS rfl (gS rfl (gS rfl (gS rfl (gS rfl (gS rfl (gS rfl (gS rfl (gS rfl g0))))))))) (gS rfl (gS rfl (gS rfl (gS rfl (gS rfl (gS rfl (gS rfl (gS rfl g0)))))))) (gS rfl (gS rfl (gS rfl (gS rfl (gS rfl (gS rfl (gS rfl g0))))))) (gS rfl (gS rfl (gS rfl (gS rfl (gS rfl (gS rfl g0)))))) g0 (fun g => ?_)
                                  refine c_cond (et g0 rfl) (fun cB6 => ?_) (fun cB6 => ?_)
                                  · skip
                                    
                                    refine c_seq (fun K135 hK135 => ?_)
                                    exact (by
                                      refine c_region ?_
                                      refine l_step (y_moveV (et (gS rfl (gS rfl (gS rfl (gS rfl g0)))) rfl)) ?_
                                      refine l_step (y_nil (et g0 rfl)) ?_
                                      refine l_step (y_fld fld_102_2 (et g0 rfl)) ?_
                                      have rl136 := RowIn.le rS (Nat.succ_pos _)
                                      simp only [List.length_cons, List.length_nil, Nat.zero_add, Nat.reduceAdd] at rl136
                                      refine l_effN (e_store sz_100 (et g0 rfl) (cellsV rfl rfl) rfl (by first | exact one_bL _ | exact one_uL _ | (intro v hv; simp at hv; subst hv; rfl)) kS (by first | exact Nat.le_trans (by omega) rl136 | exact Nat.le_of_ble_eq_true rfl | (simp; done) | (simp; omega) | omega | (simp only [size_spl, Array.size_setIfInBounds, hs.size]; exact Nat.le_of_ble_eq_true rfl))) (fun v136 w136 h136 => ?_)
                                      obtain ⟨rfl, x136⟩ := h136
                                      replace k3 := k3.ch x136.ch (by omega)
                                      replace kF := kF.ch x136.ch (by omega)
                                      replace kL := kL.ch x136.ch (by intro q hq hm; have := dL q hq; omega)
                                      replace kS := x136.blk
                                      replace G := G.wr x136 (.inl (by first | rfl | (simp; done))) nbS
                                      replace hF := G.fz
                                      replace U := U.st x136 (.inl (by first | rfl | (simp; done)))
                                      replace eC := kS.eput eC (by omega)
                                      replace rS : RowIn _ _ [.slice pa1 u.saved.accts.length pa2, .slice pwa1 u.saved.warmA.length pwa2, .slice pws1 u.saved.warmS.length pws2, .slice pr1 pr2 pr3, .slice pla u.saved.logs.length u.saved.logs.length, .slice pt1 u.saved.temps.length pt2, .slice pm1 u.saved.made.length pm2, .slice pg1 u.saved.gone.length pg2, .slice oa s.start.length oc, _, _, .int .u8 (s.phase : Nat), .int .u8 (s.status : Nat), .int .u8 (s.applied : Nat), vlim, vtx, vleft, vpr, vtot] := kS.rput rS 9 rfl
                                      replace rOr := kS.rputo rOr (by first | (left; omega) | (right; simp only [List.length_cons, List.length_nil, length_bL, length_be]; omega))
                                      replace rMd := kS.rputo rMd (by first | (left; omega) | (right; simp only [List.length_cons, List.length_nil, length_bL, length_be]; omega))
                                      refine l_nil ?_
                                      refine hK135 _ _ ?_
                                      refine fg3 1 0 7 (gS rfl (gS rfl (gS rfl (gS rfl (gS rfl (gS rfl (gS rfl (gS rfl g0)))))))) (gS rfl (gS rfl (gS rfl (gS rfl (gS rfl (gS rfl (gS rfl g0))))))) (gS rfl (gS rfl (gS rfl (gS rfl (gS rfl g0))))) (fun g => ?_)
                                      refine c_seq (fun K137 hK137 => ?_)
                                      exact (by
                                        refine c_region ?_
                                        refine l_step (y_moveV (et (gS rfl g0) rfl)) ?_
                                        refine l_step (y_nil (et g0 rfl)) ?_
                                        refine l_step (y_fld fld_102_4 (et g0 rfl)) ?_
                                        have rl138 := RowIn.le rS (Nat.succ_pos _)
                                        simp only [List.length_cons, List.length_nil, Nat.zero_add, Nat.reduceAdd] at rl138
                                        refine l_effN (e_store sz_5 (et g0 rfl) (cellsV rfl rfl) rfl (by first | exact one_bL _ | exact one_uL _ | (intro v hv; simp at hv; subst hv; rfl)) kS (by first | exact Nat.le_trans (by omega) rl138 | exact Nat.le_of_ble_eq_true rfl | (simp; done) | (simp; omega) | omega | (simp only [size_spl, Array.size_setIfInBounds, hs.size]; exact Nat.le_of_ble_eq_true rfl))) (fun v138 w138 h138 => ?_)
                                        obtain ⟨rfl, x138⟩ := h138
                                        replace k3 := k3.ch x138.ch (by omega)
                                        replace kF := kF.ch x138.ch (by omega)
                                        replace kL := kL.ch x138.ch (by intro q hq hm; have := dL q hq; omega)
                                        replace kS := x138.blk
                                        replace G := G.wr x138 (.inl (by first | rfl | (simp; done))) nbS
                                        replace hF := G.fz
                                        replace U := U.st x138 (.inl (by first | rfl | (simp; done)))
                                        replace eC := kS.eput eC (by omega)
                                        replace rS : RowIn _ _ [.slice pa1 u.saved.accts.length pa2, .slice pwa1 u.saved.warmA.length pwa2, .slice pws1 u.saved.warmS.length pws2, .slice pr1 pr2 pr3, .slice pla u.saved.logs.length u.saved.logs.length, .slice pt1 u.saved.temps.length pt2, .slice pm1 u.saved.made.length pm2, .slice pg1 u.saved.gone.length pg2, .slice oa s.start.length oc, _, _, .int .u8 ((2 : Nat) : Int), .int .u8 (s.status : Nat), .int .u8 (s.applied : Nat), vlim, vtx, vleft, vpr, vtot] := kS.rput rS 11 rfl
                                        replace rOr := kS.rputo rOr (by first | (left; omega) | (right; simp only [List.length_cons, List.length_nil, length_bL, length_be]; omega))
                                        replace rMd := kS.rputo rMd (by first | (left; omega) | (right; simp only [List.length_cons, List.length_nil, length_bL, length_be]; omega))
                                        refine l_nil ?_
                                        refine hK137 _ _ ?_
                                        refine fg3 1 0 7 (gS rfl (gS rfl (gS rfl (gS rfl (gS rfl g0))))) (gS rfl (gS rfl (gS rfl (gS rfl g0)))) (gS rfl (gS rfl (gS rfl g0))) (fun g => ?_)
                                        refine c_seq (fun K139 hK139 => ?_)
                                        exact (by
                                          refine c_region ?_
                                          refine l_step (y_moveV (et (gS rfl g0) rfl)) ?_
                                          refine l_step (y_moveV (et (gS rfl (gS rfl (gS rfl g0))) rfl)) ?_
                                          refine l_step (y_nil (et (gS rfl g0) rfl)) ?_
                                          refine l_step (y_fld fld_102_5 (et g0 rfl)) ?_
                                          have rl140 := RowIn.le rS (Nat.succ_pos _)
                                          simp only [List.length_cons, List.length_nil, Nat.zero_add, Nat.reduceAdd] at rl140
                                          refine l_effN (e_store sz_5 (et g0 rfl) (cellsV (et (gS rfl (gS rfl g0)) rfl) rfl) rfl (by first | exact one_bL _ | exact one_uL _ | (intro v hv; simp at hv; subst hv; rfl)) kS (by first | exact Nat.le_trans (by omega) rl140 | exact Nat.le_of_ble_eq_true rfl | (simp; done) | (simp; omega) | omega | (simp only [size_spl, Array.size_setIfInBounds, hs.size]; exact Nat.le_of_ble_eq_true rfl))) (fun v140 w140 h140 => ?_)
                                          obtain ⟨rfl, x140⟩ := h140
                                          replace k3 := k3.ch x140.ch (by omega)
                                          replace kF := kF.ch x140.ch (by omega)
                                          replace kL := kL.ch x140.ch (by intro q hq hm; have := dL q hq; omega)
                                          replace kS := x140.blk
                                          replace G := G.wr x140 (.inl (by first | rfl | (simp; done))) nbS
                                          replace hF := G.fz
                                          replace U := U.st x140 (.inl (by first | rfl | (simp; done)))
                                          replace eC := kS.eput eC (by omega)
                                          replace rS : RowIn _ _ [.slice pa1 u.saved.accts.length pa2, .slice pwa1 u.saved.warmA.length pwa2, .slice pws1 u.saved.warmS.length pws2, .slice pr1 pr2 pr3, .slice pla u.saved.logs.length u.saved.logs.length, .slice pt1 u.saved.temps.length pt2, .slice pm1 u.saved.made.length pm2, .slice pg1 u.saved.gone.length pg2, .slice oa s.start.length oc, _, _, .int .u8 ((2 : Nat) : Int), _, .int .u8 (s.applied : Nat), vlim, vtx, vleft, vpr, vtot] := kS.rput rS 12 rfl
                                          replace rOr := kS.rputo rOr (by first | (left; omega) | (right; simp only [List.length_cons, List.length_nil, length_bL, length_be]; omega))
                                          replace rMd := kS.rputo rMd (by first | (left; omega) | (right; simp only [List.length_cons, List.length_nil, length_bL, length_be]; omega))
                                          refine l_nil ?_
                                          refine hK139 _ _ ?_
                                          refine fg2 0 7 (gS rfl (gS rfl (gS rfl (gS rfl (gS rfl g0))))) (gS rfl (gS rfl (gS rfl (gS rfl g0)))) (fun g => ?_)
                                          refine c_seq (fun K141 hK141 => ?_)
                                          exact (by
                                            refine c_region ?_
                                            refine l_step (y_moveV (et (gS rfl g0) rfl)) ?_
                                            refine l_step (y_moveV (et (gS rfl g0) rfl)) ?_
                                            refine l_step (y_nil (et (gS rfl g0) rfl)) ?_
                                            refine l_step (y_fld fld_102_9 (et g0 rfl)) ?_
                                            have rl142 := RowIn.le rS (Nat.succ_pos _)
                                            simp only [List.length_cons, List.length_nil, Nat.zero_add, Nat.reduceAdd] at rl142
                                            refine l_effN (e_store sz_95 (et g0 rfl) (cellsV (et (gS rfl (gS rfl g0)) rfl) rfl) rfl (by first | exact one_bL _ | exact one_uL _ | (intro v hv; simp at hv; subst hv; rfl)) kS (by first | exact Nat.le_trans (by omega) rl142 | exact Nat.le_of_ble_eq_true rfl | (simp; done) | (simp; omega) | omega | (simp only [size_spl, Array.size_setIfInBounds, hs.size]; exact Nat.le_of_ble_eq_true rfl))) (fun v142 w142 h142 => ?_)
                                            obtain ⟨rfl, x142⟩ := h142
                                            replace k3 := k3.ch x142.ch (by omega)
                                            replace kF := kF.ch x142.ch (by omega)
                                            replace kL := kL.ch x142.ch (by intro q hq hm; have := dL q hq; omega)
                                            replace kS := x142.blk
                                            replace G := G.wr x142 (.inl (by first | rfl | (simp; done))) nbS
                                            replace hF := G.fz
                                            replace U := U.st x142 (.inl (by first | rfl | (simp; done)))
                                            replace eC := kS.eput eC (by omega)
                                            replace rS : RowIn _ _ [.slice pa1 u.saved.accts.length pa2, .slice pwa1 u.saved.warmA.length pwa2, .slice pws1 u.saved.warmS.length pws2, .slice pr1 pr2 pr3, .slice pla u.saved.logs.length u.saved.logs.length, .slice pt1 u.saved.temps.length pt2, .slice pm1 u.saved.made.length pm2, .slice pg1 u.saved.gone.length pg2, .slice oa s.start.length oc, _, _, .int .u8 ((2 : Nat) : Int), _, .int .u8 (s.applied : Nat), vlim, vtx, _, vpr, vtot] := kS.rput rS 16 rfl
                                            replace rOr := kS.rputo rOr (by first | (left; omega) | (right; simp only [List.length_cons, List.length_nil, length_bL, length_be]; omega))
                                            replace rMd := kS.rputo rMd (by first | (left; omega) | (right; simp only [List.length_cons, List.length_nil, length_bL, length_be]; omega))
                                            refine l_nil ?_
                                            refine hK141 _ _ ?_
                                            refine fg0 (fun g => ?_)
                                            refine c_ret ?_
                                            repeat with_reducible refine then_ret ?_
                                            refine ret0 rfl ?_
                                            have hG : lvGas u q l = u.gas := by rw [lvGas, if_neg (by rw [hS]; exact hq5), if_neg (fun h => absurd h.2 hq0)]
                                            have hOu : lvOut u q l = l := by rw [lvOut, if_neg (by rw [hS]; rintro (h | h); exact hq5 h; exact absurd h.2 hq0)]
                                            have hW : lvW s u q l = u.saved := by rw [lvW, if_neg (by rw [hS]; omega)]
                                            have hS0 : lvSt u q l ≠ 0 := by rw [hS]; omega
                                            have eS : lvS1 s u q l = { s with now := u.saved, ret := l, phase := 2, status := q, left := u.gas } := by rw [lvS1, hW, hOu, hS, hG]
                                            rw [eS, hW]
                                            exact ⟨rfl, _, _, _, G, kS, ⟨⟨sv.accts, sv.warmA, sv.warmS, zrb, sv.logs, sv.temps, sv.made, sv.gone, so.start, hl9, (show 2 < 256 by decide), hq, so.applied, so.limit, so.txGas, (Nat.lt_trans fo6.gas (by decide)), so.price, so.total, so.origin, so.mad⟩, eC.mono hL0, (by simp only [size_spl, Array.size_setIfInBounds]; exact hs.size), _, _, _, _, _, _, _, _, _, _, _, _, _, _, _, _, _, _, _, _, _, _, _, _, rS, rOr, rMd, (zAc.mono hL0), (zWA.mono hL0), (zWS.mono hL0), (zRf.mono hL0), (zTm.mono hL0), (zMd.mono hL0), (zGn.mono hL0), (hSr.mono hL0), (hO.mono hL0), (hLm.mono hL0), (hTx.mono hL0), (yGa.mono hL0), (hPr.mono hL0), (hTt.mono hL0)⟩, by rw [if_neg hS0]; exact ⟨.inl ⟨rfl, zLg.mono hL0, _, _, rfl⟩⟩, (rS 4 _ rfl)⟩))))
                                  · skip
                                    
                                    have := of_decide_eq_false cB6; omega))))))
                  · skip
                    
                    have := of_decide_eq_false cB4; omega)
            · skip
              have hcr : crN u.kind = false := by simpa using q10
              refine l_gskip (j := 1) (t := 31) (by exact rfl) (by exact rfl) (et g0 rfl) (by decide) (by decide) ?_
              refine l_gskip (j := 1) (t := 31) (by exact rfl) (by exact rfl) (et (gS rfl g0) rfl) (by decide) (by decide) ?_
              refine l_step (y_pickF (et (gS rfl (gS rfl g0)) rfl) rfl) ?_
              refine l_nil ?_
              refine hK9 _ _ ?_
              refine fg7 2 1 0 6 7 8 34 (gS rfl (gS rfl (gS rfl (gS rfl (gS rfl (gS rfl (gS rfl (gS rfl (gS rfl (gS rfl (gS rfl g0))))))))))) (gS rfl (gS rfl (gS rfl (gS rfl (gS rfl (gS rfl (gS rfl (gS rfl (gS rfl (gS rfl g0)))))))))) (gS rfl (gS rfl (gS rfl (gS rfl (gS rfl (gS rfl (gS rfl (gS rfl (gS rfl g0))))))))) (gS rfl (gS rfl (gS rfl (gS rfl (gS rfl (gS rfl (gS rfl (gS rfl g0)))))))) (gS rfl (gS rfl (gS rfl (gS rfl (gS rfl (gS rfl (gS rfl g0))))))) (gS rfl (gS rfl (gS rfl (gS rfl (gS rfl (gS rfl g0)))))) g0 (fun g => ?_)
              refine c_false (et g0 rfl) rfl ?_
              refine c_skip ?_
              refine hK8 _ _ ?_
              refine fg6 2 1 0 6 7 8 (gS rfl (gS rfl (gS rfl (gS rfl (gS rfl (gS rfl g0)))))) (gS rfl (gS rfl (gS rfl (gS rfl (gS rfl g0))))) (gS rfl (gS rfl (gS rfl (gS rfl g0)))) (gS rfl (gS rfl (gS rfl g0))) (gS rfl (gS rfl g0)) (gS rfl g0) (fun g => ?_)
              refine c_seq (fun K144 hK144 => ?_)
              refine c_seq (fun K145 hK145 => ?_)
              exact (by
                refine c_region ?_
                refine l_step (y_moveV (et (gS rfl (gS rfl (gS rfl (gS rfl g0)))) rfl)) ?_
                refine l_step (y_neq (et g0 rfl) rfl) ?_
                refine l_nil ?_
                refine hK145 _ _ ?_
                refine fg7 2 1 0 6 7 8 59 (gS rfl (gS rfl (gS rfl (gS rfl (gS rfl (gS rfl (gS rfl g0))))))) (gS rfl (gS rfl (gS rfl (gS rfl (gS rfl (gS rfl g0)))))) (gS rfl (gS rfl (gS rfl (gS rfl (gS rfl g0))))) (gS rfl (gS rfl (gS rfl (gS rfl g0)))) (gS rfl (gS rfl (gS rfl g0))) (gS rfl (gS rfl g0)) g0 (fun g => ?_)
                refine c_cond (et g0 rfl) (fun cB4 => ?_) (fun cB4 => ?_)
                · skip
                  
                  have hq4 : q ≠ 0 := by have := of_decide_eq_true cB4; omega
                  exact (by
                    refine c_region ?_
                    refine l_step (y_moveV (et (gS rfl (gS rfl (gS rfl (gS rfl g0)))) rfl)) ?_
                    refine l_step (y_fld fld_146_14 (et (gS rfl (gS rfl (gS rfl (gS rfl g0)))) rfl)) ?_
                    refine l_step (y_loadR agg_98 sz_98 (et g0 rfl) rfl (at1R (k3.row qSv))) ?_
                    refine l_step (y_nil (et (gS rfl (gS rfl g0)) rfl)) ?_
                    refine l_step (y_fld fld_102_0 (et g0 rfl)) ?_
                    have rl147 := RowIn.le rS (Nat.succ_pos _)
                    simp only [List.length_cons, List.length_nil, Nat.zero_add, Nat.reduceAdd] at rl147
                    refine l_effN (e_store sz_98 (et g0 rfl) (cellsV (et (gS rfl (gS rfl g0)) rfl) rfl) rfl (by intro v hv; simp only [List.mem_cons, List.not_mem_nil, or_false] at hv; rcases hv with rfl | rfl | rfl | rfl | rfl | rfl | rfl | rfl <;> rfl) kS (by omega)) (fun v147 w147 h147 => ?_)
                    obtain ⟨rfl, x147⟩ := h147
                    replace k3 := k3.ch x147.ch (by omega)
                    replace kF := kF.ch x147.ch (by omega)
                    replace kL := kL.ch x147.ch (by intro q hq hm; have := dL q hq; omega)
                    replace kS := x147.blk
                    replace G := G.wr x147 (.inl (by first | rfl | (simp; done))) nbS
                    replace hF := G.fz
                    replace U := U.st x147 (.inl (by first | rfl | (simp; done)))
                    replace eC := kS.eputm eC (by first | omega | (simp only [length_bL, length_be, List.length_cons, List.length_nil]; omega)) (by first | omega | (simp only [length_bL, length_be, List.length_cons, List.length_nil]; omega))
                    replace rS : RowIn _ _ [.slice pa1 u.saved.accts.length pa2, .slice pwa1 u.saved.warmA.length pwa2, .slice pws1 u.saved.warmS.length pws2, .slice pr1 pr2 pr3, .slice pla u.saved.logs.length u.saved.logs.length, .slice pt1 u.saved.temps.length pt2, .slice pm1 u.saved.made.length pm2, .slice pg1 u.saved.gone.length pg2, .slice oa s.start.length oc, .slice (some ⟨bf, 0, none⟩) N cap, .slice ra s.ret.length rc, .int .u8 (s.phase : Nat), .int .u8 (s.status : Nat), .int .u8 (s.applied : Nat), vlim, vtx, vleft, vpr, vtot] := kS.rputm rS 0 (by first | omega | (simp only [length_bL, length_be, List.length_cons, List.length_nil]; omega)) rfl (Nat.le_of_ble_eq_true rfl)
                    replace rOr := kS.rputmo rOr (by first | omega | (simp only [length_bL, length_be, List.length_cons, List.length_nil]; omega)) (by first | omega | (simp only [length_bL, length_be, List.length_cons, List.length_nil]; omega))
                    replace rMd := kS.rputmo rMd (by first | omega | (simp only [length_bL, length_be, List.length_cons, List.length_nil]; omega)) (by first | omega | (simp only [length_bL, length_be, List.length_cons, List.length_nil]; omega))
                    refine l_nil ?_
                    refine hK144 _ _ ?_
                    refine fg6 2 1 0 6 7 8 (gS rfl (gS rfl (gS rfl (gS rfl (gS rfl (gS rfl (gS rfl (gS rfl (gS rfl (gS rfl (gS rfl g0))))))))))) (gS rfl (gS rfl (gS rfl (gS rfl (gS rfl (gS rfl (gS rfl (gS rfl (gS rfl (gS rfl g0)))))))))) (gS rfl (gS rfl (gS rfl (gS rfl (gS rfl (gS rfl (gS rfl (gS rfl (gS rfl g0))))))))) (gS rfl (gS rfl (gS rfl (gS rfl (gS rfl (gS rfl (gS rfl (gS rfl g0)))))))) (gS rfl (gS rfl (gS rfl (gS rfl (gS rfl (gS rfl (gS rfl g0))))))) (gS rfl (gS rfl (gS rfl (gS rfl (gS rfl (gS rfl g0)))))) (fun g => ?_)
                    refine c_seq (fun K148 hK148 => ?_)
                    refine c_seq (fun K149 hK149 => ?_)
                    exact (by
                      refine c_region ?_
                      refine l_step (y_moveV (et (gS rfl (gS rfl (gS rfl (gS rfl g0)))) rfl)) ?_
                      refine l_step (y_gtr (et g0 rfl) rfl) ?_
                      refine l_nil ?_
                      refine hK149 _ _ ?_
                      refine fg7 2 1 0 6 7 8 66 (gS rfl (gS rfl (gS rfl (gS rfl (gS rfl (gS rfl (gS rfl g0))))))) (gS rfl (gS rfl (gS rfl (gS rfl (gS rfl (gS rfl g0)))))) (gS rfl (gS rfl (gS rfl (gS rfl (gS rfl g0))))) (gS rfl (gS rfl (gS rfl (gS rfl g0)))) (gS rfl (gS rfl (gS rfl g0))) (gS rfl (gS rfl g0)) g0 (fun g => ?_)
                      refine c_cond (et g0 rfl) (fun cB5 => ?_) (fun cB5 => ?_)
                      · skip
                        
                        have hq5 : 1 < q := by have := of_decide_eq_true cB5; omega
                        refine c_seq (fun K151 hK151 => ?_)
                        exact (by
                          refine c_region ?_
                          refine l_step y_assignC ?_
                          refine l_nil ?_
                          refine hK151 _ _ ?_
                          refine fg5 1 0 6 7 8 (gS rfl (gS rfl (gS rfl (gS rfl (gS rfl (gS rfl g0)))))) (gS rfl (gS rfl (gS rfl (gS rfl (gS rfl g0))))) (gS rfl (gS rfl (gS rfl (gS rfl g0)))) g0 (gS rfl (gS rfl g0)) (fun g => ?_)
                          refine c_region ?_
                          refine l_step y_assignC ?_
                          refine l_nil ?_
                          refine hK148 _ _ ?_
                          refine c_seq (fun K152 hK152 => ?_)
                          exact (by
                            refine c_region ?_
                            refine l_step (y_moveV (et (gS rfl (gS rfl (gS rfl (gS rfl g0)))) rfl)) ?_
                            refine l_step (y_moveV (et (gS rfl g0) rfl)) ?_
                            refine l_step (y_nil (et (gS rfl g0) rfl)) ?_
                            refine l_step (y_fld fld_102_3 (et g0 rfl)) ?_
                            have rl153 := RowIn.le rS (Nat.succ_pos _)
                            simp only [List.length_cons, List.length_nil, Nat.zero_add, Nat.reduceAdd] at rl153
                            refine l_effN (e_store sz_38 (et g0 rfl) (cellsV (et (gS rfl (gS rfl g0)) rfl) rfl) rfl (by first | exact one_bL _ | exact one_uL _ | (intro v hv; simp at hv; subst hv; rfl)) kS (by first | exact Nat.le_trans (by omega) rl153 | exact Nat.le_of_ble_eq_true rfl | (simp; done) | (simp; omega) | omega | (simp only [size_spl, Array.size_setIfInBounds, hs.size]; exact Nat.le_of_ble_eq_true rfl))) (fun v153 w153 h153 => ?_)
                            obtain ⟨rfl, x153⟩ := h153
                            replace k3 := k3.ch x153.ch (by omega)
                            replace kF := kF.ch x153.ch (by omega)
                            replace kL := kL.ch x153.ch (by intro q hq hm; have := dL q hq; omega)
                            replace kS := x153.blk
                            replace G := G.wr x153 (.inl (by first | rfl | (simp; done))) nbS
                            replace hF := G.fz
                            replace U := U.st x153 (.inl (by first | rfl | (simp; done)))
                            replace eC := kS.eput eC (by omega)
                            replace rS : RowIn _ _ [.slice pa1 u.saved.accts.length pa2, .slice pwa1 u.saved.warmA.length pwa2, .slice pws1 u.saved.warmS.length pws2, .slice pr1 pr2 pr3, .slice pla u.saved.logs.length u.saved.logs.length, .slice pt1 u.saved.temps.length pt2, .slice pm1 u.saved.made.length pm2, .slice pg1 u.saved.gone.length pg2, .slice oa s.start.length oc, .slice (some ⟨bf, 0, none⟩) N cap, _, .int .u8 (s.phase : Nat), .int .u8 (s.status : Nat), .int .u8 (s.applied : Nat), vlim, vtx, vleft, vpr, vtot] := kS.rput rS 10 rfl
                            replace rOr := kS.rputo rOr (by first | (left; omega) | (right; simp only [List.length_cons, List.length_nil, length_bL, length_be]; omega))
                            replace rMd := kS.rputo rMd (by first | (left; omega) | (right; simp only [List.length_cons, List.length_nil, length_bL, length_be]; omega))
                            refine l_nil ?_
                            refine hK152 _ _ ?_
                            refine fg6 1 0 6 7 8 2 (gS rfl (gS rfl (gS rfl (gS rfl (gS rfl (gS rfl (gS rfl (gS rfl (gS rfl g0))))))))) (gS rfl (gS rfl (gS rfl (gS rfl (gS rfl (gS rfl (gS rfl (gS rfl g0)))))))) (gS rfl (gS rfl (gS rfl (gS rfl (gS rfl (gS rfl (gS rfl g0))))))) (gS rfl (gS rfl (gS rfl (gS rfl (gS rfl (gS rfl g0)))))) (gS rfl (gS rfl (gS rfl (gS rfl (gS rfl g0))))) (gS rfl (gS rfl (gS rfl (gS rfl g0)))) (fun g => ?_)
                            refine c_seq (fun K154 hK154 => ?_)
                            exact (by
                              refine c_draw Up 20 [(0, true), (1, true), (2, true), (3, true), (4, true), (5, true), (6, true), (7, true), (8, true), (9, true), (10, true), (11, true), (12, true), (13, true), (14, true), (15, true), (16, true), (17, true), (18, true), (19, true), (20, false)] (by kernel_rfl) (fun w155 hu => ⟨Up.refl _, ?_⟩)
                              replace G := G.tr (Go.ofUp hF hu)
                              replace hF := hF.up hu
                              replace k3 := k3.up hu
                              replace kS := kS.up hu
                              replace kF := kF.up hu
                              replace kL := kL.up hu
                              replace U := U.tr hu
                              have SU := Up.refl w155
                              refine p_step (by exact rfl) (y_moveV (et (gS rfl (gS rfl (gS rfl (gS rfl g0)))) rfl)) ?_
                              refine p_step (by exact rfl) (y_moveV (et (gS rfl (gS rfl (gS rfl (gS rfl (gS rfl g0))))) rfl)) ?_
                              refine p_step (by exact rfl) (y_nil (et g0 rfl)) ?_
                              refine p_step (by exact rfl) (y_fld fld_102_2 (et g0 rfl)) ?_
                              refine p_step (by exact rfl) (y_load1 one_100 (et g0 rfl) (atS (kS.cell (rS 9 _ rfl)))) ?_
                              refine p_step (by exact rfl) (y_moveV (et (gS rfl (gS rfl (gS rfl (gS rfl (gS rfl (gS rfl (gS rfl (gS rfl (gS rfl g0))))))))) rfl)) ?_
                              refine p_step (by exact rfl) (y_nil (et g0 rfl)) ?_
                              refine p_step (by exact rfl) (y_fld fld_102_2 (et g0 rfl)) ?_
                              refine p_step (by exact rfl) (y_load1 one_100 (et g0 rfl) (atS (kS.cell (rS 9 _ rfl)))) ?_
                              refine p_step (by exact rfl) (y_len Hvaa.underlying100 (et g0 rfl)) ?_
                              refine p_step (by exact rfl) (y_sub (et g0 rfl) rfl (subIN (y := 1) ?_ ?_)) ?_
                              omega
                              omega
                              refine p_step (by exact rfl) (y_moveV (et (gS rfl (gS rfl (gS rfl (gS rfl (gS rfl (gS rfl (gS rfl (gS rfl (gS rfl (gS rfl (gS rfl (gS rfl (gS rfl (gS rfl (gS rfl g0))))))))))))))) rfl)) ?_
                              refine p_step (by exact rfl) (y_nil (et g0 rfl)) ?_
                              refine p_step (by exact rfl) (y_fld fld_102_2 (et g0 rfl)) ?_
                              refine p_step (by exact rfl) (y_load1 one_100 (et g0 rfl) (atS (kS.cell (rS 9 _ rfl)))) ?_
                              refine p_step (by exact rfl) (y_len Hvaa.underlying100 (et g0 rfl)) ?_
                              refine p_step (by exact rfl) (y_sub (et g0 rfl) rfl (subIN (y := 1) ?_ ?_)) ?_
                              omega
                              omega
                              refine p_step (by exact rfl) (y_slS011n Hvaa.underlying100 sz_146 (et (gS rfl (gS rfl (gS rfl (gS rfl (gS rfl (gS rfl (gS rfl (gS rfl (gS rfl (gS rfl (gS rfl (gS rfl g0)))))))))))) rfl) (et (gS rfl (gS rfl (gS rfl (gS rfl (gS rfl (gS rfl g0)))))) rfl) (et g0 rfl) ?_ ?_) ?_
                              omega
                              omega
                              exact (by
                                refine p_step (by exact rfl) (y_nil (et (gS rfl (gS rfl (gS rfl (gS rfl (gS rfl (gS rfl (gS rfl (gS rfl (gS rfl (gS rfl (gS rfl (gS rfl (gS rfl (gS rfl (gS rfl (gS rfl (gS rfl g0))))))))))))))))) rfl)) ?_
                                refine p_step (by exact rfl) (y_fld fld_102_2 (et g0 rfl)) ?_
                                have rl156 := RowIn.le rS (Nat.succ_pos _)
                                simp only [List.length_cons, List.length_nil, Nat.zero_add, Nat.reduceAdd] at rl156
                                refine p_effN (by exact rfl) (e_store sz_100 (et g0 rfl) (cellsV (et (gS rfl (gS rfl g0)) rfl) rfl) rfl (by first | exact one_bL _ | exact one_uL _ | (intro v hv; simp at hv; subst hv; rfl)) kS (by first | exact Nat.le_trans (by omega) rl156 | exact Nat.le_of_ble_eq_true rfl | (simp; done) | (simp; omega) | omega | (simp only [size_spl, Array.size_setIfInBounds, hs.size]; exact Nat.le_of_ble_eq_true rfl))) (fun v156 w156 h156 => ?_)
                                obtain ⟨rfl, x156⟩ := h156
                                replace k3 := k3.ch x156.ch (by omega)
                                replace kF := kF.ch x156.ch (by omega)
                                replace kL := kL.ch x156.ch (by intro q hq hm; have := dL q hq; omega)
                                replace kS := x156.blk
                                replace G := G.wr x156 (.inl (by first | rfl | (simp; done))) nbS
                                replace hF := G.fz
                                replace U := U.st x156 (.inl (by first | rfl | (simp; done)))
                                replace eC := kS.eput eC (by omega)
                                replace rS : RowIn _ _ [.slice pa1 u.saved.accts.length pa2, .slice pwa1 u.saved.warmA.length pwa2, .slice pws1 u.saved.warmS.length pws2, .slice pr1 pr2 pr3, .slice pla u.saved.logs.length u.saved.logs.length, .slice pt1 u.saved.temps.length pt2, .slice pm1 u.saved.made.length pm2, .slice pg1 u.saved.gone.length pg2, .slice oa s.start.length oc, .slice (some ⟨bf, 0, none⟩) (N - 1) (N - 1), _, .int .u8 (s.phase : Nat), .int .u8 (s.status : Nat), .int .u8 (s.applied : Nat), vlim, vtx, vleft, vpr, vtot] := kS.rput rS 9 rfl
                                replace rOr := kS.rputo rOr (by first | (left; omega) | (right; simp only [List.length_cons, List.length_nil, length_bL, length_be]; omega))
                                replace rMd := kS.rputo rMd (by first | (left; omega) | (right; simp only [List.length_cons, List.length_nil, length_bL, length_be]; omega))
                                refine ⟨.inl rfl, ?_⟩
                                refine p_nil ?_
                                refine hK154 _ _ ?_
                                refine fg6 1 0 6 7 8 2 (gS rfl (gS rfl (gS rfl (gS rfl (gS rfl (gS rfl (gS rfl (gS rfl (gS rfl (gS rfl (gS rfl (gS rfl (gS rfl (gS rfl (gS rfl (gS rfl (gS rfl (gS rfl (gS rfl (gS rfl (gS rfl (gS rfl (gS rfl (gS rfl (gS rfl g0))))))))))))))))))))))))) (gS rfl (gS rfl (gS rfl (gS rfl (gS rfl (gS rfl (gS rfl (gS rfl (gS rfl (gS rfl (gS rfl (gS rfl (gS rfl (gS rfl (gS rfl (gS rfl (gS rfl (gS rfl (gS rfl (gS rfl (gS rfl (gS rfl (gS rfl (gS rfl g0)))))))))))))))))))))))) (gS rfl (gS rfl (gS rfl (gS rfl (gS rfl (gS rfl (gS rfl (gS rfl (gS rfl (gS rfl (gS rfl (gS rfl (gS rfl (gS rfl (gS rfl (gS rfl (gS rfl (gS rfl (gS rfl (gS rfl (gS rfl (gS rfl (gS rfl g0))))))))))))))))))))))) (gS rfl (gS rfl (gS rfl (gS rfl (gS rfl (gS rfl (gS rfl (gS rfl (gS rfl (gS rfl (gS rfl (gS rfl (gS rfl (gS rfl (gS rfl (gS rfl (gS rfl (gS rfl (gS rfl (gS rfl (gS rfl (gS rfl g0)))))))))))))))))))))) (gS rfl (gS rfl (gS rfl (gS rfl (gS rfl (gS rfl (gS rfl (gS rfl (gS rfl (gS rfl (gS rfl (gS rfl (gS rfl (gS rfl (gS rfl (gS rfl (gS rfl (gS rfl (gS rfl (gS rfl (gS rfl g0))))))))))))))))))))) (gS rfl (gS rfl (gS rfl (gS rfl (gS rfl (gS rfl (gS rfl (gS rfl (gS rfl (gS rfl (gS rfl (gS rfl (gS rfl (gS rfl (gS rfl (gS rfl (gS rfl (gS rfl (gS rfl (gS rfl g0)))))))))))))))))))) (fun g => ?_)
                                refine c_seq (fun K157 hK157 => ?_)
                                refine c_seq (fun K158 hK158 => ?_)
                                exact (by
                                  refine c_region ?_
                                  refine l_step (y_moveV (et (gS rfl (gS rfl (gS rfl (gS rfl g0)))) rfl)) ?_
                                  refine l_step (y_nil (et g0 rfl)) ?_
                                  refine l_step (y_fld fld_102_2 (et g0 rfl)) ?_
                                  refine l_step (y_load1 one_100 (et g0 rfl) (at1 (kS.cell (rS 9 _ rfl)))) ?_
                                  refine l_step (y_len Hvaa.underlying100 (et g0 rfl)) ?_
                                  refine l_step (y_eql (et g0 rfl) rfl) ?_
                                  refine l_nil ?_
                                  refine hK158 _ _ ?_
                                  refine fg7 1 0 6 7 8 2 96 (gS rfl (gS rfl (gS rfl (gS rfl (gS rfl (gS rfl (gS rfl (gS rfl (gS rfl (gS rfl (gS rfl g0))))))))))) (gS rfl (gS rfl (gS rfl (gS rfl (gS rfl (gS rfl (gS rfl (gS rfl (gS rfl (gS rfl g0)))))))))) (gS rfl (gS rfl (gS rfl (gS rfl (gS rfl (gS rfl (gS rfl (gS rfl (gS rfl g0))))))))) (gS rfl (gS rfl (gS rfl (gS rfl (gS rfl (gS rfl (gS rfl (gS rfl g0)))))))) (gS rfl (gS rfl (gS rfl (gS rfl (gS rfl (gS rfl (gS rfl g0))))))) (gS rfl (gS rfl (gS rfl (gS rfl (gS rfl (gS rfl g0)))))) g0 (fun g => ?_)
                                  refine c_cond (et g0 rfl) (fun cB6 => ?_) (fun cB6 => ?_)
                                  · skip
                                    
                                    refine c_seq (fun K160 hK160 => ?_)
                                    exact (by
                                      refine c_region ?_
                                      refine l_step (y_moveV (et (gS rfl (gS rfl (gS rfl (gS rfl (gS rfl g0))))) rfl)) ?_
                                      refine l_step (y_nil (et g0 rfl)) ?_
                                      refine l_step (y_fld fld_102_2 (et g0 rfl)) ?_
                                      have rl161 := RowIn.le rS (Nat.succ_pos _)
                                      simp only [List.length_cons, List.length_nil, Nat.zero_add, Nat.reduceAdd] at rl161
                                      refine l_effN (e_store sz_100 (et g0 rfl) (cellsV rfl rfl) rfl (by first | exact one_bL _ | exact one_uL _ | (intro v hv; simp at hv; subst hv; rfl)) kS (by first | exact Nat.le_trans (by omega) rl161 | exact Nat.le_of_ble_eq_true rfl | (simp; done) | (simp; omega) | omega | (simp only [size_spl, Array.size_setIfInBounds, hs.size]; exact Nat.le_of_ble_eq_true rfl))) (fun v161 w161 h161 => ?_)
                                      obtain ⟨rfl, x161⟩ := h161
                                      replace k3 := k3.ch x161.ch (by omega)
                                      replace kF := kF.ch x161.ch (by omega)
                                      replace kL := kL.ch x161.ch (by intro q hq hm; have := dL q hq; omega)
                                      replace kS := x161.blk
                                      replace G := G.wr x161 (.inl (by first | rfl | (simp; done))) nbS
                                      replace hF := G.fz
                                      replace U := U.st x161 (.inl (by first | rfl | (simp; done)))
                                      replace eC := kS.eput eC (by omega)
                                      replace rS : RowIn _ _ [.slice pa1 u.saved.accts.length pa2, .slice pwa1 u.saved.warmA.length pwa2, .slice pws1 u.saved.warmS.length pws2, .slice pr1 pr2 pr3, .slice pla u.saved.logs.length u.saved.logs.length, .slice pt1 u.saved.temps.length pt2, .slice pm1 u.saved.made.length pm2, .slice pg1 u.saved.gone.length pg2, .slice oa s.start.length oc, _, _, .int .u8 (s.phase : Nat), .int .u8 (s.status : Nat), .int .u8 (s.applied : Nat), vlim, vtx, vleft, vpr, vtot] := kS.rput rS 9 rfl
                                      replace rOr := kS.rputo rOr (by first | (left; omega) | (right; simp only [List.length_cons, List.length_nil, length_bL, length_be]; omega))
                                      replace rMd := kS.rputo rMd (by first | (left; omega) | (right; simp only [List.length_cons, List.length_nil, length_bL, length_be]; omega))
                                      refine l_nil ?_
                                      refine hK160 _ _ ?_
                                      refine fg3 1 0 7 (gS rfl (gS rfl (gS rfl (gS rfl (gS rfl (gS rfl (gS rfl (gS rfl (gS rfl g0))))))))) (gS rfl (gS rfl (gS rfl (gS rfl (gS rfl (gS rfl (gS rfl (gS rfl g0)))))))) (gS rfl (gS rfl (gS rfl (gS rfl (gS rfl (gS rfl g0)))))) (fun g => ?_)
                                      refine c_seq (fun K162 hK162 => ?_)
                                      exact (by
                                        refine c_region ?_
                                        refine l_step (y_moveV (et (gS rfl g0) rfl)) ?_
                                        refine l_step (y_nil (et g0 rfl)) ?_
                                        refine l_step (y_fld fld_102_4 (et g0 rfl)) ?_
                                        have rl163 := RowIn.le rS (Nat.succ_pos _)
                                        simp only [List.length_cons, List.length_nil, Nat.zero_add, Nat.reduceAdd] at rl163
                                        refine l_effN (e_store sz_5 (et g0 rfl) (cellsV rfl rfl) rfl (by first | exact one_bL _ | exact one_uL _ | (intro v hv; simp at hv; subst hv; rfl)) kS (by first | exact Nat.le_trans (by omega) rl163 | exact Nat.le_of_ble_eq_true rfl | (simp; done) | (simp; omega) | omega | (simp only [size_spl, Array.size_setIfInBounds, hs.size]; exact Nat.le_of_ble_eq_true rfl))) (fun v163 w163 h163 => ?_)
                                        obtain ⟨rfl, x163⟩ := h163
                                        replace k3 := k3.ch x163.ch (by omega)
                                        replace kF := kF.ch x163.ch (by omega)
                                        replace kL := kL.ch x163.ch (by intro q hq hm; have := dL q hq; omega)
                                        replace kS := x163.blk
                                        replace G := G.wr x163 (.inl (by first | rfl | (simp; done))) nbS
                                        replace hF := G.fz
                                        replace U := U.st x163 (.inl (by first | rfl | (simp; done)))
                                        replace eC := kS.eput eC (by omega)
                                        replace rS : RowIn _ _ [.slice pa1 u.saved.accts.length pa2, .slice pwa1 u.saved.warmA.length pwa2, .slice pws1 u.saved.warmS.length pws2, .slice pr1 pr2 pr3, .slice pla u.saved.logs.length u.saved.logs.length, .slice pt1 u.saved.temps.length pt2, .slice pm1 u.saved.made.length pm2, .slice pg1 u.saved.gone.length pg2, .slice oa s.start.length oc, _, _, .int .u8 ((2 : Nat) : Int), .int .u8 (s.status : Nat), .int .u8 (s.applied : Nat), vlim, vtx, vleft, vpr, vtot] := kS.rput rS 11 rfl
                                        replace rOr := kS.rputo rOr (by first | (left; omega) | (right; simp only [List.length_cons, List.length_nil, length_bL, length_be]; omega))
                                        replace rMd := kS.rputo rMd (by first | (left; omega) | (right; simp only [List.length_cons, List.length_nil, length_bL, length_be]; omega))
                                        refine l_nil ?_
                                        refine hK162 _ _ ?_
                                        refine fg3 1 0 7 (gS rfl (gS rfl (gS rfl (gS rfl (gS rfl g0))))) (gS rfl (gS rfl (gS rfl (gS rfl g0)))) (gS rfl (gS rfl (gS rfl g0))) (fun g => ?_)
                                        refine c_seq (fun K164 hK164 => ?_)
                                        exact (by
                                          refine c_region ?_
                                          refine l_step (y_moveV (et (gS rfl g0) rfl)) ?_
                                          refine l_step (y_moveV (et (gS rfl (gS rfl (gS rfl g0))) rfl)) ?_
                                          refine l_step (y_nil (et (gS rfl g0) rfl)) ?_
                                          refine l_step (y_fld fld_102_5 (et g0 rfl)) ?_
                                          have rl165 := RowIn.le rS (Nat.succ_pos _)
                                          simp only [List.length_cons, List.length_nil, Nat.zero_add, Nat.reduceAdd] at rl165
                                          refine l_effN (e_store sz_5 (et g0 rfl) (cellsV (et (gS rfl (gS rfl g0)) rfl) rfl) rfl (by first | exact one_bL _ | exact one_uL _ | (intro v hv; simp at hv; subst hv; rfl)) kS (by first | exact Nat.le_trans (by omega) rl165 | exact Nat.le_of_ble_eq_true rfl | (simp; done) | (simp; omega) | omega | (simp only [size_spl, Array.size_setIfInBounds, hs.size]; exact Nat.le_of_ble_eq_true rfl))) (fun v165 w165 h165 => ?_)
                                          obtain ⟨rfl, x165⟩ := h165
                                          replace k3 := k3.ch x165.ch (by omega)
                                          replace kF := kF.ch x165.ch (by omega)
                                          replace kL := kL.ch x165.ch (by intro q hq hm; have := dL q hq; omega)
                                          replace kS := x165.blk
                                          replace G := G.wr x165 (.inl (by first | rfl | (simp; done))) nbS
                                          replace hF := G.fz
                                          replace U := U.st x165 (.inl (by first | rfl | (simp; done)))
                                          replace eC := kS.eput eC (by omega)
                                          replace rS : RowIn _ _ [.slice pa1 u.saved.accts.length pa2, .slice pwa1 u.saved.warmA.length pwa2, .slice pws1 u.saved.warmS.length pws2, .slice pr1 pr2 pr3, .slice pla u.saved.logs.length u.saved.logs.length, .slice pt1 u.saved.temps.length pt2, .slice pm1 u.saved.made.length pm2, .slice pg1 u.saved.gone.length pg2, .slice oa s.start.length oc, _, _, .int .u8 ((2 : Nat) : Int), _, .int .u8 (s.applied : Nat), vlim, vtx, vleft, vpr, vtot] := kS.rput rS 12 rfl
                                          replace rOr := kS.rputo rOr (by first | (left; omega) | (right; simp only [List.length_cons, List.length_nil, length_bL, length_be]; omega))
                                          replace rMd := kS.rputo rMd (by first | (left; omega) | (right; simp only [List.length_cons, List.length_nil, length_bL, length_be]; omega))
                                          refine l_nil ?_
                                          refine hK164 _ _ ?_
                                          refine fg2 0 7 (gS rfl (gS rfl (gS rfl (gS rfl (gS rfl g0))))) (gS rfl (gS rfl (gS rfl (gS rfl g0)))) (fun g => ?_)
                                          refine c_seq (fun K166 hK166 => ?_)
                                          exact (by
                                            refine c_region ?_
                                            refine l_step (y_moveV (et (gS rfl g0) rfl)) ?_
                                            refine l_step (y_moveV (et (gS rfl g0) rfl)) ?_
                                            refine l_step (y_nil (et (gS rfl g0) rfl)) ?_
                                            refine l_step (y_fld fld_102_9 (et g0 rfl)) ?_
                                            have rl167 := RowIn.le rS (Nat.succ_pos _)
                                            simp only [List.length_cons, List.length_nil, Nat.zero_add, Nat.reduceAdd] at rl167
                                            refine l_effN (e_store sz_95 (et g0 rfl) (cellsV (et (gS rfl (gS rfl g0)) rfl) rfl) rfl (by first | exact one_bL _ | exact one_uL _ | (intro v hv; simp at hv; subst hv; rfl)) kS (by first | exact Nat.le_trans (by omega) rl167 | exact Nat.le_of_ble_eq_true rfl | (simp; done) | (simp; omega) | omega | (simp only [size_spl, Array.size_setIfInBounds, hs.size]; exact Nat.le_of_ble_eq_true rfl))) (fun v167 w167 h167 => ?_)
                                            obtain ⟨rfl, x167⟩ := h167
                                            replace k3 := k3.ch x167.ch (by omega)
                                            replace kF := kF.ch x167.ch (by omega)
                                            replace kL := kL.ch x167.ch (by intro q hq hm; have := dL q hq; omega)
                                            replace kS := x167.blk
                                            replace G := G.wr x167 (.inl (by first | rfl | (simp; done))) nbS
                                            replace hF := G.fz
                                            replace U := U.st x167 (.inl (by first | rfl | (simp; done)))
                                            replace eC := kS.eput eC (by omega)
                                            replace rS : RowIn _ _ [.slice pa1 u.saved.accts.length pa2, .slice pwa1 u.saved.warmA.length pwa2, .slice pws1 u.saved.warmS.length pws2, .slice pr1 pr2 pr3, .slice pla u.saved.logs.length u.saved.logs.length, .slice pt1 u.saved.temps.length pt2, .slice pm1 u.saved.made.length pm2, .slice pg1 u.saved.gone.length pg2, .slice oa s.start.length oc, _, _, .int .u8 ((2 : Nat) : Int), _, .int .u8 (s.applied : Nat), vlim, vtx, _, vpr, vtot] := kS.rput rS 16 rfl
                                            replace rOr := kS.rputo rOr (by first | (left; omega) | (right; simp only [List.length_cons, List.length_nil, length_bL, length_be]; omega))
                                            replace rMd := kS.rputo rMd (by first | (left; omega) | (right; simp only [List.length_cons, List.length_nil, length_bL, length_be]; omega))
                                            refine l_nil ?_
                                            refine hK166 _ _ ?_
                                            refine fg0 (fun g => ?_)
                                            refine c_ret ?_
                                            repeat with_reducible refine then_ret ?_
                                            refine ret0 rfl ?_
                                            have hS : lvSt u q l = q := by rw [lvSt, if_neg (fun h => by rw [hcr] at h; exact Bool.false_ne_true h.1)]
                                            have hG : lvGas u q l = 0 := by rw [lvGas, if_pos (by rw [hS]; have := hds.out; omega)]
                                            have hOu : lvOut u q l = [] := by rw [lvOut, if_pos (.inl (by rw [hS]; have := hds.out; omega))]
                                            have hW : lvW s u q l = u.saved := by rw [lvW, if_neg (by rw [hS]; omega)]
                                            have hS0 : lvSt u q l ≠ 0 := by rw [hS]; omega
                                            have eS : lvS1 s u q l = { s with now := u.saved, ret := [], phase := 2, status := q, left := 0 } := by rw [lvS1, hW, hOu, hS, hG]
                                            rw [eS, hW]
                                            exact ⟨rfl, _, _, _, G, kS, ⟨⟨sv.accts, sv.warmA, sv.warmS, zrb, sv.logs, sv.temps, sv.made, sv.gone, so.start, (show 0 < 16777216 by decide), (show 2 < 256 by decide), hq, so.applied, so.limit, so.txGas, (show 0 < 18446744073709551616 by decide), so.price, so.total, so.origin, so.mad⟩, eC.mono hL0, (by simp only [size_spl, Array.size_setIfInBounds]; exact hs.size), _, _, _, _, _, _, _, _, _, _, _, _, _, _, _, _, _, _, _, _, _, _, _, _, rS, rOr, rMd, (zAc.mono hL0), (zWA.mono hL0), (zWS.mono hL0), (zRf.mono hL0), (zTm.mono hL0), (zMd.mono hL0), (zGn.mono hL0), (hSr.mono hL0), (BV.nil _), (hLm.mono hL0), (hTx.mono hL0), (NV.nil _), (hPr.mono hL0), (hTt.mono hL0)⟩, by rw [if_neg hS0]; exact ⟨.inl ⟨rfl, zLg.mono hL0, _, _, rfl⟩⟩, (rS 4 _ rfl)⟩))))
                                  · skip
                                    
                                    have := of_decide_eq_false cB6; omega)))))
                      · skip
                        
                        have hq5 : ¬ 1 < q := by have := of_decide_eq_false cB5; omega
                        refine c_skip ?_
                        refine hK148 _ _ ?_
                        refine fg6 2 1 0 6 7 8 (gS rfl (gS rfl (gS rfl (gS rfl (gS rfl (gS rfl g0)))))) (gS rfl (gS rfl (gS rfl (gS rfl (gS rfl g0))))) (gS rfl (gS rfl (gS rfl (gS rfl g0)))) (gS rfl (gS rfl (gS rfl g0))) (gS rfl (gS rfl g0)) (gS rfl g0) (fun g => ?_)
                        refine c_seq (fun K168 hK168 => ?_)
                        exact (by
                          refine c_region ?_
                          refine l_step (y_moveV (et (gS rfl (gS rfl (gS rfl g0))) rfl)) ?_
                          refine l_step (y_moveV (et (gS rfl (gS rfl (gS rfl (gS rfl (gS rfl (gS rfl g0)))))) rfl)) ?_
                          refine l_step (y_nil (et (gS rfl g0) rfl)) ?_
                          refine l_step (y_fld fld_102_3 (et g0 rfl)) ?_
                          have rl169 := RowIn.le rS (Nat.succ_pos _)
                          simp only [List.length_cons, List.length_nil, Nat.zero_add, Nat.reduceAdd] at rl169
                          refine l_effN (e_store sz_38 (et g0 rfl) (cellsV (et (gS rfl (gS rfl g0)) rfl) rfl) rfl (by first | exact one_bL _ | exact one_uL _ | (intro v hv; simp at hv; subst hv; rfl)) kS (by first | exact Nat.le_trans (by omega) rl169 | exact Nat.le_of_ble_eq_true rfl | (simp; done) | (simp; omega) | omega | (simp only [size_spl, Array.size_setIfInBounds, hs.size]; exact Nat.le_of_ble_eq_true rfl))) (fun v169 w169 h169 => ?_)
                          obtain ⟨rfl, x169⟩ := h169
                          replace k3 := k3.ch x169.ch (by omega)
                          replace kF := kF.ch x169.ch (by omega)
                          replace kL := kL.ch x169.ch (by intro q hq hm; have := dL q hq; omega)
                          replace kS := x169.blk
                          replace G := G.wr x169 (.inl (by first | rfl | (simp; done))) nbS
                          replace hF := G.fz
                          replace U := U.st x169 (.inl (by first | rfl | (simp; done)))
                          replace eC := kS.eput eC (by omega)
                          replace rS : RowIn _ _ [.slice pa1 u.saved.accts.length pa2, .slice pwa1 u.saved.warmA.length pwa2, .slice pws1 u.saved.warmS.length pws2, .slice pr1 pr2 pr3, .slice pla u.saved.logs.length u.saved.logs.length, .slice pt1 u.saved.temps.length pt2, .slice pm1 u.saved.made.length pm2, .slice pg1 u.saved.gone.length pg2, .slice oa s.start.length oc, .slice (some ⟨bf, 0, none⟩) N cap, _, .int .u8 (s.phase : Nat), .int .u8 (s.status : Nat), .int .u8 (s.applied : Nat), vlim, vtx, vleft, vpr, vtot] := kS.rput rS 10 rfl
                          replace rOr := kS.rputo rOr (by first | (left; omega) | (right; simp only [List.length_cons, List.length_nil, length_bL, length_be]; omega))
                          replace rMd := kS.rputo rMd (by first | (left; omega) | (right; simp only [List.length_cons, List.length_nil, length_bL, length_be]; omega))
                          refine l_nil ?_
                          refine hK168 _ _ ?_
                          refine fg6 2 1 0 6 7 8 (gS rfl (gS rfl (gS rfl (gS rfl (gS rfl (gS rfl (gS rfl (gS rfl (gS rfl g0))))))))) (gS rfl (gS rfl (gS rfl (gS rfl (gS rfl (gS rfl (gS rfl (gS rfl g0)))))))) (gS rfl (gS rfl (gS rfl (gS rfl (gS rfl (gS rfl (gS rfl g0))))))) (gS rfl (gS rfl (gS rfl (gS rfl (gS rfl (gS rfl g0)))))) (gS rfl (gS rfl (gS rfl (gS rfl (gS rfl g0))))) (gS rfl (gS rfl (gS rfl (gS rfl g0)))) (fun g => ?_)
                          refine c_seq (fun K170 hK170 => ?_)
                          exact (by
                            refine c_draw Up 20 [(0, true), (1, true), (2, true), (3, true), (4, true), (5, true), (6, true), (7, true), (8, true), (9, true), (10, true), (11, true), (12, true), (13, true), (14, true), (15, true), (16, true), (17, true), (18, true), (19, true), (20, false)] (by kernel_rfl) (fun w171 hu => ⟨Up.refl _, ?_⟩)
                            replace G := G.tr (Go.ofUp hF hu)
                            replace hF := hF.up hu
                            replace k3 := k3.up hu
                            replace kS := kS.up hu
                            replace kF := kF.up hu
                            replace kL := kL.up hu
                            replace U := U.tr hu
                            have SU := Up.refl w171
                            refine p_step (by exact rfl) (y_moveV (et (gS rfl (gS rfl (gS rfl g0))) rfl)) ?_
                            refine p_step (by exact rfl) (y_moveV (et (gS rfl (gS rfl (gS rfl (gS rfl g0)))) rfl)) ?_
                            refine p_step (by exact rfl) (y_nil (et g0 rfl)) ?_
                            refine p_step (by exact rfl) (y_fld fld_102_2 (et g0 rfl)) ?_
                            refine p_step (by exact rfl) (y_load1 one_100 (et g0 rfl) (atS (kS.cell (rS 9 _ rfl)))) ?_
                            refine p_step (by exact rfl) (y_moveV (et (gS rfl (gS rfl (gS rfl (gS rfl (gS rfl (gS rfl (gS rfl (gS rfl g0)))))))) rfl)) ?_
                            refine p_step (by exact rfl) (y_nil (et g0 rfl)) ?_
                            refine p_step (by exact rfl) (y_fld fld_102_2 (et g0 rfl)) ?_
                            refine p_step (by exact rfl) (y_load1 one_100 (et g0 rfl) (atS (kS.cell (rS 9 _ rfl)))) ?_
                            refine p_step (by exact rfl) (y_len Hvaa.underlying100 (et g0 rfl)) ?_
                            refine p_step (by exact rfl) (y_sub (et g0 rfl) rfl (subIN (y := 1) ?_ ?_)) ?_
                            omega
                            omega
                            refine p_step (by exact rfl) (y_moveV (et (gS rfl (gS rfl (gS rfl (gS rfl (gS rfl (gS rfl (gS rfl (gS rfl (gS rfl (gS rfl (gS rfl (gS rfl (gS rfl (gS rfl g0)))))))))))))) rfl)) ?_
                            refine p_step (by exact rfl) (y_nil (et g0 rfl)) ?_
                            refine p_step (by exact rfl) (y_fld fld_102_2 (et g0 rfl)) ?_
                            refine p_step (by exact rfl) (y_load1 one_100 (et g0 rfl) (atS (kS.cell (rS 9 _ rfl)))) ?_
                            refine p_step (by exact rfl) (y_len Hvaa.underlying100 (et g0 rfl)) ?_
                            refine p_step (by exact rfl) (y_sub (et g0 rfl) rfl (subIN (y := 1) ?_ ?_)) ?_
                            omega
                            omega
                            refine p_step (by exact rfl) (y_slS011n Hvaa.underlying100 sz_146 (et (gS rfl (gS rfl (gS rfl (gS rfl (gS rfl (gS rfl (gS rfl (gS rfl (gS rfl (gS rfl (gS rfl (gS rfl g0)))))))))))) rfl) (et (gS rfl (gS rfl (gS rfl (gS rfl (gS rfl (gS rfl g0)))))) rfl) (et g0 rfl) ?_ ?_) ?_
                            omega
                            omega
                            exact (by
                              refine p_step (by exact rfl) (y_nil (et (gS rfl (gS rfl (gS rfl (gS rfl (gS rfl (gS rfl (gS rfl (gS rfl (gS rfl (gS rfl (gS rfl (gS rfl (gS rfl (gS rfl (gS rfl (gS rfl (gS rfl g0))))))))))))))))) rfl)) ?_
                              refine p_step (by exact rfl) (y_fld fld_102_2 (et g0 rfl)) ?_
                              have rl172 := RowIn.le rS (Nat.succ_pos _)
                              simp only [List.length_cons, List.length_nil, Nat.zero_add, Nat.reduceAdd] at rl172
                              refine p_effN (by exact rfl) (e_store sz_100 (et g0 rfl) (cellsV (et (gS rfl (gS rfl g0)) rfl) rfl) rfl (by first | exact one_bL _ | exact one_uL _ | (intro v hv; simp at hv; subst hv; rfl)) kS (by first | exact Nat.le_trans (by omega) rl172 | exact Nat.le_of_ble_eq_true rfl | (simp; done) | (simp; omega) | omega | (simp only [size_spl, Array.size_setIfInBounds, hs.size]; exact Nat.le_of_ble_eq_true rfl))) (fun v172 w172 h172 => ?_)
                              obtain ⟨rfl, x172⟩ := h172
                              replace k3 := k3.ch x172.ch (by omega)
                              replace kF := kF.ch x172.ch (by omega)
                              replace kL := kL.ch x172.ch (by intro q hq hm; have := dL q hq; omega)
                              replace kS := x172.blk
                              replace G := G.wr x172 (.inl (by first | rfl | (simp; done))) nbS
                              replace hF := G.fz
                              replace U := U.st x172 (.inl (by first | rfl | (simp; done)))
                              replace eC := kS.eput eC (by omega)
                              replace rS : RowIn _ _ [.slice pa1 u.saved.accts.length pa2, .slice pwa1 u.saved.warmA.length pwa2, .slice pws1 u.saved.warmS.length pws2, .slice pr1 pr2 pr3, .slice pla u.saved.logs.length u.saved.logs.length, .slice pt1 u.saved.temps.length pt2, .slice pm1 u.saved.made.length pm2, .slice pg1 u.saved.gone.length pg2, .slice oa s.start.length oc, .slice (some ⟨bf, 0, none⟩) (N - 1) (N - 1), _, .int .u8 (s.phase : Nat), .int .u8 (s.status : Nat), .int .u8 (s.applied : Nat), vlim, vtx, vleft, vpr, vtot] := kS.rput rS 9 rfl
                              replace rOr := kS.rputo rOr (by first | (left; omega) | (right; simp only [List.length_cons, List.length_nil, length_bL, length_be]; omega))
                              replace rMd := kS.rputo rMd (by first | (left; omega) | (right; simp only [List.length_cons, List.length_nil, length_bL, length_be]; omega))
                              refine ⟨.inl rfl, ?_⟩
                              refine p_nil ?_
                              refine hK170 _ _ ?_
                              refine fg6 2 1 0 6 7 8 (gS rfl (gS rfl (gS rfl (gS rfl (gS rfl (gS rfl (gS rfl (gS rfl (gS rfl (gS rfl (gS rfl (gS rfl (gS rfl (gS rfl (gS rfl (gS rfl (gS rfl (gS rfl (gS rfl (gS rfl (gS rfl (gS rfl (gS rfl (gS rfl (gS rfl g0))))))))))))))))))))))))) (gS rfl (gS rfl (gS rfl (gS rfl (gS rfl (gS rfl (gS rfl (gS rfl (gS rfl (gS rfl (gS rfl (gS rfl (gS rfl (gS rfl (gS rfl (gS rfl (gS rfl (gS rfl (gS rfl (gS rfl (gS rfl (gS rfl (gS rfl (gS rfl g0)))))))))))))))))))))))) (gS rfl (gS rfl (gS rfl (gS rfl (gS rfl (gS rfl (gS rfl (gS rfl (gS rfl (gS rfl (gS rfl (gS rfl (gS rfl (gS rfl (gS rfl (gS rfl (gS rfl (gS rfl (gS rfl (gS rfl (gS rfl (gS rfl (gS rfl g0))))))))))))))))))))))) (gS rfl (gS rfl (gS rfl (gS rfl (gS rfl (gS rfl (gS rfl (gS rfl (gS rfl (gS rfl (gS rfl (gS rfl (gS rfl (gS rfl (gS rfl (gS rfl (gS rfl (gS rfl (gS rfl (gS rfl (gS rfl (gS rfl g0)))))))))))))))))))))) (gS rfl (gS rfl (gS rfl (gS rfl (gS rfl (gS rfl (gS rfl (gS rfl (gS rfl (gS rfl (gS rfl (gS rfl (gS rfl (gS rfl (gS rfl (gS rfl (gS rfl (gS rfl (gS rfl (gS rfl (gS rfl g0))))))))))))))))))))) (gS rfl (gS rfl (gS rfl (gS rfl (gS rfl (gS rfl (gS rfl (gS rfl (gS rfl (gS rfl (gS rfl (gS rfl (gS rfl (gS rfl (gS rfl (gS rfl (gS rfl (gS rfl (gS rfl (gS rfl g0)))))))))))))))))))) (fun g => ?_)
                              refine c_seq (fun K173 hK173 => ?_)
                              refine c_seq (fun K174 hK174 => ?_)
                              exact (by
                                refine c_region ?_
                                refine l_step (y_moveV (et (gS rfl (gS rfl (gS rfl g0))) rfl)) ?_
                                refine l_step (y_nil (et g0 rfl)) ?_
                                refine l_step (y_fld fld_102_2 (et g0 rfl)) ?_
                                refine l_step (y_load1 one_100 (et g0 rfl) (at1 (kS.cell (rS 9 _ rfl)))) ?_
                                refine l_step (y_len Hvaa.underlying100 (et g0 rfl)) ?_
                                refine l_step (y_eql (et g0 rfl) rfl) ?_
                                refine l_nil ?_
                                refine hK174 _ _ ?_
                                refine fg7 2 1 0 6 7 8 96 (gS rfl (gS rfl (gS rfl (gS rfl (gS rfl (gS rfl (gS rfl (gS rfl (gS rfl (gS rfl (gS rfl g0))))))))))) (gS rfl (gS rfl (gS rfl (gS rfl (gS rfl (gS rfl (gS rfl (gS rfl (gS rfl (gS rfl g0)))))))))) (gS rfl (gS rfl (gS rfl (gS rfl (gS rfl (gS rfl (gS rfl (gS rfl (gS rfl g0))))))))) (gS rfl (gS rfl (gS rfl (gS rfl (gS rfl (gS rfl (gS rfl (gS rfl g0)))))))) (gS rfl (gS rfl (gS rfl (gS rfl (gS rfl (gS rfl (gS rfl g0))))))) (gS rfl (gS rfl (gS rfl (gS rfl (gS rfl (gS rfl g0)))))) g0 (fun g => ?_)
                                refine c_cond (et g0 rfl) (fun cB6 => ?_) (fun cB6 => ?_)
                                · skip
                                  
                                  refine c_seq (fun K176 hK176 => ?_)
                                  exact (by
                                    refine c_region ?_
                                    refine l_step (y_moveV (et (gS rfl (gS rfl (gS rfl (gS rfl g0)))) rfl)) ?_
                                    refine l_step (y_nil (et g0 rfl)) ?_
                                    refine l_step (y_fld fld_102_2 (et g0 rfl)) ?_
                                    have rl177 := RowIn.le rS (Nat.succ_pos _)
                                    simp only [List.length_cons, List.length_nil, Nat.zero_add, Nat.reduceAdd] at rl177
                                    refine l_effN (e_store sz_100 (et g0 rfl) (cellsV rfl rfl) rfl (by first | exact one_bL _ | exact one_uL _ | (intro v hv; simp at hv; subst hv; rfl)) kS (by first | exact Nat.le_trans (by omega) rl177 | exact Nat.le_of_ble_eq_true rfl | (simp; done) | (simp; omega) | omega | (simp only [size_spl, Array.size_setIfInBounds, hs.size]; exact Nat.le_of_ble_eq_true rfl))) (fun v177 w177 h177 => ?_)
                                    obtain ⟨rfl, x177⟩ := h177
                                    replace k3 := k3.ch x177.ch (by omega)
                                    replace kF := kF.ch x177.ch (by omega)
                                    replace kL := kL.ch x177.ch (by intro q hq hm; have := dL q hq; omega)
                                    replace kS := x177.blk
                                    replace G := G.wr x177 (.inl (by first | rfl | (simp; done))) nbS
                                    replace hF := G.fz
                                    replace U := U.st x177 (.inl (by first | rfl | (simp; done)))
                                    replace eC := kS.eput eC (by omega)
                                    replace rS : RowIn _ _ [.slice pa1 u.saved.accts.length pa2, .slice pwa1 u.saved.warmA.length pwa2, .slice pws1 u.saved.warmS.length pws2, .slice pr1 pr2 pr3, .slice pla u.saved.logs.length u.saved.logs.length, .slice pt1 u.saved.temps.length pt2, .slice pm1 u.saved.made.length pm2, .slice pg1 u.saved.gone.length pg2, .slice oa s.start.length oc, _, _, .int .u8 (s.phase : Nat), .int .u8 (s.status : Nat), .int .u8 (s.applied : Nat), vlim, vtx, vleft, vpr, vtot] := kS.rput rS 9 rfl
                                    replace rOr := kS.rputo rOr (by first | (left; omega) | (right; simp only [List.length_cons, List.length_nil, length_bL, length_be]; omega))
                                    replace rMd := kS.rputo rMd (by first | (left; omega) | (right; simp only [List.length_cons, List.length_nil, length_bL, length_be]; omega))
                                    refine l_nil ?_
                                    refine hK176 _ _ ?_
                                    refine fg3 1 0 7 (gS rfl (gS rfl (gS rfl (gS rfl (gS rfl (gS rfl (gS rfl (gS rfl g0)))))))) (gS rfl (gS rfl (gS rfl (gS rfl (gS rfl (gS rfl (gS rfl g0))))))) (gS rfl (gS rfl (gS rfl (gS rfl (gS rfl g0))))) (fun g => ?_)
                                    refine c_seq (fun K178 hK178 => ?_)
                                    exact (by
                                      refine c_region ?_
                                      refine l_step (y_moveV (et (gS rfl g0) rfl)) ?_
                                      refine l_step (y_nil (et g0 rfl)) ?_
                                      refine l_step (y_fld fld_102_4 (et g0 rfl)) ?_
                                      have rl179 := RowIn.le rS (Nat.succ_pos _)
                                      simp only [List.length_cons, List.length_nil, Nat.zero_add, Nat.reduceAdd] at rl179
                                      refine l_effN (e_store sz_5 (et g0 rfl) (cellsV rfl rfl) rfl (by first | exact one_bL _ | exact one_uL _ | (intro v hv; simp at hv; subst hv; rfl)) kS (by first | exact Nat.le_trans (by omega) rl179 | exact Nat.le_of_ble_eq_true rfl | (simp; done) | (simp; omega) | omega | (simp only [size_spl, Array.size_setIfInBounds, hs.size]; exact Nat.le_of_ble_eq_true rfl))) (fun v179 w179 h179 => ?_)
                                      obtain ⟨rfl, x179⟩ := h179
                                      replace k3 := k3.ch x179.ch (by omega)
                                      replace kF := kF.ch x179.ch (by omega)
                                      replace kL := kL.ch x179.ch (by intro q hq hm; have := dL q hq; omega)
                                      replace kS := x179.blk
                                      replace G := G.wr x179 (.inl (by first | rfl | (simp; done))) nbS
                                      replace hF := G.fz
                                      replace U := U.st x179 (.inl (by first | rfl | (simp; done)))
                                      replace eC := kS.eput eC (by omega)
                                      replace rS : RowIn _ _ [.slice pa1 u.saved.accts.length pa2, .slice pwa1 u.saved.warmA.length pwa2, .slice pws1 u.saved.warmS.length pws2, .slice pr1 pr2 pr3, .slice pla u.saved.logs.length u.saved.logs.length, .slice pt1 u.saved.temps.length pt2, .slice pm1 u.saved.made.length pm2, .slice pg1 u.saved.gone.length pg2, .slice oa s.start.length oc, _, _, .int .u8 ((2 : Nat) : Int), .int .u8 (s.status : Nat), .int .u8 (s.applied : Nat), vlim, vtx, vleft, vpr, vtot] := kS.rput rS 11 rfl
                                      replace rOr := kS.rputo rOr (by first | (left; omega) | (right; simp only [List.length_cons, List.length_nil, length_bL, length_be]; omega))
                                      replace rMd := kS.rputo rMd (by first | (left; omega) | (right; simp only [List.length_cons, List.length_nil, length_bL, length_be]; omega))
                                      refine l_nil ?_
                                      refine hK178 _ _ ?_
                                      refine fg3 1 0 7 (gS rfl (gS rfl (gS rfl (gS rfl (gS rfl g0))))) (gS rfl (gS rfl (gS rfl (gS rfl g0)))) (gS rfl (gS rfl (gS rfl g0))) (fun g => ?_)
                                      refine c_seq (fun K180 hK180 => ?_)
                                      exact (by
                                        refine c_region ?_
                                        refine l_step (y_moveV (et (gS rfl g0) rfl)) ?_
                                        refine l_step (y_moveV (et (gS rfl (gS rfl (gS rfl g0))) rfl)) ?_
                                        refine l_step (y_nil (et (gS rfl g0) rfl)) ?_
                                        refine l_step (y_fld fld_102_5 (et g0 rfl)) ?_
                                        have rl181 := RowIn.le rS (Nat.succ_pos _)
                                        simp only [List.length_cons, List.length_nil, Nat.zero_add, Nat.reduceAdd] at rl181
                                        refine l_effN (e_store sz_5 (et g0 rfl) (cellsV (et (gS rfl (gS rfl g0)) rfl) rfl) rfl (by first | exact one_bL _ | exact one_uL _ | (intro v hv; simp at hv; subst hv; rfl)) kS (by first | exact Nat.le_trans (by omega) rl181 | exact Nat.le_of_ble_eq_true rfl | (simp; done) | (simp; omega) | omega | (simp only [size_spl, Array.size_setIfInBounds, hs.size]; exact Nat.le_of_ble_eq_true rfl))) (fun v181 w181 h181 => ?_)
                                        obtain ⟨rfl, x181⟩ := h181
                                        replace k3 := k3.ch x181.ch (by omega)
                                        replace kF := kF.ch x181.ch (by omega)
                                        replace kL := kL.ch x181.ch (by intro q hq hm; have := dL q hq; omega)
                                        replace kS := x181.blk
                                        replace G := G.wr x181 (.inl (by first | rfl | (simp; done))) nbS
                                        replace hF := G.fz
                                        replace U := U.st x181 (.inl (by first | rfl | (simp; done)))
                                        replace eC := kS.eput eC (by omega)
                                        replace rS : RowIn _ _ [.slice pa1 u.saved.accts.length pa2, .slice pwa1 u.saved.warmA.length pwa2, .slice pws1 u.saved.warmS.length pws2, .slice pr1 pr2 pr3, .slice pla u.saved.logs.length u.saved.logs.length, .slice pt1 u.saved.temps.length pt2, .slice pm1 u.saved.made.length pm2, .slice pg1 u.saved.gone.length pg2, .slice oa s.start.length oc, _, _, .int .u8 ((2 : Nat) : Int), _, .int .u8 (s.applied : Nat), vlim, vtx, vleft, vpr, vtot] := kS.rput rS 12 rfl
                                        replace rOr := kS.rputo rOr (by first | (left; omega) | (right; simp only [List.length_cons, List.length_nil, length_bL, length_be]; omega))
                                        replace rMd := kS.rputo rMd (by first | (left; omega) | (right; simp only [List.length_cons, List.length_nil, length_bL, length_be]; omega))
                                        refine l_nil ?_
                                        refine hK180 _ _ ?_
                                        refine fg2 0 7 (gS rfl (gS rfl (gS rfl (gS rfl (gS rfl g0))))) (gS rfl (gS rfl (gS rfl (gS rfl g0)))) (fun g => ?_)
                                        refine c_seq (fun K182 hK182 => ?_)
                                        exact (by
                                          refine c_region ?_
                                          refine l_step (y_moveV (et (gS rfl g0) rfl)) ?_
                                          refine l_step (y_moveV (et (gS rfl g0) rfl)) ?_
                                          refine l_step (y_nil (et (gS rfl g0) rfl)) ?_
                                          refine l_step (y_fld fld_102_9 (et g0 rfl)) ?_
                                          have rl183 := RowIn.le rS (Nat.succ_pos _)
                                          simp only [List.length_cons, List.length_nil, Nat.zero_add, Nat.reduceAdd] at rl183
                                          refine l_effN (e_store sz_95 (et g0 rfl) (cellsV (et (gS rfl (gS rfl g0)) rfl) rfl) rfl (by first | exact one_bL _ | exact one_uL _ | (intro v hv; simp at hv; subst hv; rfl)) kS (by first | exact Nat.le_trans (by omega) rl183 | exact Nat.le_of_ble_eq_true rfl | (simp; done) | (simp; omega) | omega | (simp only [size_spl, Array.size_setIfInBounds, hs.size]; exact Nat.le_of_ble_eq_true rfl))) (fun v183 w183 h183 => ?_)
                                          obtain ⟨rfl, x183⟩ := h183
                                          replace k3 := k3.ch x183.ch (by omega)
                                          replace kF := kF.ch x183.ch (by omega)
                                          replace kL := kL.ch x183.ch (by intro q hq hm; have := dL q hq; omega)
                                          replace kS := x183.blk
                                          replace G := G.wr x183 (.inl (by first | rfl | (simp; done))) nbS
                                          replace hF := G.fz
                                          replace U := U.st x183 (.inl (by first | rfl | (simp; done)))
                                          replace eC := kS.eput eC (by omega)
                                          replace rS : RowIn _ _ [.slice pa1 u.saved.accts.length pa2, .slice pwa1 u.saved.warmA.length pwa2, .slice pws1 u.saved.warmS.length pws2, .slice pr1 pr2 pr3, .slice pla u.saved.logs.length u.saved.logs.length, .slice pt1 u.saved.temps.length pt2, .slice pm1 u.saved.made.length pm2, .slice pg1 u.saved.gone.length pg2, .slice oa s.start.length oc, _, _, .int .u8 ((2 : Nat) : Int), _, .int .u8 (s.applied : Nat), vlim, vtx, _, vpr, vtot] := kS.rput rS 16 rfl
                                          replace rOr := kS.rputo rOr (by first | (left; omega) | (right; simp only [List.length_cons, List.length_nil, length_bL, length_be]; omega))
                                          replace rMd := kS.rputo rMd (by first | (left; omega) | (right; simp only [List.length_cons, List.length_nil, length_bL, length_be]; omega))
                                          refine l_nil ?_
                                          refine hK182 _ _ ?_
                                          refine fg0 (fun g => ?_)
                                          refine c_ret ?_
                                          repeat with_reducible refine then_ret ?_
                                          refine ret0 rfl ?_
                                          have hS : lvSt u q l = q := by rw [lvSt, if_neg (fun h => by rw [hcr] at h; exact Bool.false_ne_true h.1)]
                                          have hG : lvGas u q l = u.gas := by rw [lvGas, if_neg (by rw [hS]; exact hq5), if_neg (fun h => by rw [hcr] at h; exact Bool.false_ne_true h.1)]
                                          have hOu : lvOut u q l = l := by rw [lvOut, if_neg (by rw [hS]; rintro (h | h); exact hq5 h; rw [hcr] at h; exact Bool.false_ne_true h.1)]
                                          have hW : lvW s u q l = u.saved := by rw [lvW, if_neg (by rw [hS]; omega)]
                                          have hS0 : lvSt u q l ≠ 0 := by rw [hS]; omega
                                          have eS : lvS1 s u q l = { s with now := u.saved, ret := l, phase := 2, status := q, left := u.gas } := by rw [lvS1, hW, hOu, hS, hG]
                                          rw [eS, hW]
                                          exact ⟨rfl, _, _, _, G, kS, ⟨⟨sv.accts, sv.warmA, sv.warmS, zrb, sv.logs, sv.temps, sv.made, sv.gone, so.start, hl9, (show 2 < 256 by decide), hq, so.applied, so.limit, so.txGas, (Nat.lt_trans fo6.gas (by decide)), so.price, so.total, so.origin, so.mad⟩, eC.mono hL0, (by simp only [size_spl, Array.size_setIfInBounds]; exact hs.size), _, _, _, _, _, _, _, _, _, _, _, _, _, _, _, _, _, _, _, _, _, _, _, _, rS, rOr, rMd, (zAc.mono hL0), (zWA.mono hL0), (zWS.mono hL0), (zRf.mono hL0), (zTm.mono hL0), (zMd.mono hL0), (zGn.mono hL0), (hSr.mono hL0), (hO.mono hL0), (hLm.mono hL0), (hTx.mono hL0), (yGa.mono hL0), (hPr.mono hL0), (hTt.mono hL0)⟩, by rw [if_neg hS0]; exact ⟨.inl ⟨rfl, zLg.mono hL0, _, _, rfl⟩⟩, (rS 4 _ rfl)⟩))))
                                · skip
                                  
                                  have := of_decide_eq_false cB6; omega))))))
                · skip
                  
                  have hq4 : q = 0 := by have := of_decide_eq_false cB4; omega
                  refine c_skip ?_
                  refine hK144 _ _ ?_
                  refine fg6 2 1 0 6 7 8 (gS rfl (gS rfl (gS rfl (gS rfl (gS rfl (gS rfl g0)))))) (gS rfl (gS rfl (gS rfl (gS rfl (gS rfl g0))))) (gS rfl (gS rfl (gS rfl (gS rfl g0)))) (gS rfl (gS rfl (gS rfl g0))) (gS rfl (gS rfl g0)) (gS rfl g0) (fun g => ?_)
                  refine c_seq (fun K184 hK184 => ?_)
                  refine c_seq (fun K185 hK185 => ?_)
                  exact (by
                    refine c_region ?_
                    refine l_step (y_moveV (et (gS rfl (gS rfl (gS rfl (gS rfl g0)))) rfl)) ?_
                    refine l_step (y_gtr (et g0 rfl) rfl) ?_
                    refine l_nil ?_
                    refine hK185 _ _ ?_
                    refine fg7 2 1 0 6 7 8 66 (gS rfl (gS rfl (gS rfl (gS rfl (gS rfl (gS rfl (gS rfl g0))))))) (gS rfl (gS rfl (gS rfl (gS rfl (gS rfl (gS rfl g0)))))) (gS rfl (gS rfl (gS rfl (gS rfl (gS rfl g0))))) (gS rfl (gS rfl (gS rfl (gS rfl g0)))) (gS rfl (gS rfl (gS rfl g0))) (gS rfl (gS rfl g0)) g0 (fun g => ?_)
                    refine c_cond (et g0 rfl) (fun cB5 => ?_) (fun cB5 => ?_)
                    · skip
                      
                      have := of_decide_eq_true cB5; omega
                    · skip
                      
                      have hq5 : ¬ 1 < q := by have := of_decide_eq_false cB5; omega
                      refine c_skip ?_
                      refine hK184 _ _ ?_
                      refine fg6 2 1 0 6 7 8 (gS rfl (gS rfl (gS rfl (gS rfl (gS rfl (gS rfl g0)))))) (gS rfl (gS rfl (gS rfl (gS rfl (gS rfl g0))))) (gS rfl (gS rfl (gS rfl (gS rfl g0)))) (gS rfl (gS rfl (gS rfl g0))) (gS rfl (gS rfl g0)) (gS rfl g0) (fun g => ?_)
                      refine c_seq (fun K187 hK187 => ?_)
                      exact (by
                        refine c_region ?_
                        refine l_step (y_moveV (et (gS rfl (gS rfl (gS rfl g0))) rfl)) ?_
                        refine l_step (y_moveV (et (gS rfl (gS rfl (gS rfl (gS rfl (gS rfl (gS rfl g0)))))) rfl)) ?_
                        refine l_step (y_nil (et (gS rfl g0) rfl)) ?_
                        refine l_step (y_fld fld_102_3 (et g0 rfl)) ?_
                        have rl188 := RowIn.le rS (Nat.succ_pos _)
                        simp only [List.length_cons, List.length_nil, Nat.zero_add, Nat.reduceAdd] at rl188
                        refine l_effN (e_store sz_38 (et g0 rfl) (cellsV (et (gS rfl (gS rfl g0)) rfl) rfl) rfl (by first | exact one_bL _ | exact one_uL _ | (intro v hv; simp at hv; subst hv; rfl)) kS (by first | exact Nat.le_trans (by omega) rl188 | exact Nat.le_of_ble_eq_true rfl | (simp; done) | (simp; omega) | omega | (simp only [size_spl, Array.size_setIfInBounds, hs.size]; exact Nat.le_of_ble_eq_true rfl))) (fun v188 w188 h188 => ?_)
                        obtain ⟨rfl, x188⟩ := h188
                        replace k3 := k3.ch x188.ch (by omega)
                        replace kF := kF.ch x188.ch (by omega)
                        replace kL := kL.ch x188.ch (by intro q hq hm; have := dL q hq; omega)
                        replace kS := x188.blk
                        replace G := G.wr x188 (.inl (by first | rfl | (simp; done))) nbS
                        replace hF := G.fz
                        replace U := U.st x188 (.inl (by first | rfl | (simp; done)))
                        replace eC := kS.eput eC (by omega)
                        replace rS : RowIn _ _ [.slice aa s.now.accts.length ac, .slice wa s.now.warmA.length wc, .slice sa s.now.warmS.length sc, vr, .slice la s.now.logs.length lc, .slice ta s.now.temps.length tc, .slice ma s.now.made.length mc, .slice ga s.now.gone.length gc, .slice oa s.start.length oc, .slice (some ⟨bf, 0, none⟩) N cap, _, .int .u8 (s.phase : Nat), .int .u8 (s.status : Nat), .int .u8 (s.applied : Nat), vlim, vtx, vleft, vpr, vtot] := kS.rput rS 10 rfl
                        replace rOr := kS.rputo rOr (by first | (left; omega) | (right; simp only [List.length_cons, List.length_nil, length_bL, length_be]; omega))
                        replace rMd := kS.rputo rMd (by first | (left; omega) | (right; simp only [List.length_cons, List.length_nil, length_bL, length_be]; omega))
                        refine l_nil ?_
                        refine hK187 _ _ ?_
                        refine fg6 2 1 0 6 7 8 (gS rfl (gS rfl (gS rfl (gS rfl (gS rfl (gS rfl (gS rfl (gS rfl (gS rfl g0))))))))) (gS rfl (gS rfl (gS rfl (gS rfl (gS rfl (gS rfl (gS rfl (gS rfl g0)))))))) (gS rfl (gS rfl (gS rfl (gS rfl (gS rfl (gS rfl (gS rfl g0))))))) (gS rfl (gS rfl (gS rfl (gS rfl (gS rfl (gS rfl g0)))))) (gS rfl (gS rfl (gS rfl (gS rfl (gS rfl g0))))) (gS rfl (gS rfl (gS rfl (gS rfl g0)))) (fun g => ?_)
                        refine c_seq (fun K189 hK189 => ?_)
                        exact (by
                          refine c_draw Up 20 [(0, true), (1, true), (2, true), (3, true), (4, true), (5, true), (6, true), (7, true), (8, true), (9, true), (10, true), (11, true), (12, true), (13, true), (14, true), (15, true), (16, true), (17, true), (18, true), (19, true), (20, false)] (by kernel_rfl) (fun w190 hu => ⟨Up.refl _, ?_⟩)
                          replace G := G.tr (Go.ofUp hF hu)
                          replace hF := hF.up hu
                          replace k3 := k3.up hu
                          replace kS := kS.up hu
                          replace kF := kF.up hu
                          replace kL := kL.up hu
                          replace U := U.tr hu
                          have SU := Up.refl w190
                          refine p_step (by exact rfl) (y_moveV (et (gS rfl (gS rfl (gS rfl g0))) rfl)) ?_
                          refine p_step (by exact rfl) (y_moveV (et (gS rfl (gS rfl (gS rfl (gS rfl g0)))) rfl)) ?_
                          refine p_step (by exact rfl) (y_nil (et g0 rfl)) ?_
                          refine p_step (by exact rfl) (y_fld fld_102_2 (et g0 rfl)) ?_
                          refine p_step (by exact rfl) (y_load1 one_100 (et g0 rfl) (atS (kS.cell (rS 9 _ rfl)))) ?_
                          refine p_step (by exact rfl) (y_moveV (et (gS rfl (gS rfl (gS rfl (gS rfl (gS rfl (gS rfl (gS rfl (gS rfl g0)))))))) rfl)) ?_
                          refine p_step (by exact rfl) (y_nil (et g0 rfl)) ?_
                          refine p_step (by exact rfl) (y_fld fld_102_2 (et g0 rfl)) ?_
                          refine p_step (by exact rfl) (y_load1 one_100 (et g0 rfl) (atS (kS.cell (rS 9 _ rfl)))) ?_
                          refine p_step (by exact rfl) (y_len Hvaa.underlying100 (et g0 rfl)) ?_
                          refine p_step (by exact rfl) (y_sub (et g0 rfl) rfl (subIN (y := 1) ?_ ?_)) ?_
                          omega
                          omega
                          refine p_step (by exact rfl) (y_moveV (et (gS rfl (gS rfl (gS rfl (gS rfl (gS rfl (gS rfl (gS rfl (gS rfl (gS rfl (gS rfl (gS rfl (gS rfl (gS rfl (gS rfl g0)))))))))))))) rfl)) ?_
                          refine p_step (by exact rfl) (y_nil (et g0 rfl)) ?_
                          refine p_step (by exact rfl) (y_fld fld_102_2 (et g0 rfl)) ?_
                          refine p_step (by exact rfl) (y_load1 one_100 (et g0 rfl) (atS (kS.cell (rS 9 _ rfl)))) ?_
                          refine p_step (by exact rfl) (y_len Hvaa.underlying100 (et g0 rfl)) ?_
                          refine p_step (by exact rfl) (y_sub (et g0 rfl) rfl (subIN (y := 1) ?_ ?_)) ?_
                          omega
                          omega
                          refine p_step (by exact rfl) (y_slS011n Hvaa.underlying100 sz_146 (et (gS rfl (gS rfl (gS rfl (gS rfl (gS rfl (gS rfl (gS rfl (gS rfl (gS rfl (gS rfl (gS rfl (gS rfl g0)))))))))))) rfl) (et (gS rfl (gS rfl (gS rfl (gS rfl (gS rfl (gS rfl g0)))))) rfl) (et g0 rfl) ?_ ?_) ?_
                          omega
                          omega
                          exact (by
                            refine p_step (by exact rfl) (y_nil (et (gS rfl (gS rfl (gS rfl (gS rfl (gS rfl (gS rfl (gS rfl (gS rfl (gS rfl (gS rfl (gS rfl (gS rfl (gS rfl (gS rfl (gS rfl (gS rfl (gS rfl g0))))))))))))))))) rfl)) ?_
                            refine p_step (by exact rfl) (y_fld fld_102_2 (et g0 rfl)) ?_
                            have rl191 := RowIn.le rS (Nat.succ_pos _)
                            simp only [List.length_cons, List.length_nil, Nat.zero_add, Nat.reduceAdd] at rl191
                            refine p_effN (by exact rfl) (e_store sz_100 (et g0 rfl) (cellsV (et (gS rfl (gS rfl g0)) rfl) rfl) rfl (by first | exact one_bL _ | exact one_uL _ | (intro v hv; simp at hv; subst hv; rfl)) kS (by first | exact Nat.le_trans (by omega) rl191 | exact Nat.le_of_ble_eq_true rfl | (simp; done) | (simp; omega) | omega | (simp only [size_spl, Array.size_setIfInBounds, hs.size]; exact Nat.le_of_ble_eq_true rfl))) (fun v191 w191 h191 => ?_)
                            obtain ⟨rfl, x191⟩ := h191
                            replace k3 := k3.ch x191.ch (by omega)
                            replace kF := kF.ch x191.ch (by omega)
                            replace kL := kL.ch x191.ch (by intro q hq hm; have := dL q hq; omega)
                            replace kS := x191.blk
                            replace G := G.wr x191 (.inl (by first | rfl | (simp; done))) nbS
                            replace hF := G.fz
                            replace U := U.st x191 (.inl (by first | rfl | (simp; done)))
                            replace eC := kS.eput eC (by omega)
                            replace rS : RowIn _ _ [.slice aa s.now.accts.length ac, .slice wa s.now.warmA.length wc, .slice sa s.now.warmS.length sc, vr, .slice la s.now.logs.length lc, .slice ta s.now.temps.length tc, .slice ma s.now.made.length mc, .slice ga s.now.gone.length gc, .slice oa s.start.length oc, .slice (some ⟨bf, 0, none⟩) (N - 1) (N - 1), _, .int .u8 (s.phase : Nat), .int .u8 (s.status : Nat), .int .u8 (s.applied : Nat), vlim, vtx, vleft, vpr, vtot] := kS.rput rS 9 rfl
                            replace rOr := kS.rputo rOr (by first | (left; omega) | (right; simp only [List.length_cons, List.length_nil, length_bL, length_be]; omega))
                            replace rMd := kS.rputo rMd (by first | (left; omega) | (right; simp only [List.length_cons, List.length_nil, length_bL, length_be]; omega))
                            refine ⟨.inl rfl, ?_⟩
                            refine p_nil ?_
                            refine hK189 _ _ ?_
                            refine fg6 2 1 0 6 7 8 (gS rfl (gS rfl (gS rfl (gS rfl (gS rfl (gS rfl (gS rfl (gS rfl (gS rfl (gS rfl (gS rfl (gS rfl (gS rfl (gS rfl (gS rfl (gS rfl (gS rfl (gS rfl (gS rfl (gS rfl (gS rfl (gS rfl (gS rfl (gS rfl (gS rfl g0))))))))))))))))))))))))) (gS rfl (gS rfl (gS rfl (gS rfl (gS rfl (gS rfl (gS rfl (gS rfl (gS rfl (gS rfl (gS rfl (gS rfl (gS rfl (gS rfl (gS rfl (gS rfl (gS rfl (gS rfl (gS rfl (gS rfl (gS rfl (gS rfl (gS rfl (gS rfl g0)))))))))))))))))))))))) (gS rfl (gS rfl (gS rfl (gS rfl (gS rfl (gS rfl (gS rfl (gS rfl (gS rfl (gS rfl (gS rfl (gS rfl (gS rfl (gS rfl (gS rfl (gS rfl (gS rfl (gS rfl (gS rfl (gS rfl (gS rfl (gS rfl (gS rfl g0))))))))))))))))))))))) (gS rfl (gS rfl (gS rfl (gS rfl (gS rfl (gS rfl (gS rfl (gS rfl (gS rfl (gS rfl (gS rfl (gS rfl (gS rfl (gS rfl (gS rfl (gS rfl (gS rfl (gS rfl (gS rfl (gS rfl (gS rfl (gS rfl g0)))))))))))))))))))))) (gS rfl (gS rfl (gS rfl (gS rfl (gS rfl (gS rfl (gS rfl (gS rfl (gS rfl (gS rfl (gS rfl (gS rfl (gS rfl (gS rfl (gS rfl (gS rfl (gS rfl (gS rfl (gS rfl (gS rfl (gS rfl g0))))))))))))))))))))) (gS rfl (gS rfl (gS rfl (gS rfl (gS rfl (gS rfl (gS rfl (gS rfl (gS rfl (gS rfl (gS rfl (gS rfl (gS rfl (gS rfl (gS rfl (gS rfl (gS rfl (gS rfl (gS rfl (gS rfl g0)))))))))))))))))))) (fun g => ?_)
                            refine c_seq (fun K192 hK192 => ?_)
                            refine c_seq (fun K193 hK193 => ?_)
                            exact (by
                              refine c_region ?_
                              refine l_step (y_moveV (et (gS rfl (gS rfl (gS rfl g0))) rfl)) ?_
                              refine l_step (y_nil (et g0 rfl)) ?_
                              refine l_step (y_fld fld_102_2 (et g0 rfl)) ?_
                              refine l_step (y_load1 one_100 (et g0 rfl) (at1 (kS.cell (rS 9 _ rfl)))) ?_
                              refine l_step (y_len Hvaa.underlying100 (et g0 rfl)) ?_
                              refine l_step (y_eql (et g0 rfl) rfl) ?_
                              refine l_nil ?_
                              refine hK193 _ _ ?_
                              refine fg7 2 1 0 6 7 8 96 (gS rfl (gS rfl (gS rfl (gS rfl (gS rfl (gS rfl (gS rfl (gS rfl (gS rfl (gS rfl (gS rfl g0))))))))))) (gS rfl (gS rfl (gS rfl (gS rfl (gS rfl (gS rfl (gS rfl (gS rfl (gS rfl (gS rfl g0)))))))))) (gS rfl (gS rfl (gS rfl (gS rfl (gS rfl (gS rfl (gS rfl (gS rfl (gS rfl g0))))))))) (gS rfl (gS rfl (gS rfl (gS rfl (gS rfl (gS rfl (gS rfl (gS rfl g0)))))))) (gS rfl (gS rfl (gS rfl (gS rfl (gS rfl (gS rfl (gS rfl g0))))))) (gS rfl (gS rfl (gS rfl (gS rfl (gS rfl (gS rfl g0)))))) g0 (fun g => ?_)
                              refine c_cond (et g0 rfl) (fun cB6 => ?_) (fun cB6 => ?_)
                              · skip
                                
                                refine c_seq (fun K195 hK195 => ?_)
                                exact (by
                                  refine c_region ?_
                                  refine l_step (y_moveV (et (gS rfl (gS rfl (gS rfl (gS rfl g0)))) rfl)) ?_
                                  refine l_step (y_nil (et g0 rfl)) ?_
                                  refine l_step (y_fld fld_102_2 (et g0 rfl)) ?_
                                  have rl196 := RowIn.le rS (Nat.succ_pos _)
                                  simp only [List.length_cons, List.length_nil, Nat.zero_add, Nat.reduceAdd] at rl196
                                  refine l_effN (e_store sz_100 (et g0 rfl) (cellsV rfl rfl) rfl (by first | exact one_bL _ | exact one_uL _ | (intro v hv; simp at hv; subst hv; rfl)) kS (by first | exact Nat.le_trans (by omega) rl196 | exact Nat.le_of_ble_eq_true rfl | (simp; done) | (simp; omega) | omega | (simp only [size_spl, Array.size_setIfInBounds, hs.size]; exact Nat.le_of_ble_eq_true rfl))) (fun v196 w196 h196 => ?_)
                                  obtain ⟨rfl, x196⟩ := h196
                                  replace k3 := k3.ch x196.ch (by omega)
                                  replace kF := kF.ch x196.ch (by omega)
                                  replace kL := kL.ch x196.ch (by intro q hq hm; have := dL q hq; omega)
                                  replace kS := x196.blk
                                  replace G := G.wr x196 (.inl (by first | rfl | (simp; done))) nbS
                                  replace hF := G.fz
                                  replace U := U.st x196 (.inl (by first | rfl | (simp; done)))
                                  replace eC := kS.eput eC (by omega)
                                  replace rS : RowIn _ _ [.slice aa s.now.accts.length ac, .slice wa s.now.warmA.length wc, .slice sa s.now.warmS.length sc, vr, .slice la s.now.logs.length lc, .slice ta s.now.temps.length tc, .slice ma s.now.made.length mc, .slice ga s.now.gone.length gc, .slice oa s.start.length oc, _, _, .int .u8 (s.phase : Nat), .int .u8 (s.status : Nat), .int .u8 (s.applied : Nat), vlim, vtx, vleft, vpr, vtot] := kS.rput rS 9 rfl
                                  replace rOr := kS.rputo rOr (by first | (left; omega) | (right; simp only [List.length_cons, List.length_nil, length_bL, length_be]; omega))
                                  replace rMd := kS.rputo rMd (by first | (left; omega) | (right; simp only [List.length_cons, List.length_nil, length_bL, length_be]; omega))
                                  refine l_nil ?_
                                  refine hK195 _ _ ?_
                                  refine fg3 1 0 7 (gS rfl (gS rfl (gS rfl (gS rfl (gS rfl (gS rfl (gS rfl (gS rfl g0)))))))) (gS rfl (gS rfl (gS rfl (gS rfl (gS rfl (gS rfl (gS rfl g0))))))) (gS rfl (gS rfl (gS rfl (gS rfl (gS rfl g0))))) (fun g => ?_)
                                  refine c_seq (fun K197 hK197 => ?_)
                                  exact (by
                                    refine c_region ?_
                                    refine l_step (y_moveV (et (gS rfl g0) rfl)) ?_
                                    refine l_step (y_nil (et g0 rfl)) ?_
                                    refine l_step (y_fld fld_102_4 (et g0 rfl)) ?_
                                    have rl198 := RowIn.le rS (Nat.succ_pos _)
                                    simp only [List.length_cons, List.length_nil, Nat.zero_add, Nat.reduceAdd] at rl198
                                    refine l_effN (e_store sz_5 (et g0 rfl) (cellsV rfl rfl) rfl (by first | exact one_bL _ | exact one_uL _ | (intro v hv; simp at hv; subst hv; rfl)) kS (by first | exact Nat.le_trans (by omega) rl198 | exact Nat.le_of_ble_eq_true rfl | (simp; done) | (simp; omega) | omega | (simp only [size_spl, Array.size_setIfInBounds, hs.size]; exact Nat.le_of_ble_eq_true rfl))) (fun v198 w198 h198 => ?_)
                                    obtain ⟨rfl, x198⟩ := h198
                                    replace k3 := k3.ch x198.ch (by omega)
                                    replace kF := kF.ch x198.ch (by omega)
                                    replace kL := kL.ch x198.ch (by intro q hq hm; have := dL q hq; omega)
                                    replace kS := x198.blk
                                    replace G := G.wr x198 (.inl (by first | rfl | (simp; done))) nbS
                                    replace hF := G.fz
                                    replace U := U.st x198 (.inl (by first | rfl | (simp; done)))
                                    replace eC := kS.eput eC (by omega)
                                    replace rS : RowIn _ _ [.slice aa s.now.accts.length ac, .slice wa s.now.warmA.length wc, .slice sa s.now.warmS.length sc, vr, .slice la s.now.logs.length lc, .slice ta s.now.temps.length tc, .slice ma s.now.made.length mc, .slice ga s.now.gone.length gc, .slice oa s.start.length oc, _, _, .int .u8 ((2 : Nat) : Int), .int .u8 (s.status : Nat), .int .u8 (s.applied : Nat), vlim, vtx, vleft, vpr, vtot] := kS.rput rS 11 rfl
                                    replace rOr := kS.rputo rOr (by first | (left; omega) | (right; simp only [List.length_cons, List.length_nil, length_bL, length_be]; omega))
                                    replace rMd := kS.rputo rMd (by first | (left; omega) | (right; simp only [List.length_cons, List.length_nil, length_bL, length_be]; omega))
                                    refine l_nil ?_
                                    refine hK197 _ _ ?_
                                    refine fg3 1 0 7 (gS rfl (gS rfl (gS rfl (gS rfl (gS rfl g0))))) (gS rfl (gS rfl (gS rfl (gS rfl g0)))) (gS rfl (gS rfl (gS rfl g0))) (fun g => ?_)
                                    refine c_seq (fun K199 hK199 => ?_)
                                    exact (by
                                      refine c_region ?_
                                      refine l_step (y_moveV (et (gS rfl g0) rfl)) ?_
                                      refine l_step (y_moveV (et (gS rfl (gS rfl (gS rfl g0))) rfl)) ?_
                                      refine l_step (y_nil (et (gS rfl g0) rfl)) ?_
                                      refine l_step (y_fld fld_102_5 (et g0 rfl)) ?_
                                      have rl200 := RowIn.le rS (Nat.succ_pos _)
                                      simp only [List.length_cons, List.length_nil, Nat.zero_add, Nat.reduceAdd] at rl200
                                      refine l_effN (e_store sz_5 (et g0 rfl) (cellsV (et (gS rfl (gS rfl g0)) rfl) rfl) rfl (by first | exact one_bL _ | exact one_uL _ | (intro v hv; simp at hv; subst hv; rfl)) kS (by first | exact Nat.le_trans (by omega) rl200 | exact Nat.le_of_ble_eq_true rfl | (simp; done) | (simp; omega) | omega | (simp only [size_spl, Array.size_setIfInBounds, hs.size]; exact Nat.le_of_ble_eq_true rfl))) (fun v200 w200 h200 => ?_)
                                      obtain ⟨rfl, x200⟩ := h200
                                      replace k3 := k3.ch x200.ch (by omega)
                                      replace kF := kF.ch x200.ch (by omega)
                                      replace kL := kL.ch x200.ch (by intro q hq hm; have := dL q hq; omega)
                                      replace kS := x200.blk
                                      replace G := G.wr x200 (.inl (by first | rfl | (simp; done))) nbS
                                      replace hF := G.fz
                                      replace U := U.st x200 (.inl (by first | rfl | (simp; done)))
                                      replace eC := kS.eput eC (by omega)
                                      replace rS : RowIn _ _ [.slice aa s.now.accts.length ac, .slice wa s.now.warmA.length wc, .slice sa s.now.warmS.length sc, vr, .slice la s.now.logs.length lc, .slice ta s.now.temps.length tc, .slice ma s.now.made.length mc, .slice ga s.now.gone.length gc, .slice oa s.start.length oc, _, _, .int .u8 ((2 : Nat) : Int), _, .int .u8 (s.applied : Nat), vlim, vtx, vleft, vpr, vtot] := kS.rput rS 12 rfl
                                      replace rOr := kS.rputo rOr (by first | (left; omega) | (right; simp only [List.length_cons, List.length_nil, length_bL, length_be]; omega))
                                      replace rMd := kS.rputo rMd (by first | (left; omega) | (right; simp only [List.length_cons, List.length_nil, length_bL, length_be]; omega))
                                      refine l_nil ?_
                                      refine hK199 _ _ ?_
                                      refine fg2 0 7 (gS rfl (gS rfl (gS rfl (gS rfl (gS rfl g0))))) (gS rfl (gS rfl (gS rfl (gS rfl g0)))) (fun g => ?_)
                                      refine c_seq (fun K201 hK201 => ?_)
                                      exact (by
                                        refine c_region ?_
                                        refine l_step (y_moveV (et (gS rfl g0) rfl)) ?_
                                        refine l_step (y_moveV (et (gS rfl g0) rfl)) ?_
                                        refine l_step (y_nil (et (gS rfl g0) rfl)) ?_
                                        refine l_step (y_fld fld_102_9 (et g0 rfl)) ?_
                                        have rl202 := RowIn.le rS (Nat.succ_pos _)
                                        simp only [List.length_cons, List.length_nil, Nat.zero_add, Nat.reduceAdd] at rl202
                                        refine l_effN (e_store sz_95 (et g0 rfl) (cellsV (et (gS rfl (gS rfl g0)) rfl) rfl) rfl (by first | exact one_bL _ | exact one_uL _ | (intro v hv; simp at hv; subst hv; rfl)) kS (by first | exact Nat.le_trans (by omega) rl202 | exact Nat.le_of_ble_eq_true rfl | (simp; done) | (simp; omega) | omega | (simp only [size_spl, Array.size_setIfInBounds, hs.size]; exact Nat.le_of_ble_eq_true rfl))) (fun v202 w202 h202 => ?_)
                                        obtain ⟨rfl, x202⟩ := h202
                                        replace k3 := k3.ch x202.ch (by omega)
                                        replace kF := kF.ch x202.ch (by omega)
                                        replace kL := kL.ch x202.ch (by intro q hq hm; have := dL q hq; omega)
                                        replace kS := x202.blk
                                        replace G := G.wr x202 (.inl (by first | rfl | (simp; done))) nbS
                                        replace hF := G.fz
                                        replace U := U.st x202 (.inl (by first | rfl | (simp; done)))
                                        replace eC := kS.eput eC (by omega)
                                        replace rS : RowIn _ _ [.slice aa s.now.accts.length ac, .slice wa s.now.warmA.length wc, .slice sa s.now.warmS.length sc, vr, .slice la s.now.logs.length lc, .slice ta s.now.temps.length tc, .slice ma s.now.made.length mc, .slice ga s.now.gone.length gc, .slice oa s.start.length oc, _, _, .int .u8 ((2 : Nat) : Int), _, .int .u8 (s.applied : Nat), vlim, vtx, _, vpr, vtot] := kS.rput rS 16 rfl
                                        replace rOr := kS.rputo rOr (by first | (left; omega) | (right; simp only [List.length_cons, List.length_nil, length_bL, length_be]; omega))
                                        replace rMd := kS.rputo rMd (by first | (left; omega) | (right; simp only [List.length_cons, List.length_nil, length_bL, length_be]; omega))
                                        refine l_nil ?_
                                        refine hK201 _ _ ?_
                                        refine fg0 (fun g => ?_)
                                        refine c_ret ?_
                                        repeat with_reducible refine then_ret ?_
                                        refine ret0 rfl ?_
                                        have hS : lvSt u q l = q := by rw [lvSt, if_neg (fun h => by rw [hcr] at h; exact Bool.false_ne_true h.1)]
                                        have hG : lvGas u q l = u.gas := by rw [lvGas, if_neg (by rw [hS]; exact hq5), if_neg (fun h => by rw [hcr] at h; exact Bool.false_ne_true h.1)]
                                        have hOu : lvOut u q l = l := by rw [lvOut, if_neg (by rw [hS]; rintro (h | h); exact hq5 h; rw [hcr] at h; exact Bool.false_ne_true h.1)]
                                        have hW : lvW s u q l = s.now := by rw [lvW, if_pos (by rw [hS]; exact hq4), if_neg (fun h => by rw [hcr] at h; exact Bool.false_ne_true h.1)]
                                        have hS0 : lvSt u q l = 0 := by rw [hS]; exact hq4
                                        have eS : lvS1 s u q l = { s with now := s.now, ret := l, phase := 2, status := q, left := u.gas } := by rw [lvS1, hW, hOu, hS, hG]
                                        rw [eS, hW]
                                        exact ⟨rfl, _, _, _, G, kS, ⟨⟨so.accts, so.warmA, so.warmS, so.refund, so.logs, so.temps, so.made, so.gone, so.start, hl9, (show 2 < 256 by decide), hq, so.applied, so.limit, so.txGas, (Nat.lt_trans fo6.gas (by decide)), so.price, so.total, so.origin, so.mad⟩, eC.mono hL0, (by simp only [size_spl, Array.size_setIfInBounds]; exact hs.size), _, _, _, _, _, _, _, _, _, _, _, _, _, _, _, _, _, _, _, _, _, _, _, _, rS, rOr, rMd, (hAc.mono hL0), (hWA.mono hL0), (hWS.mono hL0), (hRf.mono hL0), (hTm.mono hL0), (hMd.mono hL0), (hGn.mono hL0), (hSr.mono hL0), (hO.mono hL0), (hLm.mono hL0), (hTx.mono hL0), (yGa.mono hL0), (hPr.mono hL0), (hTt.mono hL0)⟩, by rw [if_pos hS0]; exact kL.mono hL0, ((rS 4 _ rfl).trans (hv4.symm.trans hvl))⟩))))
                              · skip
                                
                                have := of_decide_eq_false cB6; omega)))))))))))
end Go.Proofs.YgvaawGreat
