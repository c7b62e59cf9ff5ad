import Derived.Test.YgvaawGreatY34
import Derived.Test.YgvaawGreatFr
set_option maxRecDepth 100000
set_option maxHeartbeats 4000000
set_option linter.unusedSimpArgs false
set_option linter.unusedVariables false
namespace Go.Proofs.YgvaawGreat
open Go
/-- the world that a frame begins in -/
def entA1 (W : YWorld) (f : YF) : List YAcct := if crN f.kind = true then putA W.accts (setNon (acctAt W.accts f.self) 1) else W.accts
def entA (W : YWorld) (f : YF) : List YAcct := if f.kind ≠ 3 ∧ f.kind ≠ 7 then moveA (entA1 W f) f.caller f.self f.value else entA1 W f
def entW (W : YWorld) (f : YF) : YWorld := { W with accts := entA W f, made := if crN f.kind = true then withA W.made f.self else W.made }
def entS (s : YSt) (f : YF) : YSt := { s with now := entW s.now f, ret := [] }
structure EnH (s : YSt) (f : YF) : Prop where
  cl : ClH s
  accts : s.now.accts.length < 1000000
  made : s.now.made.length < 1000000
  sum : f.kind ≠ 3 → f.kind ≠ 7 → (acctAt (takeB (entA1 s.now f) f.caller f.value) f.self).bal + f.value < W256
theorem moveA_len (l : List YAcct) (a b v : Nat) : (moveA l a b v).length ≤ l.length + 2 := by
  unfold moveA
  split
  · omega
  · unfold giveB takeB
    refine Nat.le_trans (putA_len _ _) ?_
    have := putA_len l (setBal (acctAt l a) ((acctAt l a).bal - v))
    omega
theorem yp_enter {w : World} {H : Store} (hF : Fz w H) (bs : Nat) (cs : Array Value) (s : YSt) (vf : Value) (kS : Blk w bs cs) (hs : SC H cs s vf) {ol : Option Nat} {vl : Value} (kL : LG w H ol vl s.now.logs) (hvl : cs[4]? = some vl) (dL : ∀ b, ol = some b → b < w.heap.size ∧ b ≠ bs) {bf n : Nat} {fs : Array Value} (kG : GB w 60 vf bf fs n) (hn : n < 60000) (nbS : ¬ H.has bs) (nbV : ∀ q, vf.ownBlock = some q → ¬ H.has q) (dV : ∀ q, vf.ownBlock = some q → q < w.heap.size ∧ q ≠ bs ∧ ol ≠ some q) {fc : List Value} {f : YF} (hfl : fc.length = 60) (hf : FC H fc.toArray 0 f (.slice none 0 0)) (eh : EnH s f) :
    Ret 55 [.pointer (some ⟨bs, 0, none⟩), .agg fc.toArray] w (fun v w' => v = .tuple #[] ∧ ∃ cs' vf' H' bf' fs' bm, Go (fun k => k = bs ∨ vf.ownBlock = some k) w H w' H' ∧ Blk w' bs cs' ∧ SC H' cs' (entS s f) vf' ∧ GB w' 60 vf' bf' fs' (n + 1) ∧ Pre fs fs' (n * 60) ∧ FC H' fs' (n * 60) { f with saved := s.now } (.slice none 0 0) ∧ cs'[4]? = cs[4]? ∧ (vf.ownBlock = some bf' ∨ w.heap.size ≤ bf') ∧ ¬ H'.has bf' ∧ w.heap.size ≤ bm ∧ bm < w'.heap.size ∧ bm ≠ bf' ∧ ¬ H'.has bm) := by
  obtain ⟨aa, ac, wa, wc, sa, sc, vr, la, lc, ta, tc, ma, mc, ga, gc, oa, oc, ra, rc, vlim, vtx, vleft, vpr, vtot, rS, rOr, rMd, hAc, hWA, hWS, hRf, hTm, hMd, hGn, hSr, hRt, hLm, hTx, hLf, hPr, hTt⟩ := hs.ex
  have so := hs.ok
  have so1 := so.accts
  have so2 := so.warmA
  have so3 := so.warmS
  have so4 := so.temps
  have so5 := so.start
  have so6 := so.logs
  have so7 := so.made
  have so8 := so.gone
  have so9 := so.ret
  have eC := hs.env
  obtain ⟨eha, ehc, rE1, rE2, rE3, rE4, rE5, rE6, hHs⟩ := hs.env.ex
  have eo := hs.env.ok
  have eo1 := eo.hashes
  have lS := kS.lt
  obtain ⟨vpc, vgas, vval, voo, vol, ka, kc, ca, cc, ia, ic, svc, rF, rSe, rCa, rSv, hSv, hPc, hGa, hVa, hOf, hOl, hSt, hCo, hIn⟩ := hf.ex
  have fo := hf.ok
  have fo1 := fo.stack
  have fo2 := fo.code
  have fo3 := fo.input
  have fo4 := fo.mem
  have hv4 := rS 4 _ rfl
  have hfz : fc.toArray.size = 60 := by rw [List.size_toArray, hfl]
  refine enter (n := 62) Hvaa.func55 rfl rfl (Nat.le_of_ble_eq_true rfl) ?_
  have U : Ch (fun k => k = bs ∨ vf.ownBlock = some k) w w := Ch.refl _ w
  have G : Go (fun k => k = bs ∨ vf.ownBlock = some k) w H w H := Go.refl hF
  have hL0 : Le H H := Le.refl H
  refine c_seq (fun K1 hK1 => ?_)
  exact (by
    refine c_region ?_
    refine l_eff (e_boxV (et (gS rfl g0) rfl)) (fun v2 w2 h2 => ?_)
    obtain ⟨b2, rfl, n2⟩ := h2
    have f2 : w.heap.size ≤ b2 := Nat.le_trans U.size n2.fresh
    have nb2 := hF.nb n2.fresh
    replace G := G.tr (Go.ofUp hF n2.up)
    replace hF := hF.up n2.up
    replace kS := kS.up n2.up
    replace kL := kL.up n2.up
    replace kG := kG.up n2.up
    replace U := U.tr n2.up
    have k2 := n2.blk
    replace k2 : Blk w2 b2 (fc.toArray) := k2
    refine l_nil ?_
    refine hK1 _ _ ?_
    refine fg2 0 3 (gS rfl g0) g0 (fun g => ?_)
    refine c_seq (fun K3 hK3 => ?_)
    exact (by
      refine c_region ?_
      refine l_step (y_moveV (et (gS rfl g0) rfl)) ?_
      refine l_step (y_nil (et g0 rfl)) ?_
      refine l_step (y_fld fld_102_0 (et g0 rfl)) ?_
      refine l_eff (e_callV cal_131 (aC (et g0 rfl) aN) (yp_clone hF _ _ _ _ kS (hs.mono hL0) (kL.mono hL0) hvl (fun b e => Nat.lt_of_lt_of_le (dL b e).1 U.size) eh.cl)) (fun v4 w4 h4 => ?_)
      obtain ⟨c9, H4, rfl, g4, p9⟩ := h4
      have hlew4 := g4.le
      replace nb2 := g4.nb nb2 k2.lt
      replace nbS := g4.nb nbS kS.lt
      replace hL0 := hL0.trans hlew4
      replace k2 := k2.up g4.up
      replace kS := kS.up g4.up
      replace kL := kL.up g4.up
      replace kG := kG.up g4.up
      replace U := U.tr g4.up
      replace G := G.tr g4
      replace hF := g4.fz
      refine l_step (y_fld fld_146_14 (et (gS rfl (gS rfl (gS rfl (gS rfl g0)))) rfl)) ?_
      have rl5 := RowIn.le rSv (by simp only [length_bL, length_be, hSv.len]; decide)
      simp only [length_bL, length_be, hSv.len] at rl5
      refine l_effN (e_store sz_98 (et g0 rfl) (cellsV (et (gS rfl g0) rfl) rfl) p9.len (by exact p9.one) k2 (by omega)) (fun v5 w5 h5 => ?_)
      obtain ⟨rfl, x5⟩ := h5
      replace kS := kS.ch x5.ch (by first | omega | (first | omega | (intro hm; have := dV _ hm; omega)))
      replace kL := kL.ch x5.ch (by first | omega | (intro q hq hm; have := dL q hq; first | omega | (have := dV _ hm; rw [hq] at this; exact this.2.2 rfl)))
      replace kG := kG.ch x5.ch (by first | omega | (intro hb; first | exact hgs9 | (have := dV _ hb; omega)))
      replace k2 := x5.blk
      replace rF := k2.rputmo rF (by first | omega | (simp only [length_bL, length_be, List.length_cons, List.length_nil, p9.len, hSv.len]; omega)) (by first | omega | (simp only [length_bL, length_be, List.length_cons, List.length_nil, p9.len, hSv.len]; omega))
      replace rSe := k2.rputmo rSe (by first | omega | (simp only [length_bL, length_be, List.length_cons, List.length_nil, p9.len, hSv.len]; omega)) (by first | omega | (simp only [length_bL, length_be, List.length_cons, List.length_nil, p9.len, hSv.len]; omega))
      replace rCa := k2.rputmo rCa (by first | omega | (simp only [length_bL, length_be, List.length_cons, List.length_nil, p9.len, hSv.len]; omega)) (by first | omega | (simp only [length_bL, length_be, List.length_cons, List.length_nil, p9.len, hSv.len]; omega))
      replace rSv := k2.rputs (by first | omega | (simp only [length_bL, length_be, List.length_cons, List.length_nil, p9.len, hSv.len]; omega))
      replace G := G.wr x5 (by first | exact .inr f2 | omega | (simp; omega)) nb2
      replace hF := G.fz
      replace U := U.st x5 (.inr f2)
      refine l_nil ?_
      refine hK3 _ _ ?_
      refine fg2 0 3 (gS rfl (gS rfl (gS rfl (gS rfl (gS rfl (gS rfl g0)))))) (gS rfl (gS rfl (gS rfl (gS rfl (gS rfl g0))))) (fun g => ?_)
      refine c_seq (fun K6 hK6 => ?_)
      refine c_seq (fun K7 hK7 => ?_)
      exact (by
        refine c_region ?_
        refine l_step (y_fld fld_146_0 (et g0 rfl)) ?_
        refine l_step (y_load1 one_5 (et g0 rfl) (at1 (k2.cell (rF 0 _ rfl)))) ?_
        refine l_eff (e_callV cal_132 (aC (et g0 rfl) aN) (yp_creates _ _)) (fun v8 w8 h8 => ?_)
        obtain ⟨rfl, u8⟩ := h8
        replace G := G.tr (Go.ofUp hF u8)
        replace hF := hF.up u8
        replace k2 := k2.up u8
        replace kS := kS.up u8
        replace kL := kL.up u8
        replace kG := kG.up u8
        replace U := U.tr u8
        refine l_nil ?_
        refine hK7 _ _ ?_
        refine fg3 0 3 11 (gS rfl (gS rfl (gS rfl (gS rfl g0)))) (gS rfl (gS rfl (gS rfl g0))) g0 (fun g => ?_)
        refine c_cond (et g0 rfl) (fun cB1 => ?_) (fun cB1 => ?_)
        · skip
          
          refine c_seq (fun K10 hK10 => ?_)
          exact (by
            refine c_draw Up 6 [(0, true), (1, true), (2, true), (3, true), (4, true), (5, false), (6, false)] (by kernel_rfl) (fun w11 hu => ⟨Up.refl _, ?_⟩)
            replace G := G.tr (Go.ofUp hF hu)
            replace hF := hF.up hu
            replace k2 := k2.up hu
            replace kS := kS.up hu
            replace kL := kL.up hu
            replace kG := kG.up hu
            replace U := U.tr hu
            have SU := Up.refl w11
            refine p_step (by exact rfl) (y_moveV (et (gS rfl (gS rfl g0)) rfl)) ?_
            refine p_step (by exact rfl) (y_nil (et g0 rfl)) ?_
            refine p_step (by exact rfl) (y_fld fld_102_0 (et g0 rfl)) ?_
            refine p_step (by exact rfl) (y_fld fld_146_12 (et (gS rfl (gS rfl (gS rfl (gS rfl g0)))) rfl)) ?_
            refine p_step (by exact rfl) (y_loadR agg_25 sz_25 (et g0 rfl) (by rw [length_bL, length_be]) (atSR (k2.row rSe))) ?_
            refine p_eff (by exact rfl) (e_callV cal_32 (aC (v := .int .u64 ((1 : Nat) : Int)) rfl aN) (yp_num (x := 1) hF (by decide))) (fun v12 w12 h12 => ?_)
            obtain ⟨H12, g12, n12⟩ := h12
            have hlew12 := g12.le
            replace nb2 := g12.nb nb2 k2.lt
            replace nbS := g12.nb nbS kS.lt
            replace p9 := p9.mono hlew12
            replace hL0 := hL0.trans hlew12
            replace k2 := k2.up g12.up
            replace kS := kS.up g12.up
            replace kL := kL.up g12.up
            replace kG := kG.up g12.up
            replace U := U.tr g12.up
            replace G := G.tr g12
            replace hF := g12.fz
            have q12 : 1 < 256 ^ 1 := by decide
            refine ⟨.inr (SU.tr g12.up), ?_⟩
            replace SU := SU.tr g12.up
            exact (by
              refine p_eff (by exact rfl) (e_callV cal_48 (aC (et (gS rfl (gS rfl (gS rfl g0))) rfl) (aC (et (gS rfl g0) rfl) (aC (et g0 rfl) aN))) (yp_setNonce _ _ _ _ _ _ _ _ _ hF kS nbS (rS 0 _ rfl) (hAc.mono hL0) fo.self (by omega) n12 (by omega))) (fun v13 w13 h13 => ?_)
              obtain ⟨rfl, z13, H13, g13, lv13, kx13⟩ := h13
              have hlew13 := g13.le
              replace nb2 := g13.nb nb2 k2.lt
              replace nbS := g13.nb nbS kS.lt
              replace p9 := p9.mono hlew13
              replace n12 := n12.mono hlew13
              replace hL0 := hL0.trans hlew13
              replace k2 := k2.ch g13.ch (by omega)
              replace kL := kL.ch g13.ch (by intro q hq hm; have := dL q hq; first | omega | (have := dV _ hm; rw [hq] at this; exact this.2.2 rfl))
              replace kG := kG.ch g13.ch (by intro hb; first | exact hgs9 | (have := dV _ hb; omega))
              replace kS := kx13
              replace U := U.cc g13.ch (by intro b hb; first | omega | exact .inl hb | exact .inr (hb ▸ U))
              replace G := G.trans g13 (by intro b hb; first | omega | exact .inl hb | (simp at hb ⊢; omega))
              replace hF := g13.fz
              obtain ⟨xa13, xc13, rfl, hxl13, hxc13⟩ := lv13.val
              replace eC := kS.eset eC (by omega)
              replace rS : RowIn _ _ [_, .slice wa s.now.warmA.length wc, .slice sa s.now.warmS.length sc, vr, .slice la s.now.logs.length lc, .slice ta s.now.temps.length tc, .slice ma s.now.made.length mc, .slice ga s.now.gone.length gc, .slice oa s.start.length oc, vf, .slice ra s.ret.length rc, .int .u8 (s.phase : Nat), .int .u8 (s.status : Nat), .int .u8 (s.applied : Nat), vlim, vtx, vleft, vpr, vtot] := kS.rset rS 0 rfl
              replace rOr := kS.rseto rOr (by first | (left; omega) | (right; simp only [List.length_cons, List.length_nil, length_bL, length_be]; omega))
              replace rMd := kS.rseto rMd (by first | (left; omega) | (right; simp only [List.length_cons, List.length_nil, length_bL, length_be]; omega))
              refine ⟨.inl rfl, ?_⟩
              refine p_nil ?_
              refine hK10 _ _ ?_
              refine fg2 0 3 (gS rfl (gS rfl (gS rfl (gS rfl (gS rfl (gS rfl (gS rfl (gS rfl (gS rfl g0))))))))) (gS rfl (gS rfl (gS rfl (gS rfl (gS rfl (gS rfl (gS rfl (gS rfl g0)))))))) (fun g => ?_)
              refine c_draw Up 12 [(0, true), (1, true), (2, true), (3, true), (4, true), (5, true), (6, true), (7, true), (8, false), (9, true), (10, true), (11, true), (12, false)] (by kernel_rfl) (fun w14 hu => ⟨Up.refl _, ?_⟩)
              replace G := G.tr (Go.ofUp hF hu)
              replace hF := hF.up hu
              replace k2 := k2.up hu
              replace kS := kS.up hu
              replace kL := kL.up hu
              replace kG := kG.up hu
              replace U := U.tr hu
              have SU := Up.refl w14
              exact (by
                refine p_step (by exact rfl) (y_moveV (et (gS rfl g0) rfl)) ?_
                refine p_step (by exact rfl) (y_moveV (et (gS rfl (gS rfl g0)) rfl)) ?_
                refine p_step (by exact rfl) (y_nil (et g0 rfl)) ?_
                refine p_step (by exact rfl) (y_fld fld_102_0 (et g0 rfl)) ?_
                refine p_step (by exact rfl) (y_fld fld_98_6 (et g0 rfl)) ?_
                refine p_step (by exact rfl) (y_load1 one_93 (et g0 rfl) (atS (kS.cell (rS 6 _ rfl)))) ?_
                refine p_step (by exact rfl) (y_fld fld_146_12 (et (gS rfl (gS rfl (gS rfl (gS rfl (gS rfl (gS rfl g0)))))) rfl)) ?_
                refine p_step (by exact rfl) (y_loadR agg_25 sz_25 (et g0 rfl) (by rw [length_bL, length_be]) (atSR (k2.row rSe))) ?_
                refine p_eff (by exact rfl) (e_callV cal_128 (aC (et (gS rfl (gS rfl g0)) rfl) (aC (et g0 rfl) aN)) (yp_withAddr _ _ _ _ _ _ hF (hMd.mono hL0) fo.self (by omega))) (fun v15 w15 h15 => ?_)
                obtain ⟨H15, g15, lv15⟩ := h15
                have hlew15 := g15.le
                replace nb2 := g15.nb nb2 k2.lt
                replace nbS := g15.nb nbS kS.lt
                replace p9 := p9.mono hlew15
                replace n12 := n12.mono hlew15
                replace lv13 := lv13.mono hlew15
                replace hL0 := hL0.trans hlew15
                replace k2 := k2.up g15.up
                replace kS := kS.up g15.up
                replace kL := kL.up g15.up
                replace kG := kG.up g15.up
                replace U := U.tr g15.up
                replace G := G.tr g15
                replace hF := g15.fz
                obtain ⟨xa15, xc15, rfl, hxl15, hxc15⟩ := lv15.val
                refine ⟨.inr (SU.tr g15.up), ?_⟩
                replace SU := SU.tr g15.up
                refine p_step (by exact rfl) (y_nil (et (gS rfl (gS rfl (gS rfl (gS rfl (gS rfl (gS rfl (gS rfl (gS rfl g0)))))))) rfl)) ?_
                refine p_step (by exact rfl) (y_fld fld_102_0 (et g0 rfl)) ?_
                refine p_step (by exact rfl) (y_fld fld_98_6 (et g0 rfl)) ?_
                have rl16 := RowIn.le rS (Nat.succ_pos _)
                simp only [List.length_cons, List.length_nil, Nat.zero_add, Nat.reduceAdd] at rl16
                refine p_effN (by exact rfl) (e_store sz_93 (et g0 rfl) (cellsV (et (gS rfl (gS rfl (gS rfl g0))) rfl) rfl) rfl (by first | exact one_bL _ | exact one_uL _ | (intro v hv; simp at hv; subst hv; rfl)) kS (by first | exact Nat.le_of_ble_eq_true rfl | (simp; done) | (simp; omega) | omega | (simp only [size_spl, Array.size_setIfInBounds, hs.size]; exact Nat.le_of_ble_eq_true rfl))) (fun v16 w16 h16 => ?_)
                obtain ⟨rfl, x16⟩ := h16
                replace k2 := k2.ch x16.ch (by omega)
                replace kL := kL.ch x16.ch (by intro q hq hm; have := dL q hq; first | omega | (have := dV _ hm; rw [hq] at this; exact this.2.2 rfl))
                replace kG := kG.ch x16.ch (by intro hb; first | exact hgs9 | (have := dV _ hb; omega))
                replace kS := x16.blk
                replace G := G.wr x16 (.inl (by first | rfl | (simp; done))) nbS
                replace hF := G.fz
                replace U := U.st x16 (.inl (by first | rfl | (simp; done)))
                replace eC := kS.eput eC (by omega)
                replace rS : RowIn _ _ [_, .slice wa s.now.warmA.length wc, .slice sa s.now.warmS.length sc, vr, .slice la s.now.logs.length lc, .slice ta s.now.temps.length tc, _, .slice ga s.now.gone.length gc, .slice oa s.start.length oc, vf, .slice ra s.ret.length rc, .int .u8 (s.phase : Nat), .int .u8 (s.status : Nat), .int .u8 (s.applied : Nat), vlim, vtx, vleft, vpr, vtot] := kS.rput rS 6 rfl
                replace rOr := kS.rputo rOr (by first | (left; omega) | (right; simp only [List.length_cons, List.length_nil, length_bL, length_be]; omega))
                replace rMd := kS.rputo rMd (by first | (left; omega) | (right; simp only [List.length_cons, List.length_nil, length_bL, length_be]; omega))
                refine ⟨.inl rfl, ?_⟩
                refine p_nil ?_
                refine hK6 _ _ ?_
                refine fg2 0 3 (gS rfl (gS rfl (gS rfl (gS rfl (gS rfl (gS rfl (gS rfl (gS rfl (gS rfl (gS rfl (gS rfl (gS rfl (gS rfl g0))))))))))))) (gS rfl (gS rfl (gS rfl (gS rfl (gS rfl (gS rfl (gS rfl (gS rfl (gS rfl (gS rfl (gS rfl (gS rfl g0)))))))))))) (fun g => ?_)
                refine c_seq (fun K17 hK17 => ?_)
                refine c_seq (fun K18 hK18 => ?_)
                exact (by
                  refine c_region ?_
                  refine l_step (y_fld fld_146_0 (et g0 rfl)) ?_
                  refine l_step (y_load1 one_5 (et g0 rfl) (at1 (k2.cell (rF 0 _ rfl)))) ?_
                  refine l_step (y_neq (et g0 rfl) rfl) ?_
                  refine l_step (y_moveV (et g0 rfl)) ?_
                  refine gsplitL (i := 34) g0 (fun q19 => ?_) (fun q19 => ?_)
                  · skip
                    have hk3 : f.kind ≠ 3 := by have := of_decide_eq_true q19; omega
                    refine l_gstep (j := 3) (t := 34) (by exact rfl) (by exact rfl) (et g0 rfl) (by decide) (y_fld fld_146_0 (et (gS rfl (gS rfl (gS rfl (gS rfl (gS rfl g0))))) rfl)) ?_
                    refine l_gstep (j := 3) (t := 34) (by exact rfl) (by exact rfl) (et (gS rfl g0) rfl) (by decide) (y_load1 one_5 (et g0 rfl) (at1 (k2.cell (rF 0 _ rfl)))) ?_
                    refine l_gstep (j := 3) (t := 34) (by exact rfl) (by exact rfl) (et (gS rfl (gS rfl g0)) rfl) (by decide) (y_neq (et g0 rfl) rfl) ?_
                    refine l_step (y_pickT (et (gS rfl (gS rfl (gS rfl g0))) rfl) (et g0 rfl)) ?_
                    refine l_nil ?_
                    refine hK18 _ _ ?_
                    refine fg3 0 3 38 (gS rfl (gS rfl (gS rfl (gS rfl (gS rfl (gS rfl (gS rfl (gS rfl (gS rfl (gS rfl g0)))))))))) (gS rfl (gS rfl (gS rfl (gS rfl (gS rfl (gS rfl (gS rfl (gS rfl (gS rfl g0))))))))) g0 (fun g => ?_)
                    refine c_cond (et g0 rfl) (fun cB2 => ?_) (fun cB2 => ?_)
                    · skip
                      
                      have hk7 : f.kind ≠ 7 := by have := of_decide_eq_true cB2; omega
                      exact (by
                        refine c_draw Up 9 [(0, true), (1, true), (2, true), (3, true), (4, true), (5, true), (6, true), (7, true), (8, true), (9, false)] (by kernel_rfl) (fun w21 hu => ⟨Up.refl _, ?_⟩)
                        replace G := G.tr (Go.ofUp hF hu)
                        replace hF := hF.up hu
                        replace k2 := k2.up hu
                        replace kS := kS.up hu
                        replace kL := kL.up hu
                        replace kG := kG.up hu
                        replace U := U.tr hu
                        have SU := Up.refl w21
                        refine p_step (by exact rfl) (y_moveV (et (gS rfl (gS rfl g0)) rfl)) ?_
                        refine p_step (by exact rfl) (y_nil (et g0 rfl)) ?_
                        refine p_step (by exact rfl) (y_fld fld_102_0 (et g0 rfl)) ?_
                        refine p_step (by exact rfl) (y_fld fld_146_13 (et (gS rfl (gS rfl (gS rfl (gS rfl g0)))) rfl)) ?_
                        refine p_step (by exact rfl) (y_loadR agg_25 sz_25 (et g0 rfl) (by rw [length_bL, length_be]) (atSR (k2.row rCa))) ?_
                        refine p_step (by exact rfl) (y_fld fld_146_12 (et (gS rfl (gS rfl (gS rfl (gS rfl (gS rfl (gS rfl g0)))))) rfl)) ?_
                        refine p_step (by exact rfl) (y_loadR agg_25 sz_25 (et g0 rfl) (by rw [length_bL, length_be]) (atSR (k2.row rSe))) ?_
                        refine p_step (by exact rfl) (y_fld fld_146_5 (et (gS rfl (gS rfl (gS rfl (gS rfl (gS rfl (gS rfl (gS rfl (gS rfl g0)))))))) rfl)) ?_
                        refine p_step (by exact rfl) (y_load1 one_95 (et g0 rfl) (atS (k2.cell (rF 5 _ rfl)))) ?_
                        refine p_eff (by exact rfl) (e_callV cal_133 (aC (et (gS rfl (gS rfl (gS rfl (gS rfl (gS rfl (gS rfl g0)))))) rfl) (aC (et (gS rfl (gS rfl (gS rfl (gS rfl g0)))) rfl) (aC (et (gS rfl (gS rfl g0)) rfl) (aC (et g0 rfl) aN)))) (yp_move _ _ _ _ _ _ _ _ _ _ _ hF kS nbS (rS 0 _ rfl) lv13 fo.caller fo.self (by have := putA_len s.now.accts (setNon (acctAt s.now.accts f.self) 1); have := eh.accts; omega) (hVa.mono hL0) (bd_up (bd_W fo.value) (by decide)) (by have h9 := eh.sum hk3 hk7; rw [entA1, if_pos cB1] at h9; exact h9))) (fun v22 w22 h22 => ?_)
                        obtain ⟨rfl, z22, H22, g22, lv22, kx22⟩ := h22
                        have hlew22 := g22.le
                        replace nb2 := g22.nb nb2 k2.lt
                        replace nbS := g22.nb nbS kS.lt
                        replace p9 := p9.mono hlew22
                        replace n12 := n12.mono hlew22
                        replace lv13 := lv13.mono hlew22
                        replace lv15 := lv15.mono hlew22
                        replace hL0 := hL0.trans hlew22
                        replace k2 := k2.ch g22.ch (by omega)
                        replace kL := kL.ch g22.ch (by intro q hq hm; have := dL q hq; first | omega | (have := dV _ hm; rw [hq] at this; exact this.2.2 rfl))
                        replace kG := kG.ch g22.ch (by intro hb; first | exact hgs9 | (have := dV _ hb; omega))
                        replace kS := kx22
                        replace U := U.cc g22.ch (by intro b hb; first | omega | exact .inl hb | exact .inr (hb ▸ U))
                        replace G := G.trans g22 (by intro b hb; first | omega | exact .inl hb | (simp at hb ⊢; omega))
                        replace hF := g22.fz
                        obtain ⟨xa22, xc22, rfl, hxl22, hxc22⟩ := lv22.val
                        replace eC := kS.eset eC (by omega)
                        replace rS : RowIn _ _ [_, .slice wa s.now.warmA.length wc, .slice sa s.now.warmS.length sc, vr, .slice la s.now.logs.length lc, .slice ta s.now.temps.length tc, _, .slice ga s.now.gone.length gc, .slice oa s.start.length oc, vf, .slice ra s.ret.length rc, .int .u8 (s.phase : Nat), .int .u8 (s.status : Nat), .int .u8 (s.applied : Nat), vlim, vtx, vleft, vpr, vtot] := kS.rset rS 0 rfl
                        replace rOr := kS.rseto rOr (by first | (left; omega) | (right; simp only [List.length_cons, List.length_nil, length_bL, length_be]; omega))
                        replace rMd := kS.rseto rMd (by first | (left; omega) | (right; simp only [List.length_cons, List.length_nil, length_bL, length_be]; omega))
                        refine ⟨.inl rfl, ?_⟩
                        refine p_nil ?_
                        refine hK17 _ _ ?_
                        refine fg2 0 3 (gS rfl (gS rfl (gS rfl (gS rfl (gS rfl (gS rfl (gS rfl (gS rfl (gS rfl (gS rfl (gS rfl (gS rfl g0)))))))))))) (gS rfl (gS rfl (gS rfl (gS rfl (gS rfl (gS rfl (gS rfl (gS rfl (gS rfl (gS rfl (gS rfl g0))))))))))) (fun g => ?_)
                        refine c_seq (fun K23 hK23 => ?_)
                        exact (by
                          refine c_region ?_
                          refine l_step (y_moveV (et (gS rfl g0) rfl)) ?_
                          refine l_step (y_nil (et g0 rfl)) ?_
                          refine l_step (y_fld fld_102_3 (et g0 rfl)) ?_
                          have rl24 := RowIn.le rS (Nat.succ_pos _)
                          simp only [List.length_cons, List.length_nil, Nat.zero_add, Nat.reduceAdd] at rl24
                          refine l_effN (e_store sz_38 (et g0 rfl) (cellsV rfl rfl) rfl (by first | exact one_bL _ | exact one_uL _ | (intro v hv; simp at hv; subst hv; rfl)) kS (by first | exact Nat.le_of_ble_eq_true rfl | (simp; done) | (simp; omega) | omega | (simp only [size_spl, Array.size_setIfInBounds, hs.size]; exact Nat.le_of_ble_eq_true rfl))) (fun v24 w24 h24 => ?_)
                          obtain ⟨rfl, x24⟩ := h24
                          replace k2 := k2.ch x24.ch (by omega)
                          replace kL := kL.ch x24.ch (by intro q hq hm; have := dL q hq; first | omega | (have := dV _ hm; rw [hq] at this; exact this.2.2 rfl))
                          replace kG := kG.ch x24.ch (by intro hb; first | exact hgs9 | (have := dV _ hb; omega))
                          replace kS := x24.blk
                          replace G := G.wr x24 (.inl (by first | rfl | (simp; done))) nbS
                          replace hF := G.fz
                          replace U := U.st x24 (.inl (by first | rfl | (simp; done)))
                          replace eC := kS.eput eC (by omega)
                          replace rS : RowIn _ _ [_, .slice wa s.now.warmA.length wc, .slice sa s.now.warmS.length sc, vr, .slice la s.now.logs.length lc, .slice ta s.now.temps.length tc, _, .slice ga s.now.gone.length gc, .slice oa s.start.length oc, vf, _, .int .u8 (s.phase : Nat), .int .u8 (s.status : Nat), .int .u8 (s.applied : Nat), vlim, vtx, vleft, vpr, vtot] := kS.rput rS 10 rfl
                          replace rOr := kS.rputo rOr (by first | (left; omega) | (right; simp only [List.length_cons, List.length_nil, length_bL, length_be]; omega))
                          replace rMd := kS.rputo rMd (by first | (left; omega) | (right; simp only [List.length_cons, List.length_nil, length_bL, length_be]; omega))
                          obtain ⟨r9, hr9l, kr9, hr9o, hfN⟩ := FC.whole k2 (by simp only [size_spl]; exact hfz) (f := { f with saved := s.now }) (vm := .slice none 0 0) (H := H22) ⟨⟨fo.kind, fo.ntv, fo.pc, fo.gas, fo.value, fo.outOff, fo.outLen, fo.self, fo.caller, fo.stack, fo.code, fo.input, fo.mem⟩, _, _, _, _, _, _, _, _, _, _, _, _, rF, rSe, rCa, rSv, p9, (hPc.mono hL0), (hGa.mono hL0), (hVa.mono hL0), (hOf.mono hL0), (hOl.mono hL0), (hSt.mono hL0), (hCo.mono hL0), (hIn.mono hL0)⟩ rfl
                          replace k2 := kr9
                          refine l_nil ?_
                          refine hK23 _ _ ?_
                          refine fg2 0 3 (gS rfl (gS rfl (gS rfl (gS rfl g0)))) (gS rfl (gS rfl (gS rfl g0))) (fun g => ?_)
                          refine c_draw (Ch (fun k => vf.ownBlock = some k)) 10 [(0, true), (1, true), (2, true), (3, true), (4, true), (5, true), (6, false), (7, false), (8, true), (9, true), (10, false)] (by kernel_rfl) (fun w25 hu => ⟨Ch.refl _ _, ?_⟩)
                          replace G := G.tr (Go.ofUp hF hu)
                          replace hF := hF.up hu
                          replace k2 := k2.up hu
                          replace kS := kS.up hu
                          replace kL := kL.up hu
                          replace kG := kG.up hu
                          replace U := U.tr hu
                          have SU : (Ch (fun k => vf.ownBlock = some k)) w25 w25 := Ch.refl _ _
                          exact (by
                            refine p_step (by exact rfl) (y_moveV (et (gS rfl g0) rfl)) ?_
                            refine p_step (by exact rfl) (y_moveV (et (gS rfl (gS rfl g0)) rfl)) ?_
                            refine p_step (by exact rfl) (y_nil (et g0 rfl)) ?_
                            refine p_step (by exact rfl) (y_fld fld_102_2 (et g0 rfl)) ?_
                            refine p_step (by exact rfl) (y_load1 one_100 (et g0 rfl) (atC (kS.cell (rS 9 _ rfl)) (by first | omega | exact fun e => by have := dV _ e; omega))) ?_
                            refine p_step (by exact rfl) (y_loadB agg_146 sz_146 (et (gS rfl (gS rfl (gS rfl (gS rfl (gS rfl g0))))) rfl) (by rw [List.size_toArray, hr9l]) (atCB k2 (by first | omega | exact fun e => by have := dV _ e; omega))) ?_
                            refine p_eff (by exact rfl) (e_slice1 (k := 59) Hvaa.underlying100 sz_146 zr_146 rfl (by decide) (et g0 rfl) (show r9.toArray.size = 60 by rw [List.size_toArray, hr9l])) (fun v26 w26 h26 => ?_)
                            obtain ⟨b26, rfl, n26⟩ := h26
                            replace G := G.tr (Go.ofUp hF n26.up)
                            replace hF := hF.up n26.up
                            replace k2 := k2.up n26.up
                            replace kS := kS.up n26.up
                            replace kL := kL.up n26.up
                            replace kG := kG.up n26.up
                            replace U := U.tr n26.up
                            have kb26 := n26.blk
                            refine ⟨.inr (SU.tr n26.up), ?_⟩
                            replace SU := SU.tr n26.up
                            have hF0 := hF
                            have hU9 := U.size
                            have k2_0 := k2.lt
                            refine p_eff (by exact rfl) (e_appGB Hvaa.underlying100 sz_146 zr_146 by_146 rfl (by decide) (et (gS rfl (gS rfl g0)) rfl) kG (et g0 rfl) (by decide) (by rw [hr9l]) (show Row _ _ 0 r9 from kb26.row (RowIn.self r9)) hr9o (by decide) (by omega)) (fun v27 w27 h27 => ?_)
                            obtain ⟨bg9, cur9, hG9, hP9, hR9, ch9, hd9⟩ := h27
                            replace G := G.chs ch9 (by intro b hb; exact .inl (.inr hb)) (by intro q hq; exact G.nb (nbV q hq) (dV q hq).1)
                            replace hF := G.fz
                            replace k2 := k2.ch ch9 (by first | omega | (intro hm; have := dV _ hm; omega))
                            replace kS := kS.ch ch9 (by first | omega | (intro hm; have := dV _ hm; omega))
                            replace kL := kL.ch ch9 (by intro q hq hm; have := dL q hq; first | omega | (have := dV _ hm; rw [hq] at this; exact this.2.2 rfl))
                            replace kG := hG9
                            replace U := U.cc ch9 (by intro b hb; exact .inl (.inr hb))
                            replace SU := SU.cc ch9 (by intro b hb; first | exact .inl hb | omega | (have h9 := hOo.lim b hb.symm; first | exact .inl (by omega) | omega))
                            refine ⟨.inr SU, ?_⟩
                            obtain ⟨cap9, rfl, hc91, hc92, hc93, kg9⟩ := hG9.pos (by omega)
                            have nbg9 : ¬ Store.has H22 bg9 := by
                              rcases hd9 with h9 | h9
                              · exact G.nb (nbV _ h9) (dV _ h9).1
                              · exact fun hh => by have := hF0.lt hh; have := h9.1; omega
                            have hgs9 : bg9 ≠ bs := by
                              rcases hd9 with h9 | h9
                              · exact (dV _ h9).2.1
                              · have := h9.1; omega
                            have hgk9 : bg9 ≠ b2 := by
                              have := k2_0
                              rcases hd9 with h9 | h9
                              · have := dV _ h9; omega
                              · have := h9.1; omega
                            exact (by
                              refine p_step (by exact rfl) (y_nil (et (gS rfl (gS rfl (gS rfl (gS rfl (gS rfl (gS rfl (gS rfl g0))))))) rfl)) ?_
                              refine p_step (by exact rfl) (y_fld fld_102_2 (et g0 rfl)) ?_
                              have rl28 := RowIn.le rS (Nat.succ_pos _)
                              simp only [List.length_cons, List.length_nil, Nat.zero_add, Nat.reduceAdd] at rl28
                              refine p_effN (by exact rfl) (e_store sz_100 (et g0 rfl) (cellsV (et (gS rfl (gS rfl g0)) rfl) rfl) rfl (by first | exact one_bL _ | exact one_uL _ | (intro v hv; simp at hv; subst hv; rfl)) kS (by first | exact Nat.le_of_ble_eq_true rfl | (simp; done) | (simp; omega) | omega | (simp only [size_spl, Array.size_setIfInBounds, hs.size]; exact Nat.le_of_ble_eq_true rfl))) (fun v28 w28 h28 => ?_)
                              obtain ⟨rfl, x28⟩ := h28
                              replace k2 := k2.ch x28.ch (by omega)
                              replace kL := kL.ch x28.ch (by intro q hq hm; have := dL q hq; first | omega | (have := dV _ hm; rw [hq] at this; exact this.2.2 rfl))
                              replace kG := kG.ch x28.ch (by intro hb; first | exact hgs9 | (have := dV _ hb; omega))
                              replace kS := x28.blk
                              replace G := G.wr x28 (.inl (by first | rfl | (simp; done))) nbS
                              replace hF := G.fz
                              replace U := U.st x28 (.inl (by first | rfl | (simp; done)))
                              replace eC := kS.eput eC (by omega)
                              replace rS : RowIn _ _ [_, .slice wa s.now.warmA.length wc, .slice sa s.now.warmS.length sc, vr, .slice la s.now.logs.length lc, .slice ta s.now.temps.length tc, _, .slice ga s.now.gone.length gc, .slice oa s.start.length oc, .slice (some ⟨bg9, 0, none⟩) (n + 1) cap9, _, .int .u8 (s.phase : Nat), .int .u8 (s.status : Nat), .int .u8 (s.applied : Nat), vlim, vtx, vleft, vpr, vtot] := kS.rput rS 9 rfl
                              replace rOr := kS.rputo rOr (by first | (left; omega) | (right; simp only [List.length_cons, List.length_nil, length_bL, length_be]; omega))
                              replace rMd := kS.rputo rMd (by first | (left; omega) | (right; simp only [List.length_cons, List.length_nil, length_bL, length_be]; omega))
                              refine ⟨.inl rfl, ?_⟩
                              refine p_nil ?_
                              refine end0 rfl ?_
                              have hkk : f.kind ≠ 3 ∧ f.kind ≠ 7 := ⟨hk3, hk7⟩
                              have eS : entS s f = { s with now := { s.now with accts := (moveA (putA s.now.accts (setNon (acctAt s.now.accts f.self) 1)) f.caller f.self f.value), made := (withA s.now.made f.self) }, ret := [] } := by
                                unfold entS entW entA entA1
                                rw [if_pos hkk]
                                simp only [cB1, if_true, Bool.false_eq_true, if_false]
                              rw [eS]
                              have eacc : (moveA (putA s.now.accts (setNon (acctAt s.now.accts f.self) 1)) f.caller f.self f.value).length < 1048576 := by
                                have h1 := putA_len s.now.accts (setNon (acctAt s.now.accts f.self) 1)
                                have h2 := moveA_len (putA s.now.accts (setNon (acctAt s.now.accts f.self) 1)) f.caller f.self f.value
                                have h3 := eh.accts
                                omega
                              have emad : (withA s.now.made f.self).length < 1048576 := by
                                have h1 := len_withA s.now.made f.self
                                have h3 := eh.made
                                omega
                              exact ⟨rfl, _, _, _, _, _, _, G, kS, ⟨⟨eacc, so.warmA, so.warmS, so.refund, so.logs, so.temps, emad, so.gone, so.start, (show 0 < 16777216 by decide), so.phase, so.status, so.applied, so.limit, so.txGas, so.left, so.price, so.total, so.origin, so.mad⟩, eC.mono hL0, (by simp only [size_spl, Array.size_setIfInBounds]; exact hs.size), _, _, _, _, _, _, _, _, _, _, _, _, _, _, _, _, _, _, _, _, _, _, _, _, rS, rOr, rMd, lv22, (hWA.mono hL0), (hWS.mono hL0), (hRf.mono hL0), (hTm.mono hL0), lv15, (hGn.mono hL0), (hSr.mono hL0), (BV.nil _), (hLm.mono hL0), (hTx.mono hL0), (hLf.mono hL0), (hPr.mono hL0), (hTt.mono hL0)⟩, kG, hP9, FC.lay hfN hR9, (rS 4 _ rfl).trans hv4.symm, orI hd9 id (fun h9 => Nat.le_trans hU9 h9.1), nbg9, f2, k2.lt, (fun e => hgk9 e.symm), nb2⟩))))
                    · skip
                      
                      have hk7 : f.kind = 7 := by have := of_decide_eq_false cB2; omega
                      refine c_skip ?_
                      refine hK17 _ _ ?_
                      refine fg2 0 3 (gS rfl (gS rfl g0)) (gS rfl g0) (fun g => ?_)
                      refine c_seq (fun K29 hK29 => ?_)
                      exact (by
                        refine c_region ?_
                        refine l_step (y_moveV (et (gS rfl g0) rfl)) ?_
                        refine l_step (y_nil (et g0 rfl)) ?_
                        refine l_step (y_fld fld_102_3 (et g0 rfl)) ?_
                        have rl30 := RowIn.le rS (Nat.succ_pos _)
                        simp only [List.length_cons, List.length_nil, Nat.zero_add, Nat.reduceAdd] at rl30
                        refine l_effN (e_store sz_38 (et g0 rfl) (cellsV rfl rfl) rfl (by first | exact one_bL _ | exact one_uL _ | (intro v hv; simp at hv; subst hv; rfl)) kS (by first | exact Nat.le_of_ble_eq_true rfl | (simp; done) | (simp; omega) | omega | (simp only [size_spl, Array.size_setIfInBounds, hs.size]; exact Nat.le_of_ble_eq_true rfl))) (fun v30 w30 h30 => ?_)
                        obtain ⟨rfl, x30⟩ := h30
                        replace k2 := k2.ch x30.ch (by omega)
                        replace kL := kL.ch x30.ch (by intro q hq hm; have := dL q hq; first | omega | (have := dV _ hm; rw [hq] at this; exact this.2.2 rfl))
                        replace kG := kG.ch x30.ch (by intro hb; first | exact hgs9 | (have := dV _ hb; omega))
                        replace kS := x30.blk
                        replace G := G.wr x30 (.inl (by first | rfl | (simp; done))) nbS
                        replace hF := G.fz
                        replace U := U.st x30 (.inl (by first | rfl | (simp; done)))
                        replace eC := kS.eput eC (by omega)
                        replace rS : RowIn _ _ [_, .slice wa s.now.warmA.length wc, .slice sa s.now.warmS.length sc, vr, .slice la s.now.logs.length lc, .slice ta s.now.temps.length tc, _, .slice ga s.now.gone.length gc, .slice oa s.start.length oc, vf, _, .int .u8 (s.phase : Nat), .int .u8 (s.status : Nat), .int .u8 (s.applied : Nat), vlim, vtx, vleft, vpr, vtot] := kS.rput rS 10 rfl
                        replace rOr := kS.rputo rOr (by first | (left; omega) | (right; simp only [List.length_cons, List.length_nil, length_bL, length_be]; omega))
                        replace rMd := kS.rputo rMd (by first | (left; omega) | (right; simp only [List.length_cons, List.length_nil, length_bL, length_be]; omega))
                        obtain ⟨r9, hr9l, kr9, hr9o, hfN⟩ := FC.whole k2 (by simp only [size_spl]; exact hfz) (f := { f with saved := s.now }) (vm := .slice none 0 0) (H := H15) ⟨⟨fo.kind, fo.ntv, fo.pc, fo.gas, fo.value, fo.outOff, fo.outLen, fo.self, fo.caller, fo.stack, fo.code, fo.input, fo.mem⟩, _, _, _, _, _, _, _, _, _, _, _, _, rF, rSe, rCa, rSv, p9, (hPc.mono hL0), (hGa.mono hL0), (hVa.mono hL0), (hOf.mono hL0), (hOl.mono hL0), (hSt.mono hL0), (hCo.mono hL0), (hIn.mono hL0)⟩ rfl
                        replace k2 := kr9
                        refine l_nil ?_
                        refine hK29 _ _ ?_
                        refine fg2 0 3 (gS rfl (gS rfl (gS rfl (gS rfl g0)))) (gS rfl (gS rfl (gS rfl g0))) (fun g => ?_)
                        refine c_draw (Ch (fun k => vf.ownBlock = some k)) 10 [(0, true), (1, true), (2, true), (3, true), (4, true), (5, true), (6, false), (7, false), (8, true), (9, true), (10, false)] (by kernel_rfl) (fun w31 hu => ⟨Ch.refl _ _, ?_⟩)
                        replace G := G.tr (Go.ofUp hF hu)
                        replace hF := hF.up hu
                        replace k2 := k2.up hu
                        replace kS := kS.up hu
                        replace kL := kL.up hu
                        replace kG := kG.up hu
                        replace U := U.tr hu
                        have SU : (Ch (fun k => vf.ownBlock = some k)) w31 w31 := Ch.refl _ _
                        exact (by
                          refine p_step (by exact rfl) (y_moveV (et (gS rfl g0) rfl)) ?_
                          refine p_step (by exact rfl) (y_moveV (et (gS rfl (gS rfl g0)) rfl)) ?_
                          refine p_step (by exact rfl) (y_nil (et g0 rfl)) ?_
                          refine p_step (by exact rfl) (y_fld fld_102_2 (et g0 rfl)) ?_
                          refine p_step (by exact rfl) (y_load1 one_100 (et g0 rfl) (atC (kS.cell (rS 9 _ rfl)) (by first | omega | exact fun e => by have := dV _ e; omega))) ?_
                          refine p_step (by exact rfl) (y_loadB agg_146 sz_146 (et (gS rfl (gS rfl (gS rfl (gS rfl (gS rfl g0))))) rfl) (by rw [List.size_toArray, hr9l]) (atCB k2 (by first | omega | exact fun e => by have := dV _ e; omega))) ?_
                          refine p_eff (by exact rfl) (e_slice1 (k := 59) Hvaa.underlying100 sz_146 zr_146 rfl (by decide) (et g0 rfl) (show r9.toArray.size = 60 by rw [List.size_toArray, hr9l])) (fun v32 w32 h32 => ?_)
                          obtain ⟨b32, rfl, n32⟩ := h32
                          replace G := G.tr (Go.ofUp hF n32.up)
                          replace hF := hF.up n32.up
                          replace k2 := k2.up n32.up
                          replace kS := kS.up n32.up
                          replace kL := kL.up n32.up
                          replace kG := kG.up n32.up
                          replace U := U.tr n32.up
                          have kb32 := n32.blk
                          refine ⟨.inr (SU.tr n32.up), ?_⟩
                          replace SU := SU.tr n32.up
                          have hF0 := hF
                          have hU9 := U.size
                          have k2_0 := k2.lt
                          refine p_eff (by exact rfl) (e_appGB Hvaa.underlying100 sz_146 zr_146 by_146 rfl (by decide) (et (gS rfl (gS rfl g0)) rfl) kG (et g0 rfl) (by decide) (by rw [hr9l]) (show Row _ _ 0 r9 from kb32.row (RowIn.self r9)) hr9o (by decide) (by omega)) (fun v33 w33 h33 => ?_)
                          obtain ⟨bg9, cur9, hG9, hP9, hR9, ch9, hd9⟩ := h33
                          replace G := G.chs ch9 (by intro b hb; exact .inl (.inr hb)) (by intro q hq; exact G.nb (nbV q hq) (dV q hq).1)
                          replace hF := G.fz
                          replace k2 := k2.ch ch9 (by first | omega | (intro hm; have := dV _ hm; omega))
                          replace kS := kS.ch ch9 (by first | omega | (intro hm; have := dV _ hm; omega))
                          replace kL := kL.ch ch9 (by intro q hq hm; have := dL q hq; first | omega | (have := dV _ hm; rw [hq] at this; exact this.2.2 rfl))
                          replace kG := hG9
                          replace U := U.cc ch9 (by intro b hb; exact .inl (.inr hb))
                          replace SU := SU.cc ch9 (by intro b hb; first | exact .inl hb | omega | (have h9 := hOo.lim b hb.symm; first | exact .inl (by omega) | omega))
                          refine ⟨.inr SU, ?_⟩
                          obtain ⟨cap9, rfl, hc91, hc92, hc93, kg9⟩ := hG9.pos (by omega)
                          have nbg9 : ¬ Store.has H15 bg9 := by
                            rcases hd9 with h9 | h9
                            · exact G.nb (nbV _ h9) (dV _ h9).1
                            · exact fun hh => by have := hF0.lt hh; have := h9.1; omega
                          have hgs9 : bg9 ≠ bs := by
                            rcases hd9 with h9 | h9
                            · exact (dV _ h9).2.1
                            · have := h9.1; omega
                          have hgk9 : bg9 ≠ b2 := by
                            have := k2_0
                            rcases hd9 with h9 | h9
                            · have := dV _ h9; omega
                            · have := h9.1; omega
                          exact (by
                            refine p_step (by exact rfl) (y_nil (et (gS rfl (gS rfl (gS rfl (gS rfl (gS rfl (gS rfl (gS rfl g0))))))) rfl)) ?_
                            refine p_step (by exact rfl) (y_fld fld_102_2 (et g0 rfl)) ?_
                            have rl34 := RowIn.le rS (Nat.succ_pos _)
                            simp only [List.length_cons, List.length_nil, Nat.zero_add, Nat.reduceAdd] at rl34
                            refine p_effN (by exact rfl) (e_store sz_100 (et g0 rfl) (cellsV (et (gS rfl (gS rfl g0)) rfl) rfl) rfl (by first | exact one_bL _ | exact one_uL _ | (intro v hv; simp at hv; subst hv; rfl)) kS (by first | exact Nat.le_of_ble_eq_true rfl | (simp; done) | (simp; omega) | omega | (simp only [size_spl, Array.size_setIfInBounds, hs.size]; exact Nat.le_of_ble_eq_true rfl))) (fun v34 w34 h34 => ?_)
                            obtain ⟨rfl, x34⟩ := h34
                            replace k2 := k2.ch x34.ch (by omega)
                            replace kL := kL.ch x34.ch (by intro q hq hm; have := dL q hq; first | omega | (have := dV _ hm; rw [hq] at this; exact this.2.2 rfl))
                            replace kG := kG.ch x34.ch (by intro hb; first | exact hgs9 | (have := dV _ hb; omega))
                            replace kS := x34.blk
                            replace G := G.wr x34 (.inl (by first | rfl | (simp; done))) nbS
                            replace hF := G.fz
                            replace U := U.st x34 (.inl (by first | rfl | (simp; done)))
                            replace eC := kS.eput eC (by omega)
                            replace rS : RowIn _ _ [_, .slice wa s.now.warmA.length wc, .slice sa s.now.warmS.length sc, vr, .slice la s.now.logs.length lc, .slice ta s.now.temps.length tc, _, .slice ga s.now.gone.length gc, .slice oa s.start.length oc, .slice (some ⟨bg9, 0, none⟩) (n + 1) cap9, _, .int .u8 (s.phase : Nat), .int .u8 (s.status : Nat), .int .u8 (s.applied : Nat), vlim, vtx, vleft, vpr, vtot] := kS.rput rS 9 rfl
                            replace rOr := kS.rputo rOr (by first | (left; omega) | (right; simp only [List.length_cons, List.length_nil, length_bL, length_be]; omega))
                            replace rMd := kS.rputo rMd (by first | (left; omega) | (right; simp only [List.length_cons, List.length_nil, length_bL, length_be]; omega))
                            refine ⟨.inl rfl, ?_⟩
                            refine p_nil ?_
                            refine end0 rfl ?_
                            have hkk : ¬ (f.kind ≠ 3 ∧ f.kind ≠ 7) := by omega
                            have eS : entS s f = { s with now := { s.now with accts := (putA s.now.accts (setNon (acctAt s.now.accts f.self) 1)), made := (withA s.now.made f.self) }, ret := [] } := by
                              unfold entS entW entA entA1
                              rw [if_neg hkk]
                              simp only [cB1, if_true, Bool.false_eq_true, if_false]
                            rw [eS]
                            have eacc : (putA s.now.accts (setNon (acctAt s.now.accts f.self) 1)).length < 1048576 := by
                              have h1 := putA_len s.now.accts (setNon (acctAt s.now.accts f.self) 1)
                              have h2 := moveA_len (putA s.now.accts (setNon (acctAt s.now.accts f.self) 1)) f.caller f.self f.value
                              have h3 := eh.accts
                              omega
                            have emad : (withA s.now.made f.self).length < 1048576 := by
                              have h1 := len_withA s.now.made f.self
                              have h3 := eh.made
                              omega
                            exact ⟨rfl, _, _, _, _, _, _, G, kS, ⟨⟨eacc, so.warmA, so.warmS, so.refund, so.logs, so.temps, emad, so.gone, so.start, (show 0 < 16777216 by decide), so.phase, so.status, so.applied, so.limit, so.txGas, so.left, so.price, so.total, so.origin, so.mad⟩, eC.mono hL0, (by simp only [size_spl, Array.size_setIfInBounds]; exact hs.size), _, _, _, _, _, _, _, _, _, _, _, _, _, _, _, _, _, _, _, _, _, _, _, _, rS, rOr, rMd, lv13, (hWA.mono hL0), (hWS.mono hL0), (hRf.mono hL0), (hTm.mono hL0), lv15, (hGn.mono hL0), (hSr.mono hL0), (BV.nil _), (hLm.mono hL0), (hTx.mono hL0), (hLf.mono hL0), (hPr.mono hL0), (hTt.mono hL0)⟩, kG, hP9, FC.lay hfN hR9, (rS 4 _ rfl).trans hv4.symm, orI hd9 id (fun h9 => Nat.le_trans hU9 h9.1), nbg9, f2, k2.lt, (fun e => hgk9 e.symm), nb2⟩)))
                  · skip
                    have hk3 : f.kind = 3 := by have := of_decide_eq_false q19; omega
                    refine l_gskip (j := 3) (t := 34) (by exact rfl) (by exact rfl) (et g0 rfl) (by decide) (by decide) ?_
                    refine l_gskip (j := 3) (t := 34) (by exact rfl) (by exact rfl) (et (gS rfl g0) rfl) (by decide) (by decide) ?_
                    refine l_gskip (j := 3) (t := 34) (by exact rfl) (by exact rfl) (et (gS rfl (gS rfl g0)) rfl) (by decide) (by decide) ?_
                    refine l_step (y_pickF (et (gS rfl (gS rfl (gS rfl g0))) rfl) rfl) ?_
                    refine l_nil ?_
                    refine hK18 _ _ ?_
                    refine fg3 0 3 38 (gS rfl (gS rfl (gS rfl (gS rfl (gS rfl (gS rfl (gS rfl (gS rfl (gS rfl (gS rfl g0)))))))))) (gS rfl (gS rfl (gS rfl (gS rfl (gS rfl (gS rfl (gS rfl (gS rfl (gS rfl g0))))))))) g0 (fun g => ?_)
                    refine c_false (et g0 rfl) rfl ?_
                    refine c_skip ?_
                    refine hK17 _ _ ?_
                    refine fg2 0 3 (gS rfl (gS rfl g0)) (gS rfl g0) (fun g => ?_)
                    refine c_seq (fun K36 hK36 => ?_)
                    exact (by
                      refine c_region ?_
                      refine l_step (y_moveV (et (gS rfl g0) rfl)) ?_
                      refine l_step (y_nil (et g0 rfl)) ?_
                      refine l_step (y_fld fld_102_3 (et g0 rfl)) ?_
                      have rl37 := RowIn.le rS (Nat.succ_pos _)
                      simp only [List.length_cons, List.length_nil, Nat.zero_add, Nat.reduceAdd] at rl37
                      refine l_effN (e_store sz_38 (et g0 rfl) (cellsV rfl rfl) rfl (by first | exact one_bL _ | exact one_uL _ | (intro v hv; simp at hv; subst hv; rfl)) kS (by first | exact Nat.le_of_ble_eq_true rfl | (simp; done) | (simp; omega) | omega | (simp only [size_spl, Array.size_setIfInBounds, hs.size]; exact Nat.le_of_ble_eq_true rfl))) (fun v37 w37 h37 => ?_)
                      obtain ⟨rfl, x37⟩ := h37
                      replace k2 := k2.ch x37.ch (by omega)
                      replace kL := kL.ch x37.ch (by intro q hq hm; have := dL q hq; first | omega | (have := dV _ hm; rw [hq] at this; exact this.2.2 rfl))
                      replace kG := kG.ch x37.ch (by intro hb; first | exact hgs9 | (have := dV _ hb; omega))
                      replace kS := x37.blk
                      replace G := G.wr x37 (.inl (by first | rfl | (simp; done))) nbS
                      replace hF := G.fz
                      replace U := U.st x37 (.inl (by first | rfl | (simp; done)))
                      replace eC := kS.eput eC (by omega)
                      replace rS : RowIn _ _ [_, .slice wa s.now.warmA.length wc, .slice sa s.now.warmS.length sc, vr, .slice la s.now.logs.length lc, .slice ta s.now.temps.length tc, _, .slice ga s.now.gone.length gc, .slice oa s.start.length oc, vf, _, .int .u8 (s.phase : Nat), .int .u8 (s.status : Nat), .int .u8 (s.applied : Nat), vlim, vtx, vleft, vpr, vtot] := kS.rput rS 10 rfl
                      replace rOr := kS.rputo rOr (by first | (left; omega) | (right; simp only [List.length_cons, List.length_nil, length_bL, length_be]; omega))
                      replace rMd := kS.rputo rMd (by first | (left; omega) | (right; simp only [List.length_cons, List.length_nil, length_bL, length_be]; omega))
                      obtain ⟨r9, hr9l, kr9, hr9o, hfN⟩ := FC.whole k2 (by simp only [size_spl]; exact hfz) (f := { f with saved := s.now }) (vm := .slice none 0 0) (H := H15) ⟨⟨fo.kind, fo.ntv, fo.pc, fo.gas, fo.value, fo.outOff, fo.outLen, fo.self, fo.caller, fo.stack, fo.code, fo.input, fo.mem⟩, _, _, _, _, _, _, _, _, _, _, _, _, rF, rSe, rCa, rSv, p9, (hPc.mono hL0), (hGa.mono hL0), (hVa.mono hL0), (hOf.mono hL0), (hOl.mono hL0), (hSt.mono hL0), (hCo.mono hL0), (hIn.mono hL0)⟩ rfl
                      replace k2 := kr9
                      refine l_nil ?_
                      refine hK36 _ _ ?_
                      refine fg2 0 3 (gS rfl (gS rfl (gS rfl (gS rfl g0)))) (gS rfl (gS rfl (gS rfl g0))) (fun g => ?_)
                      refine c_draw (Ch (fun k => vf.ownBlock = some k)) 10 [(0, true), (1, true), (2, true), (3, true), (4, true), (5, true), (6, false), (7, false), (8, true), (9, true), (10, false)] (by kernel_rfl) (fun w38 hu => ⟨Ch.refl _ _, ?_⟩)
                      replace G := G.tr (Go.ofUp hF hu)
                      replace hF := hF.up hu
                      replace k2 := k2.up hu
                      replace kS := kS.up hu
                      replace kL := kL.up hu
                      replace kG := kG.up hu
                      replace U := U.tr hu
                      have SU : (Ch (fun k => vf.ownBlock = some k)) w38 w38 := Ch.refl _ _
                      exact (by
                        refine p_step (by exact rfl) (y_moveV (et (gS rfl g0) rfl)) ?_
                        refine p_step (by exact rfl) (y_moveV (et (gS rfl (gS rfl g0)) rfl)) ?_
                        refine p_step (by exact rfl) (y_nil (et g0 rfl)) ?_
                        refine p_step (by exact rfl) (y_fld fld_102_2 (et g0 rfl)) ?_
                        refine p_step (by exact rfl) (y_load1 one_100 (et g0 rfl) (atC (kS.cell (rS 9 _ rfl)) (by first | omega | exact fun e => by have := dV _ e; omega))) ?_
                        refine p_step (by exact rfl) (y_loadB agg_146 sz_146 (et (gS rfl (gS rfl (gS rfl (gS rfl (gS rfl g0))))) rfl) (by rw [List.size_toArray, hr9l]) (atCB k2 (by first | omega | exact fun e => by have := dV _ e; omega))) ?_
                        refine p_eff (by exact rfl) (e_slice1 (k := 59) Hvaa.underlying100 sz_146 zr_146 rfl (by decide) (et g0 rfl) (show r9.toArray.size = 60 by rw [List.size_toArray, hr9l])) (fun v39 w39 h39 => ?_)
                        obtain ⟨b39, rfl, n39⟩ := h39
                        replace G := G.tr (Go.ofUp hF n39.up)
                        replace hF := hF.up n39.up
                        replace k2 := k2.up n39.up
                        replace kS := kS.up n39.up
                        replace kL := kL.up n39.up
                        replace kG := kG.up n39.up
                        replace U := U.tr n39.up
                        have kb39 := n39.blk
                        refine ⟨.inr (SU.tr n39.up), ?_⟩
                        replace SU := SU.tr n39.up
                        have hF0 := hF
                        have hU9 := U.size
                        have k2_0 := k2.lt
                        refine p_eff (by exact rfl) (e_appGB Hvaa.underlying100 sz_146 zr_146 by_146 rfl (by decide) (et (gS rfl (gS rfl g0)) rfl) kG (et g0 rfl) (by decide) (by rw [hr9l]) (show Row _ _ 0 r9 from kb39.row (RowIn.self r9)) hr9o (by decide) (by omega)) (fun v40 w40 h40 => ?_)
                        obtain ⟨bg9, cur9, hG9, hP9, hR9, ch9, hd9⟩ := h40
                        replace G := G.chs ch9 (by intro b hb; exact .inl (.inr hb)) (by intro q hq; exact G.nb (nbV q hq) (dV q hq).1)
                        replace hF := G.fz
                        replace k2 := k2.ch ch9 (by first | omega | (intro hm; have := dV _ hm; omega))
                        replace kS := kS.ch ch9 (by first | omega | (intro hm; have := dV _ hm; omega))
                        replace kL := kL.ch ch9 (by intro q hq hm; have := dL q hq; first | omega | (have := dV _ hm; rw [hq] at this; exact this.2.2 rfl))
                        replace kG := hG9
                        replace U := U.cc ch9 (by intro b hb; exact .inl (.inr hb))
                        replace SU := SU.cc ch9 (by intro b hb; first | exact .inl hb | omega | (have h9 := hOo.lim b hb.symm; first | exact .inl (by omega) | omega))
                        refine ⟨.inr SU, ?_⟩
                        obtain ⟨cap9, rfl, hc91, hc92, hc93, kg9⟩ := hG9.pos (by omega)
                        have nbg9 : ¬ Store.has H15 bg9 := by
                          rcases hd9 with h9 | h9
                          · exact G.nb (nbV _ h9) (dV _ h9).1
                          · exact fun hh => by have := hF0.lt hh; have := h9.1; omega
                        have hgs9 : bg9 ≠ bs := by
                          rcases hd9 with h9 | h9
                          · exact (dV _ h9).2.1
                          · have := h9.1; omega
                        have hgk9 : bg9 ≠ b2 := by
                          have := k2_0
                          rcases hd9 with h9 | h9
                          · have := dV _ h9; omega
                          · have := h9.1; omega
                        exact (by
                          refine p_step (by exact rfl) (y_nil (et (gS rfl (gS rfl (gS rfl (gS rfl (gS rfl (gS rfl (gS rfl g0))))))) rfl)) ?_
                          refine p_step (by exact rfl) (y_fld fld_102_2 (et g0 rfl)) ?_
                          have rl41 := RowIn.le rS (Nat.succ_pos _)
                          simp only [List.length_cons, List.length_nil, Nat.zero_add, Nat.reduceAdd] at rl41
                          refine p_effN (by exact rfl) (e_store sz_100 (et g0 rfl) (cellsV (et (gS rfl (gS rfl g0)) rfl) rfl) rfl (by first | exact one_bL _ | exact one_uL _ | (intro v hv; simp at hv; subst hv; rfl)) kS (by first | exact Nat.le_of_ble_eq_true rfl | (simp; done) | (simp; omega) | omega | (simp only [size_spl, Array.size_setIfInBounds, hs.size]; exact Nat.le_of_ble_eq_true rfl))) (fun v41 w41 h41 => ?_)
                          obtain ⟨rfl, x41⟩ := h41
                          replace k2 := k2.ch x41.ch (by omega)
                          replace kL := kL.ch x41.ch (by intro q hq hm; have := dL q hq; first | omega | (have := dV _ hm; rw [hq] at this; exact this.2.2 rfl))
                          replace kG := kG.ch x41.ch (by intro hb; first | exact hgs9 | (have := dV _ hb; omega))
                          replace kS := x41.blk
                          replace G := G.wr x41 (.inl (by first | rfl | (simp; done))) nbS
                          replace hF := G.fz
                          replace U := U.st x41 (.inl (by first | rfl | (simp; done)))
                          replace eC := kS.eput eC (by omega)
                          replace rS : RowIn _ _ [_, .slice wa s.now.warmA.length wc, .slice sa s.now.warmS.length sc, vr, .slice la s.now.logs.length lc, .slice ta s.now.temps.length tc, _, .slice ga s.now.gone.length gc, .slice oa s.start.length oc, .slice (some ⟨bg9, 0, none⟩) (n + 1) cap9, _, .int .u8 (s.phase : Nat), .int .u8 (s.status : Nat), .int .u8 (s.applied : Nat), vlim, vtx, vleft, vpr, vtot] := kS.rput rS 9 rfl
                          replace rOr := kS.rputo rOr (by first | (left; omega) | (right; simp only [List.length_cons, List.length_nil, length_bL, length_be]; omega))
                          replace rMd := kS.rputo rMd (by first | (left; omega) | (right; simp only [List.length_cons, List.length_nil, length_bL, length_be]; omega))
                          refine ⟨.inl rfl, ?_⟩
                          refine p_nil ?_
                          refine end0 rfl ?_
                          have hkk : ¬ (f.kind ≠ 3 ∧ f.kind ≠ 7) := by omega
                          have eS : entS s f = { s with now := { s.now with accts := (putA s.now.accts (setNon (acctAt s.now.accts f.self) 1)), made := (withA s.now.made f.self) }, ret := [] } := by
                            unfold entS entW entA entA1
                            rw [if_neg hkk]
                            simp only [cB1, if_true, Bool.false_eq_true, if_false]
                          rw [eS]
                          have eacc : (putA s.now.accts (setNon (acctAt s.now.accts f.self) 1)).length < 1048576 := by
                            have h1 := putA_len s.now.accts (setNon (acctAt s.now.accts f.self) 1)
                            have h2 := moveA_len (putA s.now.accts (setNon (acctAt s.now.accts f.self) 1)) f.caller f.self f.value
                            have h3 := eh.accts
                            omega
                          have emad : (withA s.now.made f.self).length < 1048576 := by
                            have h1 := len_withA s.now.made f.self
                            have h3 := eh.made
                            omega
                          exact ⟨rfl, _, _, _, _, _, _, G, kS, ⟨⟨eacc, so.warmA, so.warmS, so.refund, so.logs, so.temps, emad, so.gone, so.start, (show 0 < 16777216 by decide), so.phase, so.status, so.applied, so.limit, so.txGas, so.left, so.price, so.total, so.origin, so.mad⟩, eC.mono hL0, (by simp only [size_spl, Array.size_setIfInBounds]; exact hs.size), _, _, _, _, _, _, _, _, _, _, _, _, _, _, _, _, _, _, _, _, _, _, _, _, rS, rOr, rMd, lv13, (hWA.mono hL0), (hWS.mono hL0), (hRf.mono hL0), (hTm.mono hL0), lv15, (hGn.mono hL0), (hSr.mono hL0), (BV.nil _), (hLm.mono hL0), (hTx.mono hL0), (hLf.mono hL0), (hPr.mono hL0), (hTt.mono hL0)⟩, kG, hP9, FC.lay hfN hR9, (rS 4 _ rfl).trans hv4.symm, orI hd9 id (fun h9 => Nat.le_trans hU9 h9.1), nbg9, f2, k2.lt, (fun e => hgk9 e.symm), nb2⟩)))))))
        · skip
          
          refine c_skip ?_
          refine hK6 _ _ ?_
          refine fg2 0 3 (gS rfl (gS rfl g0)) (gS rfl g0) (fun g => ?_)
          refine c_seq (fun K42 hK42 => ?_)
          refine c_seq (fun K43 hK43 => ?_)
          exact (by
            refine c_region ?_
            refine l_step (y_fld fld_146_0 (et g0 rfl)) ?_
            refine l_step (y_load1 one_5 (et g0 rfl) (at1 (k2.cell (rF 0 _ rfl)))) ?_
            refine l_step (y_neq (et g0 rfl) rfl) ?_
            refine l_step (y_moveV (et g0 rfl)) ?_
            refine gsplitL (i := 34) g0 (fun q44 => ?_) (fun q44 => ?_)
            · skip
              have hk3 : f.kind ≠ 3 := by have := of_decide_eq_true q44; omega
              refine l_gstep (j := 3) (t := 34) (by exact rfl) (by exact rfl) (et g0 rfl) (by decide) (y_fld fld_146_0 (et (gS rfl (gS rfl (gS rfl (gS rfl (gS rfl g0))))) rfl)) ?_
              refine l_gstep (j := 3) (t := 34) (by exact rfl) (by exact rfl) (et (gS rfl g0) rfl) (by decide) (y_load1 one_5 (et g0 rfl) (at1 (k2.cell (rF 0 _ rfl)))) ?_
              refine l_gstep (j := 3) (t := 34) (by exact rfl) (by exact rfl) (et (gS rfl (gS rfl g0)) rfl) (by decide) (y_neq (et g0 rfl) rfl) ?_
              refine l_step (y_pickT (et (gS rfl (gS rfl (gS rfl g0))) rfl) (et g0 rfl)) ?_
              refine l_nil ?_
              refine hK43 _ _ ?_
              refine fg3 0 3 38 (gS rfl (gS rfl (gS rfl (gS rfl (gS rfl (gS rfl (gS rfl (gS rfl (gS rfl (gS rfl g0)))))))))) (gS rfl (gS rfl (gS rfl (gS rfl (gS rfl (gS rfl (gS rfl (gS rfl (gS rfl g0))))))))) g0 (fun g => ?_)
              refine c_cond (et g0 rfl) (fun cB2 => ?_) (fun cB2 => ?_)
              · skip
                
                have hk7 : f.kind ≠ 7 := by have := of_decide_eq_true cB2; omega
                exact (by
                  refine c_draw Up 9 [(0, true), (1, true), (2, true), (3, true), (4, true), (5, true), (6, true), (7, true), (8, true), (9, false)] (by kernel_rfl) (fun w46 hu => ⟨Up.refl _, ?_⟩)
                  replace G := G.tr (Go.ofUp hF hu)
                  replace hF := hF.up hu
                  replace k2 := k2.up hu
                  replace kS := kS.up hu
                  replace kL := kL.up hu
                  replace kG := kG.up hu
                  replace U := U.tr hu
                  have SU := Up.refl w46
                  refine p_step (by exact rfl) (y_moveV (et (gS rfl (gS rfl g0)) rfl)) ?_
                  refine p_step (by exact rfl) (y_nil (et g0 rfl)) ?_
                  refine p_step (by exact rfl) (y_fld fld_102_0 (et g0 rfl)) ?_
                  refine p_step (by exact rfl) (y_fld fld_146_13 (et (gS rfl (gS rfl (gS rfl (gS rfl g0)))) rfl)) ?_
                  refine p_step (by exact rfl) (y_loadR agg_25 sz_25 (et g0 rfl) (by rw [length_bL, length_be]) (atSR (k2.row rCa))) ?_
                  refine p_step (by exact rfl) (y_fld fld_146_12 (et (gS rfl (gS rfl (gS rfl (gS rfl (gS rfl (gS rfl g0)))))) rfl)) ?_
                  refine p_step (by exact rfl) (y_loadR agg_25 sz_25 (et g0 rfl) (by rw [length_bL, length_be]) (atSR (k2.row rSe))) ?_
                  refine p_step (by exact rfl) (y_fld fld_146_5 (et (gS rfl (gS rfl (gS rfl (gS rfl (gS rfl (gS rfl (gS rfl (gS rfl g0)))))))) rfl)) ?_
                  refine p_step (by exact rfl) (y_load1 one_95 (et g0 rfl) (atS (k2.cell (rF 5 _ rfl)))) ?_
                  refine p_eff (by exact rfl) (e_callV cal_133 (aC (et (gS rfl (gS rfl (gS rfl (gS rfl (gS rfl (gS rfl g0)))))) rfl) (aC (et (gS rfl (gS rfl (gS rfl (gS rfl g0)))) rfl) (aC (et (gS rfl (gS rfl g0)) rfl) (aC (et g0 rfl) aN)))) (yp_move _ _ _ _ _ _ _ _ _ _ _ hF kS nbS (rS 0 _ rfl) (hAc.mono hL0) fo.caller fo.self (by omega) (hVa.mono hL0) (bd_up (bd_W fo.value) (by decide)) (by have h9 := eh.sum hk3 hk7; rw [entA1, if_neg (by rw [cB1]; exact Bool.false_ne_true)] at h9; exact h9))) (fun v47 w47 h47 => ?_)
                  obtain ⟨rfl, z47, H47, g47, lv47, kx47⟩ := h47
                  have hlew47 := g47.le
                  replace nb2 := g47.nb nb2 k2.lt
                  replace nbS := g47.nb nbS kS.lt
                  replace p9 := p9.mono hlew47
                  replace hL0 := hL0.trans hlew47
                  replace k2 := k2.ch g47.ch (by omega)
                  replace kL := kL.ch g47.ch (by intro q hq hm; have := dL q hq; first | omega | (have := dV _ hm; rw [hq] at this; exact this.2.2 rfl))
                  replace kG := kG.ch g47.ch (by intro hb; first | exact hgs9 | (have := dV _ hb; omega))
                  replace kS := kx47
                  replace U := U.cc g47.ch (by intro b hb; first | omega | exact .inl hb | exact .inr (hb ▸ U))
                  replace G := G.trans g47 (by intro b hb; first | omega | exact .inl hb | (simp at hb ⊢; omega))
                  replace hF := g47.fz
                  obtain ⟨xa47, xc47, rfl, hxl47, hxc47⟩ := lv47.val
                  replace eC := kS.eset eC (by omega)
                  replace rS : RowIn _ _ [_, .slice wa s.now.warmA.length wc, .slice sa s.now.warmS.length sc, vr, .slice la s.now.logs.length lc, .slice ta s.now.temps.length tc, .slice ma s.now.made.length mc, .slice ga s.now.gone.length gc, .slice oa s.start.length oc, vf, .slice ra s.ret.length rc, .int .u8 (s.phase : Nat), .int .u8 (s.status : Nat), .int .u8 (s.applied : Nat), vlim, vtx, vleft, vpr, vtot] := kS.rset rS 0 rfl
                  replace rOr := kS.rseto rOr (by first | (left; omega) | (right; simp only [List.length_cons, List.length_nil, length_bL, length_be]; omega))
                  replace rMd := kS.rseto rMd (by first | (left; omega) | (right; simp only [List.length_cons, List.length_nil, length_bL, length_be]; omega))
                  refine ⟨.inl rfl, ?_⟩
                  refine p_nil ?_
                  refine hK42 _ _ ?_
                  refine fg2 0 3 (gS rfl (gS rfl (gS rfl (gS rfl (gS rfl (gS rfl (gS rfl (gS rfl (gS rfl (gS rfl (gS rfl (gS rfl g0)))))))))))) (gS rfl (gS rfl (gS rfl (gS rfl (gS rfl (gS rfl (gS rfl (gS rfl (gS rfl (gS rfl (gS rfl g0))))))))))) (fun g => ?_)
                  refine c_seq (fun K48 hK48 => ?_)
                  exact (by
                    refine c_region ?_
                    refine l_step (y_moveV (et (gS rfl g0) rfl)) ?_
                    refine l_step (y_nil (et g0 rfl)) ?_
                    refine l_step (y_fld fld_102_3 (et g0 rfl)) ?_
                    have rl49 := RowIn.le rS (Nat.succ_pos _)
                    simp only [List.length_cons, List.length_nil, Nat.zero_add, Nat.reduceAdd] at rl49
                    refine l_effN (e_store sz_38 (et g0 rfl) (cellsV rfl rfl) rfl (by first | exact one_bL _ | exact one_uL _ | (intro v hv; simp at hv; subst hv; rfl)) kS (by first | exact Nat.le_of_ble_eq_true rfl | (simp; done) | (simp; omega) | omega | (simp only [size_spl, Array.size_setIfInBounds, hs.size]; exact Nat.le_of_ble_eq_true rfl))) (fun v49 w49 h49 => ?_)
                    obtain ⟨rfl, x49⟩ := h49
                    replace k2 := k2.ch x49.ch (by omega)
                    replace kL := kL.ch x49.ch (by intro q hq hm; have := dL q hq; first | omega | (have := dV _ hm; rw [hq] at this; exact this.2.2 rfl))
                    replace kG := kG.ch x49.ch (by intro hb; first | exact hgs9 | (have := dV _ hb; omega))
                    replace kS := x49.blk
                    replace G := G.wr x49 (.inl (by first | rfl | (simp; done))) nbS
                    replace hF := G.fz
                    replace U := U.st x49 (.inl (by first | rfl | (simp; done)))
                    replace eC := kS.eput eC (by omega)
                    replace rS : RowIn _ _ [_, .slice wa s.now.warmA.length wc, .slice sa s.now.warmS.length sc, vr, .slice la s.now.logs.length lc, .slice ta s.now.temps.length tc, .slice ma s.now.made.length mc, .slice ga s.now.gone.length gc, .slice oa s.start.length oc, vf, _, .int .u8 (s.phase : Nat), .int .u8 (s.status : Nat), .int .u8 (s.applied : Nat), vlim, vtx, vleft, vpr, vtot] := kS.rput rS 10 rfl
                    replace rOr := kS.rputo rOr (by first | (left; omega) | (right; simp only [List.length_cons, List.length_nil, length_bL, length_be]; omega))
                    replace rMd := kS.rputo rMd (by first | (left; omega) | (right; simp only [List.length_cons, List.length_nil, length_bL, length_be]; omega))
                    obtain ⟨r9, hr9l, kr9, hr9o, hfN⟩ := FC.whole k2 (by simp only [size_spl]; exact hfz) (f := { f with saved := s.now }) (vm := .slice none 0 0) (H := H47) ⟨⟨fo.kind, fo.ntv, fo.pc, fo.gas, fo.value, fo.outOff, fo.outLen, fo.self, fo.caller, fo.stack, fo.code, fo.input, fo.mem⟩, _, _, _, _, _, _, _, _, _, _, _, _, rF, rSe, rCa, rSv, p9, (hPc.mono hL0), (hGa.mono hL0), (hVa.mono hL0), (hOf.mono hL0), (hOl.mono hL0), (hSt.mono hL0), (hCo.mono hL0), (hIn.mono hL0)⟩ rfl
                    replace k2 := kr9
                    refine l_nil ?_
                    refine hK48 _ _ ?_
                    refine fg2 0 3 (gS rfl (gS rfl (gS rfl (gS rfl g0)))) (gS rfl (gS rfl (gS rfl g0))) (fun g => ?_)
                    refine c_draw (Ch (fun k => vf.ownBlock = some k)) 10 [(0, true), (1, true), (2, true), (3, true), (4, true), (5, true), (6, false), (7, false), (8, true), (9, true), (10, false)] (by kernel_rfl) (fun w50 hu => ⟨Ch.refl _ _, ?_⟩)
                    replace G := G.tr (Go.ofUp hF hu)
                    replace hF := hF.up hu
                    replace k2 := k2.up hu
                    replace kS := kS.up hu
                    replace kL := kL.up hu
                    replace kG := kG.up hu
                    replace U := U.tr hu
                    have SU : (Ch (fun k => vf.ownBlock = some k)) w50 w50 := Ch.refl _ _
                    exact (by
                      refine p_step (by exact rfl) (y_moveV (et (gS rfl g0) rfl)) ?_
                      refine p_step (by exact rfl) (y_moveV (et (gS rfl (gS rfl g0)) rfl)) ?_
                      refine p_step (by exact rfl) (y_nil (et g0 rfl)) ?_
                      refine p_step (by exact rfl) (y_fld fld_102_2 (et g0 rfl)) ?_
                      refine p_step (by exact rfl) (y_load1 one_100 (et g0 rfl) (atC (kS.cell (rS 9 _ rfl)) (by first | omega | exact fun e => by have := dV _ e; omega))) ?_
                      refine p_step (by exact rfl) (y_loadB agg_146 sz_146 (et (gS rfl (gS rfl (gS rfl (gS rfl (gS rfl g0))))) rfl) (by rw [List.size_toArray, hr9l]) (atCB k2 (by first | omega | exact fun e => by have := dV _ e; omega))) ?_
                      refine p_eff (by exact rfl) (e_slice1 (k := 59) Hvaa.underlying100 sz_146 zr_146 rfl (by decide) (et g0 rfl) (show r9.toArray.size = 60 by rw [List.size_toArray, hr9l])) (fun v51 w51 h51 => ?_)
                      obtain ⟨b51, rfl, n51⟩ := h51
                      replace G := G.tr (Go.ofUp hF n51.up)
                      replace hF := hF.up n51.up
                      replace k2 := k2.up n51.up
                      replace kS := kS.up n51.up
                      replace kL := kL.up n51.up
                      replace kG := kG.up n51.up
                      replace U := U.tr n51.up
                      have kb51 := n51.blk
                      refine ⟨.inr (SU.tr n51.up), ?_⟩
                      replace SU := SU.tr n51.up
                      have hF0 := hF
                      have hU9 := U.size
                      have k2_0 := k2.lt
                      refine p_eff (by exact rfl) (e_appGB Hvaa.underlying100 sz_146 zr_146 by_146 rfl (by decide) (et (gS rfl (gS rfl g0)) rfl) kG (et g0 rfl) (by decide) (by rw [hr9l]) (show Row _ _ 0 r9 from kb51.row (RowIn.self r9)) hr9o (by decide) (by omega)) (fun v52 w52 h52 => ?_)
                      obtain ⟨bg9, cur9, hG9, hP9, hR9, ch9, hd9⟩ := h52
                      replace G := G.chs ch9 (by intro b hb; exact .inl (.inr hb)) (by intro q hq; exact G.nb (nbV q hq) (dV q hq).1)
                      replace hF := G.fz
                      replace k2 := k2.ch ch9 (by first | omega | (intro hm; have := dV _ hm; omega))
                      replace kS := kS.ch ch9 (by first | omega | (intro hm; have := dV _ hm; omega))
                      replace kL := kL.ch ch9 (by intro q hq hm; have := dL q hq; first | omega | (have := dV _ hm; rw [hq] at this; exact this.2.2 rfl))
                      replace kG := hG9
                      replace U := U.cc ch9 (by intro b hb; exact .inl (.inr hb))
                      replace SU := SU.cc ch9 (by intro b hb; first | exact .inl hb | omega | (have h9 := hOo.lim b hb.symm; first | exact .inl (by omega) | omega))
                      refine ⟨.inr SU, ?_⟩
                      obtain ⟨cap9, rfl, hc91, hc92, hc93, kg9⟩ := hG9.pos (by omega)
                      have nbg9 : ¬ Store.has H47 bg9 := by
                        rcases hd9 with h9 | h9
                        · exact G.nb (nbV _ h9) (dV _ h9).1
                        · exact fun hh => by have := hF0.lt hh; have := h9.1; omega
                      have hgs9 : bg9 ≠ bs := by
                        rcases hd9 with h9 | h9
                        · exact (dV _ h9).2.1
                        · have := h9.1; omega
                      have hgk9 : bg9 ≠ b2 := by
                        have := k2_0
                        rcases hd9 with h9 | h9
                        · have := dV _ h9; omega
                        · have := h9.1; omega
                      exact (by
                        refine p_step (by exact rfl) (y_nil (et (gS rfl (gS rfl (gS rfl (gS rfl (gS rfl (gS rfl (gS rfl g0))))))) rfl)) ?_
                        refine p_step (by exact rfl) (y_fld fld_102_2 (et g0 rfl)) ?_
                        have rl53 := RowIn.le rS (Nat.succ_pos _)
                        simp only [List.length_cons, List.length_nil, Nat.zero_add, Nat.reduceAdd] at rl53
                        refine p_effN (by exact rfl) (e_store sz_100 (et g0 rfl) (cellsV (et (gS rfl (gS rfl g0)) rfl) rfl) rfl (by first | exact one_bL _ | exact one_uL _ | (intro v hv; simp at hv; subst hv; rfl)) kS (by first | exact Nat.le_of_ble_eq_true rfl | (simp; done) | (simp; omega) | omega | (simp only [size_spl, Array.size_setIfInBounds, hs.size]; exact Nat.le_of_ble_eq_true rfl))) (fun v53 w53 h53 => ?_)
                        obtain ⟨rfl, x53⟩ := h53
                        replace k2 := k2.ch x53.ch (by omega)
                        replace kL := kL.ch x53.ch (by intro q hq hm; have := dL q hq; first | omega | (have := dV _ hm; rw [hq] at this; exact this.2.2 rfl))
                        replace kG := kG.ch x53.ch (by intro hb; first | exact hgs9 | (have := dV _ hb; omega))
                        replace kS := x53.blk
                        replace G := G.wr x53 (.inl (by first | rfl | (simp; done))) nbS
                        replace hF := G.fz
                        replace U := U.st x53 (.inl (by first | rfl | (simp; done)))
                        replace eC := kS.eput eC (by omega)
                        replace rS : RowIn _ _ [_, .slice wa s.now.warmA.length wc, .slice sa s.now.warmS.length sc, vr, .slice la s.now.logs.length lc, .slice ta s.now.temps.length tc, .slice ma s.now.made.length mc, .slice ga s.now.gone.length gc, .slice oa s.start.length oc, .slice (some ⟨bg9, 0, none⟩) (n + 1) cap9, _, .int .u8 (s.phase : Nat), .int .u8 (s.status : Nat), .int .u8 (s.applied : Nat), vlim, vtx, vleft, vpr, vtot] := kS.rput rS 9 rfl
                        replace rOr := kS.rputo rOr (by first | (left; omega) | (right; simp only [List.length_cons, List.length_nil, length_bL, length_be]; omega))
                        replace rMd := kS.rputo rMd (by first | (left; omega) | (right; simp only [List.length_cons, List.length_nil, length_bL, length_be]; omega))
                        refine ⟨.inl rfl, ?_⟩
                        refine p_nil ?_
                        refine end0 rfl ?_
                        have hkk : f.kind ≠ 3 ∧ f.kind ≠ 7 := ⟨hk3, hk7⟩
                        have eS : entS s f = { s with now := { s.now with accts := (moveA s.now.accts f.caller f.self f.value), made := s.now.made }, ret := [] } := by
                          unfold entS entW entA entA1
                          rw [if_pos hkk]
                          simp only [cB1, if_true, Bool.false_eq_true, if_false]
                        rw [eS]
                        have eacc : (moveA s.now.accts f.caller f.self f.value).length < 1048576 := by
                          have h1 := putA_len s.now.accts (setNon (acctAt s.now.accts f.self) 1)
                          have h2 := moveA_len s.now.accts f.caller f.self f.value
                          have h3 := eh.accts
                          omega
                        have emad : s.now.made.length < 1048576 := by
                          have h1 := len_withA s.now.made f.self
                          have h3 := eh.made
                          omega
                        exact ⟨rfl, _, _, _, _, _, _, G, kS, ⟨⟨eacc, so.warmA, so.warmS, so.refund, so.logs, so.temps, emad, so.gone, so.start, (show 0 < 16777216 by decide), so.phase, so.status, so.applied, so.limit, so.txGas, so.left, so.price, so.total, so.origin, so.mad⟩, eC.mono hL0, (by simp only [size_spl, Array.size_setIfInBounds]; exact hs.size), _, _, _, _, _, _, _, _, _, _, _, _, _, _, _, _, _, _, _, _, _, _, _, _, rS, rOr, rMd, lv47, (hWA.mono hL0), (hWS.mono hL0), (hRf.mono hL0), (hTm.mono hL0), (hMd.mono hL0), (hGn.mono hL0), (hSr.mono hL0), (BV.nil _), (hLm.mono hL0), (hTx.mono hL0), (hLf.mono hL0), (hPr.mono hL0), (hTt.mono hL0)⟩, kG, hP9, FC.lay hfN hR9, (rS 4 _ rfl).trans hv4.symm, orI hd9 id (fun h9 => Nat.le_trans hU9 h9.1), nbg9, f2, k2.lt, (fun e => hgk9 e.symm), nb2⟩))))
              · skip
                
                have hk7 : f.kind = 7 := by have := of_decide_eq_false cB2; omega
                refine c_skip ?_
                refine hK42 _ _ ?_
                refine fg2 0 3 (gS rfl (gS rfl g0)) (gS rfl g0) (fun g => ?_)
                refine c_seq (fun K54 hK54 => ?_)
                exact (by
                  refine c_region ?_
                  refine l_step (y_moveV (et (gS rfl g0) rfl)) ?_
                  refine l_step (y_nil (et g0 rfl)) ?_
                  refine l_step (y_fld fld_102_3 (et g0 rfl)) ?_
                  have rl55 := RowIn.le rS (Nat.succ_pos _)
                  simp only [List.length_cons, List.length_nil, Nat.zero_add, Nat.reduceAdd] at rl55
                  refine l_effN (e_store sz_38 (et g0 rfl) (cellsV rfl rfl) rfl (by first | exact one_bL _ | exact one_uL _ | (intro v hv; simp at hv; subst hv; rfl)) kS (by first | exact Nat.le_of_ble_eq_true rfl | (simp; done) | (simp; omega) | omega | (simp only [size_spl, Array.size_setIfInBounds, hs.size]; exact Nat.le_of_ble_eq_true rfl))) (fun v55 w55 h55 => ?_)
                  obtain ⟨rfl, x55⟩ := h55
                  replace k2 := k2.ch x55.ch (by omega)
                  replace kL := kL.ch x55.ch (by intro q hq hm; have := dL q hq; first | omega | (have := dV _ hm; rw [hq] at this; exact this.2.2 rfl))
                  replace kG := kG.ch x55.ch (by intro hb; first | exact hgs9 | (have := dV _ hb; omega))
                  replace kS := x55.blk
                  replace G := G.wr x55 (.inl (by first | rfl | (simp; done))) nbS
                  replace hF := G.fz
                  replace U := U.st x55 (.inl (by first | rfl | (simp; done)))
                  replace eC := kS.eput eC (by omega)
                  replace rS : RowIn _ _ [.slice aa s.now.accts.length ac, .slice wa s.now.warmA.length wc, .slice sa s.now.warmS.length sc, vr, .slice la s.now.logs.length lc, .slice ta s.now.temps.length tc, .slice ma s.now.made.length mc, .slice ga s.now.gone.length gc, .slice oa s.start.length oc, vf, _, .int .u8 (s.phase : Nat), .int .u8 (s.status : Nat), .int .u8 (s.applied : Nat), vlim, vtx, vleft, vpr, vtot] := kS.rput rS 10 rfl
                  replace rOr := kS.rputo rOr (by first | (left; omega) | (right; simp only [List.length_cons, List.length_nil, length_bL, length_be]; omega))
                  replace rMd := kS.rputo rMd (by first | (left; omega) | (right; simp only [List.length_cons, List.length_nil, length_bL, length_be]; omega))
                  obtain ⟨r9, hr9l, kr9, hr9o, hfN⟩ := FC.whole k2 (by simp only [size_spl]; exact hfz) (f := { f with saved := s.now }) (vm := .slice none 0 0) (H := H4) ⟨⟨fo.kind, fo.ntv, fo.pc, fo.gas, fo.value, fo.outOff, fo.outLen, fo.self, fo.caller, fo.stack, fo.code, fo.input, fo.mem⟩, _, _, _, _, _, _, _, _, _, _, _, _, rF, rSe, rCa, rSv, p9, (hPc.mono hL0), (hGa.mono hL0), (hVa.mono hL0), (hOf.mono hL0), (hOl.mono hL0), (hSt.mono hL0), (hCo.mono hL0), (hIn.mono hL0)⟩ rfl
                  replace k2 := kr9
                  refine l_nil ?_
                  refine hK54 _ _ ?_
                  refine fg2 0 3 (gS rfl (gS rfl (gS rfl (gS rfl g0)))) (gS rfl (gS rfl (gS rfl g0))) (fun g => ?_)
                  refine c_draw (Ch (fun k => vf.ownBlock = some k)) 10 [(0, true), (1, true), (2, true), (3, true), (4, true), (5, true), (6, false), (7, false), (8, true), (9, true), (10, false)] (by kernel_rfl) (fun w56 hu => ⟨Ch.refl _ _, ?_⟩)
                  replace G := G.tr (Go.ofUp hF hu)
                  replace hF := hF.up hu
                  replace k2 := k2.up hu
                  replace kS := kS.up hu
                  replace kL := kL.up hu
                  replace kG := kG.up hu
                  replace U := U.tr hu
                  have SU : (Ch (fun k => vf.ownBlock = some k)) w56 w56 := Ch.refl _ _
                  exact (by
                    refine p_step (by exact rfl) (y_moveV (et (gS rfl g0) rfl)) ?_
                    refine p_step (by exact rfl) (y_moveV (et (gS rfl (gS rfl g0)) rfl)) ?_
                    refine p_step (by exact rfl) (y_nil (et g0 rfl)) ?_
                    refine p_step (by exact rfl) (y_fld fld_102_2 (et g0 rfl)) ?_
                    refine p_step (by exact rfl) (y_load1 one_100 (et g0 rfl) (atC (kS.cell (rS 9 _ rfl)) (by first | omega | exact fun e => by have := dV _ e; omega))) ?_
                    refine p_step (by exact rfl) (y_loadB agg_146 sz_146 (et (gS rfl (gS rfl (gS rfl (gS rfl (gS rfl g0))))) rfl) (by rw [List.size_toArray, hr9l]) (atCB k2 (by first | omega | exact fun e => by have := dV _ e; omega))) ?_
                    refine p_eff (by exact rfl) (e_slice1 (k := 59) Hvaa.underlying100 sz_146 zr_146 rfl (by decide) (et g0 rfl) (show r9.toArray.size = 60 by rw [List.size_toArray, hr9l])) (fun v57 w57 h57 => ?_)
                    obtain ⟨b57, rfl, n57⟩ := h57
                    replace G := G.tr (Go.ofUp hF n57.up)
                    replace hF := hF.up n57.up
                    replace k2 := k2.up n57.up
                    replace kS := kS.up n57.up
                    replace kL := kL.up n57.up
                    replace kG := kG.up n57.up
                    replace U := U.tr n57.up
                    have kb57 := n57.blk
                    refine ⟨.inr (SU.tr n57.up), ?_⟩
                    replace SU := SU.tr n57.up
                    have hF0 := hF
                    have hU9 := U.size
                    have k2_0 := k2.lt
                    refine p_eff (by exact rfl) (e_appGB Hvaa.underlying100 sz_146 zr_146 by_146 rfl (by decide) (et (gS rfl (gS rfl g0)) rfl) kG (et g0 rfl) (by decide) (by rw [hr9l]) (show Row _ _ 0 r9 from kb57.row (RowIn.self r9)) hr9o (by decide) (by omega)) (fun v58 w58 h58 => ?_)
                    obtain ⟨bg9, cur9, hG9, hP9, hR9, ch9, hd9⟩ := h58
                    replace G := G.chs ch9 (by intro b hb; exact .inl (.inr hb)) (by intro q hq; exact G.nb (nbV q hq) (dV q hq).1)
                    replace hF := G.fz
                    replace k2 := k2.ch ch9 (by first | omega | (intro hm; have := dV _ hm; omega))
                    replace kS := kS.ch ch9 (by first | omega | (intro hm; have := dV _ hm; omega))
                    replace kL := kL.ch ch9 (by intro q hq hm; have := dL q hq; first | omega | (have := dV _ hm; rw [hq] at this; exact this.2.2 rfl))
                    replace kG := hG9
                    replace U := U.cc ch9 (by intro b hb; exact .inl (.inr hb))
                    replace SU := SU.cc ch9 (by intro b hb; first | exact .inl hb | omega | (have h9 := hOo.lim b hb.symm; first | exact .inl (by omega) | omega))
                    refine ⟨.inr SU, ?_⟩
                    obtain ⟨cap9, rfl, hc91, hc92, hc93, kg9⟩ := hG9.pos (by omega)
                    have nbg9 : ¬ Store.has H4 bg9 := by
                      rcases hd9 with h9 | h9
                      · exact G.nb (nbV _ h9) (dV _ h9).1
                      · exact fun hh => by have := hF0.lt hh; have := h9.1; omega
                    have hgs9 : bg9 ≠ bs := by
                      rcases hd9 with h9 | h9
                      · exact (dV _ h9).2.1
                      · have := h9.1; omega
                    have hgk9 : bg9 ≠ b2 := by
                      have := k2_0
                      rcases hd9 with h9 | h9
                      · have := dV _ h9; omega
                      · have := h9.1; omega
                    exact (by
                      refine p_step (by exact rfl) (y_nil (et (gS rfl (gS rfl (gS rfl (gS rfl (gS rfl (gS rfl (gS rfl g0))))))) rfl)) ?_
                      refine p_step (by exact rfl) (y_fld fld_102_2 (et g0 rfl)) ?_
                      have rl59 := RowIn.le rS (Nat.succ_pos _)
                      simp only [List.length_cons, List.length_nil, Nat.zero_add, Nat.reduceAdd] at rl59
                      refine p_effN (by exact rfl) (e_store sz_100 (et g0 rfl) (cellsV (et (gS rfl (gS rfl g0)) rfl) rfl) rfl (by first | exact one_bL _ | exact one_uL _ | (intro v hv; simp at hv; subst hv; rfl)) kS (by first | exact Nat.le_of_ble_eq_true rfl | (simp; done) | (simp; omega) | omega | (simp only [size_spl, Array.size_setIfInBounds, hs.size]; exact Nat.le_of_ble_eq_true rfl))) (fun v59 w59 h59 => ?_)
                      obtain ⟨rfl, x59⟩ := h59
                      replace k2 := k2.ch x59.ch (by omega)
                      replace kL := kL.ch x59.ch (by intro q hq hm; have := dL q hq; first | omega | (have := dV _ hm; rw [hq] at this; exact this.2.2 rfl))
                      replace kG := kG.ch x59.ch (by intro hb; first | exact hgs9 | (have := dV _ hb; omega))
                      replace kS := x59.blk
                      replace G := G.wr x59 (.inl (by first | rfl | (simp; done))) nbS
                      replace hF := G.fz
                      replace U := U.st x59 (.inl (by first | rfl | (simp; done)))
                      replace eC := kS.eput eC (by omega)
                      replace rS : RowIn _ _ [.slice aa s.now.accts.length ac, .slice wa s.now.warmA.length wc, .slice sa s.now.warmS.length sc, vr, .slice la s.now.logs.length lc, .slice ta s.now.temps.length tc, .slice ma s.now.made.length mc, .slice ga s.now.gone.length gc, .slice oa s.start.length oc, .slice (some ⟨bg9, 0, none⟩) (n + 1) cap9, _, .int .u8 (s.phase : Nat), .int .u8 (s.status : Nat), .int .u8 (s.applied : Nat), vlim, vtx, vleft, vpr, vtot] := kS.rput rS 9 rfl
                      replace rOr := kS.rputo rOr (by first | (left; omega) | (right; simp only [List.length_cons, List.length_nil, length_bL, length_be]; omega))
                      replace rMd := kS.rputo rMd (by first | (left; omega) | (right; simp only [List.length_cons, List.length_nil, length_bL, length_be]; omega))
                      refine ⟨.inl rfl, ?_⟩
                      refine p_nil ?_
                      refine end0 rfl ?_
                      have hkk : ¬ (f.kind ≠ 3 ∧ f.kind ≠ 7) := by omega
                      have eS : entS s f = { s with now := { s.now with accts := s.now.accts, made := s.now.made }, ret := [] } := by
                        unfold entS entW entA entA1
                        rw [if_neg hkk]
                        simp only [cB1, if_true, Bool.false_eq_true, if_false]
                      rw [eS]
                      have eacc : s.now.accts.length < 1048576 := by
                        have h1 := putA_len s.now.accts (setNon (acctAt s.now.accts f.self) 1)
                        have h2 := moveA_len s.now.accts f.caller f.self f.value
                        have h3 := eh.accts
                        omega
                      have emad : s.now.made.length < 1048576 := by
                        have h1 := len_withA s.now.made f.self
                        have h3 := eh.made
                        omega
                      exact ⟨rfl, _, _, _, _, _, _, G, kS, ⟨⟨eacc, so.warmA, so.warmS, so.refund, so.logs, so.temps, emad, so.gone, so.start, (show 0 < 16777216 by decide), so.phase, so.status, so.applied, so.limit, so.txGas, so.left, so.price, so.total, so.origin, so.mad⟩, eC.mono hL0, (by simp only [size_spl, Array.size_setIfInBounds]; exact hs.size), _, _, _, _, _, _, _, _, _, _, _, _, _, _, _, _, _, _, _, _, _, _, _, _, rS, rOr, rMd, (hAc.mono hL0), (hWA.mono hL0), (hWS.mono hL0), (hRf.mono hL0), (hTm.mono hL0), (hMd.mono hL0), (hGn.mono hL0), (hSr.mono hL0), (BV.nil _), (hLm.mono hL0), (hTx.mono hL0), (hLf.mono hL0), (hPr.mono hL0), (hTt.mono hL0)⟩, kG, hP9, FC.lay hfN hR9, (rS 4 _ rfl).trans hv4.symm, orI hd9 id (fun h9 => Nat.le_trans hU9 h9.1), nbg9, f2, k2.lt, (fun e => hgk9 e.symm), nb2⟩)))
            · skip
              have hk3 : f.kind = 3 := by have := of_decide_eq_false q44; omega
              refine l_gskip (j := 3) (t := 34) (by exact rfl) (by exact rfl) (et g0 rfl) (by decide) (by decide) ?_
              refine l_gskip (j := 3) (t := 34) (by exact rfl) (by exact rfl) (et (gS rfl g0) rfl) (by decide) (by decide) ?_
              refine l_gskip (j := 3) (t := 34) (by exact rfl) (by exact rfl) (et (gS rfl (gS rfl g0)) rfl) (by decide) (by decide) ?_
              refine l_step (y_pickF (et (gS rfl (gS rfl (gS rfl g0))) rfl) rfl) ?_
              refine l_nil ?_
              refine hK43 _ _ ?_
              refine fg3 0 3 38 (gS rfl (gS rfl (gS rfl (gS rfl (gS rfl (gS rfl (gS rfl (gS rfl (gS rfl (gS rfl g0)))))))))) (gS rfl (gS rfl (gS rfl (gS rfl (gS rfl (gS rfl (gS rfl (gS rfl (gS rfl g0))))))))) g0 (fun g => ?_)
              refine c_false (et g0 rfl) rfl ?_
              refine c_skip ?_
              refine hK42 _ _ ?_
              refine fg2 0 3 (gS rfl (gS rfl g0)) (gS rfl g0) (fun g => ?_)
              refine c_seq (fun K61 hK61 => ?_)
              exact (by
                refine c_region ?_
                refine l_step (y_moveV (et (gS rfl g0) rfl)) ?_
                refine l_step (y_nil (et g0 rfl)) ?_
                refine l_step (y_fld fld_102_3 (et g0 rfl)) ?_
                have rl62 := RowIn.le rS (Nat.succ_pos _)
                simp only [List.length_cons, List.length_nil, Nat.zero_add, Nat.reduceAdd] at rl62
                refine l_effN (e_store sz_38 (et g0 rfl) (cellsV rfl rfl) rfl (by first | exact one_bL _ | exact one_uL _ | (intro v hv; simp at hv; subst hv; rfl)) kS (by first | exact Nat.le_of_ble_eq_true rfl | (simp; done) | (simp; omega) | omega | (simp only [size_spl, Array.size_setIfInBounds, hs.size]; exact Nat.le_of_ble_eq_true rfl))) (fun v62 w62 h62 => ?_)
                obtain ⟨rfl, x62⟩ := h62
                replace k2 := k2.ch x62.ch (by omega)
                replace kL := kL.ch x62.ch (by intro q hq hm; have := dL q hq; first | omega | (have := dV _ hm; rw [hq] at this; exact this.2.2 rfl))
                replace kG := kG.ch x62.ch (by intro hb; first | exact hgs9 | (have := dV _ hb; omega))
                replace kS := x62.blk
                replace G := G.wr x62 (.inl (by first | rfl | (simp; done))) nbS
                replace hF := G.fz
                replace U := U.st x62 (.inl (by first | rfl | (simp; done)))
                replace eC := kS.eput eC (by omega)
                replace rS : RowIn _ _ [.slice aa s.now.accts.length ac, .slice wa s.now.warmA.length wc, .slice sa s.now.warmS.length sc, vr, .slice la s.now.logs.length lc, .slice ta s.now.temps.length tc, .slice ma s.now.made.length mc, .slice ga s.now.gone.length gc, .slice oa s.start.length oc, vf, _, .int .u8 (s.phase : Nat), .int .u8 (s.status : Nat), .int .u8 (s.applied : Nat), vlim, vtx, vleft, vpr, vtot] := kS.rput rS 10 rfl
                replace rOr := kS.rputo rOr (by first | (left; omega) | (right; simp only [List.length_cons, List.length_nil, length_bL, length_be]; omega))
                replace rMd := kS.rputo rMd (by first | (left; omega) | (right; simp only [List.length_cons, List.length_nil, length_bL, length_be]; omega))
                obtain ⟨r9, hr9l, kr9, hr9o, hfN⟩ := FC.whole k2 (by simp only [size_spl]; exact hfz) (f := { f with saved := s.now }) (vm := .slice none 0 0) (H := H4) ⟨⟨fo.kind, fo.ntv, fo.pc, fo.gas, fo.value, fo.outOff, fo.outLen, fo.self, fo.caller, fo.stack, fo.code, fo.input, fo.mem⟩, _, _, _, _, _, _, _, _, _, _, _, _, rF, rSe, rCa, rSv, p9, (hPc.mono hL0), (hGa.mono hL0), (hVa.mono hL0), (hOf.mono hL0), (hOl.mono hL0), (hSt.mono hL0), (hCo.mono hL0), (hIn.mono hL0)⟩ rfl
                replace k2 := kr9
                refine l_nil ?_
                refine hK61 _ _ ?_
                refine fg2 0 3 (gS rfl (gS rfl (gS rfl (gS rfl g0)))) (gS rfl (gS rfl (gS rfl g0))) (fun g => ?_)
                refine c_draw (Ch (fun k => vf.ownBlock = some k)) 10 [(0, true), (1, true), (2, true), (3, true), (4, true), (5, true), (6, false), (7, false), (8, true), (9, true), (10, false)] (by kernel_rfl) (fun w63 hu => ⟨Ch.refl _ _, ?_⟩)
                replace G := G.tr (Go.ofUp hF hu)
                replace hF := hF.up hu
                replace k2 := k2.up hu
                replace kS := kS.up hu
                replace kL := kL.up hu
                replace kG := kG.up hu
                replace U := U.tr hu
                have SU : (Ch (fun k => vf.ownBlock = some k)) w63 w63 := Ch.refl _ _
                exact (by
                  refine p_step (by exact rfl) (y_moveV (et (gS rfl g0) rfl)) ?_
                  refine p_step (by exact rfl) (y_moveV (et (gS rfl (gS rfl g0)) rfl)) ?_
                  refine p_step (by exact rfl) (y_nil (et g0 rfl)) ?_
                  refine p_step (by exact rfl) (y_fld fld_102_2 (et g0 rfl)) ?_
                  refine p_step (by exact rfl) (y_load1 one_100 (et g0 rfl) (atC (kS.cell (rS 9 _ rfl)) (by first | omega | exact fun e => by have := dV _ e; omega))) ?_
                  refine p_step (by exact rfl) (y_loadB agg_146 sz_146 (et (gS rfl (gS rfl (gS rfl (gS rfl (gS rfl g0))))) rfl) (by rw [List.size_toArray, hr9l]) (atCB k2 (by first | omega | exact fun e => by have := dV _ e; omega))) ?_
                  refine p_eff (by exact rfl) (e_slice1 (k := 59) Hvaa.underlying100 sz_146 zr_146 rfl (by decide) (et g0 rfl) (show r9.toArray.size = 60 by rw [List.size_toArray, hr9l])) (fun v64 w64 h64 => ?_)
                  obtain ⟨b64, rfl, n64⟩ := h64
                  replace G := G.tr (Go.ofUp hF n64.up)
                  replace hF := hF.up n64.up
                  replace k2 := k2.up n64.up
                  replace kS := kS.up n64.up
                  replace kL := kL.up n64.up
                  replace kG := kG.up n64.up
                  replace U := U.tr n64.up
                  have kb64 := n64.blk
                  refine ⟨.inr (SU.tr n64.up), ?_⟩
                  replace SU := SU.tr n64.up
                  have hF0 := hF
                  have hU9 := U.size
                  have k2_0 := k2.lt
                  refine p_eff (by exact rfl) (e_appGB Hvaa.underlying100 sz_146 zr_146 by_146 rfl (by decide) (et (gS rfl (gS rfl g0)) rfl) kG (et g0 rfl) (by decide) (by rw [hr9l]) (show Row _ _ 0 r9 from kb64.row (RowIn.self r9)) hr9o (by decide) (by omega)) (fun v65 w65 h65 => ?_)
                  obtain ⟨bg9, cur9, hG9, hP9, hR9, ch9, hd9⟩ := h65
                  replace G := G.chs ch9 (by intro b hb; exact .inl (.inr hb)) (by intro q hq; exact G.nb (nbV q hq) (dV q hq).1)
                  replace hF := G.fz
                  replace k2 := k2.ch ch9 (by first | omega | (intro hm; have := dV _ hm; omega))
                  replace kS := kS.ch ch9 (by first | omega | (intro hm; have := dV _ hm; omega))
                  replace kL := kL.ch ch9 (by intro q hq hm; have := dL q hq; first | omega | (have := dV _ hm; rw [hq] at this; exact this.2.2 rfl))
                  replace kG := hG9
                  replace U := U.cc ch9 (by intro b hb; exact .inl (.inr hb))
                  replace SU := SU.cc ch9 (by intro b hb; first | exact .inl hb | omega | (have h9 := hOo.lim b hb.symm; first | exact .inl (by omega) | omega))
                  refine ⟨.inr SU, ?_⟩
                  obtain ⟨cap9, rfl, hc91, hc92, hc93, kg9⟩ := hG9.pos (by omega)
                  have nbg9 : ¬ Store.has H4 bg9 := by
                    rcases hd9 with h9 | h9
                    · exact G.nb (nbV _ h9) (dV _ h9).1
                    · exact fun hh => by have := hF0.lt hh; have := h9.1; omega
                  have hgs9 : bg9 ≠ bs := by
                    rcases hd9 with h9 | h9
                    · exact (dV _ h9).2.1
                    · have := h9.1; omega
                  have hgk9 : bg9 ≠ b2 := by
                    have := k2_0
                    rcases hd9 with h9 | h9
                    · have := dV _ h9; omega
                    · have := h9.1; omega
                  exact (by
                    refine p_step (by exact rfl) (y_nil (et (gS rfl (gS rfl (gS rfl (gS rfl (gS rfl (gS rfl (gS rfl g0))))))) rfl)) ?_
                    refine p_step (by exact rfl) (y_fld fld_102_2 (et g0 rfl)) ?_
                    have rl66 := RowIn.le rS (Nat.succ_pos _)
                    simp only [List.length_cons, List.length_nil, Nat.zero_add, Nat.reduceAdd] at rl66
                    refine p_effN (by exact rfl) (e_store sz_100 (et g0 rfl) (cellsV (et (gS rfl (gS rfl g0)) rfl) rfl) rfl (by first | exact one_bL _ | exact one_uL _ | (intro v hv; simp at hv; subst hv; rfl)) kS (by first | exact Nat.le_of_ble_eq_true rfl | (simp; done) | (simp; omega) | omega | (simp only [size_spl, Array.size_setIfInBounds, hs.size]; exact Nat.le_of_ble_eq_true rfl))) (fun v66 w66 h66 => ?_)
                    obtain ⟨rfl, x66⟩ := h66
                    replace k2 := k2.ch x66.ch (by omega)
                    replace kL := kL.ch x66.ch (by intro q hq hm; have := dL q hq; first | omega | (have := dV _ hm; rw [hq] at this; exact this.2.2 rfl))
                    replace kG := kG.ch x66.ch (by intro hb; first | exact hgs9 | (have := dV _ hb; omega))
                    replace kS := x66.blk
                    replace G := G.wr x66 (.inl (by first | rfl | (simp; done))) nbS
                    replace hF := G.fz
                    replace U := U.st x66 (.inl (by first | rfl | (simp; done)))
                    replace eC := kS.eput eC (by omega)
                    replace rS : RowIn _ _ [.slice aa s.now.accts.length ac, .slice wa s.now.warmA.length wc, .slice sa s.now.warmS.length sc, vr, .slice la s.now.logs.length lc, .slice ta s.now.temps.length tc, .slice ma s.now.made.length mc, .slice ga s.now.gone.length gc, .slice oa s.start.length oc, .slice (some ⟨bg9, 0, none⟩) (n + 1) cap9, _, .int .u8 (s.phase : Nat), .int .u8 (s.status : Nat), .int .u8 (s.applied : Nat), vlim, vtx, vleft, vpr, vtot] := kS.rput rS 9 rfl
                    replace rOr := kS.rputo rOr (by first | (left; omega) | (right; simp only [List.length_cons, List.length_nil, length_bL, length_be]; omega))
                    replace rMd := kS.rputo rMd (by first | (left; omega) | (right; simp only [List.length_cons, List.length_nil, length_bL, length_be]; omega))
                    refine ⟨.inl rfl, ?_⟩
                    refine p_nil ?_
                    refine end0 rfl ?_
                    have hkk : ¬ (f.kind ≠ 3 ∧ f.kind ≠ 7) := by omega
                    have eS : entS s f = { s with now := { s.now with accts := s.now.accts, made := s.now.made }, ret := [] } := by
                      unfold entS entW entA entA1
                      rw [if_neg hkk]
                      simp only [cB1, if_true, Bool.false_eq_true, if_false]
                    rw [eS]
                    have eacc : s.now.accts.length < 1048576 := by
                      have h1 := putA_len s.now.accts (setNon (acctAt s.now.accts f.self) 1)
                      have h2 := moveA_len s.now.accts f.caller f.self f.value
                      have h3 := eh.accts
                      omega
                    have emad : s.now.made.length < 1048576 := by
                      have h1 := len_withA s.now.made f.self
                      have h3 := eh.made
                      omega
                    exact ⟨rfl, _, _, _, _, _, _, G, kS, ⟨⟨eacc, so.warmA, so.warmS, so.refund, so.logs, so.temps, emad, so.gone, so.start, (show 0 < 16777216 by decide), so.phase, so.status, so.applied, so.limit, so.txGas, so.left, so.price, so.total, so.origin, so.mad⟩, eC.mono hL0, (by simp only [size_spl, Array.size_setIfInBounds]; exact hs.size), _, _, _, _, _, _, _, _, _, _, _, _, _, _, _, _, _, _, _, _, _, _, _, _, rS, rOr, rMd, (hAc.mono hL0), (hWA.mono hL0), (hWS.mono hL0), (hRf.mono hL0), (hTm.mono hL0), (hMd.mono hL0), (hGn.mono hL0), (hSr.mono hL0), (BV.nil _), (hLm.mono hL0), (hTx.mono hL0), (hLf.mono hL0), (hPr.mono hL0), (hTt.mono hL0)⟩, kG, hP9, FC.lay hfN hR9, (rS 4 _ rfl).trans hv4.symm, orI hd9 id (fun h9 => Nat.le_trans hU9 h9.1), nbg9, f2, k2.lt, (fun e => hgk9 e.symm), nb2⟩)))))))
end Go.Proofs.YgvaawGreat
