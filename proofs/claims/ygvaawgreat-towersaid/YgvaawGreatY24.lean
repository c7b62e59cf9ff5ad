import Derived.Test.YgvaawGreatYB
set_option maxRecDepth 100000
set_option maxHeartbeats 4000000
set_option linter.unusedSimpArgs false
set_option linter.unusedVariables false
namespace Go.Proofs.YgvaawGreat
open Go
theorem len_rd (m : List Nat) (x y : Nat) : (rdN m x y).length = y := by
  unfold rdN
  split
  · rename_i h; rw [h]; rfl
  · exact len_cut _ _ _
def valN (s : YSt) (f : YF) (o : Nat) (xs : List Nat) : Nat :=
  if o = 32 then kecN (rdN f.mem (opndN xs 0) (opndN xs 1))
  else if famN o = 1 then aluN o (opndN xs 0) (opndN xs 1) (opndN xs 2)
  else if 95 ≤ o ∧ o ≤ 127 then ofBE (cutN f.code (f.pc + 1) (immN o))
  else if (64 ≤ o ∧ o ≤ 70) ∨ o = 72 then bvN s o (opndN xs 0)
  else if o = 49 ∨ o = 59 ∨ o = 63 then avN (acctAt s.now.accts (opndN xs 0 % A160)) o
  else if o = 48 then f.self
  else if o = 50 then s.origin
  else if o = 51 then f.caller
  else if o = 52 then f.value
  else if o = 53 then ofBE (cutN f.input (opndN xs 0) 32)
  else if o = 54 then f.input.length
  else if o = 56 then f.code.length
  else if o = 58 then s.price
  else if o = 61 then s.ret.length
  else if o = 71 then (acctAt s.now.accts f.self).bal
  else if o = 81 then ofBE (cutN f.mem (opndN xs 0) 32)
  else if o = 84 then slotAt (acctAt s.now.accts f.self).slots (opndN xs 0)
  else if o = 92 then triAt s.now.temps f.self (opndN xs 0)
  else if o = 88 then f.pc
  else if o = 89 then f.mem.length
  else if o = 90 then f.gas
  else 0
def valS (s : YSt) (f : YF) (o : Nat) (xs : List Nat) : YSt :=
  if o = 49 ∨ o = 59 ∨ o = 63 then { s with now := { s.now with warmA := withA s.now.warmA (opndN xs 0 % A160) } }
  else if o = 84 then { s with now := { s.now with warmS := withM s.now.warmS f.self (opndN xs 0) } }
  else s
theorem yp_value (hKec : KSum) {w : World} {H : Store} (hF : Fz w H) (bs : Nat) (cs : Array Value) (s : YSt) (vf : Value) (kS : Blk w bs cs) (hs : SC H cs s vf) (bf o : Nat) (fs : Array Value) (f : YF) (vm : Value) (kF : Blk w bf fs) (hf : FC H fs o f vm) (bm : Nat) (kM : MB w bm vm f.mem) (lM : bm < w.heap.size) (q : Nat) (hq : q < 256) (nbS : ¬ H.has bs) (dSF : bs ≠ bf) (dMF : bm ≠ bf) (dSM : bs ≠ bm) (rm : SRm s) {xga : Option Addr} {xgc : Nat} {xs : List Nat} (hX : LV P_nat 1 H (.slice xga xs.length xgc) xs) (hxn : xs.length < 1000) (hrd : q = 32 → opndN xs 1 ≤ 1099511627776) :
    Ret 152 [.pointer (some ⟨bs, 0, none⟩), .pointer (some ⟨bf, o, none⟩), .int .u8 q, .slice xga xs.length xgc] w (fun v w' => ∃ cs' H', Go (fun k => k = bs) w H w' H' ∧ Blk w' bs cs' ∧ SC H' cs' (valS s f q xs) vf ∧ cs'[4]? = cs[4]? ∧ NV H' v (valN s f q xs) ∧ valN s f q xs < 256 ^ 32) := by
  obtain ⟨am, rfl⟩ := kM.val
  obtain ⟨aa, ac, wa, wc, sa, sc, vr, la, lc, ta, tc, ma, mc, ga, gc, oa, oc, ra, rc, vlim, vtx, vleft, vpr, vtot, rS, rOr, rMd, hAc, hWA, hWS, hRf, hTm, hMd, hGn, hSr, hRt, hLm, hTx, hLf, hPr, hTt⟩ := hs.ex
  have so := hs.ok
  have so1 := so.accts
  have so2 := so.warmA
  have so3 := so.warmS
  have so4 := so.temps
  have so5 := so.start
  have so6 := so.logs
  have so7 := so.made
  have so8 := so.gone
  have so9 := so.ret
  have eC := hs.env
  obtain ⟨vpc, vgas, vval, voo, vol, ka, kc, ca, cc, ia, ic, svc, rF, rSe, rCa, rSv, hSv, hPc, hGa, hVa, hOo, hOl, hSt, hCo, hIn⟩ := hf.ex
  have fo := hf.ok
  have fo1 := fo.stack
  have fo2 := fo.code
  have fo3 := fo.input
  have fo4 := fo.mem
  have lS := kS.lt
  have lF := kF.lt
  have lM0 := lM
  have hv4 := rS 4 _ rfl
  refine enter (n := 242) Hvaa.func152 rfl rfl (Nat.le_of_ble_eq_true rfl) ?_
  have U : Ch (fun k => k = bs) w w := Ch.refl _ w
  have G : Go (fun k => k = bs) w H w H := Go.refl hF
  have hL0 : Le H H := Le.refl H
  refine c_seq (fun K1 hK1 => ?_)
  exact (by
    refine c_region ?_
    refine l_step y_assignC ?_
    refine l_nil ?_
    refine hK1 _ _ ?_
    refine fg4 3 2 1 0 (gS rfl (gS rfl (gS rfl (gS rfl g0)))) (gS rfl (gS rfl (gS rfl g0))) (gS rfl (gS rfl g0)) (gS rfl g0) (fun g => ?_)
    refine c_seq (fun K2 hK2 => ?_)
    exact (by
      refine c_region ?_
      refine l_step (y_moveV (et (gS rfl (gS rfl (gS rfl g0))) rfl)) ?_
      refine l_eff (e_callV cal_228 (aC (et g0 rfl) (aC (v := .int .i64 ((0 : Nat) : Int)) rfl aN)) (yp_operand 0 _ _ _ _ _ hF hX (by omega) (by decide))) (fun v3 w3 h3 => ?_)
      obtain ⟨u3, n3, q3⟩ := h3
      replace G := G.tr (Go.ofUp hF u3)
      replace hF := hF.up u3
      replace kS := kS.up u3
      replace kF := kF.up u3
      replace kM := kM.up u3
      replace U := U.tr u3
      refine l_step (y_assignV (et g0 rfl)) ?_
      refine l_nil ?_
      refine hK2 _ _ ?_
      refine fg5 3 2 1 0 9 (gS rfl (gS rfl (gS rfl (gS rfl (gS rfl (gS rfl g0)))))) (gS rfl (gS rfl (gS rfl (gS rfl (gS rfl g0))))) (gS rfl (gS rfl (gS rfl (gS rfl g0)))) (gS rfl (gS rfl (gS rfl g0))) g0 (fun g => ?_)
      refine c_seq (fun K4 hK4 => ?_)
      exact (by
        refine c_region ?_
        refine l_step (y_moveV (et (gS rfl (gS rfl (gS rfl (gS rfl g0)))) rfl)) ?_
        refine l_eff (e_callV cal_228 (aC (et g0 rfl) (aC (v := .int .i64 ((1 : Nat) : Int)) rfl aN)) (yp_operand 1 _ _ _ _ _ hF hX (by omega) (by decide))) (fun v5 w5 h5 => ?_)
        obtain ⟨u5, n5, q5⟩ := h5
        replace G := G.tr (Go.ofUp hF u5)
        replace hF := hF.up u5
        replace kS := kS.up u5
        replace kF := kF.up u5
        replace kM := kM.up u5
        replace U := U.tr u5
        refine l_step (y_assignV (et g0 rfl)) ?_
        refine l_nil ?_
        refine hK4 _ _ ?_
        refine fg6 3 2 1 0 9 10 (gS rfl (gS rfl (gS rfl (gS rfl (gS rfl (gS rfl (gS rfl g0))))))) (gS rfl (gS rfl (gS rfl (gS rfl (gS rfl (gS rfl g0)))))) (gS rfl (gS rfl (gS rfl (gS rfl (gS rfl g0))))) (gS rfl (gS rfl (gS rfl (gS rfl g0)))) (gS rfl (gS rfl (gS rfl g0))) g0 (fun g => ?_)
        refine c_seq (fun K6 hK6 => ?_)
        refine c_block (fun Q7 hQ7 => ?_)
        refine c_seq (fun K8 hK8 => ?_)
        exact (by
          refine c_region ?_
          refine l_step (y_moveV (et (gS rfl (gS rfl (gS rfl (gS rfl g0)))) rfl)) ?_
          refine l_step (y_eql (et g0 rfl) rfl) ?_
          refine l_step (y_assignV (et g0 rfl)) ?_
          refine l_nil ?_
          refine hK8 _ _ ?_
          refine fg7 3 2 1 0 9 10 16 (gS rfl (gS rfl (gS rfl (gS rfl (gS rfl (gS rfl (gS rfl (gS rfl g0)))))))) (gS rfl (gS rfl (gS rfl (gS rfl (gS rfl (gS rfl (gS rfl g0))))))) (gS rfl (gS rfl (gS rfl (gS rfl (gS rfl (gS rfl g0)))))) (gS rfl (gS rfl (gS rfl (gS rfl (gS rfl g0))))) (gS rfl (gS rfl (gS rfl (gS rfl g0)))) (gS rfl (gS rfl (gS rfl g0))) g0 (fun g => ?_)
          refine c_condV (i := 16) g0 rfl (fun cB1 => ?_) (fun cB1 => ?_)
          · skip
            simp only [Bool.and_eq_true, Bool.or_eq_true, Bool.and_eq_false_imp, Bool.or_eq_false_iff, decide_eq_true_eq, decide_eq_false_iff_not] at cB1
            refine c_seq (fun K10 hK10 => ?_)
            exact (by
              refine c_region ?_
              refine l_step (y_moveV (et (gS rfl (gS rfl (gS rfl (gS rfl (gS rfl g0))))) rfl)) ?_
              refine l_step (y_moveV (et (gS rfl (gS rfl (gS rfl (gS rfl g0)))) rfl)) ?_
              refine l_step (y_moveV (et (gS rfl (gS rfl (gS rfl (gS rfl g0)))) rfl)) ?_
              refine l_eff (e_callV cal_62 (aC (et (gS rfl (gS rfl g0)) rfl) (aC (et (gS rfl g0) rfl) (aC (et g0 rfl) aN))) (yp_read hF _ _ _ _ _ kF (hf.mono hL0) _ kM (Nat.lt_of_lt_of_le lM U.size) n3 n5 (bd_up (bd_W q3) (by decide)) (bd_up (bd_W q5) (by decide)) (hrd (by omega)))) (fun v11 w11 h11 => ?_)
              obtain ⟨H11, g11, b11⟩ := h11
              have hlew11 := g11.le
              replace nbS := g11.nb nbS kS.lt
              replace hX := hX.mono hlew11
              replace n3 := n3.mono hlew11
              replace n5 := n5.mono hlew11
              replace hL0 := hL0.trans hlew11
              replace kS := kS.up g11.up
              replace kF := kF.up g11.up
              replace kM := kM.up g11.up
              replace U := U.tr g11.up
              replace G := G.tr g11
              replace hF := g11.fz
              refine l_eff (e_callV cal_215 (aC (et g0 rfl) aN) (hKec _ _ _ _ hF b11 (by rw [len_rd]; exact hrd (by omega)))) (fun v12 w12 h12 => ?_)
              obtain ⟨rfl, u12⟩ := h12
              replace G := G.tr (Go.ofUp hF u12)
              replace hF := hF.up u12
              replace kS := kS.up u12
              replace kF := kF.up u12
              replace kM := kM.up u12
              replace U := U.tr u12
              refine l_eff (e_alloc zr_27) (fun v13 w13 h13 => ?_)
              obtain ⟨b13, rfl, n13⟩ := h13
              have f13 : w.heap.size ≤ b13 := Nat.le_trans U.size n13.fresh
              have nb13 := hF.nb n13.fresh
              replace G := G.tr (Go.ofUp hF n13.up)
              replace hF := hF.up n13.up
              replace kS := kS.up n13.up
              replace kF := kF.up n13.up
              replace kM := kM.up n13.up
              replace U := U.tr n13.up
              have k13 := n13.blk
              exact (by
                refine l_effN (e_store sz_27 (et g0 rfl) (cellsV (et (gS rfl g0) rfl) rfl) (by rw [length_bL, length_be]) (by exact one_bL _) k13 (by exact Nat.le_of_ble_eq_true rfl)) (fun v14 w14 h14 => ?_)
                obtain ⟨rfl, x14⟩ := h14
                replace kS := kS.ch x14.ch (by first | omega | (omega))
                replace kF := kF.ch x14.ch (by first | omega | (omega))
                replace kM := kM.ch x14.ch (by first | omega | (omega))
                replace k13 := x14.blk.full (by rw [length_bL, length_be]; rfl)
                replace G := G.wr x14 (by first | exact .inr f13 | omega | (simp; omega)) nb13
                replace hF := G.fz
                replace U := U.st x14 (.inr f13)
                refine l_nil ?_
                refine hK10 _ _ ?_
                refine fg1 11 g0 (fun g => ?_)
                refine c_seq (fun K15 hK15 => ?_)
                exact (by
                  refine c_region ?_
                  refine l_step (y_slA000 Hvaa.underlying27 sz_5 (et g0 rfl) ) ?_
                  refine l_eff (e_callV cal_33 (aC (et g0 rfl) aN) (nat_fromRow hF (k13.row (RowIn.self _)) k13.lt (bd_W (kec_lt _)) (by decide))) (fun v16 w16 h16 => ?_)
                  obtain ⟨H16, g16, n16⟩ := h16
                  have hlew16 := g16.le
                  replace nb13 := g16.nb nb13 k13.lt
                  replace nbS := g16.nb nbS kS.lt
                  replace hX := hX.mono hlew16
                  replace n3 := n3.mono hlew16
                  replace n5 := n5.mono hlew16
                  replace b11 := b11.mono hlew16
                  replace hL0 := hL0.trans hlew16
                  replace k13 := k13.up g16.up
                  replace kS := kS.up g16.up
                  replace kF := kF.up g16.up
                  replace kM := kM.up g16.up
                  replace U := U.tr g16.up
                  replace G := G.tr g16
                  replace hF := g16.fz
                  refine l_step (y_assignV (et g0 rfl)) ?_
                  refine l_nil ?_
                  refine hK15 _ _ ?_
                  refine fg1 8 g0 (fun g => ?_)
                  refine c_ret ?_
                  refine hQ7 _ _ _ (in_ret ?_)
                  repeat with_reducible refine then_ret ?_
                  refine ret1 rfl (res_tmp (et g0 rfl)) ?_
                  exact ⟨_, _, G, kS, by rw [valS, if_neg (by first | omega | (intro hh; rcases hh with hh | hh | hh <;> rw [hh] at cB2 <;> revert cB2 <;> decide)), if_neg (by first | omega | (intro hh; rw [hh] at cB2; revert cB2; decide))]; exact hs.mono hL0, rfl, nvb (n := 32) n16 (bd_W (kec_lt _)) (by decide) (by rw [valN, if_pos (by omega)]; try rfl)⟩)))
          · skip
            simp only [Bool.and_eq_true, Bool.or_eq_true, Bool.and_eq_false_imp, Bool.or_eq_false_iff, decide_eq_true_eq, decide_eq_false_iff_not] at cB1
            refine c_seq (fun K17 hK17 => ?_)
            exact (by
              refine c_region ?_
              refine l_step (y_moveV (et (gS rfl (gS rfl (gS rfl (gS rfl (gS rfl (gS rfl g0)))))) rfl)) ?_
              refine l_eff (e_callV cal_65 (aC (et g0 rfl) aN) (fam_spec _ _ hq)) (fun v18 w18 h18 => ?_)
              obtain ⟨rfl, u18⟩ := h18
              replace G := G.tr (Go.ofUp hF u18)
              replace hF := hF.up u18
              replace kS := kS.up u18
              replace kF := kF.up u18
              replace kM := kM.up u18
              replace U := U.tr u18
              refine l_step (y_eql (et g0 rfl) rfl) ?_
              refine l_step (y_assignV (et g0 rfl)) ?_
              refine l_nil ?_
              refine hK17 _ _ ?_
              refine fg7 3 2 1 0 9 10 26 (gS rfl (gS rfl (gS rfl (gS rfl (gS rfl (gS rfl (gS rfl (gS rfl (gS rfl (gS rfl (gS rfl g0))))))))))) (gS rfl (gS rfl (gS rfl (gS rfl (gS rfl (gS rfl (gS rfl (gS rfl (gS rfl (gS rfl g0)))))))))) (gS rfl (gS rfl (gS rfl (gS rfl (gS rfl (gS rfl (gS rfl (gS rfl (gS rfl g0))))))))) (gS rfl (gS rfl (gS rfl (gS rfl (gS rfl (gS rfl (gS rfl (gS rfl g0)))))))) (gS rfl (gS rfl (gS rfl (gS rfl (gS rfl (gS rfl (gS rfl g0))))))) (gS rfl (gS rfl (gS rfl (gS rfl (gS rfl (gS rfl g0)))))) g0 (fun g => ?_)
              refine c_condV (i := 26) g0 rfl (fun cB2 => ?_) (fun cB2 => ?_)
              · skip
                simp only [decide_eq_true_eq, decide_eq_false_iff_not] at cB2
                refine c_seq (fun K20 hK20 => ?_)
                exact (by
                  refine c_region ?_
                  refine l_step (y_moveV (et (gS rfl (gS rfl (gS rfl (gS rfl (gS rfl (gS rfl g0)))))) rfl)) ?_
                  refine l_step (y_moveV (et (gS rfl (gS rfl (gS rfl (gS rfl g0)))) rfl)) ?_
                  refine l_step (y_moveV (et (gS rfl (gS rfl (gS rfl (gS rfl g0)))) rfl)) ?_
                  refine l_step (y_moveV (et (gS rfl (gS rfl (gS rfl (gS rfl (gS rfl (gS rfl (gS rfl (gS rfl (gS rfl (gS rfl g0)))))))))) rfl)) ?_
                  refine l_eff (e_callV cal_228 (aC (et g0 rfl) (aC (v := .int .i64 ((2 : Nat) : Int)) rfl aN)) (yp_operand 2 _ _ _ _ _ hF hX (by omega) (by decide))) (fun v21 w21 h21 => ?_)
                  obtain ⟨u21, n21, q21⟩ := h21
                  replace G := G.tr (Go.ofUp hF u21)
                  replace hF := hF.up u21
                  replace kS := kS.up u21
                  replace kF := kF.up u21
                  replace kM := kM.up u21
                  replace U := U.tr u21
                  refine l_eff (e_callV cal_229 (aC (et (gS rfl (gS rfl (gS rfl (gS rfl g0)))) rfl) (aC (et (gS rfl (gS rfl (gS rfl g0))) rfl) (aC (et (gS rfl (gS rfl g0)) rfl) (aC (et g0 rfl) aN)))) (yp_alu _ hF n3 n5 n21 (bd_up (bd_W q3) (by decide)) (bd_up (bd_W q5) (by decide)) (bd_up (bd_W q21) (by decide)))) (fun v22 w22 h22 => ?_)
                  obtain ⟨H22, g22, n22⟩ := h22
                  have hlew22 := g22.le
                  replace nbS := g22.nb nbS kS.lt
                  replace hX := hX.mono hlew22
                  replace n3 := n3.mono hlew22
                  replace n5 := n5.mono hlew22
                  replace n21 := n21.mono hlew22
                  replace hL0 := hL0.trans hlew22
                  replace kS := kS.up g22.up
                  replace kF := kF.up g22.up
                  replace kM := kM.up g22.up
                  replace U := U.tr g22.up
                  replace G := G.tr g22
                  replace hF := g22.fz
                  have q22 := aluN_lt q _ _ _ (W_bd (bd_up (bd_W q3) (by decide))) (W_bd (bd_up (bd_W q5) (by decide))) (W_bd (bd_up (bd_W q21) (by decide)))
                  refine l_step (y_assignV (et g0 rfl)) ?_
                  refine l_nil ?_
                  refine hK20 _ _ ?_
                  refine fg1 8 g0 (fun g => ?_)
                  refine c_ret ?_
                  refine hQ7 _ _ _ (in_ret ?_)
                  repeat with_reducible refine then_ret ?_
                  refine ret1 rfl (res_tmp (et g0 rfl)) ?_
                  exact ⟨_, _, G, kS, by rw [valS, if_neg (by first | omega | (intro hh; rcases hh with hh | hh | hh <;> rw [hh] at cB2 <;> revert cB2 <;> decide)), if_neg (by first | omega | (intro hh; rw [hh] at cB2; revert cB2; decide))]; exact hs.mono hL0, rfl, nvb (n := 32) n22 (bd_W q22) (by decide) (by rw [valN, if_neg (by omega), if_pos (by omega)]; try rfl)⟩)
              · skip
                simp only [decide_eq_true_eq, decide_eq_false_iff_not] at cB2
                refine c_seq (fun K23 hK23 => ?_)
                exact (by
                  refine c_region ?_
                  refine l_step (y_moveV (et (gS rfl (gS rfl (gS rfl (gS rfl (gS rfl (gS rfl g0)))))) rfl)) ?_
                  refine l_step (y_geq (et g0 rfl) rfl) ?_
                  refine l_step (y_moveV (et g0 rfl)) ?_
                  refine l_gpure (j := 2) (t := 39) (by exact rfl) (by exact rfl) (et g0 rfl) rfl (fun hc => (y_moveV (et (gS rfl (gS rfl (gS rfl (gS rfl (gS rfl (gS rfl (gS rfl (gS rfl (gS rfl g0))))))))) rfl))) ?_
                  refine l_gpure (j := 2) (t := 39) (by exact rfl) (by exact rfl) (et (gS rfl g0) rfl) rfl (fun hc => (y_leq (et (cT g0 hc) rfl) rfl)) ?_
                  refine l_step (y_pickA (et (gS rfl (gS rfl g0)) rfl) (et g0 rfl) rfl) ?_
                  refine l_step (y_assignV (et g0 rfl)) ?_
                  refine l_nil ?_
                  refine hK23 _ _ ?_
                  refine fg5 2 1 0 9 36 (gS rfl (gS rfl (gS rfl (gS rfl (gS rfl (gS rfl (gS rfl (gS rfl (gS rfl (gS rfl (gS rfl (gS rfl (gS rfl g0))))))))))))) (gS rfl (gS rfl (gS rfl (gS rfl (gS rfl (gS rfl (gS rfl (gS rfl (gS rfl (gS rfl (gS rfl (gS rfl g0)))))))))))) (gS rfl (gS rfl (gS rfl (gS rfl (gS rfl (gS rfl (gS rfl (gS rfl (gS rfl (gS rfl (gS rfl g0))))))))))) (gS rfl (gS rfl (gS rfl (gS rfl (gS rfl (gS rfl (gS rfl (gS rfl (gS rfl (gS rfl g0)))))))))) g0 (fun g => ?_)
                  refine c_condV (i := 36) g0 rfl (fun cB3 => ?_) (fun cB3 => ?_)
                  · skip
                    simp only [Bool.and_eq_true, Bool.or_eq_true, Bool.and_eq_false_imp, Bool.or_eq_false_iff, decide_eq_true_eq, decide_eq_false_iff_not] at cB3
                    refine c_seq (fun K25 hK25 => ?_)
                    exact (by
                      refine c_draw Up 17 [(0, true), (1, true), (2, true), (3, true), (4, true), (5, true), (6, true), (7, true), (10, true), (8, false), (9, false), (11, false), (12, true), (13, false), (14, false), (15, false), (16, true)] (by kernel_rfl) (fun w26 hu => ⟨Up.refl _, ?_⟩)
                      replace G := G.tr (Go.ofUp hF hu)
                      replace hF := hF.up hu
                      replace kS := kS.up hu
                      replace kF := kF.up hu
                      replace kM := kM.up hu
                      replace U := U.tr hu
                      have SU := Up.refl w26
                      refine p_step (by exact rfl) (y_moveV (et (gS rfl (gS rfl (gS rfl (gS rfl g0)))) rfl)) ?_
                      refine p_step (by exact rfl) (y_nil (et g0 rfl)) ?_
                      refine p_step (by exact rfl) (y_fld fld_146_10 (et g0 rfl)) ?_
                      refine p_step (by exact rfl) (y_load1 one_38 (et g0 rfl) (atS (kF.cell (rF 10 _ rfl)))) ?_
                      refine p_step (by exact rfl) (y_moveV (et (gS rfl (gS rfl (gS rfl (gS rfl (gS rfl (gS rfl (gS rfl (gS rfl g0)))))))) rfl)) ?_
                      refine p_step (by exact rfl) (y_nil (et g0 rfl)) ?_
                      refine p_step (by exact rfl) (y_fld fld_146_3 (et g0 rfl)) ?_
                      refine p_step (by exact rfl) (y_load1 one_95 (et g0 rfl) (atS (kF.cell (rF 3 _ rfl)))) ?_
                      refine p_step (by exact rfl) (y_moveV (et (gS rfl (gS rfl (gS rfl (gS rfl (gS rfl (gS rfl (gS rfl (gS rfl (gS rfl (gS rfl (gS rfl (gS rfl (gS rfl g0))))))))))))) rfl)) ?_
                      refine p_eff (by exact rfl) (e_callV cal_32 (aC (v := .int .u64 ((1 : Nat) : Int)) rfl aN) (yp_num (x := 1) hF (by decide))) (fun v27 w27 h27 => ?_)
                      obtain ⟨H27, g27, n27⟩ := h27
                      have hlew27 := g27.le
                      replace nbS := g27.nb nbS kS.lt
                      replace hX := hX.mono hlew27
                      replace n3 := n3.mono hlew27
                      replace n5 := n5.mono hlew27
                      replace hL0 := hL0.trans hlew27
                      replace kS := kS.up g27.up
                      replace kF := kF.up g27.up
                      replace kM := kM.up g27.up
                      replace U := U.tr g27.up
                      replace G := G.tr g27
                      replace hF := g27.fz
                      have q27 : 1 < 256 ^ 1 := by decide
                      refine ⟨.inr (SU.tr g27.up), ?_⟩
                      replace SU := SU.tr g27.up
                      exact (by
                        refine p_eff (by exact rfl) (e_callV cal_34 (aC (et (gS rfl (gS rfl g0)) rfl) (aC (et g0 rfl) aN)) (nat_add hF (hPc.mono hL0) n27 (bd_sm (bd_lt2 (b := 256 ^ 4) fo.pc (by decide)) (by decide)) (bd_sm q27 (by decide)))) (fun v28 w28 h28 => ?_)
                        obtain ⟨H28, g28, n28⟩ := h28
                        have hlew28 := g28.le
                        replace nbS := g28.nb nbS kS.lt
                        replace hX := hX.mono hlew28
                        replace n3 := n3.mono hlew28
                        replace n5 := n5.mono hlew28
                        replace n27 := n27.mono hlew28
                        replace hL0 := hL0.trans hlew28
                        replace kS := kS.up g28.up
                        replace kF := kF.up g28.up
                        replace kM := kM.up g28.up
                        replace U := U.tr g28.up
                        replace G := G.tr g28
                        replace hF := g28.fz
                        have q28 := bd_add (c := 5) (bd_lt2 (b := 256 ^ 4) fo.pc (by decide)) q27 (by decide)
                        refine ⟨.inr (SU.tr g28.up), ?_⟩
                        replace SU := SU.tr g28.up
                        refine p_eff (by exact rfl) (e_callV cal_151 (aC (et (gS rfl (gS rfl g0)) rfl) aN) (imm_spec _ _ hq)) (fun v29 w29 h29 => ?_)
                        obtain ⟨rfl, u29⟩ := h29
                        replace G := G.tr (Go.ofUp hF u29)
                        replace hF := hF.up u29
                        replace kS := kS.up u29
                        replace kF := kF.up u29
                        replace kM := kM.up u29
                        replace U := U.tr u29
                        refine ⟨.inr (SU.tr u29), ?_⟩
                        replace SU := SU.tr u29
                        refine p_step (by exact rfl) (y_conv Hvaa.underlying5 Hvaa.underlying26 (et g0 rfl) (wrapU_id uk64 ?_)) ?_
                        (have := imm_le q; omega)
                        refine p_eff (by exact rfl) (e_callV cal_32 (aC (et g0 rfl) aN) (yp_num hF (show immN q < 18446744073709551616 by have := imm_le q; omega))) (fun v30 w30 h30 => ?_)
                        obtain ⟨H30, g30, n30⟩ := h30
                        have hlew30 := g30.le
                        replace nbS := g30.nb nbS kS.lt
                        replace hX := hX.mono hlew30
                        replace n3 := n3.mono hlew30
                        replace n5 := n5.mono hlew30
                        replace n27 := n27.mono hlew30
                        replace n28 := n28.mono hlew30
                        replace hL0 := hL0.trans hlew30
                        replace kS := kS.up g30.up
                        replace kF := kF.up g30.up
                        replace kM := kM.up g30.up
                        replace U := U.tr g30.up
                        replace G := G.tr g30
                        replace hF := g30.fz
                        have q30 := bd_64 (show immN q < 18446744073709551616 by have := imm_le q; omega)
                        refine ⟨.inr (SU.tr g30.up), ?_⟩
                        replace SU := SU.tr g30.up
                        exact (by
                          refine p_eff (by exact rfl) (e_callV cal_146 (aC (et (gS rfl (gS rfl (gS rfl (gS rfl (gS rfl (gS rfl (gS rfl (gS rfl (gS rfl (gS rfl g0)))))))))) rfl) (aC (et (gS rfl (gS rfl (gS rfl g0))) rfl) (aC (et g0 rfl) aN))) (yp_cut hF (hCo.mono hL0) (by omega) n28 n30 (bd_sm q28 (by decide)) (by have := imm_le q; omega))) (fun v31 w31 h31 => ?_)
                          obtain ⟨H31, g31, b31⟩ := h31
                          have hlew31 := g31.le
                          replace nbS := g31.nb nbS kS.lt
                          replace hX := hX.mono hlew31
                          replace n3 := n3.mono hlew31
                          replace n5 := n5.mono hlew31
                          replace n27 := n27.mono hlew31
                          replace n28 := n28.mono hlew31
                          replace n30 := n30.mono hlew31
                          replace hL0 := hL0.trans hlew31
                          replace kS := kS.up g31.up
                          replace kF := kF.up g31.up
                          replace kM := kM.up g31.up
                          replace U := U.tr g31.up
                          replace G := G.tr g31
                          replace hF := g31.fz
                          refine ⟨.inr (SU.tr g31.up), ?_⟩
                          replace SU := SU.tr g31.up
                          refine p_eff (by exact rfl) (e_callV cal_33 (aC (et g0 rfl) aN) (nat_fromBE hF (b31.wv hF) (Nat.le_refl _) (by rw [len_cut]; have := imm_le q; omega))) (fun v32 w32 h32 => ?_)
                          obtain ⟨H32, g32, n32⟩ := h32
                          have hlew32 := g32.le
                          replace nbS := g32.nb nbS kS.lt
                          replace hX := hX.mono hlew32
                          replace n3 := n3.mono hlew32
                          replace n5 := n5.mono hlew32
                          replace n27 := n27.mono hlew32
                          replace n28 := n28.mono hlew32
                          replace n30 := n30.mono hlew32
                          replace b31 := b31.mono hlew32
                          replace hL0 := hL0.trans hlew32
                          replace kS := kS.up g32.up
                          replace kF := kF.up g32.up
                          replace kM := kM.up g32.up
                          replace U := U.tr g32.up
                          replace G := G.tr g32
                          replace hF := g32.fz
                          refine ⟨.inr (SU.tr g32.up), ?_⟩
                          replace SU := SU.tr g32.up
                          exact (by
                            refine p_step (by exact rfl) (y_assignV (et g0 rfl)) ?_
                            refine p_nil ?_
                            refine hK25 _ _ ?_
                            refine fg1 8 g0 (fun g => ?_)
                            refine c_ret ?_
                            refine hQ7 _ _ _ (in_ret ?_)
                            repeat with_reducible refine then_ret ?_
                            refine ret1 rfl (res_tmp (et g0 rfl)) ?_
                            exact ⟨_, _, G, kS, by rw [valS, if_neg (by first | omega | (intro hh; rcases hh with hh | hh | hh <;> rw [hh] at cB2 <;> revert cB2 <;> decide)), if_neg (by first | omega | (intro hh; rw [hh] at cB2; revert cB2; decide))]; exact hs.mono hL0, rfl, nvb (n := 32) n32 (ofBE_bd b31.dig (by rw [len_cut]; exact imm_le q)) (by decide) (by rw [valN, if_neg (by omega), if_neg (by omega), if_pos (by omega)]; try rfl)⟩))))
                  · skip
                    simp only [Bool.and_eq_true, Bool.or_eq_true, Bool.and_eq_false_imp, Bool.or_eq_false_iff, decide_eq_true_eq, decide_eq_false_iff_not] at cB3
                    refine c_seq (fun K33 hK33 => ?_)
                    refine c_seq (fun K34 hK34 => ?_)
                    exact (by
                      refine c_region ?_
                      refine l_step (y_moveV (et (gS rfl (gS rfl (gS rfl (gS rfl (gS rfl g0))))) rfl)) ?_
                      refine l_step (y_geq (et g0 rfl) rfl) ?_
                      refine l_step (y_moveV (et g0 rfl)) ?_
                      refine l_gpure (j := 2) (t := 62) (by exact rfl) (by exact rfl) (et g0 rfl) rfl (fun hc => (y_moveV (et (gS rfl (gS rfl (gS rfl (gS rfl (gS rfl (gS rfl (gS rfl (gS rfl g0)))))))) rfl))) ?_
                      refine l_gpure (j := 2) (t := 62) (by exact rfl) (by exact rfl) (et (gS rfl g0) rfl) rfl (fun hc => (y_leq (et (cT g0 hc) rfl) rfl)) ?_
                      refine l_step (y_pickA (et (gS rfl (gS rfl g0)) rfl) (et g0 rfl) rfl) ?_
                      refine l_step (y_assignV (et g0 rfl)) ?_
                      refine l_nil ?_
                      refine hK34 _ _ ?_
                      refine fg5 2 1 0 9 59 (gS rfl (gS rfl (gS rfl (gS rfl (gS rfl (gS rfl (gS rfl (gS rfl (gS rfl (gS rfl (gS rfl (gS rfl g0)))))))))))) (gS rfl (gS rfl (gS rfl (gS rfl (gS rfl (gS rfl (gS rfl (gS rfl (gS rfl (gS rfl (gS rfl g0))))))))))) (gS rfl (gS rfl (gS rfl (gS rfl (gS rfl (gS rfl (gS rfl (gS rfl (gS rfl (gS rfl g0)))))))))) (gS rfl (gS rfl (gS rfl (gS rfl (gS rfl (gS rfl (gS rfl (gS rfl (gS rfl g0))))))))) g0 (fun g => ?_)
                      refine c_condV (i := 59) g0 rfl (fun cB4 => ?_) (fun cB4 => ?_)
                      · skip
                        simp only [Bool.and_eq_true, Bool.or_eq_true, Bool.and_eq_false_imp, Bool.or_eq_false_iff, decide_eq_true_eq, decide_eq_false_iff_not] at cB4
                        refine c_skip ?_
                        refine hK33 _ _ ?_
                        refine fg5 2 1 0 9 59 (gS rfl (gS rfl (gS rfl (gS rfl (gS rfl g0))))) (gS rfl (gS rfl (gS rfl (gS rfl g0)))) (gS rfl (gS rfl (gS rfl g0))) (gS rfl (gS rfl g0)) g0 (fun g => ?_)
                        refine c_true (et g0 rfl) rfl ?_
                        refine c_seq (fun K37 hK37 => ?_)
                        exact (by
                          refine c_region ?_
                          refine l_step (y_moveV (et (gS rfl (gS rfl g0)) rfl)) ?_
                          refine l_step (y_moveV (et (gS rfl (gS rfl (gS rfl (gS rfl (gS rfl g0))))) rfl)) ?_
                          refine l_step (y_moveV (et (gS rfl (gS rfl (gS rfl g0))) rfl)) ?_
                          refine l_eff (e_callV cal_230 (aC (et (gS rfl (gS rfl g0)) rfl) (aC (et (gS rfl g0) rfl) (aC (et g0 rfl) aN))) (yp_blockValue hF _ _ _ _ kS (hs.mono hL0) _ hq n3 (bd_up (bd_W q3) (by decide)))) (fun v38 w38 h38 => ?_)
                          obtain ⟨H38, g38, n38, q38⟩ := h38
                          have hlew38 := g38.le
                          replace nbS := g38.nb nbS kS.lt
                          replace hX := hX.mono hlew38
                          replace n3 := n3.mono hlew38
                          replace n5 := n5.mono hlew38
                          replace hL0 := hL0.trans hlew38
                          replace kS := kS.up g38.up
                          replace kF := kF.up g38.up
                          replace kM := kM.up g38.up
                          replace U := U.tr g38.up
                          replace G := G.tr g38
                          replace hF := g38.fz
                          refine l_step (y_assignV (et g0 rfl)) ?_
                          refine l_nil ?_
                          refine hK37 _ _ ?_
                          refine fg1 8 g0 (fun g => ?_)
                          refine c_ret ?_
                          refine hQ7 _ _ _ (in_ret ?_)
                          repeat with_reducible refine then_ret ?_
                          refine ret1 rfl (res_tmp (et g0 rfl)) ?_
                          exact ⟨_, _, G, kS, by rw [valS, if_neg (by first | omega | (intro hh; rcases hh with hh | hh | hh <;> rw [hh] at cB2 <;> revert cB2 <;> decide)), if_neg (by first | omega | (intro hh; rw [hh] at cB2; revert cB2; decide))]; exact hs.mono hL0, rfl, nvb (n := 32) n38 q38 (by decide) (by rw [valN, if_neg (by omega), if_neg (by omega), if_neg (by omega), if_pos (by omega)]; try rfl)⟩)
                      · skip
                        simp only [Bool.and_eq_true, Bool.or_eq_true, Bool.and_eq_false_imp, Bool.or_eq_false_iff, decide_eq_true_eq, decide_eq_false_iff_not] at cB4
                        refine c_region ?_
                        refine l_step (y_moveV (et (gS rfl (gS rfl (gS rfl (gS rfl (gS rfl g0))))) rfl)) ?_
                        refine l_step (y_eql (et g0 rfl) rfl) ?_
                        refine l_step (y_assignV (et g0 rfl)) ?_
                        refine l_nil ?_
                        refine hK33 _ _ ?_
                        refine fg5 2 1 0 9 59 (gS rfl (gS rfl (gS rfl (gS rfl (gS rfl (gS rfl (gS rfl (gS rfl g0)))))))) (gS rfl (gS rfl (gS rfl (gS rfl (gS rfl (gS rfl (gS rfl g0))))))) (gS rfl (gS rfl (gS rfl (gS rfl (gS rfl (gS rfl g0)))))) (gS rfl (gS rfl (gS rfl (gS rfl (gS rfl g0))))) g0 (fun g => ?_)
                        refine c_condV (i := 59) g0 rfl (fun cB5 => ?_) (fun cB5 => ?_)
                        · skip
                          simp only [Bool.and_eq_true, Bool.or_eq_true, Bool.and_eq_false_imp, Bool.or_eq_false_iff, decide_eq_true_eq, decide_eq_false_iff_not] at cB5
                          refine c_seq (fun K40 hK40 => ?_)
                          exact (by
                            refine c_region ?_
                            refine l_step (y_moveV (et (gS rfl (gS rfl (gS rfl g0))) rfl)) ?_
                            refine l_step (y_moveV (et (gS rfl (gS rfl (gS rfl (gS rfl (gS rfl (gS rfl g0)))))) rfl)) ?_
                            refine l_step (y_moveV (et (gS rfl (gS rfl (gS rfl (gS rfl g0)))) rfl)) ?_
                            refine l_eff (e_callV cal_230 (aC (et (gS rfl (gS rfl g0)) rfl) (aC (et (gS rfl g0) rfl) (aC (et g0 rfl) aN))) (yp_blockValue hF _ _ _ _ kS (hs.mono hL0) _ hq n3 (bd_up (bd_W q3) (by decide)))) (fun v41 w41 h41 => ?_)
                            obtain ⟨H41, g41, n41, q41⟩ := h41
                            have hlew41 := g41.le
                            replace nbS := g41.nb nbS kS.lt
                            replace hX := hX.mono hlew41
                            replace n3 := n3.mono hlew41
                            replace n5 := n5.mono hlew41
                            replace hL0 := hL0.trans hlew41
                            replace kS := kS.up g41.up
                            replace kF := kF.up g41.up
                            replace kM := kM.up g41.up
                            replace U := U.tr g41.up
                            replace G := G.tr g41
                            replace hF := g41.fz
                            refine l_step (y_assignV (et g0 rfl)) ?_
                            refine l_nil ?_
                            refine hK40 _ _ ?_
                            refine fg1 8 g0 (fun g => ?_)
                            refine c_ret ?_
                            refine hQ7 _ _ _ (in_ret ?_)
                            repeat with_reducible refine then_ret ?_
                            refine ret1 rfl (res_tmp (et g0 rfl)) ?_
                            exact ⟨_, _, G, kS, by rw [valS, if_neg (by first | omega | (intro hh; rcases hh with hh | hh | hh <;> rw [hh] at cB2 <;> revert cB2 <;> decide)), if_neg (by first | omega | (intro hh; rw [hh] at cB2; revert cB2; decide))]; exact hs.mono hL0, rfl, nvb (n := 32) n41 q41 (by decide) (by rw [valN, if_neg (by omega), if_neg (by omega), if_neg (by omega), if_pos (by omega)]; try rfl)⟩)
                        · skip
                          simp only [Bool.and_eq_true, Bool.or_eq_true, Bool.and_eq_false_imp, Bool.or_eq_false_iff, decide_eq_true_eq, decide_eq_false_iff_not] at cB5
                          refine c_seq (fun K42 hK42 => ?_)
                          refine c_seq (fun K43 hK43 => ?_)
                          exact (by
                            refine c_region ?_
                            refine l_step (y_moveV (et (gS rfl (gS rfl (gS rfl (gS rfl (gS rfl g0))))) rfl)) ?_
                            refine l_step (y_eql (et g0 rfl) rfl) ?_
                            refine l_step (y_assignV (et g0 rfl)) ?_
                            refine l_nil ?_
                            refine hK43 _ _ ?_
                            refine fg5 2 1 0 9 72 (gS rfl (gS rfl (gS rfl (gS rfl (gS rfl (gS rfl (gS rfl (gS rfl g0)))))))) (gS rfl (gS rfl (gS rfl (gS rfl (gS rfl (gS rfl (gS rfl g0))))))) (gS rfl (gS rfl (gS rfl (gS rfl (gS rfl (gS rfl g0)))))) (gS rfl (gS rfl (gS rfl (gS rfl (gS rfl g0))))) g0 (fun g => ?_)
                            refine c_condV (i := 72) g0 rfl (fun cB6 => ?_) (fun cB6 => ?_)
                            · skip
                              simp only [Bool.and_eq_true, Bool.or_eq_true, Bool.and_eq_false_imp, Bool.or_eq_false_iff, decide_eq_true_eq, decide_eq_false_iff_not] at cB6
                              refine c_skip ?_
                              refine hK42 _ _ ?_
                              refine fg5 2 1 0 9 72 (gS rfl (gS rfl (gS rfl (gS rfl (gS rfl g0))))) (gS rfl (gS rfl (gS rfl (gS rfl g0)))) (gS rfl (gS rfl (gS rfl g0))) (gS rfl (gS rfl g0)) g0 (fun g => ?_)
                              refine c_true (et g0 rfl) rfl ?_
                              refine c_seq (fun K46 hK46 => ?_)
                              exact (by
                                refine c_draw Up 5 [(0, true), (1, true), (2, true), (3, true), (4, false), (5, false)] (by kernel_rfl) (fun w47 hu => ⟨Up.refl _, ?_⟩)
                                replace G := G.tr (Go.ofUp hF hu)
                                replace hF := hF.up hu
                                replace kS := kS.up hu
                                replace kF := kF.up hu
                                replace kM := kM.up hu
                                replace U := U.tr hu
                                have SU := Up.refl w47
                                refine p_step (by exact rfl) (y_moveV (et (gS rfl (gS rfl g0)) rfl)) ?_
                                refine p_step (by exact rfl) (y_nil (et g0 rfl)) ?_
                                refine p_step (by exact rfl) (y_fld fld_102_0 (et g0 rfl)) ?_
                                refine p_step (by exact rfl) (y_moveV (et (gS rfl (gS rfl (gS rfl (gS rfl g0)))) rfl)) ?_
                                refine p_eff (by exact rfl) (e_callV cal_147 (aC (et g0 rfl) aN) (yp_addrOf hF n3 (bd_up (bd_W q3) (by decide)))) (fun v48 w48 h48 => ?_)
                                obtain ⟨rfl, u48⟩ := h48
                                replace G := G.tr (Go.ofUp hF u48)
                                replace hF := hF.up u48
                                replace kS := kS.up u48
                                replace kF := kF.up u48
                                replace kM := kM.up u48
                                replace U := U.tr u48
                                refine ⟨.inr (SU.tr u48), ?_⟩
                                replace SU := SU.tr u48
                                refine p_eff (by exact rfl) (e_callV cal_51 (aC (et (gS rfl (gS rfl g0)) rfl) (aC (et g0 rfl) aN)) (yp_warm _ _ _ _ _ _ _ _ _ hF kS nbS (rS 1 _ rfl) (hWA.mono hL0) (Nat.mod_lt _ A160_pos) (by omega))) (fun v49 w49 h49 => ?_)
                                obtain ⟨rfl, z49, H49, g49, lv49, kx49⟩ := h49
                                have hlew49 := g49.le
                                replace nbS := g49.nb nbS kS.lt
                                replace hX := hX.mono hlew49
                                replace n3 := n3.mono hlew49
                                replace n5 := n5.mono hlew49
                                replace hL0 := hL0.trans hlew49
                                replace kF := kF.ch g49.ch (by omega)
                                replace kM := kM.ch g49.ch (by omega)
                                replace kS := kx49
                                replace U := U.cc g49.ch (by intro b hb; first | omega | exact .inl hb | exact .inr (hb ▸ U))
                                replace G := G.trans g49 (by intro b hb; first | omega | exact .inl hb | (simp at hb ⊢; omega))
                                replace hF := g49.fz
                                obtain ⟨xa49, xc49, rfl, hxl49, hxc49⟩ := lv49.val
                                replace eC := kS.eset eC (by omega)
                                replace rS : RowIn _ _ [.slice aa s.now.accts.length ac, _, .slice sa s.now.warmS.length sc, vr, .slice la s.now.logs.length lc, .slice ta s.now.temps.length tc, .slice ma s.now.made.length mc, .slice ga s.now.gone.length gc, .slice oa s.start.length oc, vf, .slice ra s.ret.length rc, .int .u8 (s.phase : Nat), .int .u8 (s.status : Nat), .int .u8 (s.applied : Nat), vlim, vtx, vleft, vpr, vtot] := kS.rset rS 1 rfl
                                replace rOr := kS.rseto rOr (by first | (left; omega) | (right; simp only [List.length_cons, List.length_nil, length_bL, length_be]; omega))
                                replace rMd := kS.rseto rMd (by first | (left; omega) | (right; simp only [List.length_cons, List.length_nil, length_bL, length_be]; omega))
                                refine ⟨.inl rfl, ?_⟩
                                refine p_nil ?_
                                refine hK46 _ _ ?_
                                refine fg3 2 0 9 (gS rfl (gS rfl (gS rfl (gS rfl (gS rfl (gS rfl (gS rfl (gS rfl (gS rfl (gS rfl g0)))))))))) (gS rfl (gS rfl (gS rfl (gS rfl (gS rfl (gS rfl (gS rfl (gS rfl g0)))))))) (gS rfl (gS rfl (gS rfl (gS rfl (gS rfl (gS rfl (gS rfl g0))))))) (fun g => ?_)
                                refine c_seq (fun K50 hK50 => ?_)
                                exact (by
                                  refine c_draw Up 9 [(0, true), (1, true), (2, true), (3, true), (6, true), (4, false), (5, false), (7, false), (8, true)] (by kernel_rfl) (fun w51 hu => ⟨Up.refl _, ?_⟩)
                                  replace G := G.tr (Go.ofUp hF hu)
                                  replace hF := hF.up hu
                                  replace kS := kS.up hu
                                  replace kF := kF.up hu
                                  replace kM := kM.up hu
                                  replace U := U.tr hu
                                  have SU := Up.refl w51
                                  refine p_step (by exact rfl) (y_moveV (et (gS rfl g0) rfl)) ?_
                                  refine p_step (by exact rfl) (y_nil (et g0 rfl)) ?_
                                  refine p_step (by exact rfl) (y_fld fld_102_0 (et g0 rfl)) ?_
                                  refine p_step (by exact rfl) (y_moveV (et (gS rfl (gS rfl (gS rfl g0))) rfl)) ?_
                                  refine p_step (by exact rfl) (y_moveV (et (gS rfl (gS rfl (gS rfl (gS rfl (gS rfl (gS rfl g0)))))) rfl)) ?_
                                  refine p_eff (by exact rfl) (e_callV cal_147 (aC (et (gS rfl g0) rfl) aN) (yp_addrOf hF n3 (bd_up (bd_W q3) (by decide)))) (fun v52 w52 h52 => ?_)
                                  obtain ⟨rfl, u52⟩ := h52
                                  replace G := G.tr (Go.ofUp hF u52)
                                  replace hF := hF.up u52
                                  replace kS := kS.up u52
                                  replace kF := kF.up u52
                                  replace kM := kM.up u52
                                  replace U := U.tr u52
                                  refine ⟨.inr (SU.tr u52), ?_⟩
                                  replace SU := SU.tr u52
                                  refine p_eff (by exact rfl) (e_callV cal_43 (aC (et (gS rfl (gS rfl (gS rfl g0))) rfl) (aC (et g0 rfl) aN)) (yp_account _ _ _ _ _ _ _ _ _ hF kS (rS 0 _ rfl) (hAc.mono hL0) (Nat.mod_lt _ A160_pos) (by omega))) (fun v53 w53 h53 => ?_)
                                  obtain ⟨c53, rfl, p53, u53⟩ := h53
                                  replace G := G.tr (Go.ofUp hF u53)
                                  replace hF := hF.up u53
                                  replace kS := kS.up u53
                                  replace kF := kF.up u53
                                  replace kM := kM.up u53
                                  replace U := U.tr u53
                                  replace p53 : PA _ _ _ := ⟨p53⟩
                                  refine ⟨.inr (SU.tr u53), ?_⟩
                                  replace SU := SU.tr u53
                                  exact (by
                                    refine p_eff (by exact rfl) (e_callV cal_231 (aC (et g0 rfl) (aC (et (gS rfl (gS rfl g0)) rfl) aN)) (yp_accountValue hKec hF p53.p _ hq)) (fun v54 w54 h54 => ?_)
                                    obtain ⟨H54, g54, n54, q54⟩ := h54
                                    have hlew54 := g54.le
                                    replace nbS := g54.nb nbS kS.lt
                                    replace hX := hX.mono hlew54
                                    replace n3 := n3.mono hlew54
                                    replace n5 := n5.mono hlew54
                                    replace lv49 := lv49.mono hlew54
                                    replace p53 := p53.mono hlew54
                                    replace hL0 := hL0.trans hlew54
                                    replace kS := kS.up g54.up
                                    replace kF := kF.up g54.up
                                    replace kM := kM.up g54.up
                                    replace U := U.tr g54.up
                                    replace G := G.tr g54
                                    replace hF := g54.fz
                                    refine ⟨.inr (SU.tr g54.up), ?_⟩
                                    replace SU := SU.tr g54.up
                                    refine p_step (by exact rfl) (y_assignV (et g0 rfl)) ?_
                                    refine p_nil ?_
                                    refine hK50 _ _ ?_
                                    refine fg1 8 g0 (fun g => ?_)
                                    refine c_ret ?_
                                    refine hQ7 _ _ _ (in_ret ?_)
                                    repeat with_reducible refine then_ret ?_
                                    refine ret1 rfl (res_tmp (et g0 rfl)) ?_
                                    exact ⟨_, _, G, kS, by rw [valS, if_pos (by omega)]; exact ⟨⟨so.accts, by show (withA s.now.warmA (opndN xs 0 % A160)).length < _; have := len_withA s.now.warmA (opndN xs 0 % A160); have := rm.warmA; omega, so.warmS, so.refund, so.logs, so.temps, so.made, so.gone, so.start, so.ret, so.phase, so.status, so.applied, so.limit, so.txGas, so.left, so.price, so.total, so.origin, so.mad⟩, eC.mono hL0, (by simp only [size_spl, Array.size_setIfInBounds]; exact hs.size), _, _, _, _, _, _, _, _, _, _, _, _, _, _, _, _, _, _, _, _, _, _, _, _, rS, rOr, rMd, (hAc.mono hL0), lv49, (hWS.mono hL0), (hRf.mono hL0), (hTm.mono hL0), (hMd.mono hL0), (hGn.mono hL0), (hSr.mono hL0), (hRt.mono hL0), (hLm.mono hL0), (hTx.mono hL0), (hLf.mono hL0), (hPr.mono hL0), (hTt.mono hL0)⟩, (rS 4 _ rfl).trans hv4.symm, nvb (n := 32) n54 q54 (by decide) (by rw [valN, if_neg (by omega), if_neg (by omega), if_neg (by omega), if_neg (by omega), if_pos (by omega)]; try rfl)⟩)))
                            · skip
                              simp only [Bool.and_eq_true, Bool.or_eq_true, Bool.and_eq_false_imp, Bool.or_eq_false_iff, decide_eq_true_eq, decide_eq_false_iff_not] at cB6
                              refine c_seq (fun K55 hK55 => ?_)
                              exact (by
                                refine c_region ?_
                                refine l_step (y_moveV (et (gS rfl (gS rfl (gS rfl (gS rfl (gS rfl g0))))) rfl)) ?_
                                refine l_step (y_eql (et g0 rfl) rfl) ?_
                                refine l_step (y_assignV (et g0 rfl)) ?_
                                refine l_nil ?_
                                refine hK55 _ _ ?_
                                refine fg5 2 1 0 9 72 (gS rfl (gS rfl (gS rfl (gS rfl (gS rfl (gS rfl (gS rfl (gS rfl g0)))))))) (gS rfl (gS rfl (gS rfl (gS rfl (gS rfl (gS rfl (gS rfl g0))))))) (gS rfl (gS rfl (gS rfl (gS rfl (gS rfl (gS rfl g0)))))) (gS rfl (gS rfl (gS rfl (gS rfl (gS rfl g0))))) g0 (fun g => ?_)
                                refine c_condV (i := 72) g0 rfl (fun cB7 => ?_) (fun cB7 => ?_)
                                · skip
                                  simp only [Bool.and_eq_true, Bool.or_eq_true, Bool.and_eq_false_imp, Bool.or_eq_false_iff, decide_eq_true_eq, decide_eq_false_iff_not] at cB7
                                  refine c_skip ?_
                                  refine hK42 _ _ ?_
                                  refine fg5 2 1 0 9 72 (gS rfl (gS rfl (gS rfl (gS rfl (gS rfl g0))))) (gS rfl (gS rfl (gS rfl (gS rfl g0)))) (gS rfl (gS rfl (gS rfl g0))) (gS rfl (gS rfl g0)) g0 (fun g => ?_)
                                  refine c_true (et g0 rfl) rfl ?_
                                  refine c_seq (fun K58 hK58 => ?_)
                                  exact (by
                                    refine c_draw Up 5 [(0, true), (1, true), (2, true), (3, true), (4, false), (5, false)] (by kernel_rfl) (fun w59 hu => ⟨Up.refl _, ?_⟩)
                                    replace G := G.tr (Go.ofUp hF hu)
                                    replace hF := hF.up hu
                                    replace kS := kS.up hu
                                    replace kF := kF.up hu
                                    replace kM := kM.up hu
                                    replace U := U.tr hu
                                    have SU := Up.refl w59
                                    refine p_step (by exact rfl) (y_moveV (et (gS rfl (gS rfl g0)) rfl)) ?_
                                    refine p_step (by exact rfl) (y_nil (et g0 rfl)) ?_
                                    refine p_step (by exact rfl) (y_fld fld_102_0 (et g0 rfl)) ?_
                                    refine p_step (by exact rfl) (y_moveV (et (gS rfl (gS rfl (gS rfl (gS rfl g0)))) rfl)) ?_
                                    refine p_eff (by exact rfl) (e_callV cal_147 (aC (et g0 rfl) aN) (yp_addrOf hF n3 (bd_up (bd_W q3) (by decide)))) (fun v60 w60 h60 => ?_)
                                    obtain ⟨rfl, u60⟩ := h60
                                    replace G := G.tr (Go.ofUp hF u60)
                                    replace hF := hF.up u60
                                    replace kS := kS.up u60
                                    replace kF := kF.up u60
                                    replace kM := kM.up u60
                                    replace U := U.tr u60
                                    refine ⟨.inr (SU.tr u60), ?_⟩
                                    replace SU := SU.tr u60
                                    refine p_eff (by exact rfl) (e_callV cal_51 (aC (et (gS rfl (gS rfl g0)) rfl) (aC (et g0 rfl) aN)) (yp_warm _ _ _ _ _ _ _ _ _ hF kS nbS (rS 1 _ rfl) (hWA.mono hL0) (Nat.mod_lt _ A160_pos) (by omega))) (fun v61 w61 h61 => ?_)
                                    obtain ⟨rfl, z61, H61, g61, lv61, kx61⟩ := h61
                                    have hlew61 := g61.le
                                    replace nbS := g61.nb nbS kS.lt
                                    replace hX := hX.mono hlew61
                                    replace n3 := n3.mono hlew61
                                    replace n5 := n5.mono hlew61
                                    replace hL0 := hL0.trans hlew61
                                    replace kF := kF.ch g61.ch (by omega)
                                    replace kM := kM.ch g61.ch (by omega)
                                    replace kS := kx61
                                    replace U := U.cc g61.ch (by intro b hb; first | omega | exact .inl hb | exact .inr (hb ▸ U))
                                    replace G := G.trans g61 (by intro b hb; first | omega | exact .inl hb | (simp at hb ⊢; omega))
                                    replace hF := g61.fz
                                    obtain ⟨xa61, xc61, rfl, hxl61, hxc61⟩ := lv61.val
                                    replace eC := kS.eset eC (by omega)
                                    replace rS : RowIn _ _ [.slice aa s.now.accts.length ac, _, .slice sa s.now.warmS.length sc, vr, .slice la s.now.logs.length lc, .slice ta s.now.temps.length tc, .slice ma s.now.made.length mc, .slice ga s.now.gone.length gc, .slice oa s.start.length oc, vf, .slice ra s.ret.length rc, .int .u8 (s.phase : Nat), .int .u8 (s.status : Nat), .int .u8 (s.applied : Nat), vlim, vtx, vleft, vpr, vtot] := kS.rset rS 1 rfl
                                    replace rOr := kS.rseto rOr (by first | (left; omega) | (right; simp only [List.length_cons, List.length_nil, length_bL, length_be]; omega))
                                    replace rMd := kS.rseto rMd (by first | (left; omega) | (right; simp only [List.length_cons, List.length_nil, length_bL, length_be]; omega))
                                    refine ⟨.inl rfl, ?_⟩
                                    refine p_nil ?_
                                    refine hK58 _ _ ?_
                                    refine fg3 2 0 9 (gS rfl (gS rfl (gS rfl (gS rfl (gS rfl (gS rfl (gS rfl (gS rfl (gS rfl (gS rfl g0)))))))))) (gS rfl (gS rfl (gS rfl (gS rfl (gS rfl (gS rfl (gS rfl (gS rfl g0)))))))) (gS rfl (gS rfl (gS rfl (gS rfl (gS rfl (gS rfl (gS rfl g0))))))) (fun g => ?_)
                                    refine c_seq (fun K62 hK62 => ?_)
                                    exact (by
                                      refine c_draw Up 9 [(0, true), (1, true), (2, true), (3, true), (6, true), (4, false), (5, false), (7, false), (8, true)] (by kernel_rfl) (fun w63 hu => ⟨Up.refl _, ?_⟩)
                                      replace G := G.tr (Go.ofUp hF hu)
                                      replace hF := hF.up hu
                                      replace kS := kS.up hu
                                      replace kF := kF.up hu
                                      replace kM := kM.up hu
                                      replace U := U.tr hu
                                      have SU := Up.refl w63
                                      refine p_step (by exact rfl) (y_moveV (et (gS rfl g0) rfl)) ?_
                                      refine p_step (by exact rfl) (y_nil (et g0 rfl)) ?_
                                      refine p_step (by exact rfl) (y_fld fld_102_0 (et g0 rfl)) ?_
                                      refine p_step (by exact rfl) (y_moveV (et (gS rfl (gS rfl (gS rfl g0))) rfl)) ?_
                                      refine p_step (by exact rfl) (y_moveV (et (gS rfl (gS rfl (gS rfl (gS rfl (gS rfl (gS rfl g0)))))) rfl)) ?_
                                      refine p_eff (by exact rfl) (e_callV cal_147 (aC (et (gS rfl g0) rfl) aN) (yp_addrOf hF n3 (bd_up (bd_W q3) (by decide)))) (fun v64 w64 h64 => ?_)
                                      obtain ⟨rfl, u64⟩ := h64
                                      replace G := G.tr (Go.ofUp hF u64)
                                      replace hF := hF.up u64
                                      replace kS := kS.up u64
                                      replace kF := kF.up u64
                                      replace kM := kM.up u64
                                      replace U := U.tr u64
                                      refine ⟨.inr (SU.tr u64), ?_⟩
                                      replace SU := SU.tr u64
                                      refine p_eff (by exact rfl) (e_callV cal_43 (aC (et (gS rfl (gS rfl (gS rfl g0))) rfl) (aC (et g0 rfl) aN)) (yp_account _ _ _ _ _ _ _ _ _ hF kS (rS 0 _ rfl) (hAc.mono hL0) (Nat.mod_lt _ A160_pos) (by omega))) (fun v65 w65 h65 => ?_)
                                      obtain ⟨c65, rfl, p65, u65⟩ := h65
                                      replace G := G.tr (Go.ofUp hF u65)
                                      replace hF := hF.up u65
                                      replace kS := kS.up u65
                                      replace kF := kF.up u65
                                      replace kM := kM.up u65
                                      replace U := U.tr u65
                                      replace p65 : PA _ _ _ := ⟨p65⟩
                                      refine ⟨.inr (SU.tr u65), ?_⟩
                                      replace SU := SU.tr u65
                                      exact (by
                                        refine p_eff (by exact rfl) (e_callV cal_231 (aC (et g0 rfl) (aC (et (gS rfl (gS rfl g0)) rfl) aN)) (yp_accountValue hKec hF p65.p _ hq)) (fun v66 w66 h66 => ?_)
                                        obtain ⟨H66, g66, n66, q66⟩ := h66
                                        have hlew66 := g66.le
                                        replace nbS := g66.nb nbS kS.lt
                                        replace hX := hX.mono hlew66
                                        replace n3 := n3.mono hlew66
                                        replace n5 := n5.mono hlew66
                                        replace lv61 := lv61.mono hlew66
                                        replace p65 := p65.mono hlew66
                                        replace hL0 := hL0.trans hlew66
                                        replace kS := kS.up g66.up
                                        replace kF := kF.up g66.up
                                        replace kM := kM.up g66.up
                                        replace U := U.tr g66.up
                                        replace G := G.tr g66
                                        replace hF := g66.fz
                                        refine ⟨.inr (SU.tr g66.up), ?_⟩
                                        replace SU := SU.tr g66.up
                                        refine p_step (by exact rfl) (y_assignV (et g0 rfl)) ?_
                                        refine p_nil ?_
                                        refine hK62 _ _ ?_
                                        refine fg1 8 g0 (fun g => ?_)
                                        refine c_ret ?_
                                        refine hQ7 _ _ _ (in_ret ?_)
                                        repeat with_reducible refine then_ret ?_
                                        refine ret1 rfl (res_tmp (et g0 rfl)) ?_
                                        exact ⟨_, _, G, kS, by rw [valS, if_pos (by omega)]; exact ⟨⟨so.accts, by show (withA s.now.warmA (opndN xs 0 % A160)).length < _; have := len_withA s.now.warmA (opndN xs 0 % A160); have := rm.warmA; omega, so.warmS, so.refund, so.logs, so.temps, so.made, so.gone, so.start, so.ret, so.phase, so.status, so.applied, so.limit, so.txGas, so.left, so.price, so.total, so.origin, so.mad⟩, eC.mono hL0, (by simp only [size_spl, Array.size_setIfInBounds]; exact hs.size), _, _, _, _, _, _, _, _, _, _, _, _, _, _, _, _, _, _, _, _, _, _, _, _, rS, rOr, rMd, (hAc.mono hL0), lv61, (hWS.mono hL0), (hRf.mono hL0), (hTm.mono hL0), (hMd.mono hL0), (hGn.mono hL0), (hSr.mono hL0), (hRt.mono hL0), (hLm.mono hL0), (hTx.mono hL0), (hLf.mono hL0), (hPr.mono hL0), (hTt.mono hL0)⟩, (rS 4 _ rfl).trans hv4.symm, nvb (n := 32) n66 q66 (by decide) (by rw [valN, if_neg (by omega), if_neg (by omega), if_neg (by omega), if_neg (by omega), if_pos (by omega)]; try rfl)⟩)))
                                · skip
                                  simp only [Bool.and_eq_true, Bool.or_eq_true, Bool.and_eq_false_imp, Bool.or_eq_false_iff, decide_eq_true_eq, decide_eq_false_iff_not] at cB7
                                  refine c_region ?_
                                  refine l_step (y_moveV (et (gS rfl (gS rfl (gS rfl (gS rfl (gS rfl g0))))) rfl)) ?_
                                  refine l_step (y_eql (et g0 rfl) rfl) ?_
                                  refine l_step (y_assignV (et g0 rfl)) ?_
                                  refine l_nil ?_
                                  refine hK42 _ _ ?_
                                  refine fg5 2 1 0 9 72 (gS rfl (gS rfl (gS rfl (gS rfl (gS rfl (gS rfl (gS rfl (gS rfl g0)))))))) (gS rfl (gS rfl (gS rfl (gS rfl (gS rfl (gS rfl (gS rfl g0))))))) (gS rfl (gS rfl (gS rfl (gS rfl (gS rfl (gS rfl g0)))))) (gS rfl (gS rfl (gS rfl (gS rfl (gS rfl g0))))) g0 (fun g => ?_)
                                  refine c_condV (i := 72) g0 rfl (fun cB8 => ?_) (fun cB8 => ?_)
                                  · skip
                                    simp only [Bool.and_eq_true, Bool.or_eq_true, Bool.and_eq_false_imp, Bool.or_eq_false_iff, decide_eq_true_eq, decide_eq_false_iff_not] at cB8
                                    refine c_seq (fun K68 hK68 => ?_)
                                    exact (by
                                      refine c_draw Up 5 [(0, true), (1, true), (2, true), (3, true), (4, false), (5, false)] (by kernel_rfl) (fun w69 hu => ⟨Up.refl _, ?_⟩)
                                      replace G := G.tr (Go.ofUp hF hu)
                                      replace hF := hF.up hu
                                      replace kS := kS.up hu
                                      replace kF := kF.up hu
                                      replace kM := kM.up hu
                                      replace U := U.tr hu
                                      have SU := Up.refl w69
                                      refine p_step (by exact rfl) (y_moveV (et (gS rfl (gS rfl (gS rfl g0))) rfl)) ?_
                                      refine p_step (by exact rfl) (y_nil (et g0 rfl)) ?_
                                      refine p_step (by exact rfl) (y_fld fld_102_0 (et g0 rfl)) ?_
                                      refine p_step (by exact rfl) (y_moveV (et (gS rfl (gS rfl (gS rfl (gS rfl (gS rfl g0))))) rfl)) ?_
                                      refine p_eff (by exact rfl) (e_callV cal_147 (aC (et g0 rfl) aN) (yp_addrOf hF n3 (bd_up (bd_W q3) (by decide)))) (fun v70 w70 h70 => ?_)
                                      obtain ⟨rfl, u70⟩ := h70
                                      replace G := G.tr (Go.ofUp hF u70)
                                      replace hF := hF.up u70
                                      replace kS := kS.up u70
                                      replace kF := kF.up u70
                                      replace kM := kM.up u70
                                      replace U := U.tr u70
                                      refine ⟨.inr (SU.tr u70), ?_⟩
                                      replace SU := SU.tr u70
                                      refine p_eff (by exact rfl) (e_callV cal_51 (aC (et (gS rfl (gS rfl g0)) rfl) (aC (et g0 rfl) aN)) (yp_warm _ _ _ _ _ _ _ _ _ hF kS nbS (rS 1 _ rfl) (hWA.mono hL0) (Nat.mod_lt _ A160_pos) (by omega))) (fun v71 w71 h71 => ?_)
                                      obtain ⟨rfl, z71, H71, g71, lv71, kx71⟩ := h71
                                      have hlew71 := g71.le
                                      replace nbS := g71.nb nbS kS.lt
                                      replace hX := hX.mono hlew71
                                      replace n3 := n3.mono hlew71
                                      replace n5 := n5.mono hlew71
                                      replace hL0 := hL0.trans hlew71
                                      replace kF := kF.ch g71.ch (by omega)
                                      replace kM := kM.ch g71.ch (by omega)
                                      replace kS := kx71
                                      replace U := U.cc g71.ch (by intro b hb; first | omega | exact .inl hb | exact .inr (hb ▸ U))
                                      replace G := G.trans g71 (by intro b hb; first | omega | exact .inl hb | (simp at hb ⊢; omega))
                                      replace hF := g71.fz
                                      obtain ⟨xa71, xc71, rfl, hxl71, hxc71⟩ := lv71.val
                                      replace eC := kS.eset eC (by omega)
                                      replace rS : RowIn _ _ [.slice aa s.now.accts.length ac, _, .slice sa s.now.warmS.length sc, vr, .slice la s.now.logs.length lc, .slice ta s.now.temps.length tc, .slice ma s.now.made.length mc, .slice ga s.now.gone.length gc, .slice oa s.start.length oc, vf, .slice ra s.ret.length rc, .int .u8 (s.phase : Nat), .int .u8 (s.status : Nat), .int .u8 (s.applied : Nat), vlim, vtx, vleft, vpr, vtot] := kS.rset rS 1 rfl
                                      replace rOr := kS.rseto rOr (by first | (left; omega) | (right; simp only [List.length_cons, List.length_nil, length_bL, length_be]; omega))
                                      replace rMd := kS.rseto rMd (by first | (left; omega) | (right; simp only [List.length_cons, List.length_nil, length_bL, length_be]; omega))
                                      refine ⟨.inl rfl, ?_⟩
                                      refine p_nil ?_
                                      refine hK68 _ _ ?_
                                      refine fg3 2 0 9 (gS rfl (gS rfl (gS rfl (gS rfl (gS rfl (gS rfl (gS rfl (gS rfl (gS rfl (gS rfl (gS rfl g0))))))))))) (gS rfl (gS rfl (gS rfl (gS rfl (gS rfl (gS rfl (gS rfl (gS rfl (gS rfl g0))))))))) (gS rfl (gS rfl (gS rfl (gS rfl (gS rfl (gS rfl (gS rfl (gS rfl g0)))))))) (fun g => ?_)
                                      refine c_seq (fun K72 hK72 => ?_)
                                      exact (by
                                        refine c_draw Up 9 [(0, true), (1, true), (2, true), (3, true), (6, true), (4, false), (5, false), (7, false), (8, true)] (by kernel_rfl) (fun w73 hu => ⟨Up.refl _, ?_⟩)
                                        replace G := G.tr (Go.ofUp hF hu)
                                        replace hF := hF.up hu
                                        replace kS := kS.up hu
                                        replace kF := kF.up hu
                                        replace kM := kM.up hu
                                        replace U := U.tr hu
                                        have SU := Up.refl w73
                                        refine p_step (by exact rfl) (y_moveV (et (gS rfl g0) rfl)) ?_
                                        refine p_step (by exact rfl) (y_nil (et g0 rfl)) ?_
                                        refine p_step (by exact rfl) (y_fld fld_102_0 (et g0 rfl)) ?_
                                        refine p_step (by exact rfl) (y_moveV (et (gS rfl (gS rfl (gS rfl g0))) rfl)) ?_
                                        refine p_step (by exact rfl) (y_moveV (et (gS rfl (gS rfl (gS rfl (gS rfl (gS rfl (gS rfl g0)))))) rfl)) ?_
                                        refine p_eff (by exact rfl) (e_callV cal_147 (aC (et (gS rfl g0) rfl) aN) (yp_addrOf hF n3 (bd_up (bd_W q3) (by decide)))) (fun v74 w74 h74 => ?_)
                                        obtain ⟨rfl, u74⟩ := h74
                                        replace G := G.tr (Go.ofUp hF u74)
                                        replace hF := hF.up u74
                                        replace kS := kS.up u74
                                        replace kF := kF.up u74
                                        replace kM := kM.up u74
                                        replace U := U.tr u74
                                        refine ⟨.inr (SU.tr u74), ?_⟩
                                        replace SU := SU.tr u74
                                        refine p_eff (by exact rfl) (e_callV cal_43 (aC (et (gS rfl (gS rfl (gS rfl g0))) rfl) (aC (et g0 rfl) aN)) (yp_account _ _ _ _ _ _ _ _ _ hF kS (rS 0 _ rfl) (hAc.mono hL0) (Nat.mod_lt _ A160_pos) (by omega))) (fun v75 w75 h75 => ?_)
                                        obtain ⟨c75, rfl, p75, u75⟩ := h75
                                        replace G := G.tr (Go.ofUp hF u75)
                                        replace hF := hF.up u75
                                        replace kS := kS.up u75
                                        replace kF := kF.up u75
                                        replace kM := kM.up u75
                                        replace U := U.tr u75
                                        replace p75 : PA _ _ _ := ⟨p75⟩
                                        refine ⟨.inr (SU.tr u75), ?_⟩
                                        replace SU := SU.tr u75
                                        exact (by
                                          refine p_eff (by exact rfl) (e_callV cal_231 (aC (et g0 rfl) (aC (et (gS rfl (gS rfl g0)) rfl) aN)) (yp_accountValue hKec hF p75.p _ hq)) (fun v76 w76 h76 => ?_)
                                          obtain ⟨H76, g76, n76, q76⟩ := h76
                                          have hlew76 := g76.le
                                          replace nbS := g76.nb nbS kS.lt
                                          replace hX := hX.mono hlew76
                                          replace n3 := n3.mono hlew76
                                          replace n5 := n5.mono hlew76
                                          replace lv71 := lv71.mono hlew76
                                          replace p75 := p75.mono hlew76
                                          replace hL0 := hL0.trans hlew76
                                          replace kS := kS.up g76.up
                                          replace kF := kF.up g76.up
                                          replace kM := kM.up g76.up
                                          replace U := U.tr g76.up
                                          replace G := G.tr g76
                                          replace hF := g76.fz
                                          refine ⟨.inr (SU.tr g76.up), ?_⟩
                                          replace SU := SU.tr g76.up
                                          refine p_step (by exact rfl) (y_assignV (et g0 rfl)) ?_
                                          refine p_nil ?_
                                          refine hK72 _ _ ?_
                                          refine fg1 8 g0 (fun g => ?_)
                                          refine c_ret ?_
                                          refine hQ7 _ _ _ (in_ret ?_)
                                          repeat with_reducible refine then_ret ?_
                                          refine ret1 rfl (res_tmp (et g0 rfl)) ?_
                                          exact ⟨_, _, G, kS, by rw [valS, if_pos (by omega)]; exact ⟨⟨so.accts, by show (withA s.now.warmA (opndN xs 0 % A160)).length < _; have := len_withA s.now.warmA (opndN xs 0 % A160); have := rm.warmA; omega, so.warmS, so.refund, so.logs, so.temps, so.made, so.gone, so.start, so.ret, so.phase, so.status, so.applied, so.limit, so.txGas, so.left, so.price, so.total, so.origin, so.mad⟩, eC.mono hL0, (by simp only [size_spl, Array.size_setIfInBounds]; exact hs.size), _, _, _, _, _, _, _, _, _, _, _, _, _, _, _, _, _, _, _, _, _, _, _, _, rS, rOr, rMd, (hAc.mono hL0), lv71, (hWS.mono hL0), (hRf.mono hL0), (hTm.mono hL0), (hMd.mono hL0), (hGn.mono hL0), (hSr.mono hL0), (hRt.mono hL0), (hLm.mono hL0), (hTx.mono hL0), (hLf.mono hL0), (hPr.mono hL0), (hTt.mono hL0)⟩, (rS 4 _ rfl).trans hv4.symm, nvb (n := 32) n76 q76 (by decide) (by rw [valN, if_neg (by omega), if_neg (by omega), if_neg (by omega), if_neg (by omega), if_pos (by omega)]; try rfl)⟩)))
                                  · skip
                                    simp only [Bool.and_eq_true, Bool.or_eq_true, Bool.and_eq_false_imp, Bool.or_eq_false_iff, decide_eq_true_eq, decide_eq_false_iff_not] at cB8
                                    refine c_skip ?_
                                    refine hQ7 _ _ _ (in_normal ?_)
                                    refine hK6 _ _ ?_
                                    refine fg4 2 1 0 9 (gS rfl (gS rfl (gS rfl (gS rfl (gS rfl g0))))) (gS rfl (gS rfl (gS rfl (gS rfl g0)))) (gS rfl (gS rfl (gS rfl g0))) (gS rfl (gS rfl g0)) (fun g => ?_)
                                    refine c_seq (fun K77 hK77 => ?_)
                                    refine c_seq (fun K78 hK78 => ?_)
                                    exact (by
                                      refine c_region ?_
                                      refine l_step (y_moveV (et (gS rfl (gS rfl (gS rfl g0))) rfl)) ?_
                                      refine l_nil ?_
                                      refine hK78 _ _ ?_
                                      refine fg4 1 0 9 93 (gS rfl (gS rfl (gS rfl g0))) (gS rfl (gS rfl g0)) (gS rfl g0) g0 (fun g => ?_)
                                      refine c_block (fun Q79 hQ79 => ?_)
                                      refine c_seq (fun K80 hK80 => ?_)
                                      exact (by
                                        refine c_region ?_
                                        refine l_step (y_eql (et g0 rfl) rfl) ?_
                                        refine l_step (y_assignV (et g0 rfl)) ?_
                                        refine l_nil ?_
                                        refine hK80 _ _ ?_
                                        refine fg5 1 0 9 93 94 (gS rfl (gS rfl (gS rfl (gS rfl (gS rfl g0))))) (gS rfl (gS rfl (gS rfl (gS rfl g0)))) (gS rfl (gS rfl (gS rfl g0))) (gS rfl (gS rfl g0)) g0 (fun g => ?_)
                                        refine c_condV (i := 94) g0 rfl (fun cB9 => ?_) (fun cB9 => ?_)
                                        · skip
                                          simp only [Bool.and_eq_true, Bool.or_eq_true, Bool.and_eq_false_imp, Bool.or_eq_false_iff, decide_eq_true_eq, decide_eq_false_iff_not] at cB9
                                          refine c_seq (fun K82 hK82 => ?_)
                                          exact (by
                                            refine c_region ?_
                                            refine l_step (y_moveV (et (gS rfl (gS rfl (gS rfl (gS rfl (gS rfl g0))))) rfl)) ?_
                                            refine l_step (y_nil (et g0 rfl)) ?_
                                            refine l_step (y_fld fld_146_12 (et g0 rfl)) ?_
                                            refine l_step (y_slA000 Hvaa.underlying25 sz_5 (et g0 rfl) ) ?_
                                            refine l_eff (e_callV cal_33 (aC (et g0 rfl) aN) (nat_fromRow hF (kF.row rSe) kF.lt (bd_A fo.self) (by decide))) (fun v83 w83 h83 => ?_)
                                            obtain ⟨H83, g83, n83⟩ := h83
                                            have hlew83 := g83.le
                                            replace nbS := g83.nb nbS kS.lt
                                            replace hX := hX.mono hlew83
                                            replace n3 := n3.mono hlew83
                                            replace n5 := n5.mono hlew83
                                            replace hL0 := hL0.trans hlew83
                                            replace kS := kS.up g83.up
                                            replace kF := kF.up g83.up
                                            replace kM := kM.up g83.up
                                            replace U := U.tr g83.up
                                            replace G := G.tr g83
                                            replace hF := g83.fz
                                            refine l_step (y_assignV (et g0 rfl)) ?_
                                            refine l_nil ?_
                                            refine hK82 _ _ ?_
                                            refine fg1 8 g0 (fun g => ?_)
                                            refine c_ret ?_
                                            refine hQ79 _ _ _ (in_ret ?_)
                                            repeat with_reducible refine then_ret ?_
                                            refine ret1 rfl (res_tmp (et g0 rfl)) ?_
                                            exact ⟨_, _, G, kS, by rw [valS, if_neg (by first | omega | (intro hh; rcases hh with hh | hh | hh <;> rw [hh] at cB2 <;> revert cB2 <;> decide)), if_neg (by first | omega | (intro hh; rw [hh] at cB2; revert cB2; decide))]; exact hs.mono hL0, rfl, nvb (n := 20) n83 (bd_A fo.self) (by decide) (by rw [valN, if_neg (by omega), if_neg (by omega), if_neg (by omega), if_neg (by omega), if_neg (by omega), if_pos (by omega)]; try rfl)⟩)
                                        · skip
                                          simp only [Bool.and_eq_true, Bool.or_eq_true, Bool.and_eq_false_imp, Bool.or_eq_false_iff, decide_eq_true_eq, decide_eq_false_iff_not] at cB9
                                          refine c_seq (fun K84 hK84 => ?_)
                                          exact (by
                                            refine c_region ?_
                                            refine l_step (y_eql (et (gS rfl (gS rfl g0)) rfl) rfl) ?_
                                            refine l_step (y_assignV (et g0 rfl)) ?_
                                            refine l_nil ?_
                                            refine hK84 _ _ ?_
                                            refine fg5 1 0 9 93 101 (gS rfl (gS rfl (gS rfl (gS rfl (gS rfl (gS rfl (gS rfl g0))))))) (gS rfl (gS rfl (gS rfl (gS rfl (gS rfl (gS rfl g0)))))) (gS rfl (gS rfl (gS rfl (gS rfl (gS rfl g0))))) (gS rfl (gS rfl (gS rfl (gS rfl g0)))) g0 (fun g => ?_)
                                            refine c_condV (i := 101) g0 rfl (fun cB10 => ?_) (fun cB10 => ?_)
                                            · skip
                                              simp only [Bool.and_eq_true, Bool.or_eq_true, Bool.and_eq_false_imp, Bool.or_eq_false_iff, decide_eq_true_eq, decide_eq_false_iff_not] at cB10
                                              refine c_seq (fun K86 hK86 => ?_)
                                              exact (by
                                                refine c_region ?_
                                                refine l_step (y_moveV (et (gS rfl (gS rfl (gS rfl (gS rfl g0)))) rfl)) ?_
                                                refine l_step (y_nil (et g0 rfl)) ?_
                                                refine l_step (y_fld fld_102_12 (et g0 rfl)) ?_
                                                refine l_step (y_slA000 Hvaa.underlying25 sz_5 (et g0 rfl) ) ?_
                                                refine l_eff (e_callV cal_33 (aC (et g0 rfl) aN) (nat_fromRow hF (kS.row rOr) kS.lt (bd_A so.origin) (by decide))) (fun v87 w87 h87 => ?_)
                                                obtain ⟨H87, g87, n87⟩ := h87
                                                have hlew87 := g87.le
                                                replace nbS := g87.nb nbS kS.lt
                                                replace hX := hX.mono hlew87
                                                replace n3 := n3.mono hlew87
                                                replace n5 := n5.mono hlew87
                                                replace hL0 := hL0.trans hlew87
                                                replace kS := kS.up g87.up
                                                replace kF := kF.up g87.up
                                                replace kM := kM.up g87.up
                                                replace U := U.tr g87.up
                                                replace G := G.tr g87
                                                replace hF := g87.fz
                                                refine l_step (y_assignV (et g0 rfl)) ?_
                                                refine l_nil ?_
                                                refine hK86 _ _ ?_
                                                refine fg1 8 g0 (fun g => ?_)
                                                refine c_ret ?_
                                                refine hQ79 _ _ _ (in_ret ?_)
                                                repeat with_reducible refine then_ret ?_
                                                refine ret1 rfl (res_tmp (et g0 rfl)) ?_
                                                exact ⟨_, _, G, kS, by rw [valS, if_neg (by first | omega | (intro hh; rcases hh with hh | hh | hh <;> rw [hh] at cB2 <;> revert cB2 <;> decide)), if_neg (by first | omega | (intro hh; rw [hh] at cB2; revert cB2; decide))]; exact hs.mono hL0, rfl, nvb (n := 20) n87 (bd_A so.origin) (by decide) (by rw [valN, if_neg (by omega), if_neg (by omega), if_neg (by omega), if_neg (by omega), if_neg (by omega), if_neg (by omega), if_pos (by omega)]; try rfl)⟩)
                                            · skip
                                              simp only [Bool.and_eq_true, Bool.or_eq_true, Bool.and_eq_false_imp, Bool.or_eq_false_iff, decide_eq_true_eq, decide_eq_false_iff_not] at cB10
                                              refine c_seq (fun K88 hK88 => ?_)
                                              exact (by
                                                refine c_region ?_
                                                refine l_step (y_eql (et (gS rfl (gS rfl g0)) rfl) rfl) ?_
                                                refine l_step (y_assignV (et g0 rfl)) ?_
                                                refine l_nil ?_
                                                refine hK88 _ _ ?_
                                                refine fg5 1 0 9 93 108 (gS rfl (gS rfl (gS rfl (gS rfl (gS rfl (gS rfl (gS rfl g0))))))) (gS rfl (gS rfl (gS rfl (gS rfl (gS rfl (gS rfl g0)))))) (gS rfl (gS rfl (gS rfl (gS rfl (gS rfl g0))))) (gS rfl (gS rfl (gS rfl (gS rfl g0)))) g0 (fun g => ?_)
                                                refine c_condV (i := 108) g0 rfl (fun cB11 => ?_) (fun cB11 => ?_)
                                                · skip
                                                  simp only [Bool.and_eq_true, Bool.or_eq_true, Bool.and_eq_false_imp, Bool.or_eq_false_iff, decide_eq_true_eq, decide_eq_false_iff_not] at cB11
                                                  refine c_seq (fun K90 hK90 => ?_)
                                                  exact (by
                                                    refine c_region ?_
                                                    refine l_step (y_moveV (et (gS rfl (gS rfl (gS rfl (gS rfl (gS rfl g0))))) rfl)) ?_
                                                    refine l_step (y_nil (et g0 rfl)) ?_
                                                    refine l_step (y_fld fld_146_13 (et g0 rfl)) ?_
                                                    refine l_step (y_slA000 Hvaa.underlying25 sz_5 (et g0 rfl) ) ?_
                                                    refine l_eff (e_callV cal_33 (aC (et g0 rfl) aN) (nat_fromRow hF (kF.row rCa) kF.lt (bd_A fo.caller) (by decide))) (fun v91 w91 h91 => ?_)
                                                    obtain ⟨H91, g91, n91⟩ := h91
                                                    have hlew91 := g91.le
                                                    replace nbS := g91.nb nbS kS.lt
                                                    replace hX := hX.mono hlew91
                                                    replace n3 := n3.mono hlew91
                                                    replace n5 := n5.mono hlew91
                                                    replace hL0 := hL0.trans hlew91
                                                    replace kS := kS.up g91.up
                                                    replace kF := kF.up g91.up
                                                    replace kM := kM.up g91.up
                                                    replace U := U.tr g91.up
                                                    replace G := G.tr g91
                                                    replace hF := g91.fz
                                                    refine l_step (y_assignV (et g0 rfl)) ?_
                                                    refine l_nil ?_
                                                    refine hK90 _ _ ?_
                                                    refine fg1 8 g0 (fun g => ?_)
                                                    refine c_ret ?_
                                                    refine hQ79 _ _ _ (in_ret ?_)
                                                    repeat with_reducible refine then_ret ?_
                                                    refine ret1 rfl (res_tmp (et g0 rfl)) ?_
                                                    exact ⟨_, _, G, kS, by rw [valS, if_neg (by first | omega | (intro hh; rcases hh with hh | hh | hh <;> rw [hh] at cB2 <;> revert cB2 <;> decide)), if_neg (by first | omega | (intro hh; rw [hh] at cB2; revert cB2; decide))]; exact hs.mono hL0, rfl, nvb (n := 20) n91 (bd_A fo.caller) (by decide) (by rw [valN, if_neg (by omega), if_neg (by omega), if_neg (by omega), if_neg (by omega), if_neg (by omega), if_neg (by omega), if_neg (by omega), if_pos (by omega)]; try rfl)⟩)
                                                · skip
                                                  simp only [Bool.and_eq_true, Bool.or_eq_true, Bool.and_eq_false_imp, Bool.or_eq_false_iff, decide_eq_true_eq, decide_eq_false_iff_not] at cB11
                                                  refine c_seq (fun K92 hK92 => ?_)
                                                  exact (by
                                                    refine c_region ?_
                                                    refine l_step (y_eql (et (gS rfl (gS rfl g0)) rfl) rfl) ?_
                                                    refine l_step (y_assignV (et g0 rfl)) ?_
                                                    refine l_nil ?_
                                                    refine hK92 _ _ ?_
                                                    refine fg5 1 0 9 93 115 (gS rfl (gS rfl (gS rfl (gS rfl (gS rfl (gS rfl (gS rfl g0))))))) (gS rfl (gS rfl (gS rfl (gS rfl (gS rfl (gS rfl g0)))))) (gS rfl (gS rfl (gS rfl (gS rfl (gS rfl g0))))) (gS rfl (gS rfl (gS rfl (gS rfl g0)))) g0 (fun g => ?_)
                                                    refine c_condV (i := 115) g0 rfl (fun cB12 => ?_) (fun cB12 => ?_)
                                                    · skip
                                                      simp only [Bool.and_eq_true, Bool.or_eq_true, Bool.and_eq_false_imp, Bool.or_eq_false_iff, decide_eq_true_eq, decide_eq_false_iff_not] at cB12
                                                      refine c_seq (fun K94 hK94 => ?_)
                                                      exact (by
                                                        refine c_region ?_
                                                        refine l_step (y_moveV (et (gS rfl (gS rfl (gS rfl (gS rfl (gS rfl g0))))) rfl)) ?_
                                                        refine l_step (y_nil (et g0 rfl)) ?_
                                                        refine l_step (y_fld fld_146_5 (et g0 rfl)) ?_
                                                        refine l_step (y_load1 one_95 (et g0 rfl) (at1 (kF.cell (rF 5 _ rfl)))) ?_
                                                        refine l_eff (e_callV cal_123 (aC (et g0 rfl) aN) (nat_normN hF (hVa.mono hL0) (bd_sm (bd_W fo.value) (by decide)))) (fun v95 w95 h95 => ?_)
                                                        obtain ⟨H95, g95, n95⟩ := h95
                                                        have hlew95 := g95.le
                                                        replace nbS := g95.nb nbS kS.lt
                                                        replace hX := hX.mono hlew95
                                                        replace n3 := n3.mono hlew95
                                                        replace n5 := n5.mono hlew95
                                                        replace hL0 := hL0.trans hlew95
                                                        replace kS := kS.up g95.up
                                                        replace kF := kF.up g95.up
                                                        replace kM := kM.up g95.up
                                                        replace U := U.tr g95.up
                                                        replace G := G.tr g95
                                                        replace hF := g95.fz
                                                        have q95 := (bd_W fo.value)
                                                        refine l_step (y_assignV (et g0 rfl)) ?_
                                                        refine l_nil ?_
                                                        refine hK94 _ _ ?_
                                                        refine fg1 8 g0 (fun g => ?_)
                                                        refine c_ret ?_
                                                        refine hQ79 _ _ _ (in_ret ?_)
                                                        repeat with_reducible refine then_ret ?_
                                                        refine ret1 rfl (res_tmp (et g0 rfl)) ?_
                                                        exact ⟨_, _, G, kS, by rw [valS, if_neg (by first | omega | (intro hh; rcases hh with hh | hh | hh <;> rw [hh] at cB2 <;> revert cB2 <;> decide)), if_neg (by first | omega | (intro hh; rw [hh] at cB2; revert cB2; decide))]; exact hs.mono hL0, rfl, nvb (n := 32) n95 q95 (by decide) (by rw [valN, if_neg (by omega), if_neg (by omega), if_neg (by omega), if_neg (by omega), if_neg (by omega), if_neg (by omega), if_neg (by omega), if_neg (by omega), if_pos (by omega)]; try rfl)⟩)
                                                    · skip
                                                      simp only [Bool.and_eq_true, Bool.or_eq_true, Bool.and_eq_false_imp, Bool.or_eq_false_iff, decide_eq_true_eq, decide_eq_false_iff_not] at cB12
                                                      refine c_seq (fun K96 hK96 => ?_)
                                                      exact (by
                                                        refine c_region ?_
                                                        refine l_step (y_eql (et (gS rfl (gS rfl g0)) rfl) rfl) ?_
                                                        refine l_step (y_assignV (et g0 rfl)) ?_
                                                        refine l_nil ?_
                                                        refine hK96 _ _ ?_
                                                        refine fg5 1 0 9 93 122 (gS rfl (gS rfl (gS rfl (gS rfl (gS rfl (gS rfl (gS rfl g0))))))) (gS rfl (gS rfl (gS rfl (gS rfl (gS rfl (gS rfl g0)))))) (gS rfl (gS rfl (gS rfl (gS rfl (gS rfl g0))))) (gS rfl (gS rfl (gS rfl (gS rfl g0)))) g0 (fun g => ?_)
                                                        refine c_condV (i := 122) g0 rfl (fun cB13 => ?_) (fun cB13 => ?_)
                                                        · skip
                                                          simp only [Bool.and_eq_true, Bool.or_eq_true, Bool.and_eq_false_imp, Bool.or_eq_false_iff, decide_eq_true_eq, decide_eq_false_iff_not] at cB13
                                                          refine c_seq (fun K98 hK98 => ?_)
                                                          exact (by
                                                            refine c_draw Up 9 [(0, true), (1, true), (2, true), (3, true), (4, true), (5, false), (6, false), (7, false), (8, true)] (by kernel_rfl) (fun w99 hu => ⟨Up.refl _, ?_⟩)
                                                            replace G := G.tr (Go.ofUp hF hu)
                                                            replace hF := hF.up hu
                                                            replace kS := kS.up hu
                                                            replace kF := kF.up hu
                                                            replace kM := kM.up hu
                                                            replace U := U.tr hu
                                                            have SU := Up.refl w99
                                                            refine p_step (by exact rfl) (y_moveV (et (gS rfl (gS rfl (gS rfl (gS rfl (gS rfl g0))))) rfl)) ?_
                                                            refine p_step (by exact rfl) (y_nil (et g0 rfl)) ?_
                                                            refine p_step (by exact rfl) (y_fld fld_146_11 (et g0 rfl)) ?_
                                                            refine p_step (by exact rfl) (y_load1 one_38 (et g0 rfl) (atS (kF.cell (rF 11 _ rfl)))) ?_
                                                            refine p_step (by exact rfl) (y_moveV (et (gS rfl (gS rfl (gS rfl (gS rfl (gS rfl (gS rfl (gS rfl g0))))))) rfl)) ?_
                                                            refine p_eff (by exact rfl) (e_callV cal_32 (aC (v := .int .u64 ((32 : Nat) : Int)) rfl aN) (yp_num (x := 32) hF (by decide))) (fun v100 w100 h100 => ?_)
                                                            obtain ⟨H100, g100, n100⟩ := h100
                                                            have hlew100 := g100.le
                                                            replace nbS := g100.nb nbS kS.lt
                                                            replace hX := hX.mono hlew100
                                                            replace n3 := n3.mono hlew100
                                                            replace n5 := n5.mono hlew100
                                                            replace hL0 := hL0.trans hlew100
                                                            replace kS := kS.up g100.up
                                                            replace kF := kF.up g100.up
                                                            replace kM := kM.up g100.up
                                                            replace U := U.tr g100.up
                                                            replace G := G.tr g100
                                                            replace hF := g100.fz
                                                            have q100 : 32 < 256 ^ 1 := by decide
                                                            refine ⟨.inr (SU.tr g100.up), ?_⟩
                                                            replace SU := SU.tr g100.up
                                                            refine p_eff (by exact rfl) (e_callV cal_146 (aC (et (gS rfl (gS rfl g0)) rfl) (aC (et (gS rfl g0) rfl) (aC (et g0 rfl) aN))) (yp_cut hF (hIn.mono hL0) (by omega) n3 n100 (bd_sm (bd_W q3) (by decide)) (by decide))) (fun v101 w101 h101 => ?_)
                                                            obtain ⟨H101, g101, b101⟩ := h101
                                                            have hlew101 := g101.le
                                                            replace nbS := g101.nb nbS kS.lt
                                                            replace hX := hX.mono hlew101
                                                            replace n3 := n3.mono hlew101
                                                            replace n5 := n5.mono hlew101
                                                            replace n100 := n100.mono hlew101
                                                            replace hL0 := hL0.trans hlew101
                                                            replace kS := kS.up g101.up
                                                            replace kF := kF.up g101.up
                                                            replace kM := kM.up g101.up
                                                            replace U := U.tr g101.up
                                                            replace G := G.tr g101
                                                            replace hF := g101.fz
                                                            refine ⟨.inr (SU.tr g101.up), ?_⟩
                                                            replace SU := SU.tr g101.up
                                                            exact (by
                                                              refine p_eff (by exact rfl) (e_callV cal_33 (aC (et g0 rfl) aN) (nat_fromBE hF (b101.wv hF) (Nat.le_refl _) (by rw [len_cut]; decide))) (fun v102 w102 h102 => ?_)
                                                              obtain ⟨H102, g102, n102⟩ := h102
                                                              have hlew102 := g102.le
                                                              replace nbS := g102.nb nbS kS.lt
                                                              replace hX := hX.mono hlew102
                                                              replace n3 := n3.mono hlew102
                                                              replace n5 := n5.mono hlew102
                                                              replace n100 := n100.mono hlew102
                                                              replace b101 := b101.mono hlew102
                                                              replace hL0 := hL0.trans hlew102
                                                              replace kS := kS.up g102.up
                                                              replace kF := kF.up g102.up
                                                              replace kM := kM.up g102.up
                                                              replace U := U.tr g102.up
                                                              replace G := G.tr g102
                                                              replace hF := g102.fz
                                                              refine ⟨.inr (SU.tr g102.up), ?_⟩
                                                              replace SU := SU.tr g102.up
                                                              refine p_step (by exact rfl) (y_assignV (et g0 rfl)) ?_
                                                              refine p_nil ?_
                                                              refine hK98 _ _ ?_
                                                              refine fg1 8 g0 (fun g => ?_)
                                                              refine c_ret ?_
                                                              refine hQ79 _ _ _ (in_ret ?_)
                                                              repeat with_reducible refine then_ret ?_
                                                              refine ret1 rfl (res_tmp (et g0 rfl)) ?_
                                                              exact ⟨_, _, G, kS, by rw [valS, if_neg (by first | omega | (intro hh; rcases hh with hh | hh | hh <;> rw [hh] at cB2 <;> revert cB2 <;> decide)), if_neg (by first | omega | (intro hh; rw [hh] at cB2; revert cB2; decide))]; exact hs.mono hL0, rfl, nvb (n := 32) n102 (ofBE_bd b101.dig (by rw [len_cut]; exact Nat.le_refl _)) (by decide) (by rw [valN, if_neg (by omega), if_neg (by omega), if_neg (by omega), if_neg (by omega), if_neg (by omega), if_neg (by omega), if_neg (by omega), if_neg (by omega), if_neg (by omega), if_pos (by omega)]; try rfl)⟩))
                                                        · skip
                                                          simp only [Bool.and_eq_true, Bool.or_eq_true, Bool.and_eq_false_imp, Bool.or_eq_false_iff, decide_eq_true_eq, decide_eq_false_iff_not] at cB13
                                                          refine c_seq (fun K103 hK103 => ?_)
                                                          exact (by
                                                            refine c_region ?_
                                                            refine l_step (y_eql (et (gS rfl (gS rfl g0)) rfl) rfl) ?_
                                                            refine l_step (y_assignV (et g0 rfl)) ?_
                                                            refine l_nil ?_
                                                            refine hK103 _ _ ?_
                                                            refine fg5 1 0 9 93 132 (gS rfl (gS rfl (gS rfl (gS rfl (gS rfl (gS rfl (gS rfl g0))))))) (gS rfl (gS rfl (gS rfl (gS rfl (gS rfl (gS rfl g0)))))) (gS rfl (gS rfl (gS rfl (gS rfl (gS rfl g0))))) (gS rfl (gS rfl (gS rfl (gS rfl g0)))) g0 (fun g => ?_)
                                                            refine c_condV (i := 132) g0 rfl (fun cB14 => ?_) (fun cB14 => ?_)
                                                            · skip
                                                              simp only [Bool.and_eq_true, Bool.or_eq_true, Bool.and_eq_false_imp, Bool.or_eq_false_iff, decide_eq_true_eq, decide_eq_false_iff_not] at cB14
                                                              refine c_seq (fun K105 hK105 => ?_)
                                                              exact (by
                                                                refine c_region ?_
                                                                refine l_step (y_moveV (et (gS rfl (gS rfl (gS rfl (gS rfl (gS rfl g0))))) rfl)) ?_
                                                                refine l_step (y_nil (et g0 rfl)) ?_
                                                                refine l_step (y_fld fld_146_11 (et g0 rfl)) ?_
                                                                refine l_step (y_load1 one_38 (et g0 rfl) (at1 (kF.cell (rF 11 _ rfl)))) ?_
                                                                refine l_step (y_len Hvaa.underlying38 (et g0 rfl)) ?_
                                                                refine l_step (y_conv Hvaa.underlying3 Hvaa.underlying26 (et g0 rfl) (wrapU_id uk64 ?_)) ?_
                                                                omega
                                                                refine l_eff (e_callV cal_32 (aC (et g0 rfl) aN) (yp_num hF (show f.input.length < 18446744073709551616 by omega))) (fun v106 w106 h106 => ?_)
                                                                obtain ⟨H106, g106, n106⟩ := h106
                                                                have hlew106 := g106.le
                                                                replace nbS := g106.nb nbS kS.lt
                                                                replace hX := hX.mono hlew106
                                                                replace n3 := n3.mono hlew106
                                                                replace n5 := n5.mono hlew106
                                                                replace hL0 := hL0.trans hlew106
                                                                replace kS := kS.up g106.up
                                                                replace kF := kF.up g106.up
                                                                replace kM := kM.up g106.up
                                                                replace U := U.tr g106.up
                                                                replace G := G.tr g106
                                                                replace hF := g106.fz
                                                                have q106 := bd_64 (show f.input.length < 18446744073709551616 by omega)
                                                                refine l_step (y_assignV (et g0 rfl)) ?_
                                                                refine l_nil ?_
                                                                refine hK105 _ _ ?_
                                                                refine fg1 8 g0 (fun g => ?_)
                                                                refine c_ret ?_
                                                                refine hQ79 _ _ _ (in_ret ?_)
                                                                repeat with_reducible refine then_ret ?_
                                                                refine ret1 rfl (res_tmp (et g0 rfl)) ?_
                                                                exact ⟨_, _, G, kS, by rw [valS, if_neg (by first | omega | (intro hh; rcases hh with hh | hh | hh <;> rw [hh] at cB2 <;> revert cB2 <;> decide)), if_neg (by first | omega | (intro hh; rw [hh] at cB2; revert cB2; decide))]; exact hs.mono hL0, rfl, nvb (n := 8) n106 q106 (by decide) (by rw [valN, if_neg (by omega), if_neg (by omega), if_neg (by omega), if_neg (by omega), if_neg (by omega), if_neg (by omega), if_neg (by omega), if_neg (by omega), if_neg (by omega), if_neg (by omega), if_pos (by omega)]; try rfl)⟩)
                                                            · skip
                                                              simp only [Bool.and_eq_true, Bool.or_eq_true, Bool.and_eq_false_imp, Bool.or_eq_false_iff, decide_eq_true_eq, decide_eq_false_iff_not] at cB14
                                                              refine c_seq (fun K107 hK107 => ?_)
                                                              exact (by
                                                                refine c_region ?_
                                                                refine l_step (y_eql (et (gS rfl (gS rfl g0)) rfl) rfl) ?_
                                                                refine l_step (y_assignV (et g0 rfl)) ?_
                                                                refine l_nil ?_
                                                                refine hK107 _ _ ?_
                                                                refine fg5 1 0 9 93 141 (gS rfl (gS rfl (gS rfl (gS rfl (gS rfl (gS rfl (gS rfl g0))))))) (gS rfl (gS rfl (gS rfl (gS rfl (gS rfl (gS rfl g0)))))) (gS rfl (gS rfl (gS rfl (gS rfl (gS rfl g0))))) (gS rfl (gS rfl (gS rfl (gS rfl g0)))) g0 (fun g => ?_)
                                                                refine c_condV (i := 141) g0 rfl (fun cB15 => ?_) (fun cB15 => ?_)
                                                                · skip
                                                                  simp only [Bool.and_eq_true, Bool.or_eq_true, Bool.and_eq_false_imp, Bool.or_eq_false_iff, decide_eq_true_eq, decide_eq_false_iff_not] at cB15
                                                                  refine c_seq (fun K109 hK109 => ?_)
                                                                  exact (by
                                                                    refine c_region ?_
                                                                    refine l_step (y_moveV (et (gS rfl (gS rfl (gS rfl (gS rfl (gS rfl g0))))) rfl)) ?_
                                                                    refine l_step (y_nil (et g0 rfl)) ?_
                                                                    refine l_step (y_fld fld_146_10 (et g0 rfl)) ?_
                                                                    refine l_step (y_load1 one_38 (et g0 rfl) (at1 (kF.cell (rF 10 _ rfl)))) ?_
                                                                    refine l_step (y_len Hvaa.underlying38 (et g0 rfl)) ?_
                                                                    refine l_step (y_conv Hvaa.underlying3 Hvaa.underlying26 (et g0 rfl) (wrapU_id uk64 ?_)) ?_
                                                                    omega
                                                                    refine l_eff (e_callV cal_32 (aC (et g0 rfl) aN) (yp_num hF (show f.code.length < 18446744073709551616 by omega))) (fun v110 w110 h110 => ?_)
                                                                    obtain ⟨H110, g110, n110⟩ := h110
                                                                    have hlew110 := g110.le
                                                                    replace nbS := g110.nb nbS kS.lt
                                                                    replace hX := hX.mono hlew110
                                                                    replace n3 := n3.mono hlew110
                                                                    replace n5 := n5.mono hlew110
                                                                    replace hL0 := hL0.trans hlew110
                                                                    replace kS := kS.up g110.up
                                                                    replace kF := kF.up g110.up
                                                                    replace kM := kM.up g110.up
                                                                    replace U := U.tr g110.up
                                                                    replace G := G.tr g110
                                                                    replace hF := g110.fz
                                                                    have q110 := bd_64 (show f.code.length < 18446744073709551616 by omega)
                                                                    refine l_step (y_assignV (et g0 rfl)) ?_
                                                                    refine l_nil ?_
                                                                    refine hK109 _ _ ?_
                                                                    refine fg1 8 g0 (fun g => ?_)
                                                                    refine c_ret ?_
                                                                    refine hQ79 _ _ _ (in_ret ?_)
                                                                    repeat with_reducible refine then_ret ?_
                                                                    refine ret1 rfl (res_tmp (et g0 rfl)) ?_
                                                                    exact ⟨_, _, G, kS, by rw [valS, if_neg (by first | omega | (intro hh; rcases hh with hh | hh | hh <;> rw [hh] at cB2 <;> revert cB2 <;> decide)), if_neg (by first | omega | (intro hh; rw [hh] at cB2; revert cB2; decide))]; exact hs.mono hL0, rfl, nvb (n := 8) n110 q110 (by decide) (by rw [valN, if_neg (by omega), if_neg (by omega), if_neg (by omega), if_neg (by omega), if_neg (by omega), if_neg (by omega), if_neg (by omega), if_neg (by omega), if_neg (by omega), if_neg (by omega), if_neg (by omega), if_pos (by omega)]; try rfl)⟩)
                                                                · skip
                                                                  simp only [Bool.and_eq_true, Bool.or_eq_true, Bool.and_eq_false_imp, Bool.or_eq_false_iff, decide_eq_true_eq, decide_eq_false_iff_not] at cB15
                                                                  refine c_seq (fun K111 hK111 => ?_)
                                                                  exact (by
                                                                    refine c_region ?_
                                                                    refine l_step (y_eql (et (gS rfl (gS rfl g0)) rfl) rfl) ?_
                                                                    refine l_step (y_assignV (et g0 rfl)) ?_
                                                                    refine l_nil ?_
                                                                    refine hK111 _ _ ?_
                                                                    refine fg5 1 0 9 93 150 (gS rfl (gS rfl (gS rfl (gS rfl (gS rfl (gS rfl (gS rfl g0))))))) (gS rfl (gS rfl (gS rfl (gS rfl (gS rfl (gS rfl g0)))))) (gS rfl (gS rfl (gS rfl (gS rfl (gS rfl g0))))) (gS rfl (gS rfl (gS rfl (gS rfl g0)))) g0 (fun g => ?_)
                                                                    refine c_condV (i := 150) g0 rfl (fun cB16 => ?_) (fun cB16 => ?_)
                                                                    · skip
                                                                      simp only [Bool.and_eq_true, Bool.or_eq_true, Bool.and_eq_false_imp, Bool.or_eq_false_iff, decide_eq_true_eq, decide_eq_false_iff_not] at cB16
                                                                      refine c_seq (fun K113 hK113 => ?_)
                                                                      exact (by
                                                                        refine c_region ?_
                                                                        refine l_step (y_moveV (et (gS rfl (gS rfl (gS rfl (gS rfl g0)))) rfl)) ?_
                                                                        refine l_step (y_nil (et g0 rfl)) ?_
                                                                        refine l_step (y_fld fld_102_10 (et g0 rfl)) ?_
                                                                        refine l_step (y_load1 one_95 (et g0 rfl) (at1 (kS.cell (rS 17 _ rfl)))) ?_
                                                                        refine l_eff (e_callV cal_123 (aC (et g0 rfl) aN) (nat_normN hF (hPr.mono hL0) (bd_sm (bd_W so.price) (by decide)))) (fun v114 w114 h114 => ?_)
                                                                        obtain ⟨H114, g114, n114⟩ := h114
                                                                        have hlew114 := g114.le
                                                                        replace nbS := g114.nb nbS kS.lt
                                                                        replace hX := hX.mono hlew114
                                                                        replace n3 := n3.mono hlew114
                                                                        replace n5 := n5.mono hlew114
                                                                        replace hL0 := hL0.trans hlew114
                                                                        replace kS := kS.up g114.up
                                                                        replace kF := kF.up g114.up
                                                                        replace kM := kM.up g114.up
                                                                        replace U := U.tr g114.up
                                                                        replace G := G.tr g114
                                                                        replace hF := g114.fz
                                                                        have q114 := (bd_W so.price)
                                                                        refine l_step (y_assignV (et g0 rfl)) ?_
                                                                        refine l_nil ?_
                                                                        refine hK113 _ _ ?_
                                                                        refine fg1 8 g0 (fun g => ?_)
                                                                        refine c_ret ?_
                                                                        refine hQ79 _ _ _ (in_ret ?_)
                                                                        repeat with_reducible refine then_ret ?_
                                                                        refine ret1 rfl (res_tmp (et g0 rfl)) ?_
                                                                        exact ⟨_, _, G, kS, by rw [valS, if_neg (by first | omega | (intro hh; rcases hh with hh | hh | hh <;> rw [hh] at cB2 <;> revert cB2 <;> decide)), if_neg (by first | omega | (intro hh; rw [hh] at cB2; revert cB2; decide))]; exact hs.mono hL0, rfl, nvb (n := 32) n114 q114 (by decide) (by rw [valN, if_neg (by omega), if_neg (by omega), if_neg (by omega), if_neg (by omega), if_neg (by omega), if_neg (by omega), if_neg (by omega), if_neg (by omega), if_neg (by omega), if_neg (by omega), if_neg (by omega), if_neg (by omega), if_pos (by omega)]; try rfl)⟩)
                                                                    · skip
                                                                      simp only [Bool.and_eq_true, Bool.or_eq_true, Bool.and_eq_false_imp, Bool.or_eq_false_iff, decide_eq_true_eq, decide_eq_false_iff_not] at cB16
                                                                      refine c_seq (fun K115 hK115 => ?_)
                                                                      exact (by
                                                                        refine c_region ?_
                                                                        refine l_step (y_eql (et (gS rfl (gS rfl g0)) rfl) rfl) ?_
                                                                        refine l_step (y_assignV (et g0 rfl)) ?_
                                                                        refine l_nil ?_
                                                                        refine hK115 _ _ ?_
                                                                        refine fg5 1 0 9 93 157 (gS rfl (gS rfl (gS rfl (gS rfl (gS rfl (gS rfl (gS rfl g0))))))) (gS rfl (gS rfl (gS rfl (gS rfl (gS rfl (gS rfl g0)))))) (gS rfl (gS rfl (gS rfl (gS rfl (gS rfl g0))))) (gS rfl (gS rfl (gS rfl (gS rfl g0)))) g0 (fun g => ?_)
                                                                        refine c_condV (i := 157) g0 rfl (fun cB17 => ?_) (fun cB17 => ?_)
                                                                        · skip
                                                                          simp only [Bool.and_eq_true, Bool.or_eq_true, Bool.and_eq_false_imp, Bool.or_eq_false_iff, decide_eq_true_eq, decide_eq_false_iff_not] at cB17
                                                                          refine c_seq (fun K117 hK117 => ?_)
                                                                          exact (by
                                                                            refine c_region ?_
                                                                            refine l_step (y_moveV (et (gS rfl (gS rfl (gS rfl (gS rfl g0)))) rfl)) ?_
                                                                            refine l_step (y_nil (et g0 rfl)) ?_
                                                                            refine l_step (y_fld fld_102_3 (et g0 rfl)) ?_
                                                                            refine l_step (y_load1 one_38 (et g0 rfl) (at1 (kS.cell (rS 10 _ rfl)))) ?_
                                                                            refine l_step (y_len Hvaa.underlying38 (et g0 rfl)) ?_
                                                                            refine l_step (y_conv Hvaa.underlying3 Hvaa.underlying26 (et g0 rfl) (wrapU_id uk64 ?_)) ?_
                                                                            omega
                                                                            refine l_eff (e_callV cal_32 (aC (et g0 rfl) aN) (yp_num hF (show s.ret.length < 18446744073709551616 by omega))) (fun v118 w118 h118 => ?_)
                                                                            obtain ⟨H118, g118, n118⟩ := h118
                                                                            have hlew118 := g118.le
                                                                            replace nbS := g118.nb nbS kS.lt
                                                                            replace hX := hX.mono hlew118
                                                                            replace n3 := n3.mono hlew118
                                                                            replace n5 := n5.mono hlew118
                                                                            replace hL0 := hL0.trans hlew118
                                                                            replace kS := kS.up g118.up
                                                                            replace kF := kF.up g118.up
                                                                            replace kM := kM.up g118.up
                                                                            replace U := U.tr g118.up
                                                                            replace G := G.tr g118
                                                                            replace hF := g118.fz
                                                                            have q118 := bd_64 (show s.ret.length < 18446744073709551616 by omega)
                                                                            refine l_step (y_assignV (et g0 rfl)) ?_
                                                                            refine l_nil ?_
                                                                            refine hK117 _ _ ?_
                                                                            refine fg1 8 g0 (fun g => ?_)
                                                                            refine c_ret ?_
                                                                            refine hQ79 _ _ _ (in_ret ?_)
                                                                            repeat with_reducible refine then_ret ?_
                                                                            refine ret1 rfl (res_tmp (et g0 rfl)) ?_
                                                                            exact ⟨_, _, G, kS, by rw [valS, if_neg (by first | omega | (intro hh; rcases hh with hh | hh | hh <;> rw [hh] at cB2 <;> revert cB2 <;> decide)), if_neg (by first | omega | (intro hh; rw [hh] at cB2; revert cB2; decide))]; exact hs.mono hL0, rfl, nvb (n := 8) n118 q118 (by decide) (by rw [valN, if_neg (by omega), if_neg (by omega), if_neg (by omega), if_neg (by omega), if_neg (by omega), if_neg (by omega), if_neg (by omega), if_neg (by omega), if_neg (by omega), if_neg (by omega), if_neg (by omega), if_neg (by omega), if_neg (by omega), if_pos (by omega)]; try rfl)⟩)
                                                                        · skip
                                                                          simp only [Bool.and_eq_true, Bool.or_eq_true, Bool.and_eq_false_imp, Bool.or_eq_false_iff, decide_eq_true_eq, decide_eq_false_iff_not] at cB17
                                                                          refine c_seq (fun K119 hK119 => ?_)
                                                                          exact (by
                                                                            refine c_region ?_
                                                                            refine l_step (y_eql (et (gS rfl (gS rfl g0)) rfl) rfl) ?_
                                                                            refine l_step (y_assignV (et g0 rfl)) ?_
                                                                            refine l_nil ?_
                                                                            refine hK119 _ _ ?_
                                                                            refine fg5 1 0 9 93 166 (gS rfl (gS rfl (gS rfl (gS rfl (gS rfl (gS rfl (gS rfl g0))))))) (gS rfl (gS rfl (gS rfl (gS rfl (gS rfl (gS rfl g0)))))) (gS rfl (gS rfl (gS rfl (gS rfl (gS rfl g0))))) (gS rfl (gS rfl (gS rfl (gS rfl g0)))) g0 (fun g => ?_)
                                                                            refine c_condV (i := 166) g0 rfl (fun cB18 => ?_) (fun cB18 => ?_)
                                                                            · skip
                                                                              simp only [Bool.and_eq_true, Bool.or_eq_true, Bool.and_eq_false_imp, Bool.or_eq_false_iff, decide_eq_true_eq, decide_eq_false_iff_not] at cB18
                                                                              refine c_seq (fun K121 hK121 => ?_)
                                                                              exact (by
                                                                                refine c_draw Up 11 [(0, true), (1, true), (2, true), (3, true), (4, true), (5, true), (6, true), (7, false), (8, true), (9, false), (10, true)] (by kernel_rfl) (fun w122 hu => ⟨Up.refl _, ?_⟩)
                                                                                replace G := G.tr (Go.ofUp hF hu)
                                                                                replace hF := hF.up hu
                                                                                replace kS := kS.up hu
                                                                                replace kF := kF.up hu
                                                                                replace kM := kM.up hu
                                                                                replace U := U.tr hu
                                                                                have SU := Up.refl w122
                                                                                refine p_step (by exact rfl) (y_moveV (et (gS rfl (gS rfl (gS rfl (gS rfl g0)))) rfl)) ?_
                                                                                refine p_step (by exact rfl) (y_nil (et g0 rfl)) ?_
                                                                                refine p_step (by exact rfl) (y_fld fld_102_0 (et g0 rfl)) ?_
                                                                                refine p_step (by exact rfl) (y_moveV (et (gS rfl (gS rfl (gS rfl (gS rfl (gS rfl (gS rfl (gS rfl (gS rfl g0)))))))) rfl)) ?_
                                                                                refine p_step (by exact rfl) (y_nil (et g0 rfl)) ?_
                                                                                refine p_step (by exact rfl) (y_fld fld_146_12 (et g0 rfl)) ?_
                                                                                refine p_step (by exact rfl) (y_loadR agg_25 sz_25 (et g0 rfl) (by rw [length_bL, length_be]) (atSR (kF.row rSe))) ?_
                                                                                refine p_eff (by exact rfl) (e_callV cal_43 (aC (et (gS rfl (gS rfl (gS rfl (gS rfl g0)))) rfl) (aC (et g0 rfl) aN)) (yp_account _ _ _ _ _ _ _ _ _ hF kS (rS 0 _ rfl) (hAc.mono hL0) fo.self (by omega))) (fun v123 w123 h123 => ?_)
                                                                                obtain ⟨c123, rfl, p123, u123⟩ := h123
                                                                                replace G := G.tr (Go.ofUp hF u123)
                                                                                replace hF := hF.up u123
                                                                                replace kS := kS.up u123
                                                                                replace kF := kF.up u123
                                                                                replace kM := kM.up u123
                                                                                replace U := U.tr u123
                                                                                replace p123 : PA _ _ _ := ⟨p123⟩
                                                                                refine ⟨.inr (SU.tr u123), ?_⟩
                                                                                replace SU := SU.tr u123
                                                                                obtain ⟨vn124, vb124, vc124, vs124, hc124, hn124, hbb124, hcd124, hb1124, hb2124⟩ := acct_form p123.p
                                                                                rw [hc124]
                                                                                refine p_step (by exact rfl) (y_fldV (f := 2) Hvaa.underlying107 rfl rfl rfl one_95 (et g0 rfl) ((app20 (i := 1) rfl).trans rfl)) ?_
                                                                                refine p_eff (by exact rfl) (e_callV cal_123 (aC (et g0 rfl) aN) (nat_normN hF hbb124 (bd_sm (bd_W hb2124) (by decide)))) (fun v125 w125 h125 => ?_)
                                                                                obtain ⟨H125, g125, n125⟩ := h125
                                                                                have hlew125 := g125.le
                                                                                replace nbS := g125.nb nbS kS.lt
                                                                                replace hX := hX.mono hlew125
                                                                                replace n3 := n3.mono hlew125
                                                                                replace n5 := n5.mono hlew125
                                                                                replace p123 := p123.mono hlew125
                                                                                replace hn124 := hn124.mono hlew125
                                                                                replace hbb124 := hbb124.mono hlew125
                                                                                replace hcd124 := hcd124.mono hlew125
                                                                                replace hL0 := hL0.trans hlew125
                                                                                replace kS := kS.up g125.up
                                                                                replace kF := kF.up g125.up
                                                                                replace kM := kM.up g125.up
                                                                                replace U := U.tr g125.up
                                                                                replace G := G.tr g125
                                                                                replace hF := g125.fz
                                                                                have q125 := (bd_W hb2124)
                                                                                refine ⟨.inr (SU.tr g125.up), ?_⟩
                                                                                replace SU := SU.tr g125.up
                                                                                exact (by
                                                                                  refine p_step (by exact rfl) (y_assignV (et g0 rfl)) ?_
                                                                                  refine p_nil ?_
                                                                                  refine hK121 _ _ ?_
                                                                                  refine fg1 8 g0 (fun g => ?_)
                                                                                  refine c_ret ?_
                                                                                  refine hQ79 _ _ _ (in_ret ?_)
                                                                                  repeat with_reducible refine then_ret ?_
                                                                                  refine ret1 rfl (res_tmp (et g0 rfl)) ?_
                                                                                  exact ⟨_, _, G, kS, by rw [valS, if_neg (by first | omega | (intro hh; rcases hh with hh | hh | hh <;> rw [hh] at cB2 <;> revert cB2 <;> decide)), if_neg (by first | omega | (intro hh; rw [hh] at cB2; revert cB2; decide))]; exact hs.mono hL0, rfl, nvb (n := 32) n125 q125 (by decide) (by rw [valN, if_neg (by omega), if_neg (by omega), if_neg (by omega), if_neg (by omega), if_neg (by omega), if_neg (by omega), if_neg (by omega), if_neg (by omega), if_neg (by omega), if_neg (by omega), if_neg (by omega), if_neg (by omega), if_neg (by omega), if_neg (by omega), if_pos (by omega)]; try rfl)⟩))
                                                                            · skip
                                                                              simp only [Bool.and_eq_true, Bool.or_eq_true, Bool.and_eq_false_imp, Bool.or_eq_false_iff, decide_eq_true_eq, decide_eq_false_iff_not] at cB18
                                                                              refine c_seq (fun K126 hK126 => ?_)
                                                                              exact (by
                                                                                refine c_region ?_
                                                                                refine l_step (y_eql (et (gS rfl (gS rfl g0)) rfl) rfl) ?_
                                                                                refine l_step (y_assignV (et g0 rfl)) ?_
                                                                                refine l_nil ?_
                                                                                refine hK126 _ _ ?_
                                                                                refine fg5 1 0 9 93 178 (gS rfl (gS rfl (gS rfl (gS rfl (gS rfl (gS rfl (gS rfl g0))))))) (gS rfl (gS rfl (gS rfl (gS rfl (gS rfl (gS rfl g0)))))) (gS rfl (gS rfl (gS rfl (gS rfl (gS rfl g0))))) (gS rfl (gS rfl (gS rfl (gS rfl g0)))) g0 (fun g => ?_)
                                                                                refine c_condV (i := 178) g0 rfl (fun cB19 => ?_) (fun cB19 => ?_)
                                                                                · skip
                                                                                  simp only [Bool.and_eq_true, Bool.or_eq_true, Bool.and_eq_false_imp, Bool.or_eq_false_iff, decide_eq_true_eq, decide_eq_false_iff_not] at cB19
                                                                                  refine c_seq (fun K128 hK128 => ?_)
                                                                                  exact (by
                                                                                    refine c_draw Up 9 [(0, true), (1, true), (2, true), (3, true), (4, true), (5, false), (6, false), (7, false), (8, true)] (by kernel_rfl) (fun w129 hu => ⟨Up.refl _, ?_⟩)
                                                                                    replace G := G.tr (Go.ofUp hF hu)
                                                                                    replace hF := hF.up hu
                                                                                    replace kS := kS.up hu
                                                                                    replace kF := kF.up hu
                                                                                    replace kM := kM.up hu
                                                                                    replace U := U.tr hu
                                                                                    have SU := Up.refl w129
                                                                                    refine p_step (by exact rfl) (y_moveV (et (gS rfl (gS rfl (gS rfl (gS rfl (gS rfl g0))))) rfl)) ?_
                                                                                    refine p_step (by exact rfl) (y_nil (et g0 rfl)) ?_
                                                                                    refine p_step (by exact rfl) (y_fld fld_146_9 (et g0 rfl)) ?_
                                                                                    refine p_step (by exact rfl) (y_load1 one_38 (et g0 rfl) (atS (kF.cell (rF 9 _ rfl)))) ?_
                                                                                    refine p_step (by exact rfl) (y_moveV (et (gS rfl (gS rfl (gS rfl (gS rfl (gS rfl (gS rfl (gS rfl g0))))))) rfl)) ?_
                                                                                    refine p_eff (by exact rfl) (e_callV cal_32 (aC (v := .int .u64 ((32 : Nat) : Int)) rfl aN) (yp_num (x := 32) hF (by decide))) (fun v130 w130 h130 => ?_)
                                                                                    obtain ⟨H130, g130, n130⟩ := h130
                                                                                    have hlew130 := g130.le
                                                                                    replace nbS := g130.nb nbS kS.lt
                                                                                    replace hX := hX.mono hlew130
                                                                                    replace n3 := n3.mono hlew130
                                                                                    replace n5 := n5.mono hlew130
                                                                                    replace hL0 := hL0.trans hlew130
                                                                                    replace kS := kS.up g130.up
                                                                                    replace kF := kF.up g130.up
                                                                                    replace kM := kM.up g130.up
                                                                                    replace U := U.tr g130.up
                                                                                    replace G := G.tr g130
                                                                                    replace hF := g130.fz
                                                                                    have q130 : 32 < 256 ^ 1 := by decide
                                                                                    refine ⟨.inr (SU.tr g130.up), ?_⟩
                                                                                    replace SU := SU.tr g130.up
                                                                                    refine p_eff (by exact rfl) (e_callV cal_146 (aC (et (gS rfl (gS rfl g0)) rfl) (aC (et (gS rfl g0) rfl) (aC (et g0 rfl) aN))) (yp_cut0 _ _ _ _ hF (kM.wv (by omega)) (Nat.le_refl _) (by omega) n3 n130 (bd_sm (bd_W q3) (by decide)) (by decide) (by decide))) (fun v131 w131 h131 => ?_)
                                                                                    obtain ⟨H131, g131, b131⟩ := h131
                                                                                    have hlew131 := g131.le
                                                                                    replace nbS := g131.nb nbS kS.lt
                                                                                    replace hX := hX.mono hlew131
                                                                                    replace n3 := n3.mono hlew131
                                                                                    replace n5 := n5.mono hlew131
                                                                                    replace n130 := n130.mono hlew131
                                                                                    replace hL0 := hL0.trans hlew131
                                                                                    replace kS := kS.up g131.up
                                                                                    replace kF := kF.up g131.up
                                                                                    replace kM := kM.up g131.up
                                                                                    replace U := U.tr g131.up
                                                                                    replace G := G.tr g131
                                                                                    replace hF := g131.fz
                                                                                    refine ⟨.inr (SU.tr g131.up), ?_⟩
                                                                                    replace SU := SU.tr g131.up
                                                                                    exact (by
                                                                                      refine p_eff (by exact rfl) (e_callV cal_33 (aC (et g0 rfl) aN) (nat_fromBE hF (b131.wv hF) (Nat.le_refl _) (by rw [len_cut]; decide))) (fun v132 w132 h132 => ?_)
                                                                                      obtain ⟨H132, g132, n132⟩ := h132
                                                                                      have hlew132 := g132.le
                                                                                      replace nbS := g132.nb nbS kS.lt
                                                                                      replace hX := hX.mono hlew132
                                                                                      replace n3 := n3.mono hlew132
                                                                                      replace n5 := n5.mono hlew132
                                                                                      replace n130 := n130.mono hlew132
                                                                                      replace b131 := b131.mono hlew132
                                                                                      replace hL0 := hL0.trans hlew132
                                                                                      replace kS := kS.up g132.up
                                                                                      replace kF := kF.up g132.up
                                                                                      replace kM := kM.up g132.up
                                                                                      replace U := U.tr g132.up
                                                                                      replace G := G.tr g132
                                                                                      replace hF := g132.fz
                                                                                      refine ⟨.inr (SU.tr g132.up), ?_⟩
                                                                                      replace SU := SU.tr g132.up
                                                                                      refine p_step (by exact rfl) (y_assignV (et g0 rfl)) ?_
                                                                                      refine p_nil ?_
                                                                                      refine hK128 _ _ ?_
                                                                                      refine fg1 8 g0 (fun g => ?_)
                                                                                      refine c_ret ?_
                                                                                      refine hQ79 _ _ _ (in_ret ?_)
                                                                                      repeat with_reducible refine then_ret ?_
                                                                                      refine ret1 rfl (res_tmp (et g0 rfl)) ?_
                                                                                      exact ⟨_, _, G, kS, by rw [valS, if_neg (by first | omega | (intro hh; rcases hh with hh | hh | hh <;> rw [hh] at cB2 <;> revert cB2 <;> decide)), if_neg (by first | omega | (intro hh; rw [hh] at cB2; revert cB2; decide))]; exact hs.mono hL0, rfl, nvb (n := 32) n132 (ofBE_bd b131.dig (by rw [len_cut]; exact Nat.le_refl _)) (by decide) (by rw [valN, if_neg (by omega), if_neg (by omega), if_neg (by omega), if_neg (by omega), if_neg (by omega), if_neg (by omega), if_neg (by omega), if_neg (by omega), if_neg (by omega), if_neg (by omega), if_neg (by omega), if_neg (by omega), if_neg (by omega), if_neg (by omega), if_neg (by omega), if_pos (by omega)]; try rfl)⟩))
                                                                                · skip
                                                                                  simp only [Bool.and_eq_true, Bool.or_eq_true, Bool.and_eq_false_imp, Bool.or_eq_false_iff, decide_eq_true_eq, decide_eq_false_iff_not] at cB19
                                                                                  refine c_seq (fun K133 hK133 => ?_)
                                                                                  exact (by
                                                                                    refine c_region ?_
                                                                                    refine l_step (y_eql (et (gS rfl (gS rfl g0)) rfl) rfl) ?_
                                                                                    refine l_step (y_assignV (et g0 rfl)) ?_
                                                                                    refine l_nil ?_
                                                                                    refine hK133 _ _ ?_
                                                                                    refine fg5 1 0 9 93 188 (gS rfl (gS rfl (gS rfl (gS rfl (gS rfl (gS rfl (gS rfl g0))))))) (gS rfl (gS rfl (gS rfl (gS rfl (gS rfl (gS rfl g0)))))) (gS rfl (gS rfl (gS rfl (gS rfl (gS rfl g0))))) (gS rfl (gS rfl (gS rfl (gS rfl g0)))) g0 (fun g => ?_)
                                                                                    refine c_condV (i := 188) g0 rfl (fun cB20 => ?_) (fun cB20 => ?_)
                                                                                    · skip
                                                                                      simp only [Bool.and_eq_true, Bool.or_eq_true, Bool.and_eq_false_imp, Bool.or_eq_false_iff, decide_eq_true_eq, decide_eq_false_iff_not] at cB20
                                                                                      refine c_seq (fun K135 hK135 => ?_)
                                                                                      exact (by
                                                                                        refine c_draw Up 8 [(0, true), (1, true), (2, true), (3, true), (4, true), (5, true), (6, true), (7, true), (8, false)] (by kernel_rfl) (fun w136 hu => ⟨Up.refl _, ?_⟩)
                                                                                        replace G := G.tr (Go.ofUp hF hu)
                                                                                        replace hF := hF.up hu
                                                                                        replace kS := kS.up hu
                                                                                        replace kF := kF.up hu
                                                                                        replace kM := kM.up hu
                                                                                        replace U := U.tr hu
                                                                                        have SU := Up.refl w136
                                                                                        refine p_step (by exact rfl) (y_moveV (et (gS rfl (gS rfl (gS rfl (gS rfl g0)))) rfl)) ?_
                                                                                        refine p_step (by exact rfl) (y_nil (et g0 rfl)) ?_
                                                                                        refine p_step (by exact rfl) (y_fld fld_102_0 (et g0 rfl)) ?_
                                                                                        refine p_step (by exact rfl) (y_moveV (et (gS rfl (gS rfl (gS rfl (gS rfl (gS rfl (gS rfl (gS rfl (gS rfl g0)))))))) rfl)) ?_
                                                                                        refine p_step (by exact rfl) (y_nil (et g0 rfl)) ?_
                                                                                        refine p_step (by exact rfl) (y_fld fld_146_12 (et g0 rfl)) ?_
                                                                                        refine p_step (by exact rfl) (y_loadR agg_25 sz_25 (et g0 rfl) (by rw [length_bL, length_be]) (atSR (kF.row rSe))) ?_
                                                                                        refine p_step (by exact rfl) (y_moveV (et (gS rfl (gS rfl (gS rfl (gS rfl (gS rfl (gS rfl (gS rfl (gS rfl (gS rfl (gS rfl g0)))))))))) rfl)) ?_
                                                                                        refine p_eff (by exact rfl) (e_callV cal_52 (aC (et (gS rfl (gS rfl (gS rfl (gS rfl (gS rfl g0))))) rfl) (aC (et (gS rfl g0) rfl) (aC (et g0 rfl) aN))) (yp_warmSlot _ _ _ _ _ _ _ _ _ hF kS nbS (rS 2 _ rfl) (hWS.mono hL0) fo.self (by omega) n3 (bd_up (bd_W q3) (by decide)))) (fun v137 w137 h137 => ?_)
                                                                                        obtain ⟨rfl, z137, H137, g137, lv137, kx137⟩ := h137
                                                                                        have hlew137 := g137.le
                                                                                        replace nbS := g137.nb nbS kS.lt
                                                                                        replace hX := hX.mono hlew137
                                                                                        replace n3 := n3.mono hlew137
                                                                                        replace n5 := n5.mono hlew137
                                                                                        replace hL0 := hL0.trans hlew137
                                                                                        replace kF := kF.ch g137.ch (by omega)
                                                                                        replace kM := kM.ch g137.ch (by omega)
                                                                                        replace kS := kx137
                                                                                        replace U := U.cc g137.ch (by intro b hb; first | omega | exact .inl hb | exact .inr (hb ▸ U))
                                                                                        replace G := G.trans g137 (by intro b hb; first | omega | exact .inl hb | (simp at hb ⊢; omega))
                                                                                        replace hF := g137.fz
                                                                                        obtain ⟨xa137, xc137, rfl, hxl137, hxc137⟩ := lv137.val
                                                                                        replace eC := kS.eset eC (by omega)
                                                                                        replace rS : RowIn _ _ [.slice aa s.now.accts.length ac, .slice wa s.now.warmA.length wc, _, vr, .slice la s.now.logs.length lc, .slice ta s.now.temps.length tc, .slice ma s.now.made.length mc, .slice ga s.now.gone.length gc, .slice oa s.start.length oc, vf, .slice ra s.ret.length rc, .int .u8 (s.phase : Nat), .int .u8 (s.status : Nat), .int .u8 (s.applied : Nat), vlim, vtx, vleft, vpr, vtot] := kS.rset rS 2 rfl
                                                                                        replace rOr := kS.rseto rOr (by first | (left; omega) | (right; simp only [List.length_cons, List.length_nil, length_bL, length_be]; omega))
                                                                                        replace rMd := kS.rseto rMd (by first | (left; omega) | (right; simp only [List.length_cons, List.length_nil, length_bL, length_be]; omega))
                                                                                        refine ⟨.inl rfl, ?_⟩
                                                                                        refine p_nil ?_
                                                                                        refine hK135 _ _ ?_
                                                                                        refine fg3 1 0 9 (gS rfl (gS rfl (gS rfl (gS rfl (gS rfl (gS rfl (gS rfl (gS rfl (gS rfl (gS rfl (gS rfl (gS rfl (gS rfl (gS rfl g0)))))))))))))) (gS rfl (gS rfl (gS rfl (gS rfl (gS rfl (gS rfl (gS rfl (gS rfl (gS rfl (gS rfl (gS rfl (gS rfl (gS rfl g0))))))))))))) (gS rfl (gS rfl (gS rfl (gS rfl (gS rfl (gS rfl (gS rfl (gS rfl (gS rfl (gS rfl (gS rfl (gS rfl g0)))))))))))) (fun g => ?_)
                                                                                        refine c_seq (fun K138 hK138 => ?_)
                                                                                        exact (by
                                                                                          refine c_draw Up 10 [(0, true), (1, true), (2, true), (3, true), (4, true), (5, true), (6, true), (7, true), (8, false), (9, true)] (by kernel_rfl) (fun w139 hu => ⟨Up.refl _, ?_⟩)
                                                                                          replace G := G.tr (Go.ofUp hF hu)
                                                                                          replace hF := hF.up hu
                                                                                          replace kS := kS.up hu
                                                                                          replace kF := kF.up hu
                                                                                          replace kM := kM.up hu
                                                                                          replace U := U.tr hu
                                                                                          have SU := Up.refl w139
                                                                                          refine p_step (by exact rfl) (y_moveV (et (gS rfl g0) rfl)) ?_
                                                                                          refine p_step (by exact rfl) (y_nil (et g0 rfl)) ?_
                                                                                          refine p_step (by exact rfl) (y_fld fld_102_0 (et g0 rfl)) ?_
                                                                                          refine p_step (by exact rfl) (y_moveV (et (gS rfl (gS rfl (gS rfl (gS rfl (gS rfl g0))))) rfl)) ?_
                                                                                          refine p_step (by exact rfl) (y_nil (et g0 rfl)) ?_
                                                                                          refine p_step (by exact rfl) (y_fld fld_146_12 (et g0 rfl)) ?_
                                                                                          refine p_step (by exact rfl) (y_loadR agg_25 sz_25 (et g0 rfl) (by rw [length_bL, length_be]) (atSR (kF.row rSe))) ?_
                                                                                          refine p_step (by exact rfl) (y_moveV (et (gS rfl (gS rfl (gS rfl (gS rfl (gS rfl (gS rfl (gS rfl g0))))))) rfl)) ?_
                                                                                          refine p_eff (by exact rfl) (e_callV cal_232 (aC (et (gS rfl (gS rfl (gS rfl (gS rfl (gS rfl g0))))) rfl) (aC (et (gS rfl g0) rfl) (aC (et g0 rfl) aN))) (yp_load _ _ _ _ _ _ _ _ _ hF kS (rS 0 _ rfl) (hAc.mono hL0) fo.self (by omega) n3 (bd_up (bd_W q3) (by decide)))) (fun v140 w140 h140 => ?_)
                                                                                          obtain ⟨n140, u140⟩ := h140
                                                                                          replace G := G.tr (Go.ofUp hF u140)
                                                                                          replace hF := hF.up u140
                                                                                          replace kS := kS.up u140
                                                                                          replace kF := kF.up u140
                                                                                          replace kM := kM.up u140
                                                                                          replace U := U.tr u140
                                                                                          have q140 := slot_bd (hAc.mono hL0) n140
                                                                                          refine ⟨.inr (SU.tr u140), ?_⟩
                                                                                          replace SU := SU.tr u140
                                                                                          refine p_step (by exact rfl) (y_assignV (et g0 rfl)) ?_
                                                                                          refine p_nil ?_
                                                                                          refine hK138 _ _ ?_
                                                                                          refine fg1 8 g0 (fun g => ?_)
                                                                                          refine c_ret ?_
                                                                                          refine hQ79 _ _ _ (in_ret ?_)
                                                                                          repeat with_reducible refine then_ret ?_
                                                                                          refine ret1 rfl (res_tmp (et g0 rfl)) ?_
                                                                                          exact ⟨_, _, G, kS, by rw [valS, if_neg (by omega), if_pos (by omega)]; exact ⟨⟨so.accts, so.warmA, by show (withM s.now.warmS f.self (opndN xs 0)).length < _; have := len_withM s.now.warmS f.self (opndN xs 0); have := rm.warmS; omega, so.refund, so.logs, so.temps, so.made, so.gone, so.start, so.ret, so.phase, so.status, so.applied, so.limit, so.txGas, so.left, so.price, so.total, so.origin, so.mad⟩, eC.mono hL0, (by simp only [size_spl, Array.size_setIfInBounds]; exact hs.size), _, _, _, _, _, _, _, _, _, _, _, _, _, _, _, _, _, _, _, _, _, _, _, _, rS, rOr, rMd, (hAc.mono hL0), (hWA.mono hL0), lv137, (hRf.mono hL0), (hTm.mono hL0), (hMd.mono hL0), (hGn.mono hL0), (hSr.mono hL0), (hRt.mono hL0), (hLm.mono hL0), (hTx.mono hL0), (hLf.mono hL0), (hPr.mono hL0), (hTt.mono hL0)⟩, (rS 4 _ rfl).trans hv4.symm, nvb (n := 32) n140 q140 (by decide) (by rw [valN, if_neg (by omega), if_neg (by omega), if_neg (by omega), if_neg (by omega), if_neg (by omega), if_neg (by omega), if_neg (by omega), if_neg (by omega), if_neg (by omega), if_neg (by omega), if_neg (by omega), if_neg (by omega), if_neg (by omega), if_neg (by omega), if_neg (by omega), if_neg (by omega), if_pos (by omega)]; try rfl)⟩))
                                                                                    · skip
                                                                                      simp only [Bool.and_eq_true, Bool.or_eq_true, Bool.and_eq_false_imp, Bool.or_eq_false_iff, decide_eq_true_eq, decide_eq_false_iff_not] at cB20
                                                                                      refine c_seq (fun K141 hK141 => ?_)
                                                                                      exact (by
                                                                                        refine c_region ?_
                                                                                        refine l_step (y_eql (et (gS rfl (gS rfl g0)) rfl) rfl) ?_
                                                                                        refine l_step (y_assignV (et g0 rfl)) ?_
                                                                                        refine l_nil ?_
                                                                                        refine hK141 _ _ ?_
                                                                                        refine fg5 1 0 9 93 208 (gS rfl (gS rfl (gS rfl (gS rfl (gS rfl (gS rfl (gS rfl g0))))))) (gS rfl (gS rfl (gS rfl (gS rfl (gS rfl (gS rfl g0)))))) (gS rfl (gS rfl (gS rfl (gS rfl (gS rfl g0))))) (gS rfl (gS rfl (gS rfl (gS rfl g0)))) g0 (fun g => ?_)
                                                                                        refine c_condV (i := 208) g0 rfl (fun cB21 => ?_) (fun cB21 => ?_)
                                                                                        · skip
                                                                                          simp only [Bool.and_eq_true, Bool.or_eq_true, Bool.and_eq_false_imp, Bool.or_eq_false_iff, decide_eq_true_eq, decide_eq_false_iff_not] at cB21
                                                                                          refine c_seq (fun K143 hK143 => ?_)
                                                                                          exact (by
                                                                                            refine c_draw Up 10 [(0, true), (1, true), (2, true), (3, true), (4, true), (5, true), (6, true), (7, true), (8, false), (9, true)] (by kernel_rfl) (fun w144 hu => ⟨Up.refl _, ?_⟩)
                                                                                            replace G := G.tr (Go.ofUp hF hu)
                                                                                            replace hF := hF.up hu
                                                                                            replace kS := kS.up hu
                                                                                            replace kF := kF.up hu
                                                                                            replace kM := kM.up hu
                                                                                            replace U := U.tr hu
                                                                                            have SU := Up.refl w144
                                                                                            refine p_step (by exact rfl) (y_moveV (et (gS rfl (gS rfl (gS rfl (gS rfl g0)))) rfl)) ?_
                                                                                            refine p_step (by exact rfl) (y_nil (et g0 rfl)) ?_
                                                                                            refine p_step (by exact rfl) (y_fld fld_102_0 (et g0 rfl)) ?_
                                                                                            refine p_step (by exact rfl) (y_moveV (et (gS rfl (gS rfl (gS rfl (gS rfl (gS rfl (gS rfl (gS rfl (gS rfl g0)))))))) rfl)) ?_
                                                                                            refine p_step (by exact rfl) (y_nil (et g0 rfl)) ?_
                                                                                            refine p_step (by exact rfl) (y_fld fld_146_12 (et g0 rfl)) ?_
                                                                                            refine p_step (by exact rfl) (y_loadR agg_25 sz_25 (et g0 rfl) (by rw [length_bL, length_be]) (atSR (kF.row rSe))) ?_
                                                                                            refine p_step (by exact rfl) (y_moveV (et (gS rfl (gS rfl (gS rfl (gS rfl (gS rfl (gS rfl (gS rfl (gS rfl (gS rfl (gS rfl g0)))))))))) rfl)) ?_
                                                                                            refine p_eff (by exact rfl) (e_callV cal_233 (aC (et (gS rfl (gS rfl (gS rfl (gS rfl (gS rfl g0))))) rfl) (aC (et (gS rfl g0) rfl) (aC (et g0 rfl) aN))) (yp_tload _ _ _ _ _ _ _ _ _ hF kS (rS 5 _ rfl) (hTm.mono hL0) fo.self (by omega) n3 (bd_up (bd_W q3) (by decide)))) (fun v145 w145 h145 => ?_)
                                                                                            obtain ⟨n145, u145⟩ := h145
                                                                                            replace G := G.tr (Go.ofUp hF u145)
                                                                                            replace hF := hF.up u145
                                                                                            replace kS := kS.up u145
                                                                                            replace kF := kF.up u145
                                                                                            replace kM := kM.up u145
                                                                                            replace U := U.tr u145
                                                                                            have q145 := tri_bd (hTm.mono hL0) n145
                                                                                            refine ⟨.inr (SU.tr u145), ?_⟩
                                                                                            replace SU := SU.tr u145
                                                                                            refine p_step (by exact rfl) (y_assignV (et g0 rfl)) ?_
                                                                                            refine p_nil ?_
                                                                                            refine hK143 _ _ ?_
                                                                                            refine fg1 8 g0 (fun g => ?_)
                                                                                            refine c_ret ?_
                                                                                            refine hQ79 _ _ _ (in_ret ?_)
                                                                                            repeat with_reducible refine then_ret ?_
                                                                                            refine ret1 rfl (res_tmp (et g0 rfl)) ?_
                                                                                            exact ⟨_, _, G, kS, by rw [valS, if_neg (by first | omega | (intro hh; rcases hh with hh | hh | hh <;> rw [hh] at cB2 <;> revert cB2 <;> decide)), if_neg (by first | omega | (intro hh; rw [hh] at cB2; revert cB2; decide))]; exact hs.mono hL0, rfl, nvb (n := 32) n145 q145 (by decide) (by rw [valN, if_neg (by omega), if_neg (by omega), if_neg (by omega), if_neg (by omega), if_neg (by omega), if_neg (by omega), if_neg (by omega), if_neg (by omega), if_neg (by omega), if_neg (by omega), if_neg (by omega), if_neg (by omega), if_neg (by omega), if_neg (by omega), if_neg (by omega), if_neg (by omega), if_neg (by omega), if_pos (by omega)]; try rfl)⟩)
                                                                                        · skip
                                                                                          simp only [Bool.and_eq_true, Bool.or_eq_true, Bool.and_eq_false_imp, Bool.or_eq_false_iff, decide_eq_true_eq, decide_eq_false_iff_not] at cB21
                                                                                          refine c_seq (fun K146 hK146 => ?_)
                                                                                          exact (by
                                                                                            refine c_region ?_
                                                                                            refine l_step (y_eql (et (gS rfl (gS rfl g0)) rfl) rfl) ?_
                                                                                            refine l_step (y_assignV (et g0 rfl)) ?_
                                                                                            refine l_nil ?_
                                                                                            refine hK146 _ _ ?_
                                                                                            refine fg3 1 93 219 (gS rfl (gS rfl (gS rfl (gS rfl (gS rfl (gS rfl (gS rfl g0))))))) (gS rfl (gS rfl (gS rfl (gS rfl g0)))) g0 (fun g => ?_)
                                                                                            refine c_condV (i := 219) g0 rfl (fun cB22 => ?_) (fun cB22 => ?_)
                                                                                            · skip
                                                                                              simp only [Bool.and_eq_true, Bool.or_eq_true, Bool.and_eq_false_imp, Bool.or_eq_false_iff, decide_eq_true_eq, decide_eq_false_iff_not] at cB22
                                                                                              refine c_seq (fun K148 hK148 => ?_)
                                                                                              exact (by
                                                                                                refine c_region ?_
                                                                                                refine l_step (y_moveV (et (gS rfl (gS rfl (gS rfl g0))) rfl)) ?_
                                                                                                refine l_step (y_nil (et g0 rfl)) ?_
                                                                                                refine l_step (y_fld fld_146_3 (et g0 rfl)) ?_
                                                                                                refine l_step (y_load1 one_95 (et g0 rfl) (at1 (kF.cell (rF 3 _ rfl)))) ?_
                                                                                                refine l_eff (e_callV cal_123 (aC (et g0 rfl) aN) (nat_normN hF (hPc.mono hL0) (bd_sm (bd_lt2 (b := 256 ^ 4) fo.pc (by decide)) (by decide)))) (fun v149 w149 h149 => ?_)
                                                                                                obtain ⟨H149, g149, n149⟩ := h149
                                                                                                have hlew149 := g149.le
                                                                                                replace nbS := g149.nb nbS kS.lt
                                                                                                replace hX := hX.mono hlew149
                                                                                                replace n3 := n3.mono hlew149
                                                                                                replace n5 := n5.mono hlew149
                                                                                                replace hL0 := hL0.trans hlew149
                                                                                                replace kS := kS.up g149.up
                                                                                                replace kF := kF.up g149.up
                                                                                                replace kM := kM.up g149.up
                                                                                                replace U := U.tr g149.up
                                                                                                replace G := G.tr g149
                                                                                                replace hF := g149.fz
                                                                                                have q149 := (bd_lt2 (b := 256 ^ 4) fo.pc (by decide))
                                                                                                refine l_step (y_assignV (et g0 rfl)) ?_
                                                                                                refine l_nil ?_
                                                                                                refine hK148 _ _ ?_
                                                                                                refine fg1 8 g0 (fun g => ?_)
                                                                                                refine c_ret ?_
                                                                                                refine hQ79 _ _ _ (in_ret ?_)
                                                                                                repeat with_reducible refine then_ret ?_
                                                                                                refine ret1 rfl (res_tmp (et g0 rfl)) ?_
                                                                                                exact ⟨_, _, G, kS, by rw [valS, if_neg (by first | omega | (intro hh; rcases hh with hh | hh | hh <;> rw [hh] at cB2 <;> revert cB2 <;> decide)), if_neg (by first | omega | (intro hh; rw [hh] at cB2; revert cB2; decide))]; exact hs.mono hL0, rfl, nvb (n := 4) n149 q149 (by decide) (by rw [valN, if_neg (by omega), if_neg (by omega), if_neg (by omega), if_neg (by omega), if_neg (by omega), if_neg (by omega), if_neg (by omega), if_neg (by omega), if_neg (by omega), if_neg (by omega), if_neg (by omega), if_neg (by omega), if_neg (by omega), if_neg (by omega), if_neg (by omega), if_neg (by omega), if_neg (by omega), if_neg (by omega), if_pos (by omega)]; try rfl)⟩)
                                                                                            · skip
                                                                                              simp only [Bool.and_eq_true, Bool.or_eq_true, Bool.and_eq_false_imp, Bool.or_eq_false_iff, decide_eq_true_eq, decide_eq_false_iff_not] at cB22
                                                                                              refine c_seq (fun K150 hK150 => ?_)
                                                                                              exact (by
                                                                                                refine c_region ?_
                                                                                                refine l_step (y_eql (et (gS rfl (gS rfl g0)) rfl) rfl) ?_
                                                                                                refine l_step (y_assignV (et g0 rfl)) ?_
                                                                                                refine l_nil ?_
                                                                                                refine hK150 _ _ ?_
                                                                                                refine fg3 1 93 226 (gS rfl (gS rfl (gS rfl (gS rfl (gS rfl g0))))) (gS rfl (gS rfl (gS rfl (gS rfl g0)))) g0 (fun g => ?_)
                                                                                                refine c_condV (i := 226) g0 rfl (fun cB23 => ?_) (fun cB23 => ?_)
                                                                                                · skip
                                                                                                  simp only [Bool.and_eq_true, Bool.or_eq_true, Bool.and_eq_false_imp, Bool.or_eq_false_iff, decide_eq_true_eq, decide_eq_false_iff_not] at cB23
                                                                                                  refine c_seq (fun K152 hK152 => ?_)
                                                                                                  exact (by
                                                                                                    refine c_region ?_
                                                                                                    refine l_step (y_moveV (et (gS rfl (gS rfl (gS rfl g0))) rfl)) ?_
                                                                                                    refine l_step (y_nil (et g0 rfl)) ?_
                                                                                                    refine l_step (y_fld fld_146_9 (et g0 rfl)) ?_
                                                                                                    refine l_step (y_load1 one_38 (et g0 rfl) (at1 (kF.cell (rF 9 _ rfl)))) ?_
                                                                                                    refine l_step (y_len Hvaa.underlying38 (et g0 rfl)) ?_
                                                                                                    refine l_step (y_conv Hvaa.underlying3 Hvaa.underlying26 (et g0 rfl) (wrapU_id uk64 ?_)) ?_
                                                                                                    omega
                                                                                                    refine l_eff (e_callV cal_32 (aC (et g0 rfl) aN) (yp_num hF (show f.mem.length < 18446744073709551616 by omega))) (fun v153 w153 h153 => ?_)
                                                                                                    obtain ⟨H153, g153, n153⟩ := h153
                                                                                                    have hlew153 := g153.le
                                                                                                    replace nbS := g153.nb nbS kS.lt
                                                                                                    replace hX := hX.mono hlew153
                                                                                                    replace n3 := n3.mono hlew153
                                                                                                    replace n5 := n5.mono hlew153
                                                                                                    replace hL0 := hL0.trans hlew153
                                                                                                    replace kS := kS.up g153.up
                                                                                                    replace kF := kF.up g153.up
                                                                                                    replace kM := kM.up g153.up
                                                                                                    replace U := U.tr g153.up
                                                                                                    replace G := G.tr g153
                                                                                                    replace hF := g153.fz
                                                                                                    have q153 := bd_64 (show f.mem.length < 18446744073709551616 by omega)
                                                                                                    refine l_step (y_assignV (et g0 rfl)) ?_
                                                                                                    refine l_nil ?_
                                                                                                    refine hK152 _ _ ?_
                                                                                                    refine fg1 8 g0 (fun g => ?_)
                                                                                                    refine c_ret ?_
                                                                                                    refine hQ79 _ _ _ (in_ret ?_)
                                                                                                    repeat with_reducible refine then_ret ?_
                                                                                                    refine ret1 rfl (res_tmp (et g0 rfl)) ?_
                                                                                                    exact ⟨_, _, G, kS, by rw [valS, if_neg (by first | omega | (intro hh; rcases hh with hh | hh | hh <;> rw [hh] at cB2 <;> revert cB2 <;> decide)), if_neg (by first | omega | (intro hh; rw [hh] at cB2; revert cB2; decide))]; exact hs.mono hL0, rfl, nvb (n := 8) n153 q153 (by decide) (by rw [valN, if_neg (by omega), if_neg (by omega), if_neg (by omega), if_neg (by omega), if_neg (by omega), if_neg (by omega), if_neg (by omega), if_neg (by omega), if_neg (by omega), if_neg (by omega), if_neg (by omega), if_neg (by omega), if_neg (by omega), if_neg (by omega), if_neg (by omega), if_neg (by omega), if_neg (by omega), if_neg (by omega), if_neg (by omega), if_pos (by omega)]; try rfl)⟩)
                                                                                                · skip
                                                                                                  simp only [Bool.and_eq_true, Bool.or_eq_true, Bool.and_eq_false_imp, Bool.or_eq_false_iff, decide_eq_true_eq, decide_eq_false_iff_not] at cB23
                                                                                                  refine c_seq (fun K154 hK154 => ?_)
                                                                                                  exact (by
                                                                                                    refine c_region ?_
                                                                                                    refine l_step (y_eql (et (gS rfl (gS rfl g0)) rfl) rfl) ?_
                                                                                                    refine l_step (y_assignV (et g0 rfl)) ?_
                                                                                                    refine l_nil ?_
                                                                                                    refine hK154 _ _ ?_
                                                                                                    refine fg2 1 235 (gS rfl (gS rfl (gS rfl (gS rfl (gS rfl g0))))) g0 (fun g => ?_)
                                                                                                    refine c_condV (i := 235) g0 rfl (fun cB24 => ?_) (fun cB24 => ?_)
                                                                                                    · skip
                                                                                                      simp only [Bool.and_eq_true, Bool.or_eq_true, Bool.and_eq_false_imp, Bool.or_eq_false_iff, decide_eq_true_eq, decide_eq_false_iff_not] at cB24
                                                                                                      refine c_seq (fun K156 hK156 => ?_)
                                                                                                      exact (by
                                                                                                        refine c_region ?_
                                                                                                        refine l_step (y_moveV (et (gS rfl (gS rfl g0)) rfl)) ?_
                                                                                                        refine l_step (y_nil (et g0 rfl)) ?_
                                                                                                        refine l_step (y_fld fld_146_4 (et g0 rfl)) ?_
                                                                                                        refine l_step (y_load1 one_95 (et g0 rfl) (at1 (kF.cell (rF 4 _ rfl)))) ?_
                                                                                                        refine l_eff (e_callV cal_123 (aC (et g0 rfl) aN) (nat_normN hF (hGa.mono hL0) (bd_sm (bd_lt2 (b := 256 ^ 4) fo.gas (by decide)) (by decide)))) (fun v157 w157 h157 => ?_)
                                                                                                        obtain ⟨H157, g157, n157⟩ := h157
                                                                                                        have hlew157 := g157.le
                                                                                                        replace nbS := g157.nb nbS kS.lt
                                                                                                        replace hX := hX.mono hlew157
                                                                                                        replace n3 := n3.mono hlew157
                                                                                                        replace n5 := n5.mono hlew157
                                                                                                        replace hL0 := hL0.trans hlew157
                                                                                                        replace kS := kS.up g157.up
                                                                                                        replace kF := kF.up g157.up
                                                                                                        replace kM := kM.up g157.up
                                                                                                        replace U := U.tr g157.up
                                                                                                        replace G := G.tr g157
                                                                                                        replace hF := g157.fz
                                                                                                        have q157 := (bd_lt2 (b := 256 ^ 4) fo.gas (by decide))
                                                                                                        refine l_step (y_assignV (et g0 rfl)) ?_
                                                                                                        refine l_nil ?_
                                                                                                        refine hK156 _ _ ?_
                                                                                                        refine fg1 8 g0 (fun g => ?_)
                                                                                                        refine c_ret ?_
                                                                                                        refine hQ79 _ _ _ (in_ret ?_)
                                                                                                        repeat with_reducible refine then_ret ?_
                                                                                                        refine ret1 rfl (res_tmp (et g0 rfl)) ?_
                                                                                                        exact ⟨_, _, G, kS, by rw [valS, if_neg (by first | omega | (intro hh; rcases hh with hh | hh | hh <;> rw [hh] at cB2 <;> revert cB2 <;> decide)), if_neg (by first | omega | (intro hh; rw [hh] at cB2; revert cB2; decide))]; exact hs.mono hL0, rfl, nvb (n := 4) n157 q157 (by decide) (by rw [valN, if_neg (by omega), if_neg (by omega), if_neg (by omega), if_neg (by omega), if_neg (by omega), if_neg (by omega), if_neg (by omega), if_neg (by omega), if_neg (by omega), if_neg (by omega), if_neg (by omega), if_neg (by omega), if_neg (by omega), if_neg (by omega), if_neg (by omega), if_neg (by omega), if_neg (by omega), if_neg (by omega), if_neg (by omega), if_neg (by omega), if_pos (by omega)]; try rfl)⟩)
                                                                                                    · skip
                                                                                                      simp only [Bool.and_eq_true, Bool.or_eq_true, Bool.and_eq_false_imp, Bool.or_eq_false_iff, decide_eq_true_eq, decide_eq_false_iff_not] at cB24
                                                                                                      refine c_skip ?_
                                                                                                      refine hQ79 _ _ _ (in_normal ?_)
                                                                                                      refine hK77 _ _ ?_
                                                                                                      refine fg0 (fun g => ?_)
                                                                                                      refine c_seq (fun K158 hK158 => ?_)
                                                                                                      exact (by
                                                                                                        refine c_region ?_
                                                                                                        refine l_step y_assignC ?_
                                                                                                        refine l_nil ?_
                                                                                                        refine hK158 _ _ ?_
                                                                                                        refine c_ret ?_
                                                                                                        repeat with_reducible refine then_ret ?_
                                                                                                        refine ret1 rfl (res_tmp (et g0 rfl)) ?_
                                                                                                        exact ⟨_, _, G, kS, by rw [valS, if_neg (by first | omega | (intro hh; rcases hh with hh | hh | hh <;> rw [hh] at cB2 <;> revert cB2 <;> decide)), if_neg (by first | omega | (intro hh; rw [hh] at cB2; revert cB2; decide))]; exact hs.mono hL0, rfl, nvb (n := 0) (NV.nil _) bd_zero (by decide) (by rw [valN, if_neg (by omega), if_neg (by omega), if_neg (by omega), if_neg (by omega), if_neg (by omega), if_neg (by omega), if_neg (by omega), if_neg (by omega), if_neg (by omega), if_neg (by omega), if_neg (by omega), if_neg (by omega), if_neg (by omega), if_neg (by omega), if_neg (by omega), if_neg (by omega), if_neg (by omega), if_neg (by omega), if_neg (by omega), if_neg (by omega), if_neg (by omega)]; try rfl)⟩)))))))))))))))))))))))))))
end Go.Proofs.YgvaawGreat
