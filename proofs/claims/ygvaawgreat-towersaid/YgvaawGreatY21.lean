import Derived.Test.YgvaawGreatY20
set_option maxRecDepth 100000
set_option maxHeartbeats 4000000
set_option linter.unusedSimpArgs false
set_option linter.unusedVariables false
namespace Go.Proofs.YgvaawGreat
open Go
theorem yp_cost {w : World} {H : Store} (hF : Fz w H) (bs : Nat) (cs : Array Value) (s : YSt) (vf : Value) (kS : Blk w bs cs) (hs : SC H cs s vf) (bf o : Nat) (fs : Array Value) (f : YF) (vm : Value) (kF : Blk w bf fs) (hf : FC H fs o f vm) (bm : Nat) (kM : MB w bm vm f.mem) (lM : bm < w.heap.size) (q : Nat) (hq : q < 256) :
    Ret 139 [.pointer (some ⟨bs, 0, none⟩), .pointer (some ⟨bf, o, none⟩), .int .u8 q] w (fun v w' => ∃ H', Go No w H w' H' ∧ NV H' v (costN s f q) ∧ costN s f q < 256 ^ 70) := by
  obtain ⟨am, rfl⟩ := kM.val
  obtain ⟨aa, ac, wa, wc, sa, sc, vr, la, lc, ta, tc, ma, mc, ga, gc, oa, oc, ra, rc, vlim, vtx, vleft, vpr, vtot, rS, rOr, rMd, hAc, hWA, hWS, hRf, hTm, hMd, hGn, hSr, hRt, hLm, hTx, hLf, hPr, hTt⟩ := hs.ex
  have so := hs.ok
  have so1 := so.accts
  have so2 := so.warmA
  have so3 := so.warmS
  have so4 := so.temps
  have so5 := so.start
  have so6 := so.logs
  have so7 := so.made
  have so8 := so.gone
  have so9 := so.ret
  have eC := hs.env
  obtain ⟨vpc, vgas, vval, voo, vol, ka, kc, ca, cc, ia, ic, svc, rF, rSe, rCa, rSv, hSv, hPc, hGa, hVa, hOo, hOl, hSt, hCo, hIn⟩ := hf.ex
  have fo := hf.ok
  have fo1 := fo.stack
  have fo2 := fo.code
  have fo3 := fo.input
  have fo4 := fo.mem
  have lS := kS.lt
  have lF := kF.lt
  have lM0 := lM
  refine enter (n := 38) Hvaa.func139 rfl rfl (Nat.le_of_ble_eq_true rfl) ?_
  have U := Up.refl w
  have G : Go (No) w H w H := Go.refl hF
  have hL0 : Le H H := Le.refl H
  refine c_seq (fun K1 hK1 => ?_)
  exact (by
    refine c_region ?_
    refine l_step y_assignC ?_
    refine l_nil ?_
    refine hK1 _ _ ?_
    refine fg3 2 1 0 (gS rfl (gS rfl (gS rfl g0))) (gS rfl (gS rfl g0)) (gS rfl g0) (fun g => ?_)
    refine c_seq (fun K2 hK2 => ?_)
    exact (by
      refine c_region ?_
      refine l_step (y_moveV (et g0 rfl)) ?_
      refine l_step (y_moveV (et (gS rfl (gS rfl g0)) rfl)) ?_
      refine l_step (y_moveV (et (gS rfl (gS rfl (gS rfl (gS rfl g0)))) rfl)) ?_
      refine l_eff (e_callV cal_223 (aC (et (gS rfl (gS rfl g0)) rfl) (aC (et (gS rfl g0) rfl) (aC (et g0 rfl) aN))) (yp_bareCost hF _ _ _ _ kS (hs.mono hL0) _ _ _ _ _ kF (hf.mono hL0) _ hq)) (fun v3 w3 h3 => ?_)
      obtain ⟨H3, g3, n3, q3⟩ := h3
      have hlew3 := g3.le
      replace hL0 := hL0.trans hlew3
      replace kS := kS.up g3.up
      replace kF := kF.up g3.up
      replace kM := kM.up g3.up
      replace U := U.tr g3.up
      replace G := G.tr g3
      replace hF := g3.fz
      refine l_step (y_assignV (et g0 rfl)) ?_
      refine l_nil ?_
      refine hK2 _ _ ?_
      refine fg3 2 1 7 (gS rfl (gS rfl (gS rfl (gS rfl (gS rfl (gS rfl (gS rfl g0))))))) (gS rfl (gS rfl (gS rfl (gS rfl (gS rfl (gS rfl g0)))))) g0 (fun g => ?_)
      refine c_seq (fun K4 hK4 => ?_)
      exact (by
        refine c_region ?_
        refine l_step (y_moveV (et (gS rfl g0) rfl)) ?_
        refine l_step (y_nil (et g0 rfl)) ?_
        refine l_step (y_fld fld_146_9 (et g0 rfl)) ?_
        refine l_step (y_load1 one_38 (et g0 rfl) (at1 (kF.cell (rF 9 _ rfl)))) ?_
        refine l_step (y_len Hvaa.underlying38 (et g0 rfl)) ?_
        refine l_step (y_quo (et g0 rfl) rfl (by decide) (quoI (b := 32) ?_)) ?_
        omega
        refine l_step (y_conv Hvaa.underlying3 Hvaa.underlying26 (et g0 rfl) (wrapU_id uk64 ?_)) ?_
        omega
        refine l_eff (e_callV cal_32 (aC (et g0 rfl) aN) (yp_num hF (show f.mem.length / 32 < 18446744073709551616 by omega))) (fun v5 w5 h5 => ?_)
        obtain ⟨H5, g5, n5⟩ := h5
        have hlew5 := g5.le
        replace n3 := n3.mono hlew5
        replace hL0 := hL0.trans hlew5
        replace kS := kS.up g5.up
        replace kF := kF.up g5.up
        replace kM := kM.up g5.up
        replace U := U.tr g5.up
        replace G := G.tr g5
        replace hF := g5.fz
        have q5 := bd_64 (show f.mem.length / 32 < 18446744073709551616 by omega)
        refine l_step (y_assignV (et g0 rfl)) ?_
        refine l_nil ?_
        refine hK4 _ _ ?_
        refine fg4 2 1 7 8 (gS rfl (gS rfl (gS rfl (gS rfl (gS rfl (gS rfl (gS rfl (gS rfl (gS rfl (gS rfl (gS rfl g0))))))))))) (gS rfl (gS rfl (gS rfl (gS rfl (gS rfl (gS rfl (gS rfl (gS rfl (gS rfl (gS rfl g0)))))))))) (gS rfl (gS rfl (gS rfl (gS rfl (gS rfl (gS rfl (gS rfl (gS rfl (gS rfl g0))))))))) g0 (fun g => ?_)
        refine c_seq (fun K6 hK6 => ?_)
        exact (by
          refine c_region ?_
          refine l_step (y_moveV (et (gS rfl (gS rfl g0)) rfl)) ?_
          refine l_step (y_moveV (et (gS rfl (gS rfl (gS rfl (gS rfl g0)))) rfl)) ?_
          refine l_eff (e_callV cal_61 (aC (et (gS rfl g0) rfl) (aC (et g0 rfl) aN)) (yp_reach hF _ _ _ _ _ kF (hf.mono hL0) _ hq)) (fun v7 w7 h7 => ?_)
          obtain ⟨H7, g7, n7, q7⟩ := h7
          have hlew7 := g7.le
          replace n3 := n3.mono hlew7
          replace n5 := n5.mono hlew7
          replace hL0 := hL0.trans hlew7
          replace kS := kS.up g7.up
          replace kF := kF.up g7.up
          replace kM := kM.up g7.up
          replace U := U.tr g7.up
          replace G := G.tr g7
          replace hF := g7.fz
          refine l_eff (e_callV cal_126 (aC (et g0 rfl) aN) (yp_words' hF n7 q7 (by decide))) (fun v8 w8 h8 => ?_)
          obtain ⟨H8, g8, n8⟩ := h8
          have hlew8 := g8.le
          replace n3 := n3.mono hlew8
          replace n5 := n5.mono hlew8
          replace n7 := n7.mono hlew8
          replace hL0 := hL0.trans hlew8
          replace kS := kS.up g8.up
          replace kF := kF.up g8.up
          replace kM := kM.up g8.up
          replace U := U.tr g8.up
          replace G := G.tr g8
          replace hF := g8.fz
          have q8 := bd_words q7 (by decide)
          refine l_step (y_assignV (et g0 rfl)) ?_
          refine l_nil ?_
          refine hK6 _ _ ?_
          refine fg3 7 8 9 (gS rfl (gS rfl (gS rfl (gS rfl (gS rfl (gS rfl g0)))))) (gS rfl (gS rfl (gS rfl (gS rfl (gS rfl g0))))) g0 (fun g => ?_)
          refine c_seq (fun K9 hK9 => ?_)
          refine c_seq (fun K10 hK10 => ?_)
          exact (by
            refine c_region ?_
            refine l_step (y_moveV (et g0 rfl)) ?_
            refine l_step (y_moveV (et (gS rfl (gS rfl g0)) rfl)) ?_
            refine l_eff (e_callV cal_121 (aC (et (gS rfl g0) rfl) (aC (et g0 rfl) aN)) (nat_cmp hF n8 n5 (bd_sm q8 (by decide)) (bd_sm q5 (by decide)))) (fun v11 w11 h11 => ?_)
            obtain ⟨rfl, u11⟩ := h11
            replace G := G.tr (Go.ofUp hF u11)
            replace hF := hF.up u11
            replace kS := kS.up u11
            replace kF := kF.up u11
            replace kM := kM.up u11
            replace U := U.tr u11
            refine l_step ((y_leq (et g0 rfl) rfl).to (congrArg Value.bool (cmp_le0 _ _))) ?_
            refine l_nil ?_
            refine hK10 _ _ ?_
            refine fg4 7 8 9 29 (gS rfl (gS rfl (gS rfl (gS rfl (gS rfl (gS rfl g0)))))) (gS rfl (gS rfl (gS rfl (gS rfl (gS rfl g0))))) (gS rfl (gS rfl (gS rfl (gS rfl g0)))) g0 (fun g => ?_)
            refine c_cond (et g0 rfl) (fun cB1 => ?_) (fun cB1 => ?_)
            · skip
              simp only [decide_eq_true_eq, decide_eq_false_iff_not, Int.not_lt, Int.not_le, Bool.not_eq_true', Bool.not_eq_false', Bool.not_eq_eq_eq_not, Bool.not_true, Bool.not_false] at cB1
              refine c_seq (fun K13 hK13 => ?_)
              exact (by
                refine c_region ?_
                refine l_step (y_moveV (et (gS rfl (gS rfl (gS rfl g0))) rfl)) ?_
                refine l_step (y_assignV (et g0 rfl)) ?_
                refine l_nil ?_
                refine hK13 _ _ ?_
                refine fg1 6 g0 (fun g => ?_)
                refine c_ret ?_
                repeat with_reducible refine then_ret ?_
                refine ret1 rfl (res_tmp (et g0 rfl)) ?_
                exact ⟨_, G, nvb (n := 34) n3 q3 (by decide) (by rw [costN, if_pos cB1])⟩)
            · skip
              simp only [decide_eq_true_eq, decide_eq_false_iff_not, Int.not_lt, Int.not_le, Bool.not_eq_true', Bool.not_eq_false', Bool.not_eq_eq_eq_not, Bool.not_true, Bool.not_false] at cB1
              refine c_skip ?_
              refine hK9 _ _ ?_
              refine fg3 7 8 9 (gS rfl (gS rfl (gS rfl g0))) (gS rfl (gS rfl g0)) (gS rfl g0) (fun g => ?_)
              refine c_seq (fun K14 hK14 => ?_)
              exact (by
                refine c_region ?_
                refine l_step (y_moveV (et (gS rfl (gS rfl g0)) rfl)) ?_
                refine l_step (y_moveV (et (gS rfl g0) rfl)) ?_
                refine l_eff (e_callV cal_224 (aC (et g0 rfl) aN) (yp_memCost hF n8 (bd_up q8 (by decide)))) (fun v15 w15 h15 => ?_)
                obtain ⟨H15, g15, n15⟩ := h15
                have hlew15 := g15.le
                replace n3 := n3.mono hlew15
                replace n5 := n5.mono hlew15
                replace n7 := n7.mono hlew15
                replace n8 := n8.mono hlew15
                replace hL0 := hL0.trans hlew15
                replace kS := kS.up g15.up
                replace kF := kF.up g15.up
                replace kM := kM.up g15.up
                replace U := U.tr g15.up
                replace G := G.tr g15
                replace hF := g15.fz
                have q15 := bd_mem (a := 33) n15 (bd_up q8 (by decide)) (by decide)
                refine l_step (y_moveV (et (gS rfl (gS rfl (gS rfl (gS rfl g0)))) rfl)) ?_
                refine l_eff (e_callV cal_224 (aC (et g0 rfl) aN) (yp_memCost hF n5 (bd_up q5 (by decide)))) (fun v16 w16 h16 => ?_)
                obtain ⟨H16, g16, n16⟩ := h16
                have hlew16 := g16.le
                replace n3 := n3.mono hlew16
                replace n5 := n5.mono hlew16
                replace n7 := n7.mono hlew16
                replace n8 := n8.mono hlew16
                replace n15 := n15.mono hlew16
                replace hL0 := hL0.trans hlew16
                replace kS := kS.up g16.up
                replace kF := kF.up g16.up
                replace kM := kM.up g16.up
                replace U := U.tr g16.up
                replace G := G.tr g16
                replace hF := g16.fz
                have q16 := bd_mem (a := 8) n16 (bd_up q5 (by decide)) (by decide)
                exact (by
                  refine l_eff (e_callV cal_45 (aC (et (gS rfl (gS rfl g0)) rfl) (aC (et g0 rfl) aN)) (yp_less hF n15 n16 (bd_sm q15 (by decide)) (bd_sm q16 (by decide)))) (fun v17 w17 h17 => ?_)
                  obtain ⟨H17, g17, n17⟩ := h17
                  have hlew17 := g17.le
                  replace n3 := n3.mono hlew17
                  replace n5 := n5.mono hlew17
                  replace n7 := n7.mono hlew17
                  replace n8 := n8.mono hlew17
                  replace n15 := n15.mono hlew17
                  replace n16 := n16.mono hlew17
                  replace hL0 := hL0.trans hlew17
                  replace kS := kS.up g17.up
                  replace kF := kF.up g17.up
                  replace kM := kM.up g17.up
                  replace U := U.tr g17.up
                  replace G := G.tr g17
                  replace hF := g17.fz
                  have q17 := bd_sub' n17 q15
                  refine l_eff (e_callV cal_34 (aC (et (gS rfl (gS rfl (gS rfl (gS rfl (gS rfl g0))))) rfl) (aC (et g0 rfl) aN)) (nat_add hF n3 n17 (bd_sm q3 (by decide)) (bd_sm q17 (by decide)))) (fun v18 w18 h18 => ?_)
                  obtain ⟨H18, g18, n18⟩ := h18
                  have hlew18 := g18.le
                  replace n3 := n3.mono hlew18
                  replace n5 := n5.mono hlew18
                  replace n7 := n7.mono hlew18
                  replace n8 := n8.mono hlew18
                  replace n15 := n15.mono hlew18
                  replace n16 := n16.mono hlew18
                  replace n17 := n17.mono hlew18
                  replace hL0 := hL0.trans hlew18
                  replace kS := kS.up g18.up
                  replace kF := kF.up g18.up
                  replace kM := kM.up g18.up
                  replace U := U.tr g18.up
                  replace G := G.tr g18
                  replace hF := g18.fz
                  have q18 := bd_add (c := 68) q3 q17 (by decide)
                  exact (by
                    refine l_step (y_assignV (et g0 rfl)) ?_
                    refine l_nil ?_
                    refine hK14 _ _ ?_
                    refine fg1 6 g0 (fun g => ?_)
                    refine c_ret ?_
                    repeat with_reducible refine then_ret ?_
                    refine ret1 rfl (res_tmp (et g0 rfl)) ?_
                    exact ⟨_, G, nvb (n := 68) n18 q18 (by decide) (by rw [costN, if_neg (by omega)])⟩))))))))
def destW (l : List Nat) (a : Nat) : Nat → Nat → Bool
  | 0, _ => false
  | n + 1, i => if i < l.length then (if i = a then decide (l[i]?.getD 0 = 91) else destW l a n (i + (1 + immN (l[i]?.getD 0)))) else false
def destN (l : List Nat) (a : Nat) : Bool := destW l a l.length 0
theorem destW_fuel (l : List Nat) (a : Nat) : ∀ n m i, l.length - i ≤ n → l.length - i ≤ m → destW l a n i = destW l a m i := by
  intro n
  induction n with
  | zero =>
    intro m i h1 h2
    cases m with
    | zero => rfl
    | succ m => rw [destW, destW, if_neg (by omega)]
  | succ n ih =>
    intro m i h1 h2
    cases m with
    | zero => rw [destW, destW, if_neg (by omega)]
    | succ m =>
      rw [destW, destW]
      split
      · split
        · rfl
        · exact ih m _ (by omega) (by omega)
      · rfl
theorem imm_le (o : Nat) : immN o ≤ 32 := by unfold immN; split <;> omega
theorem nv_one {H : Store} {v : Value} {q : Nat} (h : BV H v [q]) (hq : q ≠ 0) : NV H v q := ⟨[q], h, by simp [val], fun d hd => by simp at hd; omega⟩
theorem yp_isDest {w : World} {H : Store} (hF : Fz w H) {vc va : Value} {l : List Nat} {a : Nat} (hC : BV H vc l) (hA : NV H va a) (sA : a < 256 ^ 32) (hl : l.length < 16777216) :
    Ret 140 [vc, va] w (fun v w' => v = .bool (destN l a) ∧ Up w w') := by
  obtain ⟨ca, cc, rfl, hcc, h63⟩ := (hC.wv hF).val
  refine enter (n := 36) Hvaa.func140 rfl rfl (Nat.le_of_ble_eq_true rfl) ?_
  have U := Up.refl w
  have G : Go (No) w H w H := Go.refl hF
  refine c_seq (fun K1 hK1 => ?_)
  exact (by
    refine c_region ?_
    refine l_step y_assignC ?_
    refine l_nil ?_
    refine hK1 _ _ ?_
    refine fg2 1 0 (gS rfl (gS rfl g0)) (gS rfl g0) (fun g => ?_)
    refine c_seq (fun K2 hK2 => ?_)
    exact (by
      refine c_region ?_
      refine l_step y_assignC ?_
      refine l_nil ?_
      refine hK2 _ _ ?_
      refine c_seq (fun K3 hK3 => ?_)
      refine c_seq (fun K4 hK4 => ?_)
      exact (by
        refine c_region ?_
        refine l_step y_assignC ?_
        refine l_nil ?_
        refine hK4 _ _ ?_
        refine c_block (fun Q5 hQ5 => ?_)
        refine fg4 0 1 5 6 (gS rfl (gS rfl g0)) (gS rfl (gS rfl (gS rfl g0))) (gS rfl g0) g0 (fun g => ?_)
        refine c_loop (fun k_ s_ W6 => ∃ (g : Nat → Value) (Hk6 : Store) (vp : Value) (i : Nat), s_ = (upd (upd (upd (upd g 0 (.slice ca l.length cc)) 1 va) 5 vp) 6 (.int .i64 (i : Nat))) ∧ l.length + 40 - i = k_ ∧ (NV Hk6 vp i) ∧ (destN l a = destW l a (l.length - i) i) ∧ (i ≤ l.length + 33) ∧ Go (fun k => False) w H W6 Hk6) (l.length + 40 - (0)) ?_ ?_
        · exact ⟨g, _, _, 0, rfl, rfl, NV.nil _, rfl, by omega, Go.refl hF⟩
        · skip
          intro k_ s_ W6 hI K6 hK6
          obtain ⟨g, Hk6, vp, i, rfl, rfl, hvp, hd, hi, V6⟩ := hI
          have hle6 := V6.le
          replace hC := hC.mono hle6
          replace hA := hA.mono hle6
          replace G := G.trans V6 (by intro b hb; first | exact hb.elim | omega | (simp at hb ⊢; omega))
          replace hF := V6.fz
          replace U := U.cc V6.ch (by intro b hb; first | exact hb.elim | omega | (simp at hb ⊢; omega))
          refine c_seq (fun K7 hK7 => ?_)
          refine c_seq (fun K8 hK8 => ?_)
          exact (by
            refine c_region ?_
            refine l_step (y_moveV (et g0 rfl)) ?_
            refine l_step (y_moveV (et (gS rfl (gS rfl (gS rfl (gS rfl g0)))) rfl)) ?_
            refine l_step (y_len Hvaa.underlying38 (et g0 rfl)) ?_
            refine l_step (y_lss (et (gS rfl (gS rfl g0)) rfl) (et g0 rfl)) ?_
            refine l_nil ?_
            refine hK8 _ _ ?_
            refine fg5 0 1 5 6 11 (gS rfl (gS rfl (gS rfl (gS rfl (gS rfl (gS rfl (gS rfl g0))))))) (gS rfl (gS rfl (gS rfl (gS rfl (gS rfl (gS rfl g0)))))) (gS rfl (gS rfl (gS rfl (gS rfl (gS rfl g0))))) (gS rfl (gS rfl (gS rfl (gS rfl g0)))) g0 (fun g => ?_)
            refine c_cond (et g0 rfl) (fun cB1 => ?_) (fun cB1 => ?_)
            · skip
              
              have hil : i < l.length := by have := of_decide_eq_true cB1; omega
              refine c_skip ?_
              refine hK7 _ _ ?_
              refine fg4 0 1 5 6 (gS rfl (gS rfl (gS rfl (gS rfl g0)))) (gS rfl (gS rfl (gS rfl g0))) (gS rfl (gS rfl g0)) (gS rfl g0) (fun g => ?_)
              refine c_block (fun Q10 hQ10 => ?_)
              refine c_seq (fun K11 hK11 => ?_)
              refine c_seq (fun K12 hK12 => ?_)
              exact (by
                refine c_region ?_
                refine l_step (y_moveV (et (gS rfl g0) rfl)) ?_
                refine l_step (y_moveV (et (gS rfl (gS rfl (gS rfl g0))) rfl)) ?_
                refine l_eff (e_callV cal_121 (aC (et (gS rfl g0) rfl) (aC (et g0 rfl) aN)) (nat_cmp hF hvp hA (bd_sm (bd_64 (show i < 18446744073709551616 by omega)) (by decide)) (bd_sm sA (by decide)))) (fun v13 w13 h13 => ?_)
                obtain ⟨rfl, u13⟩ := h13
                replace G := G.tr (Go.ofUp hF u13)
                replace V6 := V6.tr (Go.ofUp hF u13)
                replace hF := hF.up u13
                replace U := U.tr u13
                refine l_step ((y_eql (et g0 rfl) rfl).to (congrArg Value.bool (cmp_eq0 _ _))) ?_
                refine l_nil ?_
                refine hK12 _ _ ?_
                refine fg5 0 1 5 6 15 (gS rfl (gS rfl (gS rfl (gS rfl (gS rfl (gS rfl (gS rfl g0))))))) (gS rfl (gS rfl (gS rfl (gS rfl (gS rfl (gS rfl g0)))))) (gS rfl (gS rfl (gS rfl (gS rfl (gS rfl g0))))) (gS rfl (gS rfl (gS rfl (gS rfl g0)))) g0 (fun g => ?_)
                refine c_cond (et g0 rfl) (fun cB2 => ?_) (fun cB2 => ?_)
                · skip
                  simp only [decide_eq_true_eq, decide_eq_false_iff_not, Int.not_lt, Int.not_le, Bool.not_eq_true', Bool.not_eq_false', Bool.not_eq_eq_eq_not, Bool.not_true, Bool.not_false] at cB2
                  refine c_seq (fun K15 hK15 => ?_)
                  exact (by
                    refine c_region ?_
                    refine l_step (y_moveV (et (gS rfl (gS rfl (gS rfl (gS rfl g0)))) rfl)) ?_
                    refine l_step (y_moveV (et (gS rfl (gS rfl g0)) rfl)) ?_
                    obtain ⟨ba, oa, ha, hb0, hr⟩ := (hC.wv hF).at (by omega)
                    refine l_step (y_idxSa ha Hvaa.underlying38 sz_5 (et (gS rfl g0) rfl) (et g0 rfl) ?_) ?_
                    omega
                    refine l_step (y_load1 one_5 (et g0 rfl) (at1 (row_byte hr (by omega)))) ?_
                    refine l_step (y_eql (et g0 rfl) rfl) ?_
                    refine l_step (y_assignV (et g0 rfl)) ?_
                    refine l_nil ?_
                    refine hK15 _ _ ?_
                    refine fg1 4 g0 (fun g => ?_)
                    refine c_ret ?_
                    refine hQ10 _ _ _ (in_ret ?_)
                    refine hQ5 _ _ _ (in_ret ?_)
                    repeat with_reducible refine then_ret ?_
                    refine ret1 rfl (res_tmp (et g0 rfl)) ?_
                    exact ⟨by rw [hd, show l.length - i = (l.length - i - 1) + 1 by omega, destW, if_pos hil, if_pos (by omega), List.getElem?_eq_getElem hil]; exact congrArg Value.bool (by rw [Bool.eq_iff_iff]; simp; omega), U⟩)
                · skip
                  simp only [decide_eq_true_eq, decide_eq_false_iff_not, Int.not_lt, Int.not_le, Bool.not_eq_true', Bool.not_eq_false', Bool.not_eq_eq_eq_not, Bool.not_true, Bool.not_false] at cB2
                  refine c_skip ?_
                  refine hK11 _ _ ?_
                  refine fg4 0 1 5 6 (gS rfl (gS rfl (gS rfl (gS rfl g0)))) (gS rfl (gS rfl (gS rfl g0))) (gS rfl (gS rfl g0)) (gS rfl g0) (fun g => ?_)
                  refine c_seq (fun K16 hK16 => ?_)
                  exact (by
                    refine c_region ?_
                    refine l_step (y_moveV (et (gS rfl (gS rfl (gS rfl g0))) rfl)) ?_
                    refine l_step (y_moveV (et (gS rfl g0) rfl)) ?_
                    obtain ⟨ba, oa, ha, hb0, hr⟩ := (hC.wv hF).at (by omega)
                    refine l_step (y_idxSa ha Hvaa.underlying38 sz_5 (et (gS rfl g0) rfl) (et g0 rfl) ?_) ?_
                    omega
                    refine l_step (y_load1 one_5 (et g0 rfl) (at1 (row_byte hr (by omega)))) ?_
                    refine l_eff (e_callV cal_151 (aC (et g0 rfl) aN) (imm_spec _ _ (hC.dig _ (List.getElem_mem hil)))) (fun v17 w17 h17 => ?_)
                    obtain ⟨rfl, u17⟩ := h17
                    replace G := G.tr (Go.ofUp hF u17)
                    replace V6 := V6.tr (Go.ofUp hF u17)
                    replace hF := hF.up u17
                    replace U := U.tr u17
                    have him := imm_le l[i]
                    refine l_step (y_conv Hvaa.underlying5 Hvaa.underlying3 (et g0 rfl) (wrapIN ?_)) ?_
                    omega
                    refine l_step (y_add rfl (et g0 rfl) (addIN (x := 1) ?_)) ?_
                    omega
                    refine l_step (y_assignV (et g0 rfl)) ?_
                    refine l_nil ?_
                    refine hK16 _ _ ?_
                    refine fg5 0 1 5 6 7 (gS rfl (gS rfl (gS rfl (gS rfl (gS rfl (gS rfl (gS rfl (gS rfl (gS rfl (gS rfl (gS rfl g0))))))))))) (gS rfl (gS rfl (gS rfl (gS rfl (gS rfl (gS rfl (gS rfl (gS rfl (gS rfl (gS rfl g0)))))))))) (gS rfl (gS rfl (gS rfl (gS rfl (gS rfl (gS rfl (gS rfl (gS rfl (gS rfl g0))))))))) (gS rfl (gS rfl (gS rfl (gS rfl (gS rfl (gS rfl (gS rfl (gS rfl g0)))))))) g0 (fun g => ?_)
                    refine c_seq (fun K18 hK18 => ?_)
                    exact (by
                      refine c_region ?_
                      refine l_step (y_moveV (et (gS rfl (gS rfl g0)) rfl)) ?_
                      refine l_step (y_moveV (et (gS rfl g0) rfl)) ?_
                      refine l_step (y_conv Hvaa.underlying3 Hvaa.underlying5 (et g0 rfl) (wrapU_id uk8 ?_)) ?_
                      omega
                      refine l_eff (e_one hF (et g0 rfl) (by omega)) (fun v19 w19 h19 => ?_)
                      obtain ⟨H19, g19, n19⟩ := h19
                      have hlew19 := g19.le
                      replace hC := hC.mono hlew19
                      replace hA := hA.mono hlew19
                      replace hvp := hvp.mono hlew19
                      replace U := U.tr g19.up
                      replace G := G.tr g19
                      replace V6 := V6.tr g19
                      replace hF := g19.fz
                      replace n19 := nv_one n19 (by omega)
                      refine l_eff (e_callV cal_34 (aC (et (gS rfl (gS rfl (gS rfl g0))) rfl) (aC (et g0 rfl) aN)) (nat_add hF hvp n19 (bd_sm (bd_64 (show i < 18446744073709551616 by omega)) (by decide)) (bd_sm (show 1 + immN l[i] < 256 ^ 1 by omega) (by decide)))) (fun v20 w20 h20 => ?_)
                      obtain ⟨H20, g20, n20⟩ := h20
                      have hlew20 := g20.le
                      replace hC := hC.mono hlew20
                      replace hA := hA.mono hlew20
                      replace hvp := hvp.mono hlew20
                      replace n19 := n19.mono hlew20
                      replace U := U.tr g20.up
                      replace G := G.tr g20
                      replace V6 := V6.tr g20
                      replace hF := g20.fz
                      have q20 := bd_add (c := 9) (bd_64 (show i < 18446744073709551616 by omega)) (show 1 + immN l[i] < 256 ^ 1 by omega) (by decide)
                      refine l_step (y_assignV (et g0 rfl)) ?_
                      refine l_nil ?_
                      refine hK18 _ _ ?_
                      refine fg5 0 1 5 6 7 (gS rfl (gS rfl (gS rfl (gS rfl (gS rfl (gS rfl (gS rfl (gS rfl (gS rfl (gS rfl g0)))))))))) (gS rfl (gS rfl (gS rfl (gS rfl (gS rfl (gS rfl (gS rfl (gS rfl (gS rfl g0))))))))) g0 (gS rfl (gS rfl (gS rfl (gS rfl (gS rfl (gS rfl (gS rfl g0))))))) (gS rfl (gS rfl (gS rfl (gS rfl (gS rfl (gS rfl g0)))))) (fun g => ?_)
                      refine c_region ?_
                      exact (by
                        refine l_step (y_moveV (et (gS rfl g0) rfl)) ?_
                        refine l_step (y_moveV (et (gS rfl g0) rfl)) ?_
                        refine l_step (y_add (et (gS rfl g0) rfl) (et g0 rfl) (addIN ?_)) ?_
                        omega
                        refine l_step (y_assignV (et g0 rfl)) ?_
                        refine l_nil ?_
                        refine hQ10 _ _ _ (in_normal ?_)
                        refine fK4 0 1 5 6 (gS rfl (gS rfl (gS rfl (gS rfl (gS rfl (gS rfl (gS rfl (gS rfl g0)))))))) (gS rfl (gS rfl (gS rfl (gS rfl (gS rfl (gS rfl (gS rfl g0))))))) (gS rfl (gS rfl (gS rfl (gS rfl (gS rfl (gS rfl g0)))))) g0 (fun g => ?_)
                        exact hK6 (l.length + 40 - (i + (1 + immN l[i]))) _ _ (by omega) ⟨g, _, _, i + (1 + immN l[i]), rfl, rfl, n20, by rw [hd, show l.length - i = (l.length - i - 1) + 1 by omega, destW, if_pos hil, if_neg (by omega), List.getElem?_eq_getElem hil]; exact destW_fuel _ _ _ _ _ (by simp only [Option.getD_some]; omega) (by simp only [Option.getD_some]; omega), by omega, V6⟩))))
            · skip
              
              have hil : ¬ i < l.length := by have := of_decide_eq_false cB1; omega
              refine c_exit ?_
              refine hQ5 _ _ _ (in_exit ?_)
              refine hK3 _ _ ?_
              refine fg0 (fun g => ?_)
              refine c_seq (fun K21 hK21 => ?_)
              exact (by
                refine c_region ?_
                refine l_step y_assignC ?_
                refine l_nil ?_
                refine hK21 _ _ ?_
                refine c_ret ?_
                repeat with_reducible refine then_ret ?_
                refine ret1 rfl (res_tmp (et g0 rfl)) ?_
                exact ⟨by rw [hd, show l.length - i = 0 by omega, destW], U⟩)))))
def depN (f : YF) (l : List Nat) : Nat × Nat := if 256 < l.length then (0, 10) else if 0 < l.length ∧ l[0]?.getD 0 = 239 then (0, 11) else if f.gas < 200 * l.length then (0, 2) else (f.gas - 200 * l.length, 0)
theorem yp_deposit {w : World} {H : Store} (hF : Fz w H) (bf o : Nat) (fs : Array Value) (f : YF) (vm : Value) (kF : Blk w bf fs) (hf : FC H fs o f vm) {vo : Value} {l : List Nat} (hO : BV H vo l) (hl : l.length < 16777216) :
    Ret 141 [.pointer (some ⟨bf, o, none⟩), vo] w (fun v w' => ∃ a H', v = .tuple #[a, .int .u8 ((depN f l).2 : Nat)] ∧ Go No w H w' H' ∧ NV H' a (depN f l).1) := by
  obtain ⟨vpc, vgas, vval, voo, vol, ka, kc, ca, cc, ia, ic, svc, rF, rSe, rCa, rSv, hSv, hPc, hGa, hVa, hOo, hOl, hSt, hCo, hIn⟩ := hf.ex
  have fo := hf.ok
  have fo1 := fo.stack
  have fo2 := fo.code
  have fo3 := fo.input
  have fo4 := fo.mem
  obtain ⟨la, lc, rfl, hlc, h63⟩ := (hO.wv hF).val
  refine enter (n := 41) Hvaa.func141 rfl rfl (Nat.le_of_ble_eq_true rfl) ?_
  have U := Up.refl w
  have G : Go (No) w H w H := Go.refl hF
  have hL0 : Le H H := Le.refl H
  refine c_seq (fun K1 hK1 => ?_)
  exact (by
    refine c_region ?_
    refine l_step y_assignC ?_
    refine l_step y_assignC ?_
    refine l_nil ?_
    refine hK1 _ _ ?_
    refine fg2 1 0 (gS rfl (gS rfl (gS rfl g0))) (gS rfl (gS rfl g0)) (fun g => ?_)
    refine c_seq (fun K2 hK2 => ?_)
    exact (by
      refine c_region ?_
      refine l_eff (e_callV cal_32 (aC (v := .int .u64 ((200 : Nat) : Int)) rfl aN) (yp_num (x := 200) hF (by decide))) (fun v3 w3 h3 => ?_)
      obtain ⟨H3, g3, n3⟩ := h3
      have hlew3 := g3.le
      replace hO := hO.mono hlew3
      replace hL0 := hL0.trans hlew3
      replace kF := kF.up g3.up
      replace U := U.tr g3.up
      replace G := G.tr g3
      replace hF := g3.fz
      have q3 : 200 < 256 ^ 1 := by decide
      refine l_step (y_moveV (et (gS rfl (gS rfl g0)) rfl)) ?_
      refine l_step (y_len Hvaa.underlying38 (et g0 rfl)) ?_
      refine l_step (y_conv Hvaa.underlying3 Hvaa.underlying26 (et g0 rfl) (wrapU_id uk64 ?_)) ?_
      omega
      refine l_eff (e_callV cal_32 (aC (et g0 rfl) aN) (yp_num hF (show l.length < 18446744073709551616 by omega))) (fun v4 w4 h4 => ?_)
      obtain ⟨H4, g4, n4⟩ := h4
      have hlew4 := g4.le
      replace hO := hO.mono hlew4
      replace n3 := n3.mono hlew4
      replace hL0 := hL0.trans hlew4
      replace kF := kF.up g4.up
      replace U := U.tr g4.up
      replace G := G.tr g4
      replace hF := g4.fz
      have q4 := bd_64 (show l.length < 18446744073709551616 by omega)
      refine l_eff (e_callV cal_50 (aC (et (gS rfl (gS rfl (gS rfl (gS rfl g0)))) rfl) (aC (et g0 rfl) aN)) (nat_mul hF n3 n4 (bd_sm q3 (by decide)) (bd_sm q4 (by decide)))) (fun v5 w5 h5 => ?_)
      obtain ⟨H5, g5, n5⟩ := h5
      have hlew5 := g5.le
      replace hO := hO.mono hlew5
      replace n3 := n3.mono hlew5
      replace n4 := n4.mono hlew5
      replace hL0 := hL0.trans hlew5
      replace kF := kF.up g5.up
      replace U := U.tr g5.up
      replace G := G.tr g5
      replace hF := g5.fz
      have q5 := bd_mul (c := 9) q3 q4 (by decide)
      exact (by
        refine l_step (y_assignV (et g0 rfl)) ?_
        refine l_nil ?_
        refine hK2 _ _ ?_
        refine fg3 1 0 6 (gS rfl (gS rfl (gS rfl (gS rfl (gS rfl (gS rfl (gS rfl (gS rfl g0)))))))) (gS rfl (gS rfl (gS rfl (gS rfl (gS rfl (gS rfl (gS rfl g0))))))) g0 (fun g => ?_)
        refine c_seq (fun K6 hK6 => ?_)
        refine c_block (fun Q7 hQ7 => ?_)
        refine c_seq (fun K8 hK8 => ?_)
        exact (by
          refine c_region ?_
          refine l_step (y_moveV (et (gS rfl (gS rfl g0)) rfl)) ?_
          refine l_step (y_len Hvaa.underlying38 (et g0 rfl)) ?_
          refine l_step (y_gtr (et g0 rfl) rfl) ?_
          refine l_step (y_assignV (et g0 rfl)) ?_
          refine l_nil ?_
          refine hK8 _ _ ?_
          refine fg4 1 0 6 13 (gS rfl (gS rfl (gS rfl (gS rfl (gS rfl (gS rfl g0)))))) (gS rfl (gS rfl (gS rfl (gS rfl (gS rfl g0))))) (gS rfl (gS rfl (gS rfl (gS rfl g0)))) g0 (fun g => ?_)
          refine c_cond (et g0 rfl) (fun cB1 => ?_) (fun cB1 => ?_)
          · skip
            simp only [decide_eq_true_eq, decide_eq_false_iff_not] at cB1
            refine c_seq (fun K10 hK10 => ?_)
            exact (by
              refine c_region ?_
              refine l_step y_assignC ?_
              refine l_step y_assignC ?_
              refine l_nil ?_
              refine hK10 _ _ ?_
              refine fg2 4 5 (gS rfl g0) g0 (fun g => ?_)
              refine c_ret ?_
              refine hQ7 _ _ _ (in_ret ?_)
              repeat with_reducible refine then_ret ?_
              refine ret2 rfl (res_tmp (et (gS rfl g0) rfl)) (res_tmp (et g0 rfl)) ?_
              rw [depN, if_pos (by omega)]
              exact ⟨_, _, rfl, G, (NV.nil _)⟩)
          · skip
            simp only [decide_eq_true_eq, decide_eq_false_iff_not] at cB1
            refine c_seq (fun K11 hK11 => ?_)
            exact (by
              refine c_region ?_
              refine l_step (y_moveV (et (gS rfl (gS rfl (gS rfl g0))) rfl)) ?_
              refine l_step (y_len Hvaa.underlying38 (et g0 rfl)) ?_
              refine l_step (y_gtr (et g0 rfl) rfl) ?_
              refine l_step (y_moveV (et g0 rfl)) ?_
              refine gsplitL (i := 21) g0 (fun q12 => ?_) (fun q12 => ?_)
              · skip
                have hl0 : 0 < l.length := by have := of_decide_eq_true q12; omega
                refine l_gstep (j := 3) (t := 21) (by exact rfl) (by exact rfl) (et g0 rfl) (by decide) (y_moveV (et (gS rfl (gS rfl (gS rfl (gS rfl (gS rfl (gS rfl (gS rfl (gS rfl g0)))))))) rfl)) ?_
                obtain ⟨ba, oa, ha, hb0, hr⟩ := (hO.wv hF).at (by omega)
                refine l_gstep (j := 3) (t := 21) (by exact rfl) (by exact rfl) (et (gS rfl g0) rfl) (by decide) (y_idxSa ha Hvaa.underlying38 sz_5 (et g0 rfl) rfl ?_) ?_
                omega
                refine l_gstep (j := 3) (t := 21) (by exact rfl) (by exact rfl) (et (gS rfl (gS rfl g0)) rfl) (by decide) (y_load1 one_5 (et g0 rfl) (at1 (row_byte hr (by omega)))) ?_
                refine l_gstep (j := 3) (t := 21) (by exact rfl) (by exact rfl) (et (gS rfl (gS rfl (gS rfl g0))) rfl) (by decide) (y_eql (et g0 rfl) rfl) ?_
                refine l_step (y_pickT (et (gS rfl (gS rfl (gS rfl (gS rfl g0)))) rfl) (et g0 rfl)) ?_
                refine l_step (y_assignV (et g0 rfl)) ?_
                refine l_nil ?_
                refine hK11 _ _ ?_
                refine fg3 0 6 17 (gS rfl (gS rfl (gS rfl (gS rfl (gS rfl (gS rfl (gS rfl (gS rfl (gS rfl (gS rfl (gS rfl (gS rfl (gS rfl g0))))))))))))) (gS rfl (gS rfl (gS rfl (gS rfl (gS rfl (gS rfl (gS rfl (gS rfl (gS rfl (gS rfl (gS rfl (gS rfl g0)))))))))))) g0 (fun g => ?_)
                refine c_cond (et g0 rfl) (fun cB2 => ?_) (fun cB2 => ?_)
                · skip
                  simp only [decide_eq_true_eq, decide_eq_false_iff_not] at cB2
                  have e0 : l[0]?.getD 0 = l[0] := by rw [List.getElem?_eq_getElem hl0]; rfl
                  refine c_seq (fun K14 hK14 => ?_)
                  exact (by
                    refine c_region ?_
                    refine l_step y_assignC ?_
                    refine l_step y_assignC ?_
                    refine l_nil ?_
                    refine hK14 _ _ ?_
                    refine fg2 4 5 (gS rfl g0) g0 (fun g => ?_)
                    refine c_ret ?_
                    refine hQ7 _ _ _ (in_ret ?_)
                    repeat with_reducible refine then_ret ?_
                    refine ret2 rfl (res_tmp (et (gS rfl g0) rfl)) (res_tmp (et g0 rfl)) ?_
                    rw [depN, if_neg (by omega), if_pos (by omega)]
                    exact ⟨_, _, rfl, G, (NV.nil _)⟩)
                · skip
                  simp only [decide_eq_true_eq, decide_eq_false_iff_not] at cB2
                  have e0 : l[0]?.getD 0 = l[0] := by rw [List.getElem?_eq_getElem hl0]; rfl
                  refine c_seq (fun K15 hK15 => ?_)
                  exact (by
                    refine c_region ?_
                    refine l_step (y_moveV (et (gS rfl g0) rfl)) ?_
                    refine l_step (y_moveV (et (gS rfl (gS rfl (gS rfl g0))) rfl)) ?_
                    refine l_step (y_nil (et g0 rfl)) ?_
                    refine l_step (y_fld fld_146_4 (et g0 rfl)) ?_
                    refine l_step (y_load1 one_95 (et g0 rfl) (at1 (kF.cell (rF 4 _ rfl)))) ?_
                    refine l_eff (e_callV cal_121 (aC (et (gS rfl (gS rfl (gS rfl (gS rfl g0)))) rfl) (aC (et g0 rfl) aN)) (nat_cmp hF n5 (hGa.mono hL0) (bd_sm q5 (by decide)) (bd_sm (bd_lt2 (b := 256 ^ 4) fo.gas (by decide)) (by decide)))) (fun v16 w16 h16 => ?_)
                    obtain ⟨rfl, u16⟩ := h16
                    replace G := G.tr (Go.ofUp hF u16)
                    replace hF := hF.up u16
                    replace kF := kF.up u16
                    replace U := U.tr u16
                    refine l_step ((y_gtr (et g0 rfl) rfl).to (congrArg Value.bool (cmp_gt0 _ _))) ?_
                    refine l_step (y_assignV (et g0 rfl)) ?_
                    refine l_nil ?_
                    refine hK15 _ _ ?_
                    refine fg3 0 6 27 (gS rfl (gS rfl (gS rfl (gS rfl (gS rfl (gS rfl (gS rfl (gS rfl (gS rfl (gS rfl g0)))))))))) (gS rfl (gS rfl (gS rfl (gS rfl (gS rfl (gS rfl (gS rfl (gS rfl (gS rfl g0))))))))) g0 (fun g => ?_)
                    refine c_cond (et g0 rfl) (fun cB3 => ?_) (fun cB3 => ?_)
                    · skip
                      simp only [decide_eq_true_eq, decide_eq_false_iff_not, Int.not_lt, Int.not_le, Bool.not_eq_true', Bool.not_eq_false', Bool.not_eq_eq_eq_not, Bool.not_true, Bool.not_false] at cB3
                      refine c_seq (fun K18 hK18 => ?_)
                      exact (by
                        refine c_region ?_
                        refine l_step y_assignC ?_
                        refine l_step y_assignC ?_
                        refine l_nil ?_
                        refine hK18 _ _ ?_
                        refine fg2 4 5 (gS rfl g0) g0 (fun g => ?_)
                        refine c_ret ?_
                        refine hQ7 _ _ _ (in_ret ?_)
                        repeat with_reducible refine then_ret ?_
                        refine ret2 rfl (res_tmp (et (gS rfl g0) rfl)) (res_tmp (et g0 rfl)) ?_
                        rw [depN, if_neg (by omega), if_neg (by omega), if_pos (by omega)]
                        exact ⟨_, _, rfl, G, (NV.nil _)⟩)
                    · skip
                      simp only [decide_eq_true_eq, decide_eq_false_iff_not, Int.not_lt, Int.not_le, Bool.not_eq_true', Bool.not_eq_false', Bool.not_eq_eq_eq_not, Bool.not_true, Bool.not_false] at cB3
                      refine c_skip ?_
                      refine hQ7 _ _ _ (in_normal ?_)
                      refine hK6 _ _ ?_
                      refine fg2 0 6 (gS rfl (gS rfl g0)) (gS rfl g0) (fun g => ?_)
                      refine c_seq (fun K19 hK19 => ?_)
                      exact (by
                        refine c_region ?_
                        refine l_step (y_moveV (et (gS rfl g0) rfl)) ?_
                        refine l_step (y_nil (et g0 rfl)) ?_
                        refine l_step (y_fld fld_146_4 (et g0 rfl)) ?_
                        refine l_step (y_load1 one_95 (et g0 rfl) (at1 (kF.cell (rF 4 _ rfl)))) ?_
                        refine l_step (y_moveV (et (gS rfl (gS rfl (gS rfl (gS rfl g0)))) rfl)) ?_
                        refine l_eff (e_callV cal_45 (aC (et (gS rfl g0) rfl) (aC (et g0 rfl) aN)) (yp_less hF (hGa.mono hL0) n5 (bd_sm (bd_lt2 (b := 256 ^ 4) fo.gas (by decide)) (by decide)) (bd_sm q5 (by decide)))) (fun v20 w20 h20 => ?_)
                        obtain ⟨H20, g20, n20⟩ := h20
                        have hlew20 := g20.le
                        replace hO := hO.mono hlew20
                        replace n3 := n3.mono hlew20
                        replace n4 := n4.mono hlew20
                        replace n5 := n5.mono hlew20
                        replace hL0 := hL0.trans hlew20
                        replace kF := kF.up g20.up
                        replace U := U.tr g20.up
                        replace G := G.tr g20
                        replace hF := g20.fz
                        have q20 := bd_sub' n20 (bd_lt2 (b := 256 ^ 4) fo.gas (by decide))
                        refine l_step (y_assignV (et g0 rfl)) ?_
                        refine l_step y_assignC ?_
                        refine l_nil ?_
                        refine hK19 _ _ ?_
                        refine fg2 4 5 (gS rfl g0) g0 (fun g => ?_)
                        refine c_ret ?_
                        repeat with_reducible refine then_ret ?_
                        refine ret2 rfl (res_tmp (et (gS rfl g0) rfl)) (res_tmp (et g0 rfl)) ?_
                        rw [depN, if_neg (by omega), if_neg (by omega), if_neg (by omega)]
                        exact ⟨_, _, rfl, G, n20⟩))
              · skip
                have hl0 : ¬ 0 < l.length := by have := of_decide_eq_false q12; omega
                refine l_gskip (j := 3) (t := 21) (by exact rfl) (by exact rfl) (et g0 rfl) (by decide) (by decide) ?_
                refine l_gskip (j := 3) (t := 21) (by exact rfl) (by exact rfl) (et (gS rfl g0) rfl) (by decide) (by decide) ?_
                refine l_gskip (j := 3) (t := 21) (by exact rfl) (by exact rfl) (et (gS rfl (gS rfl g0)) rfl) (by decide) (by decide) ?_
                refine l_gskip (j := 3) (t := 21) (by exact rfl) (by exact rfl) (et (gS rfl (gS rfl (gS rfl g0))) rfl) (by decide) (by decide) ?_
                refine l_step (y_pickF (et (gS rfl (gS rfl (gS rfl (gS rfl g0)))) rfl) rfl) ?_
                refine l_step (y_assignV (et g0 rfl)) ?_
                refine l_nil ?_
                refine hK11 _ _ ?_
                refine fg3 0 6 17 (gS rfl (gS rfl (gS rfl (gS rfl (gS rfl (gS rfl (gS rfl (gS rfl (gS rfl (gS rfl (gS rfl (gS rfl (gS rfl g0))))))))))))) (gS rfl (gS rfl (gS rfl (gS rfl (gS rfl (gS rfl (gS rfl (gS rfl (gS rfl (gS rfl (gS rfl (gS rfl g0)))))))))))) g0 (fun g => ?_)
                refine c_false (et g0 rfl) rfl ?_
                refine c_seq (fun K22 hK22 => ?_)
                exact (by
                  refine c_region ?_
                  refine l_step (y_moveV (et (gS rfl g0) rfl)) ?_
                  refine l_step (y_moveV (et (gS rfl (gS rfl (gS rfl g0))) rfl)) ?_
                  refine l_step (y_nil (et g0 rfl)) ?_
                  refine l_step (y_fld fld_146_4 (et g0 rfl)) ?_
                  refine l_step (y_load1 one_95 (et g0 rfl) (at1 (kF.cell (rF 4 _ rfl)))) ?_
                  refine l_eff (e_callV cal_121 (aC (et (gS rfl (gS rfl (gS rfl (gS rfl g0)))) rfl) (aC (et g0 rfl) aN)) (nat_cmp hF n5 (hGa.mono hL0) (bd_sm q5 (by decide)) (bd_sm (bd_lt2 (b := 256 ^ 4) fo.gas (by decide)) (by decide)))) (fun v23 w23 h23 => ?_)
                  obtain ⟨rfl, u23⟩ := h23
                  replace G := G.tr (Go.ofUp hF u23)
                  replace hF := hF.up u23
                  replace kF := kF.up u23
                  replace U := U.tr u23
                  refine l_step ((y_gtr (et g0 rfl) rfl).to (congrArg Value.bool (cmp_gt0 _ _))) ?_
                  refine l_step (y_assignV (et g0 rfl)) ?_
                  refine l_nil ?_
                  refine hK22 _ _ ?_
                  refine fg3 0 6 27 (gS rfl (gS rfl (gS rfl (gS rfl (gS rfl (gS rfl (gS rfl (gS rfl (gS rfl (gS rfl g0)))))))))) (gS rfl (gS rfl (gS rfl (gS rfl (gS rfl (gS rfl (gS rfl (gS rfl (gS rfl g0))))))))) g0 (fun g => ?_)
                  refine c_cond (et g0 rfl) (fun cB3 => ?_) (fun cB3 => ?_)
                  · skip
                    simp only [decide_eq_true_eq, decide_eq_false_iff_not, Int.not_lt, Int.not_le, Bool.not_eq_true', Bool.not_eq_false', Bool.not_eq_eq_eq_not, Bool.not_true, Bool.not_false] at cB3
                    refine c_seq (fun K25 hK25 => ?_)
                    exact (by
                      refine c_region ?_
                      refine l_step y_assignC ?_
                      refine l_step y_assignC ?_
                      refine l_nil ?_
                      refine hK25 _ _ ?_
                      refine fg2 4 5 (gS rfl g0) g0 (fun g => ?_)
                      refine c_ret ?_
                      refine hQ7 _ _ _ (in_ret ?_)
                      repeat with_reducible refine then_ret ?_
                      refine ret2 rfl (res_tmp (et (gS rfl g0) rfl)) (res_tmp (et g0 rfl)) ?_
                      rw [depN, if_neg (by omega), if_neg (by omega), if_pos (by omega)]
                      exact ⟨_, _, rfl, G, (NV.nil _)⟩)
                  · skip
                    simp only [decide_eq_true_eq, decide_eq_false_iff_not, Int.not_lt, Int.not_le, Bool.not_eq_true', Bool.not_eq_false', Bool.not_eq_eq_eq_not, Bool.not_true, Bool.not_false] at cB3
                    refine c_skip ?_
                    refine hQ7 _ _ _ (in_normal ?_)
                    refine hK6 _ _ ?_
                    refine fg2 0 6 (gS rfl (gS rfl g0)) (gS rfl g0) (fun g => ?_)
                    refine c_seq (fun K26 hK26 => ?_)
                    exact (by
                      refine c_region ?_
                      refine l_step (y_moveV (et (gS rfl g0) rfl)) ?_
                      refine l_step (y_nil (et g0 rfl)) ?_
                      refine l_step (y_fld fld_146_4 (et g0 rfl)) ?_
                      refine l_step (y_load1 one_95 (et g0 rfl) (at1 (kF.cell (rF 4 _ rfl)))) ?_
                      refine l_step (y_moveV (et (gS rfl (gS rfl (gS rfl (gS rfl g0)))) rfl)) ?_
                      refine l_eff (e_callV cal_45 (aC (et (gS rfl g0) rfl) (aC (et g0 rfl) aN)) (yp_less hF (hGa.mono hL0) n5 (bd_sm (bd_lt2 (b := 256 ^ 4) fo.gas (by decide)) (by decide)) (bd_sm q5 (by decide)))) (fun v27 w27 h27 => ?_)
                      obtain ⟨H27, g27, n27⟩ := h27
                      have hlew27 := g27.le
                      replace hO := hO.mono hlew27
                      replace n3 := n3.mono hlew27
                      replace n4 := n4.mono hlew27
                      replace n5 := n5.mono hlew27
                      replace hL0 := hL0.trans hlew27
                      replace kF := kF.up g27.up
                      replace U := U.tr g27.up
                      replace G := G.tr g27
                      replace hF := g27.fz
                      have q27 := bd_sub' n27 (bd_lt2 (b := 256 ^ 4) fo.gas (by decide))
                      refine l_step (y_assignV (et g0 rfl)) ?_
                      refine l_step y_assignC ?_
                      refine l_nil ?_
                      refine hK26 _ _ ?_
                      refine fg2 4 5 (gS rfl g0) g0 (fun g => ?_)
                      refine c_ret ?_
                      repeat with_reducible refine then_ret ?_
                      refine ret2 rfl (res_tmp (et (gS rfl g0) rfl)) (res_tmp (et g0 rfl)) ?_
                      rw [depN, if_neg (by omega), if_neg (by omega), if_neg (by omega)]
                      exact ⟨_, _, rfl, G, n27⟩)))))))
def refA (s : YSt) (f : YF) (o : Nat) : Nat :=
  if knN o = false then 5
  else if f.stack.length < tkN o then 3
  else if 64 < f.stack.length - tkN o + gvN o then 4
  else if f.static = true ∧ wrtN f o = true then 7
  else if (o = 240 ∨ o = 245) ∧ 512 < argN f.stack 2 then 9
  else if o = 62 ∧ s.ret.length < argN f.stack 1 + argN f.stack 2 then 8
  else 0
def refB (s : YSt) (f : YF) (o : Nat) : Nat :=
  if f.gas < costN s f o then 2
  else if o = 85 ∧ f.gas ≤ 2300 then 2
  else if o = 86 ∧ destN f.code (argN f.stack 0) = false then 6
  else if (o = 87 ∧ argN f.stack 1 ≠ 0) ∧ destN f.code (argN f.stack 0) = false then 6
  else 0
def refN (s : YSt) (f : YF) (o : Nat) : Nat × Nat := if refA s f o = 0 then (refB s f o, costN s f o) else (refA s f o, 0)
theorem tk_le {o : Nat} (h : o < 256) : tkN o ≤ 17 := by
  have : ∀ x : Fin 256, tkN x.1 ≤ 17 := by decide
  exact this ⟨o, h⟩
theorem gv_le {o : Nat} (h : o < 256) : gvN o ≤ 17 := by
  have : ∀ x : Fin 256, gvN x.1 ≤ 17 := by decide
  exact this ⟨o, h⟩
theorem yp_refusal {w : World} {H : Store} (hF : Fz w H) (bs : Nat) (cs : Array Value) (s : YSt) (vf : Value) (kS : Blk w bs cs) (hs : SC H cs s vf) (bf o : Nat) (fs : Array Value) (f : YF) (vm : Value) (kF : Blk w bf fs) (hf : FC H fs o f vm) (bm : Nat) (kM : MB w bm vm f.mem) (lM : bm < w.heap.size) (q : Nat) (hq : q < 256) :
    Ret 58 [.pointer (some ⟨bs, 0, none⟩), .pointer (some ⟨bf, o, none⟩), .int .u8 q] w (fun v w' => ∃ c H', v = .tuple #[.int .u8 ((refN s f q).1 : Nat), c] ∧ Go No w H w' H' ∧ NV H' c (refN s f q).2) := by
  obtain ⟨am, rfl⟩ := kM.val
  obtain ⟨aa, ac, wa, wc, sa, sc, vr, la, lc, ta, tc, ma, mc, ga, gc, oa, oc, ra, rc, vlim, vtx, vleft, vpr, vtot, rS, rOr, rMd, hAc, hWA, hWS, hRf, hTm, hMd, hGn, hSr, hRt, hLm, hTx, hLf, hPr, hTt⟩ := hs.ex
  have so := hs.ok
  have so1 := so.accts
  have so2 := so.warmA
  have so3 := so.warmS
  have so4 := so.temps
  have so5 := so.start
  have so6 := so.logs
  have so7 := so.made
  have so8 := so.gone
  have so9 := so.ret
  have eC := hs.env
  obtain ⟨vpc, vgas, vval, voo, vol, ka, kc, ca, cc, ia, ic, svc, rF, rSe, rCa, rSv, hSv, hPc, hGa, hVa, hOo, hOl, hSt, hCo, hIn⟩ := hf.ex
  have fo := hf.ok
  have fo1 := fo.stack
  have fo2 := fo.code
  have fo3 := fo.input
  have fo4 := fo.mem
  have lS := kS.lt
  have lF := kF.lt
  have lM0 := lM
  have htk := tk_le hq
  have hgv := gv_le hq
  refine enter (n := 143) Hvaa.func58 rfl rfl (Nat.le_of_ble_eq_true rfl) ?_
  have U := Up.refl w
  have G : Go (No) w H w H := Go.refl hF
  have hL0 : Le H H := Le.refl H
  refine c_seq (fun K1 hK1 => ?_)
  exact (by
    refine c_region ?_
    refine l_step y_assignC ?_
    refine l_step y_assignC ?_
    refine l_nil ?_
    refine hK1 _ _ ?_
    refine fg3 2 1 0 (gS rfl (gS rfl (gS rfl (gS rfl g0)))) (gS rfl (gS rfl (gS rfl g0))) (gS rfl (gS rfl g0)) (fun g => ?_)
    refine c_seq (fun K2 hK2 => ?_)
    exact (by
      refine c_region ?_
      refine l_step (y_moveV (et (gS rfl (gS rfl g0)) rfl)) ?_
      refine l_eff (e_callV cal_137 (aC (et g0 rfl) aN) (arity_spec _ _ hq)) (fun v3 w3 h3 => ?_)
      obtain ⟨rfl, u3⟩ := h3
      replace G := G.tr (Go.ofUp hF u3)
      replace hF := hF.up u3
      replace kS := kS.up u3
      replace kF := kF.up u3
      replace kM := kM.up u3
      replace U := U.tr u3
      refine l_step (y_moveV (et g0 rfl)) ?_
      refine l_step (y_ext (et g0 rfl) rfl) ?_
      refine l_step (y_ext (et (gS rfl g0) rfl) rfl) ?_
      refine l_step (y_ext (et (gS rfl (gS rfl g0)) rfl) rfl) ?_
      refine l_step (y_assignV (et (gS rfl (gS rfl g0)) rfl)) ?_
      refine l_step (y_assignV (et (gS rfl (gS rfl g0)) rfl)) ?_
      refine l_step (y_assignV (et (gS rfl (gS rfl g0)) rfl)) ?_
      refine l_nil ?_
      refine hK2 _ _ ?_
      refine fg6 2 1 0 8 9 10 (gS rfl (gS rfl (gS rfl (gS rfl (gS rfl (gS rfl (gS rfl (gS rfl (gS rfl (gS rfl (gS rfl g0))))))))))) (gS rfl (gS rfl (gS rfl (gS rfl (gS rfl (gS rfl (gS rfl (gS rfl (gS rfl (gS rfl g0)))))))))) (gS rfl (gS rfl (gS rfl (gS rfl (gS rfl (gS rfl (gS rfl (gS rfl (gS rfl g0))))))))) (gS rfl (gS rfl g0)) (gS rfl g0) g0 (fun g => ?_)
      refine c_seq (fun K4 hK4 => ?_)
      have hJ4 : ∀ (s_ : Nat → Value) (W4 : World), (∃ (g : Nat → Value) (Hk4 : Store), s_ = (upd (upd (upd g 0 (.pointer (some ⟨bs, 0, none⟩))) 1 (.pointer (some ⟨bf, o, none⟩))) 2 (.int .u8 (q : Nat))) ∧ (refA s f q = 0) ∧ Go (fun k => False) w3 H W4 Hk4) → K4 (mk 143 s_) W4 := by
        intro s_ W4 hI
        obtain ⟨g, Hk4, rfl, jA, V4⟩ := hI
        have hle4 := V4.le
        replace hL0 := hL0.trans hle4
        replace G := G.trans V4 (by intro b hb; first | exact hb.elim | omega | (simp at hb ⊢; omega))
        replace hF := V4.fz
        replace kS := kS.ch V4.ch (by first | exact fun h => h | exact fun _ h => h.elim | exact fun _ _ h => h)
        replace kF := kF.ch V4.ch (by first | exact fun h => h | exact fun _ h => h.elim | exact fun _ _ h => h)
        replace kM := kM.ch V4.ch (by first | exact fun h => h | exact fun _ h => h.elim | exact fun _ _ h => h)
        replace U := U.cc V4.ch (by intro b hb; first | exact hb.elim | omega | (simp at hb ⊢; omega))
        refine hK4 _ _ ?_
        refine c_seq (fun K5 hK5 => ?_)
        exact (by
          refine c_region ?_
          refine l_step (y_moveV (et (gS rfl (gS rfl g0)) rfl)) ?_
          refine l_step (y_moveV (et (gS rfl (gS rfl g0)) rfl)) ?_
          refine l_step (y_moveV (et (gS rfl (gS rfl g0)) rfl)) ?_
          refine l_eff (e_callV cal_139 (aC (et (gS rfl (gS rfl g0)) rfl) (aC (et (gS rfl g0) rfl) (aC (et g0 rfl) aN))) (yp_cost hF _ _ _ _ kS (hs.mono hL0) _ _ _ _ _ kF (hf.mono hL0) _ kM (Nat.lt_of_lt_of_le lM U.size) _ hq)) (fun v6 w6 h6 => ?_)
          obtain ⟨H6, g6, n6, q6⟩ := h6
          have hlew6 := g6.le
          replace hL0 := hL0.trans hlew6
          replace kS := kS.up g6.up
          replace kF := kF.up g6.up
          replace kM := kM.up g6.up
          replace U := U.tr g6.up
          replace G := G.tr g6
          replace hF := g6.fz
          refine l_step (y_assignV (et g0 rfl)) ?_
          refine l_nil ?_
          refine hK5 _ _ ?_
          refine fg3 1 2 7 (gS rfl (gS rfl (gS rfl (gS rfl (gS rfl (gS rfl g0)))))) (gS rfl (gS rfl (gS rfl (gS rfl (gS rfl g0))))) g0 (fun g => ?_)
          refine c_seq (fun K7 hK7 => ?_)
          refine c_block (fun Q8 hQ8 => ?_)
          refine c_seq (fun K9 hK9 => ?_)
          exact (by
            refine c_region ?_
            refine l_step (y_moveV (et g0 rfl)) ?_
            refine l_step (y_moveV (et (gS rfl (gS rfl (gS rfl g0))) rfl)) ?_
            refine l_step (y_nil (et g0 rfl)) ?_
            refine l_step (y_fld fld_146_4 (et g0 rfl)) ?_
            refine l_step (y_load1 one_95 (et g0 rfl) (at1 (kF.cell (rF 4 _ rfl)))) ?_
            refine l_eff (e_callV cal_121 (aC (et (gS rfl (gS rfl (gS rfl (gS rfl g0)))) rfl) (aC (et g0 rfl) aN)) (nat_cmp hF n6 (hGa.mono hL0) (bd_sm q6 (by decide)) (bd_sm (bd_lt2 (b := 256 ^ 4) fo.gas (by decide)) (by decide)))) (fun v10 w10 h10 => ?_)
            obtain ⟨rfl, u10⟩ := h10
            replace G := G.tr (Go.ofUp hF u10)
            replace hF := hF.up u10
            replace kS := kS.up u10
            replace kF := kF.up u10
            replace kM := kM.up u10
            replace U := U.tr u10
            refine l_step ((y_gtr (et g0 rfl) rfl).to (congrArg Value.bool (cmp_gt0 _ _))) ?_
            refine l_step (y_assignV (et g0 rfl)) ?_
            refine l_nil ?_
            refine hK9 _ _ ?_
            refine fg4 1 2 7 86 (gS rfl (gS rfl (gS rfl (gS rfl (gS rfl (gS rfl (gS rfl (gS rfl (gS rfl (gS rfl g0)))))))))) (gS rfl (gS rfl (gS rfl (gS rfl (gS rfl (gS rfl (gS rfl (gS rfl (gS rfl g0))))))))) (gS rfl (gS rfl (gS rfl (gS rfl (gS rfl (gS rfl (gS rfl (gS rfl g0)))))))) g0 (fun g => ?_)
            refine c_condV (i := 86) g0 rfl (fun cB7 => ?_) (fun cB7 => ?_)
            · skip
              
              have e7 : f.gas < costN s f q := of_decide_eq_true cB7
              refine c_seq (fun K12 hK12 => ?_)
              exact (by
                refine c_region ?_
                refine l_step (y_moveV (et (gS rfl (gS rfl g0)) rfl)) ?_
                refine l_step y_assignC ?_
                refine l_step (y_assignV (et (gS rfl g0) rfl)) ?_
                refine l_nil ?_
                refine hK12 _ _ ?_
                refine fg2 7 6 g0 (gS rfl g0) (fun g => ?_)
                refine c_ret ?_
                refine hQ8 _ _ _ (in_ret ?_)
                repeat with_reducible refine then_ret ?_
                refine ret2 rfl (res_tmp (et g0 rfl)) (res_tmp (et (gS rfl g0) rfl)) ?_
                have jB : refB s f q = 2 := by rw [refB, if_pos e7]
                rw [refN, if_pos jA, jB]
                exact ⟨_, _, rfl, G, n6⟩)
            · skip
              
              have e7 : ¬ f.gas < costN s f q := of_decide_eq_false cB7
              refine c_seq (fun K13 hK13 => ?_)
              exact (by
                refine c_draw Up 12 [(0, true), (1, true), (2, true), (3, true), (4, true), (5, true), (6, true), (7, false), (8, false), (9, true), (10, true), (11, true)] (by kernel_rfl) (fun w14 hu => ⟨Up.refl _, ?_⟩)
                replace G := G.tr (Go.ofUp hF hu)
                replace hF := hF.up hu
                replace kS := kS.up hu
                replace kF := kF.up hu
                replace kM := kM.up hu
                replace U := U.tr hu
                have SU := Up.refl w14
                refine p_step (by exact rfl) (y_moveV (et (gS rfl (gS rfl (gS rfl g0))) rfl)) ?_
                refine p_step (by exact rfl) (y_eql (et g0 rfl) rfl) ?_
                refine p_step (by exact rfl) (y_moveV (et g0 rfl)) ?_
                refine gsplitP (i := 98) g0 (fun q15 => ?_) (fun q15 => ?_)
                · skip
                  have hg8 : q = 85 := by have := of_decide_eq_true q15; omega
                  refine p_gstep (j := 2) (t := 98) (by exact rfl) (by exact rfl) (by exact rfl) (et g0 rfl) rfl (y_moveV (et (gS rfl (gS rfl (gS rfl (gS rfl (gS rfl (gS rfl (gS rfl (gS rfl g0)))))))) rfl)) ?_
                  refine p_gstep (j := 2) (t := 98) (by exact rfl) (by exact rfl) (by exact rfl) (et (gS rfl g0) rfl) rfl (y_nil (et g0 rfl)) ?_
                  refine p_gstep (j := 2) (t := 98) (by exact rfl) (by exact rfl) (by exact rfl) (et (gS rfl (gS rfl g0)) rfl) rfl (y_fld fld_146_4 (et g0 rfl)) ?_
                  refine p_gstep (j := 2) (t := 98) (by exact rfl) (by exact rfl) (by exact rfl) (et (gS rfl (gS rfl (gS rfl g0))) rfl) rfl (y_load1 one_95 (et g0 rfl) (atS (kF.cell (rF 4 _ rfl)))) ?_
                  refine p_geff (j := 2) (t := 98) (by exact rfl) (by exact rfl) (by exact rfl) (et (gS rfl (gS rfl (gS rfl (gS rfl g0)))) rfl) rfl (e_callV cal_32 (aC (v := .int .u64 ((2300 : Nat) : Int)) rfl aN) (yp_num (x := 2300) hF (by decide))) (fun v16 w16 h16 => ?_)
                  obtain ⟨H16, g16, n16⟩ := h16
                  have hlew16 := g16.le
                  replace n6 := n6.mono hlew16
                  replace hL0 := hL0.trans hlew16
                  replace kS := kS.up g16.up
                  replace kF := kF.up g16.up
                  replace kM := kM.up g16.up
                  replace U := U.tr g16.up
                  replace G := G.tr g16
                  replace hF := g16.fz
                  have q16 : 2300 < 256 ^ 2 := by decide
                  refine ⟨.inr (SU.tr g16.up), ?_⟩
                  replace SU := SU.tr g16.up
                  refine p_geff (j := 2) (t := 98) (by exact rfl) (by exact rfl) (by exact rfl) (et (gS rfl (gS rfl (gS rfl (gS rfl (gS rfl g0))))) rfl) rfl (e_callV cal_121 (aC (et (gS rfl g0) rfl) (aC (et g0 rfl) aN)) (nat_cmp hF (hGa.mono hL0) n16 (bd_sm (bd_lt2 (b := 256 ^ 4) fo.gas (by decide)) (by decide)) (bd_sm q16 (by decide)))) (fun v17 w17 h17 => ?_)
                  obtain ⟨rfl, u17⟩ := h17
                  replace G := G.tr (Go.ofUp hF u17)
                  replace hF := hF.up u17
                  replace kS := kS.up u17
                  replace kF := kF.up u17
                  replace kM := kM.up u17
                  replace U := U.tr u17
                  refine ⟨.inr (SU.tr u17), ?_⟩
                  replace SU := SU.tr u17
                  refine p_gstep (j := 2) (t := 98) (by exact rfl) (by exact rfl) (by exact rfl) (et (gS rfl (gS rfl (gS rfl (gS rfl (gS rfl (gS rfl g0)))))) rfl) rfl ((y_leq (et g0 rfl) rfl).to (congrArg Value.bool (cmp_le0 _ _))) ?_
                  refine p_step (by exact rfl) (y_pickT (et (gS rfl (gS rfl (gS rfl (gS rfl (gS rfl (gS rfl (gS rfl g0))))))) rfl) (et g0 rfl)) ?_
                  exact (by
                    refine p_step (by exact rfl) (y_assignV (et g0 rfl)) ?_
                    refine p_nil ?_
                    refine hK13 _ _ ?_
                    refine fg4 1 2 7 95 (gS rfl (gS rfl (gS rfl (gS rfl (gS rfl (gS rfl (gS rfl (gS rfl (gS rfl (gS rfl (gS rfl (gS rfl (gS rfl (gS rfl (gS rfl (gS rfl (gS rfl g0))))))))))))))))) (gS rfl (gS rfl (gS rfl (gS rfl (gS rfl (gS rfl (gS rfl (gS rfl (gS rfl (gS rfl (gS rfl (gS rfl (gS rfl (gS rfl (gS rfl (gS rfl g0)))))))))))))))) (gS rfl (gS rfl (gS rfl (gS rfl (gS rfl (gS rfl (gS rfl (gS rfl (gS rfl (gS rfl (gS rfl (gS rfl (gS rfl (gS rfl (gS rfl g0))))))))))))))) g0 (fun g => ?_)
                    refine c_condV (i := 95) g0 rfl (fun cB8 => ?_) (fun cB8 => ?_)
                    · skip
                      
                      have e8 : q = 85 ∧ f.gas ≤ 2300 := ⟨hg8, of_decide_eq_true cB8⟩
                      refine c_seq (fun K19 hK19 => ?_)
                      exact (by
                        refine c_region ?_
                        refine l_step (y_moveV (et (gS rfl (gS rfl g0)) rfl)) ?_
                        refine l_step y_assignC ?_
                        refine l_step (y_assignV (et (gS rfl g0) rfl)) ?_
                        refine l_nil ?_
                        refine hK19 _ _ ?_
                        refine fg2 7 6 g0 (gS rfl g0) (fun g => ?_)
                        refine c_ret ?_
                        refine hQ8 _ _ _ (in_ret ?_)
                        repeat with_reducible refine then_ret ?_
                        refine ret2 rfl (res_tmp (et g0 rfl)) (res_tmp (et (gS rfl g0) rfl)) ?_
                        have jB : refB s f q = 2 := by rw [refB, if_neg e7, if_pos e8]
                        rw [refN, if_pos jA, jB]
                        exact ⟨_, _, rfl, G, n6⟩)
                    · skip
                      
                      have e8 : ¬ (q = 85 ∧ f.gas ≤ 2300) := fun h => of_decide_eq_false cB8 h.2
                      refine c_seq (fun K20 hK20 => ?_)
                      exact (by
                        refine c_draw Up 13 [(0, true), (1, true), (2, true), (3, true), (4, true), (5, true), (6, true), (7, true), (8, false), (9, false), (10, true), (11, true), (12, true)] (by kernel_rfl) (fun w21 hu => ⟨Up.refl _, ?_⟩)
                        replace G := G.tr (Go.ofUp hF hu)
                        replace hF := hF.up hu
                        replace kS := kS.up hu
                        replace kF := kF.up hu
                        replace kM := kM.up hu
                        replace U := U.tr hu
                        have SU := Up.refl w21
                        refine p_step (by exact rfl) (y_moveV (et (gS rfl (gS rfl (gS rfl g0))) rfl)) ?_
                        refine p_step (by exact rfl) (y_eql (et g0 rfl) rfl) ?_
                        refine p_step (by exact rfl) (y_moveV (et g0 rfl)) ?_
                        refine gsplitP (i := 111) g0 (fun q22 => ?_) (fun q22 => ?_)
                        · skip
                          have hg9 : q = 86 := by have := of_decide_eq_true q22; omega
                          refine p_gstep (j := 2) (t := 111) (by exact rfl) (by exact rfl) (by exact rfl) (et g0 rfl) rfl (y_moveV (et (gS rfl (gS rfl (gS rfl (gS rfl (gS rfl (gS rfl (gS rfl (gS rfl g0)))))))) rfl)) ?_
                          refine p_gstep (j := 2) (t := 111) (by exact rfl) (by exact rfl) (by exact rfl) (et (gS rfl g0) rfl) rfl (y_nil (et g0 rfl)) ?_
                          refine p_gstep (j := 2) (t := 111) (by exact rfl) (by exact rfl) (by exact rfl) (et (gS rfl (gS rfl g0)) rfl) rfl (y_fld fld_146_10 (et g0 rfl)) ?_
                          refine p_gstep (j := 2) (t := 111) (by exact rfl) (by exact rfl) (by exact rfl) (et (gS rfl (gS rfl (gS rfl g0))) rfl) rfl (y_load1 one_38 (et g0 rfl) (atS (kF.cell (rF 10 _ rfl)))) ?_
                          refine p_gstep (j := 2) (t := 111) (by exact rfl) (by exact rfl) (by exact rfl) (et (gS rfl (gS rfl (gS rfl (gS rfl g0)))) rfl) rfl (y_moveV (et (gS rfl (gS rfl (gS rfl (gS rfl (gS rfl (gS rfl (gS rfl (gS rfl (gS rfl (gS rfl (gS rfl (gS rfl g0)))))))))))) rfl)) ?_
                          refine p_geff (j := 2) (t := 111) (by exact rfl) (by exact rfl) (by exact rfl) (et (gS rfl (gS rfl (gS rfl (gS rfl (gS rfl g0))))) rfl) rfl (e_callV cal_63 (aC (et g0 rfl) (aC (v := .int .i64 ((0 : Nat) : Int)) rfl aN)) (yp_arg _ _ 0 _ _ _ _ _ _ hF kF (rF 8 _ rfl) (hSt.mono hL0) (by omega) (by first | decide | omega))) (fun v23 w23 h23 => ?_)
                          obtain ⟨u23, n23, q23⟩ := h23
                          replace G := G.tr (Go.ofUp hF u23)
                          replace hF := hF.up u23
                          replace kS := kS.up u23
                          replace kF := kF.up u23
                          replace kM := kM.up u23
                          replace U := U.tr u23
                          refine ⟨.inr (SU.tr u23), ?_⟩
                          replace SU := SU.tr u23
                          refine p_geff (j := 2) (t := 111) (by exact rfl) (by exact rfl) (by exact rfl) (et (gS rfl (gS rfl (gS rfl (gS rfl (gS rfl (gS rfl g0)))))) rfl) rfl (e_callV cal_140 (aC (et (gS rfl (gS rfl g0)) rfl) (aC (et g0 rfl) aN)) (yp_isDest hF (hCo.mono hL0) n23 (bd_up (bd_W q23) (by decide)) (by omega))) (fun v24 w24 h24 => ?_)
                          obtain ⟨rfl, u24⟩ := h24
                          replace G := G.tr (Go.ofUp hF u24)
                          replace hF := hF.up u24
                          replace kS := kS.up u24
                          replace kF := kF.up u24
                          replace kM := kM.up u24
                          replace U := U.tr u24
                          refine ⟨.inr (SU.tr u24), ?_⟩
                          replace SU := SU.tr u24
                          refine p_gstep (j := 2) (t := 111) (by exact rfl) (by exact rfl) (by exact rfl) (et (gS rfl (gS rfl (gS rfl (gS rfl (gS rfl (gS rfl (gS rfl g0))))))) rfl) rfl (y_not (et g0 rfl)) ?_
                          refine p_step (by exact rfl) (y_pickT (et (gS rfl (gS rfl (gS rfl (gS rfl (gS rfl (gS rfl (gS rfl (gS rfl g0)))))))) rfl) (et g0 rfl)) ?_
                          refine p_step (by exact rfl) (y_assignV (et g0 rfl)) ?_
                          refine p_nil ?_
                          refine hK20 _ _ ?_
                          refine fg4 1 2 7 108 (gS rfl (gS rfl (gS rfl (gS rfl (gS rfl (gS rfl (gS rfl (gS rfl (gS rfl (gS rfl (gS rfl (gS rfl (gS rfl (gS rfl (gS rfl (gS rfl (gS rfl (gS rfl g0)))))))))))))))))) (gS rfl (gS rfl (gS rfl (gS rfl (gS rfl (gS rfl (gS rfl (gS rfl (gS rfl (gS rfl (gS rfl (gS rfl (gS rfl (gS rfl (gS rfl (gS rfl (gS rfl g0))))))))))))))))) (gS rfl (gS rfl (gS rfl (gS rfl (gS rfl (gS rfl (gS rfl (gS rfl (gS rfl (gS rfl (gS rfl (gS rfl (gS rfl (gS rfl (gS rfl (gS rfl g0)))))))))))))))) g0 (fun g => ?_)
                          refine c_condV (i := 108) g0 rfl (fun cB9 => ?_) (fun cB9 => ?_)
                          · skip
                            
                            have e9 : q = 86 ∧ destN f.code (argN f.stack 0) = false := ⟨hg9, by simpa using cB9⟩
                            refine c_seq (fun K26 hK26 => ?_)
                            exact (by
                              refine c_region ?_
                              refine l_step (y_moveV (et (gS rfl (gS rfl g0)) rfl)) ?_
                              refine l_step y_assignC ?_
                              refine l_step (y_assignV (et (gS rfl g0) rfl)) ?_
                              refine l_nil ?_
                              refine hK26 _ _ ?_
                              refine fg2 7 6 g0 (gS rfl g0) (fun g => ?_)
                              refine c_ret ?_
                              refine hQ8 _ _ _ (in_ret ?_)
                              repeat with_reducible refine then_ret ?_
                              refine ret2 rfl (res_tmp (et g0 rfl)) (res_tmp (et (gS rfl g0) rfl)) ?_
                              have jB : refB s f q = 6 := by rw [refB, if_neg e7, if_neg e8, if_pos e9]
                              rw [refN, if_pos jA, jB]
                              exact ⟨_, _, rfl, G, n6⟩)
                          · skip
                            
                            have e9 : ¬ (q = 86 ∧ destN f.code (argN f.stack 0) = false) := fun h => by rw [h.2] at cB9; cases cB9
                            refine c_seq (fun K27 hK27 => ?_)
                            exact (by
                              refine c_draw Up 19 [(0, true), (1, true), (2, true), (3, true), (4, false), (5, false), (6, true), (7, true), (8, true), (9, true), (10, true), (11, true), (12, true), (13, true), (14, false), (15, false), (16, true), (17, true), (18, true)] (by kernel_rfl) (fun w28 hu => ⟨Up.refl _, ?_⟩)
                              replace G := G.tr (Go.ofUp hF hu)
                              replace hF := hF.up hu
                              replace kS := kS.up hu
                              replace kF := kF.up hu
                              replace kM := kM.up hu
                              replace U := U.tr hu
                              have SU := Up.refl w28
                              have kS_s := kS
                              have kF_s := kF
                              have kM_s := kM
                              refine p_step (by exact rfl) (y_moveV (et (gS rfl (gS rfl (gS rfl g0))) rfl)) ?_
                              refine p_step (by exact rfl) (y_eql (et g0 rfl) rfl) ?_
                              refine p_step (by exact rfl) (y_moveV (et g0 rfl)) ?_
                              refine gsplitP (i := 125) g0 (fun q29 => ?_) (fun q29 => ?_)
                              · skip
                                have hg10 : q = 87 := by have := of_decide_eq_true q29; omega
                                refine p_gstep (j := 2) (t := 125) (by exact rfl) (by exact rfl) (by exact rfl) (et g0 rfl) rfl (y_moveV (et (gS rfl (gS rfl (gS rfl (gS rfl (gS rfl (gS rfl (gS rfl (gS rfl g0)))))))) rfl)) ?_
                                refine p_geff (j := 2) (t := 125) (by exact rfl) (by exact rfl) (by exact rfl) (et (gS rfl g0) rfl) rfl (e_callV cal_63 (aC (et g0 rfl) (aC (v := .int .i64 ((1 : Nat) : Int)) rfl aN)) (yp_arg _ _ 1 _ _ _ _ _ _ hF kF (rF 8 _ rfl) (hSt.mono hL0) (by omega) (by first | decide | omega))) (fun v30 w30 h30 => ?_)
                                obtain ⟨u30, n30, q30⟩ := h30
                                replace G := G.tr (Go.ofUp hF u30)
                                replace hF := hF.up u30
                                replace kS := kS.up u30
                                replace kF := kF.up u30
                                replace kM := kM.up u30
                                replace U := U.tr u30
                                refine ⟨.inr (SU.tr u30), ?_⟩
                                replace SU := SU.tr u30
                                refine p_geff (j := 2) (t := 125) (by exact rfl) (by exact rfl) (by exact rfl) (et (gS rfl (gS rfl g0)) rfl) rfl (e_callV cal_79 (aC (et g0 rfl) aN) (yp_isZero hF n30 (bd_sm (bd_W q30) (by decide)))) (fun v31 w31 h31 => ?_)
                                obtain ⟨rfl, u31⟩ := h31
                                replace G := G.tr (Go.ofUp hF u31)
                                replace hF := hF.up u31
                                replace kS := kS.up u31
                                replace kF := kF.up u31
                                replace kM := kM.up u31
                                replace U := U.tr u31
                                refine ⟨.inr (SU.tr u31), ?_⟩
                                replace SU := SU.tr u31
                                refine p_gstep (j := 2) (t := 125) (by exact rfl) (by exact rfl) (by exact rfl) (et (gS rfl (gS rfl (gS rfl g0))) rfl) rfl (y_not (et g0 rfl)) ?_
                                refine p_step (by exact rfl) (y_pickT (et (gS rfl (gS rfl (gS rfl (gS rfl g0)))) rfl) (et g0 rfl)) ?_
                                refine p_step (by exact rfl) (y_moveV (et g0 rfl)) ?_
                                refine gsplitP (i := 131) g0 (fun q32 => ?_) (fun q32 => ?_)
                                · skip
                                  have hg11 : argN f.stack 1 ≠ 0 := by simpa using q32
                                  refine p_gstep (j := 8) (t := 131) (by exact rfl) (by exact rfl) (by exact rfl) (et g0 rfl) rfl (y_moveV (et (gS rfl (gS rfl (gS rfl (gS rfl (gS rfl (gS rfl (gS rfl (gS rfl (gS rfl (gS rfl (gS rfl (gS rfl (gS rfl (gS rfl (gS rfl g0))))))))))))))) rfl)) ?_
                                  refine p_gstep (j := 8) (t := 131) (by exact rfl) (by exact rfl) (by exact rfl) (et (gS rfl g0) rfl) rfl (y_nil (et g0 rfl)) ?_
                                  refine p_gstep (j := 8) (t := 131) (by exact rfl) (by exact rfl) (by exact rfl) (et (gS rfl (gS rfl g0)) rfl) rfl (y_fld fld_146_10 (et g0 rfl)) ?_
                                  refine p_gstep (j := 8) (t := 131) (by exact rfl) (by exact rfl) (by exact rfl) (et (gS rfl (gS rfl (gS rfl g0))) rfl) rfl (y_load1 one_38 (et g0 rfl) (atS (kF_s.cell (rF 10 _ rfl)))) ?_
                                  refine p_gstep (j := 8) (t := 131) (by exact rfl) (by exact rfl) (by exact rfl) (et (gS rfl (gS rfl (gS rfl (gS rfl g0)))) rfl) rfl (y_moveV (et (gS rfl (gS rfl (gS rfl (gS rfl (gS rfl (gS rfl (gS rfl (gS rfl (gS rfl (gS rfl (gS rfl (gS rfl (gS rfl (gS rfl (gS rfl (gS rfl (gS rfl (gS rfl (gS rfl g0))))))))))))))))))) rfl)) ?_
                                  refine p_geff (j := 8) (t := 131) (by exact rfl) (by exact rfl) (by exact rfl) (et (gS rfl (gS rfl (gS rfl (gS rfl (gS rfl g0))))) rfl) rfl (e_callV cal_63 (aC (et g0 rfl) (aC (v := .int .i64 ((0 : Nat) : Int)) rfl aN)) (yp_arg _ _ 0 _ _ _ _ _ _ hF kF (rF 8 _ rfl) (hSt.mono hL0) (by omega) (by first | decide | omega))) (fun v33 w33 h33 => ?_)
                                  obtain ⟨u33, n33, q33⟩ := h33
                                  replace G := G.tr (Go.ofUp hF u33)
                                  replace hF := hF.up u33
                                  replace kS := kS.up u33
                                  replace kF := kF.up u33
                                  replace kM := kM.up u33
                                  replace U := U.tr u33
                                  refine ⟨.inr (SU.tr u33), ?_⟩
                                  replace SU := SU.tr u33
                                  refine p_geff (j := 8) (t := 131) (by exact rfl) (by exact rfl) (by exact rfl) (et (gS rfl (gS rfl (gS rfl (gS rfl (gS rfl (gS rfl g0)))))) rfl) rfl (e_callV cal_140 (aC (et (gS rfl (gS rfl g0)) rfl) (aC (et g0 rfl) aN)) (yp_isDest hF (hCo.mono hL0) n33 (bd_up (bd_W q33) (by decide)) (by omega))) (fun v34 w34 h34 => ?_)
                                  obtain ⟨rfl, u34⟩ := h34
                                  replace G := G.tr (Go.ofUp hF u34)
                                  replace hF := hF.up u34
                                  replace kS := kS.up u34
                                  replace kF := kF.up u34
                                  replace kM := kM.up u34
                                  replace U := U.tr u34
                                  refine ⟨.inr (SU.tr u34), ?_⟩
                                  replace SU := SU.tr u34
                                  refine p_gstep (j := 8) (t := 131) (by exact rfl) (by exact rfl) (by exact rfl) (et (gS rfl (gS rfl (gS rfl (gS rfl (gS rfl (gS rfl (gS rfl g0))))))) rfl) rfl (y_not (et g0 rfl)) ?_
                                  refine p_step (by exact rfl) (y_pickT (et (gS rfl (gS rfl (gS rfl (gS rfl (gS rfl (gS rfl (gS rfl (gS rfl g0)))))))) rfl) (et g0 rfl)) ?_
                                  refine p_step (by exact rfl) (y_assignV (et g0 rfl)) ?_
                                  refine p_nil ?_
                                  refine hK27 _ _ ?_
                                  refine fg2 7 122 (gS rfl (gS rfl (gS rfl (gS rfl (gS rfl (gS rfl (gS rfl (gS rfl (gS rfl (gS rfl (gS rfl (gS rfl (gS rfl (gS rfl (gS rfl (gS rfl (gS rfl (gS rfl (gS rfl (gS rfl (gS rfl (gS rfl (gS rfl g0))))))))))))))))))))))) g0 (fun g => ?_)
                                  refine c_condV (i := 122) g0 rfl (fun cB10 => ?_) (fun cB10 => ?_)
                                  · skip
                                    
                                    have e10 : (q = 87 ∧ argN f.stack 1 ≠ 0) ∧ destN f.code (argN f.stack 0) = false := ⟨⟨hg10, hg11⟩, by simpa using cB10⟩
                                    refine c_seq (fun K36 hK36 => ?_)
                                    exact (by
                                      refine c_region ?_
                                      refine l_step (y_moveV (et (gS rfl (gS rfl g0)) rfl)) ?_
                                      refine l_step y_assignC ?_
                                      refine l_step (y_assignV (et (gS rfl g0) rfl)) ?_
                                      refine l_nil ?_
                                      refine hK36 _ _ ?_
                                      refine fg2 7 6 g0 (gS rfl g0) (fun g => ?_)
                                      refine c_ret ?_
                                      refine hQ8 _ _ _ (in_ret ?_)
                                      repeat with_reducible refine then_ret ?_
                                      refine ret2 rfl (res_tmp (et g0 rfl)) (res_tmp (et (gS rfl g0) rfl)) ?_
                                      have jB : refB s f q = 6 := by rw [refB, if_neg e7, if_neg e8, if_neg e9, if_pos e10]
                                      rw [refN, if_pos jA, jB]
                                      exact ⟨_, _, rfl, G, n6⟩)
                                  · skip
                                    
                                    have e10 : ¬ ((q = 87 ∧ argN f.stack 1 ≠ 0) ∧ destN f.code (argN f.stack 0) = false) := fun h => by rw [h.2] at cB10; cases cB10
                                    refine c_skip ?_
                                    refine hQ8 _ _ _ (in_normal ?_)
                                    refine hK7 _ _ ?_
                                    refine fg1 7 (gS rfl (gS rfl g0)) (fun g => ?_)
                                    refine c_seq (fun K37 hK37 => ?_)
                                    exact (by
                                      refine c_region ?_
                                      refine l_step (y_moveV (et g0 rfl)) ?_
                                      refine l_step y_assignC ?_
                                      refine l_step (y_assignV (et (gS rfl g0) rfl)) ?_
                                      refine l_nil ?_
                                      refine hK37 _ _ ?_
                                      refine fg2 7 6 g0 (gS rfl g0) (fun g => ?_)
                                      refine c_ret ?_
                                      repeat with_reducible refine then_ret ?_
                                      refine ret2 rfl (res_tmp (et g0 rfl)) (res_tmp (et (gS rfl g0) rfl)) ?_
                                      have jB : refB s f q = 0 := by rw [refB, if_neg e7, if_neg e8, if_neg e9, if_neg e10]
                                      rw [refN, if_pos jA, jB]
                                      exact ⟨_, _, rfl, G, n6⟩)
                                · skip
                                  have e10 : ¬ ((q = 87 ∧ argN f.stack 1 ≠ 0) ∧ destN f.code (argN f.stack 0) = false) := fun h => h.1.2 (by simpa using q32)
                                  refine p_gskip (j := 8) (t := 131) (by exact rfl) (by exact rfl) (by exact rfl) (et g0 rfl) rfl rfl ?_
                                  refine p_gskip (j := 8) (t := 131) (by exact rfl) (by exact rfl) (by exact rfl) (et (gS rfl g0) rfl) rfl rfl ?_
                                  refine p_gskip (j := 8) (t := 131) (by exact rfl) (by exact rfl) (by exact rfl) (et (gS rfl (gS rfl g0)) rfl) rfl rfl ?_
                                  refine p_gskip (j := 8) (t := 131) (by exact rfl) (by exact rfl) (by exact rfl) (et (gS rfl (gS rfl (gS rfl g0))) rfl) rfl rfl ?_
                                  refine p_gskip (j := 8) (t := 131) (by exact rfl) (by exact rfl) (by exact rfl) (et (gS rfl (gS rfl (gS rfl (gS rfl g0)))) rfl) rfl rfl ?_
                                  refine p_geskip (j := 8) (t := 131) (by exact rfl) (by exact rfl) (by exact rfl) (et (gS rfl (gS rfl (gS rfl (gS rfl (gS rfl g0))))) rfl) rfl rfl ⟨.inr SU, ?_⟩
                                  refine p_geskip (j := 8) (t := 131) (by exact rfl) (by exact rfl) (by exact rfl) (et (gS rfl (gS rfl (gS rfl (gS rfl (gS rfl (gS rfl g0)))))) rfl) rfl rfl ⟨.inr SU, ?_⟩
                                  refine p_gskip (j := 8) (t := 131) (by exact rfl) (by exact rfl) (by exact rfl) (et (gS rfl (gS rfl (gS rfl (gS rfl (gS rfl (gS rfl (gS rfl g0))))))) rfl) rfl rfl ?_
                                  refine p_step (by exact rfl) (y_pickF (et (gS rfl (gS rfl (gS rfl (gS rfl (gS rfl (gS rfl (gS rfl (gS rfl g0)))))))) rfl) rfl) ?_
                                  refine p_step (by exact rfl) (y_assignV (et g0 rfl)) ?_
                                  refine p_nil ?_
                                  refine hK27 _ _ ?_
                                  refine fg2 7 122 (gS rfl (gS rfl (gS rfl (gS rfl (gS rfl (gS rfl (gS rfl (gS rfl (gS rfl (gS rfl (gS rfl (gS rfl (gS rfl (gS rfl (gS rfl (gS rfl (gS rfl (gS rfl (gS rfl (gS rfl (gS rfl (gS rfl (gS rfl g0))))))))))))))))))))))) g0 (fun g => ?_)
                                  refine c_false (et g0 rfl) rfl ?_
                                  refine c_skip ?_
                                  refine hQ8 _ _ _ (in_normal ?_)
                                  refine hK7 _ _ ?_
                                  refine fg1 7 (gS rfl g0) (fun g => ?_)
                                  refine c_seq (fun K39 hK39 => ?_)
                                  exact (by
                                    refine c_region ?_
                                    refine l_step (y_moveV (et g0 rfl)) ?_
                                    refine l_step y_assignC ?_
                                    refine l_step (y_assignV (et (gS rfl g0) rfl)) ?_
                                    refine l_nil ?_
                                    refine hK39 _ _ ?_
                                    refine fg2 7 6 g0 (gS rfl g0) (fun g => ?_)
                                    refine c_ret ?_
                                    repeat with_reducible refine then_ret ?_
                                    refine ret2 rfl (res_tmp (et g0 rfl)) (res_tmp (et (gS rfl g0) rfl)) ?_
                                    have jB : refB s f q = 0 := by rw [refB, if_neg e7, if_neg e8, if_neg e9, if_neg e10]
                                    rw [refN, if_pos jA, jB]
                                    exact ⟨_, _, rfl, G, n6⟩)
                              · skip
                                have e10 : ¬ ((q = 87 ∧ argN f.stack 1 ≠ 0) ∧ destN f.code (argN f.stack 0) = false) := by have := of_decide_eq_false q29; omega
                                refine p_gskip (j := 2) (t := 125) (by exact rfl) (by exact rfl) (by exact rfl) (et g0 rfl) rfl rfl ?_
                                refine p_geskip (j := 2) (t := 125) (by exact rfl) (by exact rfl) (by exact rfl) (et (gS rfl g0) rfl) rfl rfl ⟨.inr SU, ?_⟩
                                refine p_geskip (j := 2) (t := 125) (by exact rfl) (by exact rfl) (by exact rfl) (et (gS rfl (gS rfl g0)) rfl) rfl rfl ⟨.inr SU, ?_⟩
                                refine p_gskip (j := 2) (t := 125) (by exact rfl) (by exact rfl) (by exact rfl) (et (gS rfl (gS rfl (gS rfl g0))) rfl) rfl rfl ?_
                                refine p_step (by exact rfl) (y_pickF (et (gS rfl (gS rfl (gS rfl (gS rfl g0)))) rfl) rfl) ?_
                                refine p_step (by exact rfl) (y_moveV (et g0 rfl)) ?_
                                refine p_gskip (j := 8) (t := 131) (by exact rfl) (by exact rfl) (by exact rfl) (et g0 rfl) rfl rfl ?_
                                refine p_gskip (j := 8) (t := 131) (by exact rfl) (by exact rfl) (by exact rfl) (et (gS rfl g0) rfl) rfl rfl ?_
                                refine p_gskip (j := 8) (t := 131) (by exact rfl) (by exact rfl) (by exact rfl) (et (gS rfl (gS rfl g0)) rfl) rfl rfl ?_
                                refine p_gskip (j := 8) (t := 131) (by exact rfl) (by exact rfl) (by exact rfl) (et (gS rfl (gS rfl (gS rfl g0))) rfl) rfl rfl ?_
                                refine p_gskip (j := 8) (t := 131) (by exact rfl) (by exact rfl) (by exact rfl) (et (gS rfl (gS rfl (gS rfl (gS rfl g0)))) rfl) rfl rfl ?_
                                refine p_geskip (j := 8) (t := 131) (by exact rfl) (by exact rfl) (by exact rfl) (et (gS rfl (gS rfl (gS rfl (gS rfl (gS rfl g0))))) rfl) rfl rfl ⟨.inr SU, ?_⟩
                                refine p_geskip (j := 8) (t := 131) (by exact rfl) (by exact rfl) (by exact rfl) (et (gS rfl (gS rfl (gS rfl (gS rfl (gS rfl (gS rfl g0)))))) rfl) rfl rfl ⟨.inr SU, ?_⟩
                                refine p_gskip (j := 8) (t := 131) (by exact rfl) (by exact rfl) (by exact rfl) (et (gS rfl (gS rfl (gS rfl (gS rfl (gS rfl (gS rfl (gS rfl g0))))))) rfl) rfl rfl ?_
                                refine p_step (by exact rfl) (y_pickF (et (gS rfl (gS rfl (gS rfl (gS rfl (gS rfl (gS rfl (gS rfl (gS rfl g0)))))))) rfl) rfl) ?_
                                refine p_step (by exact rfl) (y_assignV (et g0 rfl)) ?_
                                refine p_nil ?_
                                refine hK27 _ _ ?_
                                refine fg2 7 122 (gS rfl (gS rfl (gS rfl (gS rfl (gS rfl (gS rfl (gS rfl (gS rfl (gS rfl (gS rfl (gS rfl (gS rfl (gS rfl (gS rfl (gS rfl (gS rfl (gS rfl (gS rfl (gS rfl (gS rfl (gS rfl (gS rfl g0)))))))))))))))))))))) g0 (fun g => ?_)
                                refine c_false (et g0 rfl) rfl ?_
                                refine c_skip ?_
                                refine hQ8 _ _ _ (in_normal ?_)
                                refine hK7 _ _ ?_
                                refine fg1 7 (gS rfl g0) (fun g => ?_)
                                refine c_seq (fun K41 hK41 => ?_)
                                exact (by
                                  refine c_region ?_
                                  refine l_step (y_moveV (et g0 rfl)) ?_
                                  refine l_step y_assignC ?_
                                  refine l_step (y_assignV (et (gS rfl g0) rfl)) ?_
                                  refine l_nil ?_
                                  refine hK41 _ _ ?_
                                  refine fg2 7 6 g0 (gS rfl g0) (fun g => ?_)
                                  refine c_ret ?_
                                  repeat with_reducible refine then_ret ?_
                                  refine ret2 rfl (res_tmp (et g0 rfl)) (res_tmp (et (gS rfl g0) rfl)) ?_
                                  have jB : refB s f q = 0 := by rw [refB, if_neg e7, if_neg e8, if_neg e9, if_neg e10]
                                  rw [refN, if_pos jA, jB]
                                  exact ⟨_, _, rfl, G, n6⟩))
                        · skip
                          have e9 : ¬ (q = 86 ∧ destN f.code (argN f.stack 0) = false) := by have := of_decide_eq_false q22; omega
                          refine p_gskip (j := 2) (t := 111) (by exact rfl) (by exact rfl) (by exact rfl) (et g0 rfl) rfl rfl ?_
                          refine p_gskip (j := 2) (t := 111) (by exact rfl) (by exact rfl) (by exact rfl) (et (gS rfl g0) rfl) rfl rfl ?_
                          refine p_gskip (j := 2) (t := 111) (by exact rfl) (by exact rfl) (by exact rfl) (et (gS rfl (gS rfl g0)) rfl) rfl rfl ?_
                          refine p_gskip (j := 2) (t := 111) (by exact rfl) (by exact rfl) (by exact rfl) (et (gS rfl (gS rfl (gS rfl g0))) rfl) rfl rfl ?_
                          refine p_gskip (j := 2) (t := 111) (by exact rfl) (by exact rfl) (by exact rfl) (et (gS rfl (gS rfl (gS rfl (gS rfl g0)))) rfl) rfl rfl ?_
                          refine p_geskip (j := 2) (t := 111) (by exact rfl) (by exact rfl) (by exact rfl) (et (gS rfl (gS rfl (gS rfl (gS rfl (gS rfl g0))))) rfl) rfl rfl ⟨.inr SU, ?_⟩
                          refine p_geskip (j := 2) (t := 111) (by exact rfl) (by exact rfl) (by exact rfl) (et (gS rfl (gS rfl (gS rfl (gS rfl (gS rfl (gS rfl g0)))))) rfl) rfl rfl ⟨.inr SU, ?_⟩
                          refine p_gskip (j := 2) (t := 111) (by exact rfl) (by exact rfl) (by exact rfl) (et (gS rfl (gS rfl (gS rfl (gS rfl (gS rfl (gS rfl (gS rfl g0))))))) rfl) rfl rfl ?_
                          refine p_step (by exact rfl) (y_pickF (et (gS rfl (gS rfl (gS rfl (gS rfl (gS rfl (gS rfl (gS rfl (gS rfl g0)))))))) rfl) rfl) ?_
                          refine p_step (by exact rfl) (y_assignV (et g0 rfl)) ?_
                          refine p_nil ?_
                          refine hK20 _ _ ?_
                          refine fg4 1 2 7 108 (gS rfl (gS rfl (gS rfl (gS rfl (gS rfl (gS rfl (gS rfl (gS rfl (gS rfl (gS rfl (gS rfl (gS rfl (gS rfl (gS rfl (gS rfl (gS rfl (gS rfl (gS rfl g0)))))))))))))))))) (gS rfl (gS rfl (gS rfl (gS rfl (gS rfl (gS rfl (gS rfl (gS rfl (gS rfl (gS rfl (gS rfl (gS rfl (gS rfl (gS rfl (gS rfl (gS rfl (gS rfl g0))))))))))))))))) (gS rfl (gS rfl (gS rfl (gS rfl (gS rfl (gS rfl (gS rfl (gS rfl (gS rfl (gS rfl (gS rfl (gS rfl (gS rfl (gS rfl (gS rfl (gS rfl g0)))))))))))))))) g0 (fun g => ?_)
                          refine c_false (et g0 rfl) rfl ?_
                          refine c_seq (fun K43 hK43 => ?_)
                          exact (by
                            refine c_draw Up 19 [(0, true), (1, true), (2, true), (3, true), (4, false), (5, false), (6, true), (7, true), (8, true), (9, true), (10, true), (11, true), (12, true), (13, true), (14, false), (15, false), (16, true), (17, true), (18, true)] (by kernel_rfl) (fun w44 hu => ⟨Up.refl _, ?_⟩)
                            replace G := G.tr (Go.ofUp hF hu)
                            replace hF := hF.up hu
                            replace kS := kS.up hu
                            replace kF := kF.up hu
                            replace kM := kM.up hu
                            replace U := U.tr hu
                            have SU := Up.refl w44
                            have kS_s := kS
                            have kF_s := kF
                            have kM_s := kM
                            refine p_step (by exact rfl) (y_moveV (et (gS rfl (gS rfl g0)) rfl)) ?_
                            refine p_step (by exact rfl) (y_eql (et g0 rfl) rfl) ?_
                            refine p_step (by exact rfl) (y_moveV (et g0 rfl)) ?_
                            refine gsplitP (i := 125) g0 (fun q45 => ?_) (fun q45 => ?_)
                            · skip
                              have hg10 : q = 87 := by have := of_decide_eq_true q45; omega
                              refine p_gstep (j := 2) (t := 125) (by exact rfl) (by exact rfl) (by exact rfl) (et g0 rfl) rfl (y_moveV (et (gS rfl (gS rfl (gS rfl (gS rfl (gS rfl (gS rfl (gS rfl g0))))))) rfl)) ?_
                              refine p_geff (j := 2) (t := 125) (by exact rfl) (by exact rfl) (by exact rfl) (et (gS rfl g0) rfl) rfl (e_callV cal_63 (aC (et g0 rfl) (aC (v := .int .i64 ((1 : Nat) : Int)) rfl aN)) (yp_arg _ _ 1 _ _ _ _ _ _ hF kF (rF 8 _ rfl) (hSt.mono hL0) (by omega) (by first | decide | omega))) (fun v46 w46 h46 => ?_)
                              obtain ⟨u46, n46, q46⟩ := h46
                              replace G := G.tr (Go.ofUp hF u46)
                              replace hF := hF.up u46
                              replace kS := kS.up u46
                              replace kF := kF.up u46
                              replace kM := kM.up u46
                              replace U := U.tr u46
                              refine ⟨.inr (SU.tr u46), ?_⟩
                              replace SU := SU.tr u46
                              refine p_geff (j := 2) (t := 125) (by exact rfl) (by exact rfl) (by exact rfl) (et (gS rfl (gS rfl g0)) rfl) rfl (e_callV cal_79 (aC (et g0 rfl) aN) (yp_isZero hF n46 (bd_sm (bd_W q46) (by decide)))) (fun v47 w47 h47 => ?_)
                              obtain ⟨rfl, u47⟩ := h47
                              replace G := G.tr (Go.ofUp hF u47)
                              replace hF := hF.up u47
                              replace kS := kS.up u47
                              replace kF := kF.up u47
                              replace kM := kM.up u47
                              replace U := U.tr u47
                              refine ⟨.inr (SU.tr u47), ?_⟩
                              replace SU := SU.tr u47
                              refine p_gstep (j := 2) (t := 125) (by exact rfl) (by exact rfl) (by exact rfl) (et (gS rfl (gS rfl (gS rfl g0))) rfl) rfl (y_not (et g0 rfl)) ?_
                              refine p_step (by exact rfl) (y_pickT (et (gS rfl (gS rfl (gS rfl (gS rfl g0)))) rfl) (et g0 rfl)) ?_
                              refine p_step (by exact rfl) (y_moveV (et g0 rfl)) ?_
                              refine gsplitP (i := 131) g0 (fun q48 => ?_) (fun q48 => ?_)
                              · skip
                                have hg11 : argN f.stack 1 ≠ 0 := by simpa using q48
                                refine p_gstep (j := 8) (t := 131) (by exact rfl) (by exact rfl) (by exact rfl) (et g0 rfl) rfl (y_moveV (et (gS rfl (gS rfl (gS rfl (gS rfl (gS rfl (gS rfl (gS rfl (gS rfl (gS rfl (gS rfl (gS rfl (gS rfl (gS rfl (gS rfl g0)))))))))))))) rfl)) ?_
                                refine p_gstep (j := 8) (t := 131) (by exact rfl) (by exact rfl) (by exact rfl) (et (gS rfl g0) rfl) rfl (y_nil (et g0 rfl)) ?_
                                refine p_gstep (j := 8) (t := 131) (by exact rfl) (by exact rfl) (by exact rfl) (et (gS rfl (gS rfl g0)) rfl) rfl (y_fld fld_146_10 (et g0 rfl)) ?_
                                refine p_gstep (j := 8) (t := 131) (by exact rfl) (by exact rfl) (by exact rfl) (et (gS rfl (gS rfl (gS rfl g0))) rfl) rfl (y_load1 one_38 (et g0 rfl) (atS (kF_s.cell (rF 10 _ rfl)))) ?_
                                refine p_gstep (j := 8) (t := 131) (by exact rfl) (by exact rfl) (by exact rfl) (et (gS rfl (gS rfl (gS rfl (gS rfl g0)))) rfl) rfl (y_moveV (et (gS rfl (gS rfl (gS rfl (gS rfl (gS rfl (gS rfl (gS rfl (gS rfl (gS rfl (gS rfl (gS rfl (gS rfl (gS rfl (gS rfl (gS rfl (gS rfl (gS rfl (gS rfl g0)))))))))))))))))) rfl)) ?_
                                refine p_geff (j := 8) (t := 131) (by exact rfl) (by exact rfl) (by exact rfl) (et (gS rfl (gS rfl (gS rfl (gS rfl (gS rfl g0))))) rfl) rfl (e_callV cal_63 (aC (et g0 rfl) (aC (v := .int .i64 ((0 : Nat) : Int)) rfl aN)) (yp_arg _ _ 0 _ _ _ _ _ _ hF kF (rF 8 _ rfl) (hSt.mono hL0) (by omega) (by first | decide | omega))) (fun v49 w49 h49 => ?_)
                                obtain ⟨u49, n49, q49⟩ := h49
                                replace G := G.tr (Go.ofUp hF u49)
                                replace hF := hF.up u49
                                replace kS := kS.up u49
                                replace kF := kF.up u49
                                replace kM := kM.up u49
                                replace U := U.tr u49
                                refine ⟨.inr (SU.tr u49), ?_⟩
                                replace SU := SU.tr u49
                                refine p_geff (j := 8) (t := 131) (by exact rfl) (by exact rfl) (by exact rfl) (et (gS rfl (gS rfl (gS rfl (gS rfl (gS rfl (gS rfl g0)))))) rfl) rfl (e_callV cal_140 (aC (et (gS rfl (gS rfl g0)) rfl) (aC (et g0 rfl) aN)) (yp_isDest hF (hCo.mono hL0) n49 (bd_up (bd_W q49) (by decide)) (by omega))) (fun v50 w50 h50 => ?_)
                                obtain ⟨rfl, u50⟩ := h50
                                replace G := G.tr (Go.ofUp hF u50)
                                replace hF := hF.up u50
                                replace kS := kS.up u50
                                replace kF := kF.up u50
                                replace kM := kM.up u50
                                replace U := U.tr u50
                                refine ⟨.inr (SU.tr u50), ?_⟩
                                replace SU := SU.tr u50
                                refine p_gstep (j := 8) (t := 131) (by exact rfl) (by exact rfl) (by exact rfl) (et (gS rfl (gS rfl (gS rfl (gS rfl (gS rfl (gS rfl (gS rfl g0))))))) rfl) rfl (y_not (et g0 rfl)) ?_
                                refine p_step (by exact rfl) (y_pickT (et (gS rfl (gS rfl (gS rfl (gS rfl (gS rfl (gS rfl (gS rfl (gS rfl g0)))))))) rfl) (et g0 rfl)) ?_
                                refine p_step (by exact rfl) (y_assignV (et g0 rfl)) ?_
                                refine p_nil ?_
                                refine hK43 _ _ ?_
                                refine fg2 7 122 (gS rfl (gS rfl (gS rfl (gS rfl (gS rfl (gS rfl (gS rfl (gS rfl (gS rfl (gS rfl (gS rfl (gS rfl (gS rfl (gS rfl (gS rfl (gS rfl (gS rfl (gS rfl (gS rfl (gS rfl (gS rfl (gS rfl g0)))))))))))))))))))))) g0 (fun g => ?_)
                                refine c_condV (i := 122) g0 rfl (fun cB10 => ?_) (fun cB10 => ?_)
                                · skip
                                  
                                  have e10 : (q = 87 ∧ argN f.stack 1 ≠ 0) ∧ destN f.code (argN f.stack 0) = false := ⟨⟨hg10, hg11⟩, by simpa using cB10⟩
                                  refine c_seq (fun K52 hK52 => ?_)
                                  exact (by
                                    refine c_region ?_
                                    refine l_step (y_moveV (et (gS rfl (gS rfl g0)) rfl)) ?_
                                    refine l_step y_assignC ?_
                                    refine l_step (y_assignV (et (gS rfl g0) rfl)) ?_
                                    refine l_nil ?_
                                    refine hK52 _ _ ?_
                                    refine fg2 7 6 g0 (gS rfl g0) (fun g => ?_)
                                    refine c_ret ?_
                                    refine hQ8 _ _ _ (in_ret ?_)
                                    repeat with_reducible refine then_ret ?_
                                    refine ret2 rfl (res_tmp (et g0 rfl)) (res_tmp (et (gS rfl g0) rfl)) ?_
                                    have jB : refB s f q = 6 := by rw [refB, if_neg e7, if_neg e8, if_neg e9, if_pos e10]
                                    rw [refN, if_pos jA, jB]
                                    exact ⟨_, _, rfl, G, n6⟩)
                                · skip
                                  
                                  have e10 : ¬ ((q = 87 ∧ argN f.stack 1 ≠ 0) ∧ destN f.code (argN f.stack 0) = false) := fun h => by rw [h.2] at cB10; cases cB10
                                  refine c_skip ?_
                                  refine hQ8 _ _ _ (in_normal ?_)
                                  refine hK7 _ _ ?_
                                  refine fg1 7 (gS rfl (gS rfl g0)) (fun g => ?_)
                                  refine c_seq (fun K53 hK53 => ?_)
                                  exact (by
                                    refine c_region ?_
                                    refine l_step (y_moveV (et g0 rfl)) ?_
                                    refine l_step y_assignC ?_
                                    refine l_step (y_assignV (et (gS rfl g0) rfl)) ?_
                                    refine l_nil ?_
                                    refine hK53 _ _ ?_
                                    refine fg2 7 6 g0 (gS rfl g0) (fun g => ?_)
                                    refine c_ret ?_
                                    repeat with_reducible refine then_ret ?_
                                    refine ret2 rfl (res_tmp (et g0 rfl)) (res_tmp (et (gS rfl g0) rfl)) ?_
                                    have jB : refB s f q = 0 := by rw [refB, if_neg e7, if_neg e8, if_neg e9, if_neg e10]
                                    rw [refN, if_pos jA, jB]
                                    exact ⟨_, _, rfl, G, n6⟩)
                              · skip
                                have e10 : ¬ ((q = 87 ∧ argN f.stack 1 ≠ 0) ∧ destN f.code (argN f.stack 0) = false) := fun h => h.1.2 (by simpa using q48)
                                refine p_gskip (j := 8) (t := 131) (by exact rfl) (by exact rfl) (by exact rfl) (et g0 rfl) rfl rfl ?_
                                refine p_gskip (j := 8) (t := 131) (by exact rfl) (by exact rfl) (by exact rfl) (et (gS rfl g0) rfl) rfl rfl ?_
                                refine p_gskip (j := 8) (t := 131) (by exact rfl) (by exact rfl) (by exact rfl) (et (gS rfl (gS rfl g0)) rfl) rfl rfl ?_
                                refine p_gskip (j := 8) (t := 131) (by exact rfl) (by exact rfl) (by exact rfl) (et (gS rfl (gS rfl (gS rfl g0))) rfl) rfl rfl ?_
                                refine p_gskip (j := 8) (t := 131) (by exact rfl) (by exact rfl) (by exact rfl) (et (gS rfl (gS rfl (gS rfl (gS rfl g0)))) rfl) rfl rfl ?_
                                refine p_geskip (j := 8) (t := 131) (by exact rfl) (by exact rfl) (by exact rfl) (et (gS rfl (gS rfl (gS rfl (gS rfl (gS rfl g0))))) rfl) rfl rfl ⟨.inr SU, ?_⟩
                                refine p_geskip (j := 8) (t := 131) (by exact rfl) (by exact rfl) (by exact rfl) (et (gS rfl (gS rfl (gS rfl (gS rfl (gS rfl (gS rfl g0)))))) rfl) rfl rfl ⟨.inr SU, ?_⟩
                                refine p_gskip (j := 8) (t := 131) (by exact rfl) (by exact rfl) (by exact rfl) (et (gS rfl (gS rfl (gS rfl (gS rfl (gS rfl (gS rfl (gS rfl g0))))))) rfl) rfl rfl ?_
                                refine p_step (by exact rfl) (y_pickF (et (gS rfl (gS rfl (gS rfl (gS rfl (gS rfl (gS rfl (gS rfl (gS rfl g0)))))))) rfl) rfl) ?_
                                refine p_step (by exact rfl) (y_assignV (et g0 rfl)) ?_
                                refine p_nil ?_
                                refine hK43 _ _ ?_
                                refine fg2 7 122 (gS rfl (gS rfl (gS rfl (gS rfl (gS rfl (gS rfl (gS rfl (gS rfl (gS rfl (gS rfl (gS rfl (gS rfl (gS rfl (gS rfl (gS rfl (gS rfl (gS rfl (gS rfl (gS rfl (gS rfl (gS rfl (gS rfl g0)))))))))))))))))))))) g0 (fun g => ?_)
                                refine c_false (et g0 rfl) rfl ?_
                                refine c_skip ?_
                                refine hQ8 _ _ _ (in_normal ?_)
                                refine hK7 _ _ ?_
                                refine fg1 7 (gS rfl g0) (fun g => ?_)
                                refine c_seq (fun K55 hK55 => ?_)
                                exact (by
                                  refine c_region ?_
                                  refine l_step (y_moveV (et g0 rfl)) ?_
                                  refine l_step y_assignC ?_
                                  refine l_step (y_assignV (et (gS rfl g0) rfl)) ?_
                                  refine l_nil ?_
                                  refine hK55 _ _ ?_
                                  refine fg2 7 6 g0 (gS rfl g0) (fun g => ?_)
                                  refine c_ret ?_
                                  repeat with_reducible refine then_ret ?_
                                  refine ret2 rfl (res_tmp (et g0 rfl)) (res_tmp (et (gS rfl g0) rfl)) ?_
                                  have jB : refB s f q = 0 := by rw [refB, if_neg e7, if_neg e8, if_neg e9, if_neg e10]
                                  rw [refN, if_pos jA, jB]
                                  exact ⟨_, _, rfl, G, n6⟩)
                            · skip
                              have e10 : ¬ ((q = 87 ∧ argN f.stack 1 ≠ 0) ∧ destN f.code (argN f.stack 0) = false) := by have := of_decide_eq_false q45; omega
                              refine p_gskip (j := 2) (t := 125) (by exact rfl) (by exact rfl) (by exact rfl) (et g0 rfl) rfl rfl ?_
                              refine p_geskip (j := 2) (t := 125) (by exact rfl) (by exact rfl) (by exact rfl) (et (gS rfl g0) rfl) rfl rfl ⟨.inr SU, ?_⟩
                              refine p_geskip (j := 2) (t := 125) (by exact rfl) (by exact rfl) (by exact rfl) (et (gS rfl (gS rfl g0)) rfl) rfl rfl ⟨.inr SU, ?_⟩
                              refine p_gskip (j := 2) (t := 125) (by exact rfl) (by exact rfl) (by exact rfl) (et (gS rfl (gS rfl (gS rfl g0))) rfl) rfl rfl ?_
                              refine p_step (by exact rfl) (y_pickF (et (gS rfl (gS rfl (gS rfl (gS rfl g0)))) rfl) rfl) ?_
                              refine p_step (by exact rfl) (y_moveV (et g0 rfl)) ?_
                              refine p_gskip (j := 8) (t := 131) (by exact rfl) (by exact rfl) (by exact rfl) (et g0 rfl) rfl rfl ?_
                              refine p_gskip (j := 8) (t := 131) (by exact rfl) (by exact rfl) (by exact rfl) (et (gS rfl g0) rfl) rfl rfl ?_
                              refine p_gskip (j := 8) (t := 131) (by exact rfl) (by exact rfl) (by exact rfl) (et (gS rfl (gS rfl g0)) rfl) rfl rfl ?_
                              refine p_gskip (j := 8) (t := 131) (by exact rfl) (by exact rfl) (by exact rfl) (et (gS rfl (gS rfl (gS rfl g0))) rfl) rfl rfl ?_
                              refine p_gskip (j := 8) (t := 131) (by exact rfl) (by exact rfl) (by exact rfl) (et (gS rfl (gS rfl (gS rfl (gS rfl g0)))) rfl) rfl rfl ?_
                              refine p_geskip (j := 8) (t := 131) (by exact rfl) (by exact rfl) (by exact rfl) (et (gS rfl (gS rfl (gS rfl (gS rfl (gS rfl g0))))) rfl) rfl rfl ⟨.inr SU, ?_⟩
                              refine p_geskip (j := 8) (t := 131) (by exact rfl) (by exact rfl) (by exact rfl) (et (gS rfl (gS rfl (gS rfl (gS rfl (gS rfl (gS rfl g0)))))) rfl) rfl rfl ⟨.inr SU, ?_⟩
                              refine p_gskip (j := 8) (t := 131) (by exact rfl) (by exact rfl) (by exact rfl) (et (gS rfl (gS rfl (gS rfl (gS rfl (gS rfl (gS rfl (gS rfl g0))))))) rfl) rfl rfl ?_
                              refine p_step (by exact rfl) (y_pickF (et (gS rfl (gS rfl (gS rfl (gS rfl (gS rfl (gS rfl (gS rfl (gS rfl g0)))))))) rfl) rfl) ?_
                              refine p_step (by exact rfl) (y_assignV (et g0 rfl)) ?_
                              refine p_nil ?_
                              refine hK43 _ _ ?_
                              refine fg2 7 122 (gS rfl (gS rfl (gS rfl (gS rfl (gS rfl (gS rfl (gS rfl (gS rfl (gS rfl (gS rfl (gS rfl (gS rfl (gS rfl (gS rfl (gS rfl (gS rfl (gS rfl (gS rfl (gS rfl (gS rfl (gS rfl g0))))))))))))))))))))) g0 (fun g => ?_)
                              refine c_false (et g0 rfl) rfl ?_
                              refine c_skip ?_
                              refine hQ8 _ _ _ (in_normal ?_)
                              refine hK7 _ _ ?_
                              refine fg1 7 (gS rfl g0) (fun g => ?_)
                              refine c_seq (fun K57 hK57 => ?_)
                              exact (by
                                refine c_region ?_
                                refine l_step (y_moveV (et g0 rfl)) ?_
                                refine l_step y_assignC ?_
                                refine l_step (y_assignV (et (gS rfl g0) rfl)) ?_
                                refine l_nil ?_
                                refine hK57 _ _ ?_
                                refine fg2 7 6 g0 (gS rfl g0) (fun g => ?_)
                                refine c_ret ?_
                                repeat with_reducible refine then_ret ?_
                                refine ret2 rfl (res_tmp (et g0 rfl)) (res_tmp (et (gS rfl g0) rfl)) ?_
                                have jB : refB s f q = 0 := by rw [refB, if_neg e7, if_neg e8, if_neg e9, if_neg e10]
                                rw [refN, if_pos jA, jB]
                                exact ⟨_, _, rfl, G, n6⟩))))
                · skip
                  have e8 : ¬ (q = 85 ∧ f.gas ≤ 2300) := by have := of_decide_eq_false q15; omega
                  refine p_gskip (j := 2) (t := 98) (by exact rfl) (by exact rfl) (by exact rfl) (et g0 rfl) rfl rfl ?_
                  refine p_gskip (j := 2) (t := 98) (by exact rfl) (by exact rfl) (by exact rfl) (et (gS rfl g0) rfl) rfl rfl ?_
                  refine p_gskip (j := 2) (t := 98) (by exact rfl) (by exact rfl) (by exact rfl) (et (gS rfl (gS rfl g0)) rfl) rfl rfl ?_
                  refine p_gskip (j := 2) (t := 98) (by exact rfl) (by exact rfl) (by exact rfl) (et (gS rfl (gS rfl (gS rfl g0))) rfl) rfl rfl ?_
                  refine p_geskip (j := 2) (t := 98) (by exact rfl) (by exact rfl) (by exact rfl) (et (gS rfl (gS rfl (gS rfl (gS rfl g0)))) rfl) rfl rfl ⟨.inr SU, ?_⟩
                  refine p_geskip (j := 2) (t := 98) (by exact rfl) (by exact rfl) (by exact rfl) (et (gS rfl (gS rfl (gS rfl (gS rfl (gS rfl g0))))) rfl) rfl rfl ⟨.inr SU, ?_⟩
                  refine p_gskip (j := 2) (t := 98) (by exact rfl) (by exact rfl) (by exact rfl) (et (gS rfl (gS rfl (gS rfl (gS rfl (gS rfl (gS rfl g0)))))) rfl) rfl rfl ?_
                  refine p_step (by exact rfl) (y_pickF (et (gS rfl (gS rfl (gS rfl (gS rfl (gS rfl (gS rfl (gS rfl g0))))))) rfl) rfl) ?_
                  refine p_step (by exact rfl) (y_assignV (et g0 rfl)) ?_
                  refine p_nil ?_
                  refine hK13 _ _ ?_
                  refine fg4 1 2 7 95 (gS rfl (gS rfl (gS rfl (gS rfl (gS rfl (gS rfl (gS rfl (gS rfl (gS rfl (gS rfl (gS rfl (gS rfl (gS rfl (gS rfl (gS rfl (gS rfl (gS rfl g0))))))))))))))))) (gS rfl (gS rfl (gS rfl (gS rfl (gS rfl (gS rfl (gS rfl (gS rfl (gS rfl (gS rfl (gS rfl (gS rfl (gS rfl (gS rfl (gS rfl (gS rfl g0)))))))))))))))) (gS rfl (gS rfl (gS rfl (gS rfl (gS rfl (gS rfl (gS rfl (gS rfl (gS rfl (gS rfl (gS rfl (gS rfl (gS rfl (gS rfl (gS rfl g0))))))))))))))) g0 (fun g => ?_)
                  refine c_false (et g0 rfl) rfl ?_
                  refine c_seq (fun K59 hK59 => ?_)
                  exact (by
                    refine c_draw Up 13 [(0, true), (1, true), (2, true), (3, true), (4, true), (5, true), (6, true), (7, true), (8, false), (9, false), (10, true), (11, true), (12, true)] (by kernel_rfl) (fun w60 hu => ⟨Up.refl _, ?_⟩)
                    replace G := G.tr (Go.ofUp hF hu)
                    replace hF := hF.up hu
                    replace kS := kS.up hu
                    replace kF := kF.up hu
                    replace kM := kM.up hu
                    replace U := U.tr hu
                    have SU := Up.refl w60
                    refine p_step (by exact rfl) (y_moveV (et (gS rfl (gS rfl g0)) rfl)) ?_
                    refine p_step (by exact rfl) (y_eql (et g0 rfl) rfl) ?_
                    refine p_step (by exact rfl) (y_moveV (et g0 rfl)) ?_
                    refine gsplitP (i := 111) g0 (fun q61 => ?_) (fun q61 => ?_)
                    · skip
                      have hg9 : q = 86 := by have := of_decide_eq_true q61; omega
                      refine p_gstep (j := 2) (t := 111) (by exact rfl) (by exact rfl) (by exact rfl) (et g0 rfl) rfl (y_moveV (et (gS rfl (gS rfl (gS rfl (gS rfl (gS rfl (gS rfl (gS rfl g0))))))) rfl)) ?_
                      refine p_gstep (j := 2) (t := 111) (by exact rfl) (by exact rfl) (by exact rfl) (et (gS rfl g0) rfl) rfl (y_nil (et g0 rfl)) ?_
                      refine p_gstep (j := 2) (t := 111) (by exact rfl) (by exact rfl) (by exact rfl) (et (gS rfl (gS rfl g0)) rfl) rfl (y_fld fld_146_10 (et g0 rfl)) ?_
                      refine p_gstep (j := 2) (t := 111) (by exact rfl) (by exact rfl) (by exact rfl) (et (gS rfl (gS rfl (gS rfl g0))) rfl) rfl (y_load1 one_38 (et g0 rfl) (atS (kF.cell (rF 10 _ rfl)))) ?_
                      refine p_gstep (j := 2) (t := 111) (by exact rfl) (by exact rfl) (by exact rfl) (et (gS rfl (gS rfl (gS rfl (gS rfl g0)))) rfl) rfl (y_moveV (et (gS rfl (gS rfl (gS rfl (gS rfl (gS rfl (gS rfl (gS rfl (gS rfl (gS rfl (gS rfl (gS rfl g0))))))))))) rfl)) ?_
                      refine p_geff (j := 2) (t := 111) (by exact rfl) (by exact rfl) (by exact rfl) (et (gS rfl (gS rfl (gS rfl (gS rfl (gS rfl g0))))) rfl) rfl (e_callV cal_63 (aC (et g0 rfl) (aC (v := .int .i64 ((0 : Nat) : Int)) rfl aN)) (yp_arg _ _ 0 _ _ _ _ _ _ hF kF (rF 8 _ rfl) (hSt.mono hL0) (by omega) (by first | decide | omega))) (fun v62 w62 h62 => ?_)
                      obtain ⟨u62, n62, q62⟩ := h62
                      replace G := G.tr (Go.ofUp hF u62)
                      replace hF := hF.up u62
                      replace kS := kS.up u62
                      replace kF := kF.up u62
                      replace kM := kM.up u62
                      replace U := U.tr u62
                      refine ⟨.inr (SU.tr u62), ?_⟩
                      replace SU := SU.tr u62
                      refine p_geff (j := 2) (t := 111) (by exact rfl) (by exact rfl) (by exact rfl) (et (gS rfl (gS rfl (gS rfl (gS rfl (gS rfl (gS rfl g0)))))) rfl) rfl (e_callV cal_140 (aC (et (gS rfl (gS rfl g0)) rfl) (aC (et g0 rfl) aN)) (yp_isDest hF (hCo.mono hL0) n62 (bd_up (bd_W q62) (by decide)) (by omega))) (fun v63 w63 h63 => ?_)
                      obtain ⟨rfl, u63⟩ := h63
                      replace G := G.tr (Go.ofUp hF u63)
                      replace hF := hF.up u63
                      replace kS := kS.up u63
                      replace kF := kF.up u63
                      replace kM := kM.up u63
                      replace U := U.tr u63
                      refine ⟨.inr (SU.tr u63), ?_⟩
                      replace SU := SU.tr u63
                      refine p_gstep (j := 2) (t := 111) (by exact rfl) (by exact rfl) (by exact rfl) (et (gS rfl (gS rfl (gS rfl (gS rfl (gS rfl (gS rfl (gS rfl g0))))))) rfl) rfl (y_not (et g0 rfl)) ?_
                      refine p_step (by exact rfl) (y_pickT (et (gS rfl (gS rfl (gS rfl (gS rfl (gS rfl (gS rfl (gS rfl (gS rfl g0)))))))) rfl) (et g0 rfl)) ?_
                      refine p_step (by exact rfl) (y_assignV (et g0 rfl)) ?_
                      refine p_nil ?_
                      refine hK59 _ _ ?_
                      refine fg4 1 2 7 108 (gS rfl (gS rfl (gS rfl (gS rfl (gS rfl (gS rfl (gS rfl (gS rfl (gS rfl (gS rfl (gS rfl (gS rfl (gS rfl (gS rfl (gS rfl (gS rfl (gS rfl g0))))))))))))))))) (gS rfl (gS rfl (gS rfl (gS rfl (gS rfl (gS rfl (gS rfl (gS rfl (gS rfl (gS rfl (gS rfl (gS rfl (gS rfl (gS rfl (gS rfl (gS rfl g0)))))))))))))))) (gS rfl (gS rfl (gS rfl (gS rfl (gS rfl (gS rfl (gS rfl (gS rfl (gS rfl (gS rfl (gS rfl (gS rfl (gS rfl (gS rfl (gS rfl g0))))))))))))))) g0 (fun g => ?_)
                      refine c_condV (i := 108) g0 rfl (fun cB9 => ?_) (fun cB9 => ?_)
                      · skip
                        
                        have e9 : q = 86 ∧ destN f.code (argN f.stack 0) = false := ⟨hg9, by simpa using cB9⟩
                        refine c_seq (fun K65 hK65 => ?_)
                        exact (by
                          refine c_region ?_
                          refine l_step (y_moveV (et (gS rfl (gS rfl g0)) rfl)) ?_
                          refine l_step y_assignC ?_
                          refine l_step (y_assignV (et (gS rfl g0) rfl)) ?_
                          refine l_nil ?_
                          refine hK65 _ _ ?_
                          refine fg2 7 6 g0 (gS rfl g0) (fun g => ?_)
                          refine c_ret ?_
                          refine hQ8 _ _ _ (in_ret ?_)
                          repeat with_reducible refine then_ret ?_
                          refine ret2 rfl (res_tmp (et g0 rfl)) (res_tmp (et (gS rfl g0) rfl)) ?_
                          have jB : refB s f q = 6 := by rw [refB, if_neg e7, if_neg e8, if_pos e9]
                          rw [refN, if_pos jA, jB]
                          exact ⟨_, _, rfl, G, n6⟩)
                      · skip
                        
                        have e9 : ¬ (q = 86 ∧ destN f.code (argN f.stack 0) = false) := fun h => by rw [h.2] at cB9; cases cB9
                        refine c_seq (fun K66 hK66 => ?_)
                        exact (by
                          refine c_draw Up 19 [(0, true), (1, true), (2, true), (3, true), (4, false), (5, false), (6, true), (7, true), (8, true), (9, true), (10, true), (11, true), (12, true), (13, true), (14, false), (15, false), (16, true), (17, true), (18, true)] (by kernel_rfl) (fun w67 hu => ⟨Up.refl _, ?_⟩)
                          replace G := G.tr (Go.ofUp hF hu)
                          replace hF := hF.up hu
                          replace kS := kS.up hu
                          replace kF := kF.up hu
                          replace kM := kM.up hu
                          replace U := U.tr hu
                          have SU := Up.refl w67
                          have kS_s := kS
                          have kF_s := kF
                          have kM_s := kM
                          refine p_step (by exact rfl) (y_moveV (et (gS rfl (gS rfl (gS rfl g0))) rfl)) ?_
                          refine p_step (by exact rfl) (y_eql (et g0 rfl) rfl) ?_
                          refine p_step (by exact rfl) (y_moveV (et g0 rfl)) ?_
                          refine gsplitP (i := 125) g0 (fun q68 => ?_) (fun q68 => ?_)
                          · skip
                            have hg10 : q = 87 := by have := of_decide_eq_true q68; omega
                            refine p_gstep (j := 2) (t := 125) (by exact rfl) (by exact rfl) (by exact rfl) (et g0 rfl) rfl (y_moveV (et (gS rfl (gS rfl (gS rfl (gS rfl (gS rfl (gS rfl (gS rfl (gS rfl g0)))))))) rfl)) ?_
                            refine p_geff (j := 2) (t := 125) (by exact rfl) (by exact rfl) (by exact rfl) (et (gS rfl g0) rfl) rfl (e_callV cal_63 (aC (et g0 rfl) (aC (v := .int .i64 ((1 : Nat) : Int)) rfl aN)) (yp_arg _ _ 1 _ _ _ _ _ _ hF kF (rF 8 _ rfl) (hSt.mono hL0) (by omega) (by first | decide | omega))) (fun v69 w69 h69 => ?_)
                            obtain ⟨u69, n69, q69⟩ := h69
                            replace G := G.tr (Go.ofUp hF u69)
                            replace hF := hF.up u69
                            replace kS := kS.up u69
                            replace kF := kF.up u69
                            replace kM := kM.up u69
                            replace U := U.tr u69
                            refine ⟨.inr (SU.tr u69), ?_⟩
                            replace SU := SU.tr u69
                            refine p_geff (j := 2) (t := 125) (by exact rfl) (by exact rfl) (by exact rfl) (et (gS rfl (gS rfl g0)) rfl) rfl (e_callV cal_79 (aC (et g0 rfl) aN) (yp_isZero hF n69 (bd_sm (bd_W q69) (by decide)))) (fun v70 w70 h70 => ?_)
                            obtain ⟨rfl, u70⟩ := h70
                            replace G := G.tr (Go.ofUp hF u70)
                            replace hF := hF.up u70
                            replace kS := kS.up u70
                            replace kF := kF.up u70
                            replace kM := kM.up u70
                            replace U := U.tr u70
                            refine ⟨.inr (SU.tr u70), ?_⟩
                            replace SU := SU.tr u70
                            refine p_gstep (j := 2) (t := 125) (by exact rfl) (by exact rfl) (by exact rfl) (et (gS rfl (gS rfl (gS rfl g0))) rfl) rfl (y_not (et g0 rfl)) ?_
                            refine p_step (by exact rfl) (y_pickT (et (gS rfl (gS rfl (gS rfl (gS rfl g0)))) rfl) (et g0 rfl)) ?_
                            refine p_step (by exact rfl) (y_moveV (et g0 rfl)) ?_
                            refine gsplitP (i := 131) g0 (fun q71 => ?_) (fun q71 => ?_)
                            · skip
                              have hg11 : argN f.stack 1 ≠ 0 := by simpa using q71
                              refine p_gstep (j := 8) (t := 131) (by exact rfl) (by exact rfl) (by exact rfl) (et g0 rfl) rfl (y_moveV (et (gS rfl (gS rfl (gS rfl (gS rfl (gS rfl (gS rfl (gS rfl (gS rfl (gS rfl (gS rfl (gS rfl (gS rfl (gS rfl (gS rfl (gS rfl g0))))))))))))))) rfl)) ?_
                              refine p_gstep (j := 8) (t := 131) (by exact rfl) (by exact rfl) (by exact rfl) (et (gS rfl g0) rfl) rfl (y_nil (et g0 rfl)) ?_
                              refine p_gstep (j := 8) (t := 131) (by exact rfl) (by exact rfl) (by exact rfl) (et (gS rfl (gS rfl g0)) rfl) rfl (y_fld fld_146_10 (et g0 rfl)) ?_
                              refine p_gstep (j := 8) (t := 131) (by exact rfl) (by exact rfl) (by exact rfl) (et (gS rfl (gS rfl (gS rfl g0))) rfl) rfl (y_load1 one_38 (et g0 rfl) (atS (kF_s.cell (rF 10 _ rfl)))) ?_
                              refine p_gstep (j := 8) (t := 131) (by exact rfl) (by exact rfl) (by exact rfl) (et (gS rfl (gS rfl (gS rfl (gS rfl g0)))) rfl) rfl (y_moveV (et (gS rfl (gS rfl (gS rfl (gS rfl (gS rfl (gS rfl (gS rfl (gS rfl (gS rfl (gS rfl (gS rfl (gS rfl (gS rfl (gS rfl (gS rfl (gS rfl (gS rfl (gS rfl (gS rfl g0))))))))))))))))))) rfl)) ?_
                              refine p_geff (j := 8) (t := 131) (by exact rfl) (by exact rfl) (by exact rfl) (et (gS rfl (gS rfl (gS rfl (gS rfl (gS rfl g0))))) rfl) rfl (e_callV cal_63 (aC (et g0 rfl) (aC (v := .int .i64 ((0 : Nat) : Int)) rfl aN)) (yp_arg _ _ 0 _ _ _ _ _ _ hF kF (rF 8 _ rfl) (hSt.mono hL0) (by omega) (by first | decide | omega))) (fun v72 w72 h72 => ?_)
                              obtain ⟨u72, n72, q72⟩ := h72
                              replace G := G.tr (Go.ofUp hF u72)
                              replace hF := hF.up u72
                              replace kS := kS.up u72
                              replace kF := kF.up u72
                              replace kM := kM.up u72
                              replace U := U.tr u72
                              refine ⟨.inr (SU.tr u72), ?_⟩
                              replace SU := SU.tr u72
                              refine p_geff (j := 8) (t := 131) (by exact rfl) (by exact rfl) (by exact rfl) (et (gS rfl (gS rfl (gS rfl (gS rfl (gS rfl (gS rfl g0)))))) rfl) rfl (e_callV cal_140 (aC (et (gS rfl (gS rfl g0)) rfl) (aC (et g0 rfl) aN)) (yp_isDest hF (hCo.mono hL0) n72 (bd_up (bd_W q72) (by decide)) (by omega))) (fun v73 w73 h73 => ?_)
                              obtain ⟨rfl, u73⟩ := h73
                              replace G := G.tr (Go.ofUp hF u73)
                              replace hF := hF.up u73
                              replace kS := kS.up u73
                              replace kF := kF.up u73
                              replace kM := kM.up u73
                              replace U := U.tr u73
                              refine ⟨.inr (SU.tr u73), ?_⟩
                              replace SU := SU.tr u73
                              refine p_gstep (j := 8) (t := 131) (by exact rfl) (by exact rfl) (by exact rfl) (et (gS rfl (gS rfl (gS rfl (gS rfl (gS rfl (gS rfl (gS rfl g0))))))) rfl) rfl (y_not (et g0 rfl)) ?_
                              refine p_step (by exact rfl) (y_pickT (et (gS rfl (gS rfl (gS rfl (gS rfl (gS rfl (gS rfl (gS rfl (gS rfl g0)))))))) rfl) (et g0 rfl)) ?_
                              refine p_step (by exact rfl) (y_assignV (et g0 rfl)) ?_
                              refine p_nil ?_
                              refine hK66 _ _ ?_
                              refine fg2 7 122 (gS rfl (gS rfl (gS rfl (gS rfl (gS rfl (gS rfl (gS rfl (gS rfl (gS rfl (gS rfl (gS rfl (gS rfl (gS rfl (gS rfl (gS rfl (gS rfl (gS rfl (gS rfl (gS rfl (gS rfl (gS rfl (gS rfl (gS rfl g0))))))))))))))))))))))) g0 (fun g => ?_)
                              refine c_condV (i := 122) g0 rfl (fun cB10 => ?_) (fun cB10 => ?_)
                              · skip
                                
                                have e10 : (q = 87 ∧ argN f.stack 1 ≠ 0) ∧ destN f.code (argN f.stack 0) = false := ⟨⟨hg10, hg11⟩, by simpa using cB10⟩
                                refine c_seq (fun K75 hK75 => ?_)
                                exact (by
                                  refine c_region ?_
                                  refine l_step (y_moveV (et (gS rfl (gS rfl g0)) rfl)) ?_
                                  refine l_step y_assignC ?_
                                  refine l_step (y_assignV (et (gS rfl g0) rfl)) ?_
                                  refine l_nil ?_
                                  refine hK75 _ _ ?_
                                  refine fg2 7 6 g0 (gS rfl g0) (fun g => ?_)
                                  refine c_ret ?_
                                  refine hQ8 _ _ _ (in_ret ?_)
                                  repeat with_reducible refine then_ret ?_
                                  refine ret2 rfl (res_tmp (et g0 rfl)) (res_tmp (et (gS rfl g0) rfl)) ?_
                                  have jB : refB s f q = 6 := by rw [refB, if_neg e7, if_neg e8, if_neg e9, if_pos e10]
                                  rw [refN, if_pos jA, jB]
                                  exact ⟨_, _, rfl, G, n6⟩)
                              · skip
                                
                                have e10 : ¬ ((q = 87 ∧ argN f.stack 1 ≠ 0) ∧ destN f.code (argN f.stack 0) = false) := fun h => by rw [h.2] at cB10; cases cB10
                                refine c_skip ?_
                                refine hQ8 _ _ _ (in_normal ?_)
                                refine hK7 _ _ ?_
                                refine fg1 7 (gS rfl (gS rfl g0)) (fun g => ?_)
                                refine c_seq (fun K76 hK76 => ?_)
                                exact (by
                                  refine c_region ?_
                                  refine l_step (y_moveV (et g0 rfl)) ?_
                                  refine l_step y_assignC ?_
                                  refine l_step (y_assignV (et (gS rfl g0) rfl)) ?_
                                  refine l_nil ?_
                                  refine hK76 _ _ ?_
                                  refine fg2 7 6 g0 (gS rfl g0) (fun g => ?_)
                                  refine c_ret ?_
                                  repeat with_reducible refine then_ret ?_
                                  refine ret2 rfl (res_tmp (et g0 rfl)) (res_tmp (et (gS rfl g0) rfl)) ?_
                                  have jB : refB s f q = 0 := by rw [refB, if_neg e7, if_neg e8, if_neg e9, if_neg e10]
                                  rw [refN, if_pos jA, jB]
                                  exact ⟨_, _, rfl, G, n6⟩)
                            · skip
                              have e10 : ¬ ((q = 87 ∧ argN f.stack 1 ≠ 0) ∧ destN f.code (argN f.stack 0) = false) := fun h => h.1.2 (by simpa using q71)
                              refine p_gskip (j := 8) (t := 131) (by exact rfl) (by exact rfl) (by exact rfl) (et g0 rfl) rfl rfl ?_
                              refine p_gskip (j := 8) (t := 131) (by exact rfl) (by exact rfl) (by exact rfl) (et (gS rfl g0) rfl) rfl rfl ?_
                              refine p_gskip (j := 8) (t := 131) (by exact rfl) (by exact rfl) (by exact rfl) (et (gS rfl (gS rfl g0)) rfl) rfl rfl ?_
                              refine p_gskip (j := 8) (t := 131) (by exact rfl) (by exact rfl) (by exact rfl) (et (gS rfl (gS rfl (gS rfl g0))) rfl) rfl rfl ?_
                              refine p_gskip (j := 8) (t := 131) (by exact rfl) (by exact rfl) (by exact rfl) (et (gS rfl (gS rfl (gS rfl (gS rfl g0)))) rfl) rfl rfl ?_
                              refine p_geskip (j := 8) (t := 131) (by exact rfl) (by exact rfl) (by exact rfl) (et (gS rfl (gS rfl (gS rfl (gS rfl (gS rfl g0))))) rfl) rfl rfl ⟨.inr SU, ?_⟩
                              refine p_geskip (j := 8) (t := 131) (by exact rfl) (by exact rfl) (by exact rfl) (et (gS rfl (gS rfl (gS rfl (gS rfl (gS rfl (gS rfl g0)))))) rfl) rfl rfl ⟨.inr SU, ?_⟩
                              refine p_gskip (j := 8) (t := 131) (by exact rfl) (by exact rfl) (by exact rfl) (et (gS rfl (gS rfl (gS rfl (gS rfl (gS rfl (gS rfl (gS rfl g0))))))) rfl) rfl rfl ?_
                              refine p_step (by exact rfl) (y_pickF (et (gS rfl (gS rfl (gS rfl (gS rfl (gS rfl (gS rfl (gS rfl (gS rfl g0)))))))) rfl) rfl) ?_
                              refine p_step (by exact rfl) (y_assignV (et g0 rfl)) ?_
                              refine p_nil ?_
                              refine hK66 _ _ ?_
                              refine fg2 7 122 (gS rfl (gS rfl (gS rfl (gS rfl (gS rfl (gS rfl (gS rfl (gS rfl (gS rfl (gS rfl (gS rfl (gS rfl (gS rfl (gS rfl (gS rfl (gS rfl (gS rfl (gS rfl (gS rfl (gS rfl (gS rfl (gS rfl (gS rfl g0))))))))))))))))))))))) g0 (fun g => ?_)
                              refine c_false (et g0 rfl) rfl ?_
                              refine c_skip ?_
                              refine hQ8 _ _ _ (in_normal ?_)
                              refine hK7 _ _ ?_
                              refine fg1 7 (gS rfl g0) (fun g => ?_)
                              refine c_seq (fun K78 hK78 => ?_)
                              exact (by
                                refine c_region ?_
                                refine l_step (y_moveV (et g0 rfl)) ?_
                                refine l_step y_assignC ?_
                                refine l_step (y_assignV (et (gS rfl g0) rfl)) ?_
                                refine l_nil ?_
                                refine hK78 _ _ ?_
                                refine fg2 7 6 g0 (gS rfl g0) (fun g => ?_)
                                refine c_ret ?_
                                repeat with_reducible refine then_ret ?_
                                refine ret2 rfl (res_tmp (et g0 rfl)) (res_tmp (et (gS rfl g0) rfl)) ?_
                                have jB : refB s f q = 0 := by rw [refB, if_neg e7, if_neg e8, if_neg e9, if_neg e10]
                                rw [refN, if_pos jA, jB]
                                exact ⟨_, _, rfl, G, n6⟩)
                          · skip
                            have e10 : ¬ ((q = 87 ∧ argN f.stack 1 ≠ 0) ∧ destN f.code (argN f.stack 0) = false) := by have := of_decide_eq_false q68; omega
                            refine p_gskip (j := 2) (t := 125) (by exact rfl) (by exact rfl) (by exact rfl) (et g0 rfl) rfl rfl ?_
                            refine p_geskip (j := 2) (t := 125) (by exact rfl) (by exact rfl) (by exact rfl) (et (gS rfl g0) rfl) rfl rfl ⟨.inr SU, ?_⟩
                            refine p_geskip (j := 2) (t := 125) (by exact rfl) (by exact rfl) (by exact rfl) (et (gS rfl (gS rfl g0)) rfl) rfl rfl ⟨.inr SU, ?_⟩
                            refine p_gskip (j := 2) (t := 125) (by exact rfl) (by exact rfl) (by exact rfl) (et (gS rfl (gS rfl (gS rfl g0))) rfl) rfl rfl ?_
                            refine p_step (by exact rfl) (y_pickF (et (gS rfl (gS rfl (gS rfl (gS rfl g0)))) rfl) rfl) ?_
                            refine p_step (by exact rfl) (y_moveV (et g0 rfl)) ?_
                            refine p_gskip (j := 8) (t := 131) (by exact rfl) (by exact rfl) (by exact rfl) (et g0 rfl) rfl rfl ?_
                            refine p_gskip (j := 8) (t := 131) (by exact rfl) (by exact rfl) (by exact rfl) (et (gS rfl g0) rfl) rfl rfl ?_
                            refine p_gskip (j := 8) (t := 131) (by exact rfl) (by exact rfl) (by exact rfl) (et (gS rfl (gS rfl g0)) rfl) rfl rfl ?_
                            refine p_gskip (j := 8) (t := 131) (by exact rfl) (by exact rfl) (by exact rfl) (et (gS rfl (gS rfl (gS rfl g0))) rfl) rfl rfl ?_
                            refine p_gskip (j := 8) (t := 131) (by exact rfl) (by exact rfl) (by exact rfl) (et (gS rfl (gS rfl (gS rfl (gS rfl g0)))) rfl) rfl rfl ?_
                            refine p_geskip (j := 8) (t := 131) (by exact rfl) (by exact rfl) (by exact rfl) (et (gS rfl (gS rfl (gS rfl (gS rfl (gS rfl g0))))) rfl) rfl rfl ⟨.inr SU, ?_⟩
                            refine p_geskip (j := 8) (t := 131) (by exact rfl) (by exact rfl) (by exact rfl) (et (gS rfl (gS rfl (gS rfl (gS rfl (gS rfl (gS rfl g0)))))) rfl) rfl rfl ⟨.inr SU, ?_⟩
                            refine p_gskip (j := 8) (t := 131) (by exact rfl) (by exact rfl) (by exact rfl) (et (gS rfl (gS rfl (gS rfl (gS rfl (gS rfl (gS rfl (gS rfl g0))))))) rfl) rfl rfl ?_
                            refine p_step (by exact rfl) (y_pickF (et (gS rfl (gS rfl (gS rfl (gS rfl (gS rfl (gS rfl (gS rfl (gS rfl g0)))))))) rfl) rfl) ?_
                            refine p_step (by exact rfl) (y_assignV (et g0 rfl)) ?_
                            refine p_nil ?_
                            refine hK66 _ _ ?_
                            refine fg2 7 122 (gS rfl (gS rfl (gS rfl (gS rfl (gS rfl (gS rfl (gS rfl (gS rfl (gS rfl (gS rfl (gS rfl (gS rfl (gS rfl (gS rfl (gS rfl (gS rfl (gS rfl (gS rfl (gS rfl (gS rfl (gS rfl (gS rfl g0)))))))))))))))))))))) g0 (fun g => ?_)
                            refine c_false (et g0 rfl) rfl ?_
                            refine c_skip ?_
                            refine hQ8 _ _ _ (in_normal ?_)
                            refine hK7 _ _ ?_
                            refine fg1 7 (gS rfl g0) (fun g => ?_)
                            refine c_seq (fun K80 hK80 => ?_)
                            exact (by
                              refine c_region ?_
                              refine l_step (y_moveV (et g0 rfl)) ?_
                              refine l_step y_assignC ?_
                              refine l_step (y_assignV (et (gS rfl g0) rfl)) ?_
                              refine l_nil ?_
                              refine hK80 _ _ ?_
                              refine fg2 7 6 g0 (gS rfl g0) (fun g => ?_)
                              refine c_ret ?_
                              repeat with_reducible refine then_ret ?_
                              refine ret2 rfl (res_tmp (et g0 rfl)) (res_tmp (et (gS rfl g0) rfl)) ?_
                              have jB : refB s f q = 0 := by rw [refB, if_neg e7, if_neg e8, if_neg e9, if_neg e10]
                              rw [refN, if_pos jA, jB]
                              exact ⟨_, _, rfl, G, n6⟩))
                    · skip
                      have e9 : ¬ (q = 86 ∧ destN f.code (argN f.stack 0) = false) := by have := of_decide_eq_false q61; omega
                      refine p_gskip (j := 2) (t := 111) (by exact rfl) (by exact rfl) (by exact rfl) (et g0 rfl) rfl rfl ?_
                      refine p_gskip (j := 2) (t := 111) (by exact rfl) (by exact rfl) (by exact rfl) (et (gS rfl g0) rfl) rfl rfl ?_
                      refine p_gskip (j := 2) (t := 111) (by exact rfl) (by exact rfl) (by exact rfl) (et (gS rfl (gS rfl g0)) rfl) rfl rfl ?_
                      refine p_gskip (j := 2) (t := 111) (by exact rfl) (by exact rfl) (by exact rfl) (et (gS rfl (gS rfl (gS rfl g0))) rfl) rfl rfl ?_
                      refine p_gskip (j := 2) (t := 111) (by exact rfl) (by exact rfl) (by exact rfl) (et (gS rfl (gS rfl (gS rfl (gS rfl g0)))) rfl) rfl rfl ?_
                      refine p_geskip (j := 2) (t := 111) (by exact rfl) (by exact rfl) (by exact rfl) (et (gS rfl (gS rfl (gS rfl (gS rfl (gS rfl g0))))) rfl) rfl rfl ⟨.inr SU, ?_⟩
                      refine p_geskip (j := 2) (t := 111) (by exact rfl) (by exact rfl) (by exact rfl) (et (gS rfl (gS rfl (gS rfl (gS rfl (gS rfl (gS rfl g0)))))) rfl) rfl rfl ⟨.inr SU, ?_⟩
                      refine p_gskip (j := 2) (t := 111) (by exact rfl) (by exact rfl) (by exact rfl) (et (gS rfl (gS rfl (gS rfl (gS rfl (gS rfl (gS rfl (gS rfl g0))))))) rfl) rfl rfl ?_
                      refine p_step (by exact rfl) (y_pickF (et (gS rfl (gS rfl (gS rfl (gS rfl (gS rfl (gS rfl (gS rfl (gS rfl g0)))))))) rfl) rfl) ?_
                      refine p_step (by exact rfl) (y_assignV (et g0 rfl)) ?_
                      refine p_nil ?_
                      refine hK59 _ _ ?_
                      refine fg4 1 2 7 108 (gS rfl (gS rfl (gS rfl (gS rfl (gS rfl (gS rfl (gS rfl (gS rfl (gS rfl (gS rfl (gS rfl (gS rfl (gS rfl (gS rfl (gS rfl (gS rfl (gS rfl g0))))))))))))))))) (gS rfl (gS rfl (gS rfl (gS rfl (gS rfl (gS rfl (gS rfl (gS rfl (gS rfl (gS rfl (gS rfl (gS rfl (gS rfl (gS rfl (gS rfl (gS rfl g0)))))))))))))))) (gS rfl (gS rfl (gS rfl (gS rfl (gS rfl (gS rfl (gS rfl (gS rfl (gS rfl (gS rfl (gS rfl (gS rfl (gS rfl (gS rfl (gS rfl g0))))))))))))))) g0 (fun g => ?_)
                      refine c_false (et g0 rfl) rfl ?_
                      refine c_seq (fun K82 hK82 => ?_)
                      exact (by
                        refine c_draw Up 19 [(0, true), (1, true), (2, true), (3, true), (4, false), (5, false), (6, true), (7, true), (8, true), (9, true), (10, true), (11, true), (12, true), (13, true), (14, false), (15, false), (16, true), (17, true), (18, true)] (by kernel_rfl) (fun w83 hu => ⟨Up.refl _, ?_⟩)
                        replace G := G.tr (Go.ofUp hF hu)
                        replace hF := hF.up hu
                        replace kS := kS.up hu
                        replace kF := kF.up hu
                        replace kM := kM.up hu
                        replace U := U.tr hu
                        have SU := Up.refl w83
                        have kS_s := kS
                        have kF_s := kF
                        have kM_s := kM
                        refine p_step (by exact rfl) (y_moveV (et (gS rfl (gS rfl g0)) rfl)) ?_
                        refine p_step (by exact rfl) (y_eql (et g0 rfl) rfl) ?_
                        refine p_step (by exact rfl) (y_moveV (et g0 rfl)) ?_
                        refine gsplitP (i := 125) g0 (fun q84 => ?_) (fun q84 => ?_)
                        · skip
                          have hg10 : q = 87 := by have := of_decide_eq_true q84; omega
                          refine p_gstep (j := 2) (t := 125) (by exact rfl) (by exact rfl) (by exact rfl) (et g0 rfl) rfl (y_moveV (et (gS rfl (gS rfl (gS rfl (gS rfl (gS rfl (gS rfl (gS rfl g0))))))) rfl)) ?_
                          refine p_geff (j := 2) (t := 125) (by exact rfl) (by exact rfl) (by exact rfl) (et (gS rfl g0) rfl) rfl (e_callV cal_63 (aC (et g0 rfl) (aC (v := .int .i64 ((1 : Nat) : Int)) rfl aN)) (yp_arg _ _ 1 _ _ _ _ _ _ hF kF (rF 8 _ rfl) (hSt.mono hL0) (by omega) (by first | decide | omega))) (fun v85 w85 h85 => ?_)
                          obtain ⟨u85, n85, q85⟩ := h85
                          replace G := G.tr (Go.ofUp hF u85)
                          replace hF := hF.up u85
                          replace kS := kS.up u85
                          replace kF := kF.up u85
                          replace kM := kM.up u85
                          replace U := U.tr u85
                          refine ⟨.inr (SU.tr u85), ?_⟩
                          replace SU := SU.tr u85
                          refine p_geff (j := 2) (t := 125) (by exact rfl) (by exact rfl) (by exact rfl) (et (gS rfl (gS rfl g0)) rfl) rfl (e_callV cal_79 (aC (et g0 rfl) aN) (yp_isZero hF n85 (bd_sm (bd_W q85) (by decide)))) (fun v86 w86 h86 => ?_)
                          obtain ⟨rfl, u86⟩ := h86
                          replace G := G.tr (Go.ofUp hF u86)
                          replace hF := hF.up u86
                          replace kS := kS.up u86
                          replace kF := kF.up u86
                          replace kM := kM.up u86
                          replace U := U.tr u86
                          refine ⟨.inr (SU.tr u86), ?_⟩
                          replace SU := SU.tr u86
                          refine p_gstep (j := 2) (t := 125) (by exact rfl) (by exact rfl) (by exact rfl) (et (gS rfl (gS rfl (gS rfl g0))) rfl) rfl (y_not (et g0 rfl)) ?_
                          refine p_step (by exact rfl) (y_pickT (et (gS rfl (gS rfl (gS rfl (gS rfl g0)))) rfl) (et g0 rfl)) ?_
                          refine p_step (by exact rfl) (y_moveV (et g0 rfl)) ?_
                          refine gsplitP (i := 131) g0 (fun q87 => ?_) (fun q87 => ?_)
                          · skip
                            have hg11 : argN f.stack 1 ≠ 0 := by simpa using q87
                            refine p_gstep (j := 8) (t := 131) (by exact rfl) (by exact rfl) (by exact rfl) (et g0 rfl) rfl (y_moveV (et (gS rfl (gS rfl (gS rfl (gS rfl (gS rfl (gS rfl (gS rfl (gS rfl (gS rfl (gS rfl (gS rfl (gS rfl (gS rfl (gS rfl g0)))))))))))))) rfl)) ?_
                            refine p_gstep (j := 8) (t := 131) (by exact rfl) (by exact rfl) (by exact rfl) (et (gS rfl g0) rfl) rfl (y_nil (et g0 rfl)) ?_
                            refine p_gstep (j := 8) (t := 131) (by exact rfl) (by exact rfl) (by exact rfl) (et (gS rfl (gS rfl g0)) rfl) rfl (y_fld fld_146_10 (et g0 rfl)) ?_
                            refine p_gstep (j := 8) (t := 131) (by exact rfl) (by exact rfl) (by exact rfl) (et (gS rfl (gS rfl (gS rfl g0))) rfl) rfl (y_load1 one_38 (et g0 rfl) (atS (kF_s.cell (rF 10 _ rfl)))) ?_
                            refine p_gstep (j := 8) (t := 131) (by exact rfl) (by exact rfl) (by exact rfl) (et (gS rfl (gS rfl (gS rfl (gS rfl g0)))) rfl) rfl (y_moveV (et (gS rfl (gS rfl (gS rfl (gS rfl (gS rfl (gS rfl (gS rfl (gS rfl (gS rfl (gS rfl (gS rfl (gS rfl (gS rfl (gS rfl (gS rfl (gS rfl (gS rfl (gS rfl g0)))))))))))))))))) rfl)) ?_
                            refine p_geff (j := 8) (t := 131) (by exact rfl) (by exact rfl) (by exact rfl) (et (gS rfl (gS rfl (gS rfl (gS rfl (gS rfl g0))))) rfl) rfl (e_callV cal_63 (aC (et g0 rfl) (aC (v := .int .i64 ((0 : Nat) : Int)) rfl aN)) (yp_arg _ _ 0 _ _ _ _ _ _ hF kF (rF 8 _ rfl) (hSt.mono hL0) (by omega) (by first | decide | omega))) (fun v88 w88 h88 => ?_)
                            obtain ⟨u88, n88, q88⟩ := h88
                            replace G := G.tr (Go.ofUp hF u88)
                            replace hF := hF.up u88
                            replace kS := kS.up u88
                            replace kF := kF.up u88
                            replace kM := kM.up u88
                            replace U := U.tr u88
                            refine ⟨.inr (SU.tr u88), ?_⟩
                            replace SU := SU.tr u88
                            refine p_geff (j := 8) (t := 131) (by exact rfl) (by exact rfl) (by exact rfl) (et (gS rfl (gS rfl (gS rfl (gS rfl (gS rfl (gS rfl g0)))))) rfl) rfl (e_callV cal_140 (aC (et (gS rfl (gS rfl g0)) rfl) (aC (et g0 rfl) aN)) (yp_isDest hF (hCo.mono hL0) n88 (bd_up (bd_W q88) (by decide)) (by omega))) (fun v89 w89 h89 => ?_)
                            obtain ⟨rfl, u89⟩ := h89
                            replace G := G.tr (Go.ofUp hF u89)
                            replace hF := hF.up u89
                            replace kS := kS.up u89
                            replace kF := kF.up u89
                            replace kM := kM.up u89
                            replace U := U.tr u89
                            refine ⟨.inr (SU.tr u89), ?_⟩
                            replace SU := SU.tr u89
                            refine p_gstep (j := 8) (t := 131) (by exact rfl) (by exact rfl) (by exact rfl) (et (gS rfl (gS rfl (gS rfl (gS rfl (gS rfl (gS rfl (gS rfl g0))))))) rfl) rfl (y_not (et g0 rfl)) ?_
                            refine p_step (by exact rfl) (y_pickT (et (gS rfl (gS rfl (gS rfl (gS rfl (gS rfl (gS rfl (gS rfl (gS rfl g0)))))))) rfl) (et g0 rfl)) ?_
                            refine p_step (by exact rfl) (y_assignV (et g0 rfl)) ?_
                            refine p_nil ?_
                            refine hK82 _ _ ?_
                            refine fg2 7 122 (gS rfl (gS rfl (gS rfl (gS rfl (gS rfl (gS rfl (gS rfl (gS rfl (gS rfl (gS rfl (gS rfl (gS rfl (gS rfl (gS rfl (gS rfl (gS rfl (gS rfl (gS rfl (gS rfl (gS rfl (gS rfl (gS rfl g0)))))))))))))))))))))) g0 (fun g => ?_)
                            refine c_condV (i := 122) g0 rfl (fun cB10 => ?_) (fun cB10 => ?_)
                            · skip
                              
                              have e10 : (q = 87 ∧ argN f.stack 1 ≠ 0) ∧ destN f.code (argN f.stack 0) = false := ⟨⟨hg10, hg11⟩, by simpa using cB10⟩
                              refine c_seq (fun K91 hK91 => ?_)
                              exact (by
                                refine c_region ?_
                                refine l_step (y_moveV (et (gS rfl (gS rfl g0)) rfl)) ?_
                                refine l_step y_assignC ?_
                                refine l_step (y_assignV (et (gS rfl g0) rfl)) ?_
                                refine l_nil ?_
                                refine hK91 _ _ ?_
                                refine fg2 7 6 g0 (gS rfl g0) (fun g => ?_)
                                refine c_ret ?_
                                refine hQ8 _ _ _ (in_ret ?_)
                                repeat with_reducible refine then_ret ?_
                                refine ret2 rfl (res_tmp (et g0 rfl)) (res_tmp (et (gS rfl g0) rfl)) ?_
                                have jB : refB s f q = 6 := by rw [refB, if_neg e7, if_neg e8, if_neg e9, if_pos e10]
                                rw [refN, if_pos jA, jB]
                                exact ⟨_, _, rfl, G, n6⟩)
                            · skip
                              
                              have e10 : ¬ ((q = 87 ∧ argN f.stack 1 ≠ 0) ∧ destN f.code (argN f.stack 0) = false) := fun h => by rw [h.2] at cB10; cases cB10
                              refine c_skip ?_
                              refine hQ8 _ _ _ (in_normal ?_)
                              refine hK7 _ _ ?_
                              refine fg1 7 (gS rfl (gS rfl g0)) (fun g => ?_)
                              refine c_seq (fun K92 hK92 => ?_)
                              exact (by
                                refine c_region ?_
                                refine l_step (y_moveV (et g0 rfl)) ?_
                                refine l_step y_assignC ?_
                                refine l_step (y_assignV (et (gS rfl g0) rfl)) ?_
                                refine l_nil ?_
                                refine hK92 _ _ ?_
                                refine fg2 7 6 g0 (gS rfl g0) (fun g => ?_)
                                refine c_ret ?_
                                repeat with_reducible refine then_ret ?_
                                refine ret2 rfl (res_tmp (et g0 rfl)) (res_tmp (et (gS rfl g0) rfl)) ?_
                                have jB : refB s f q = 0 := by rw [refB, if_neg e7, if_neg e8, if_neg e9, if_neg e10]
                                rw [refN, if_pos jA, jB]
                                exact ⟨_, _, rfl, G, n6⟩)
                          · skip
                            have e10 : ¬ ((q = 87 ∧ argN f.stack 1 ≠ 0) ∧ destN f.code (argN f.stack 0) = false) := fun h => h.1.2 (by simpa using q87)
                            refine p_gskip (j := 8) (t := 131) (by exact rfl) (by exact rfl) (by exact rfl) (et g0 rfl) rfl rfl ?_
                            refine p_gskip (j := 8) (t := 131) (by exact rfl) (by exact rfl) (by exact rfl) (et (gS rfl g0) rfl) rfl rfl ?_
                            refine p_gskip (j := 8) (t := 131) (by exact rfl) (by exact rfl) (by exact rfl) (et (gS rfl (gS rfl g0)) rfl) rfl rfl ?_
                            refine p_gskip (j := 8) (t := 131) (by exact rfl) (by exact rfl) (by exact rfl) (et (gS rfl (gS rfl (gS rfl g0))) rfl) rfl rfl ?_
                            refine p_gskip (j := 8) (t := 131) (by exact rfl) (by exact rfl) (by exact rfl) (et (gS rfl (gS rfl (gS rfl (gS rfl g0)))) rfl) rfl rfl ?_
                            refine p_geskip (j := 8) (t := 131) (by exact rfl) (by exact rfl) (by exact rfl) (et (gS rfl (gS rfl (gS rfl (gS rfl (gS rfl g0))))) rfl) rfl rfl ⟨.inr SU, ?_⟩
                            refine p_geskip (j := 8) (t := 131) (by exact rfl) (by exact rfl) (by exact rfl) (et (gS rfl (gS rfl (gS rfl (gS rfl (gS rfl (gS rfl g0)))))) rfl) rfl rfl ⟨.inr SU, ?_⟩
                            refine p_gskip (j := 8) (t := 131) (by exact rfl) (by exact rfl) (by exact rfl) (et (gS rfl (gS rfl (gS rfl (gS rfl (gS rfl (gS rfl (gS rfl g0))))))) rfl) rfl rfl ?_
                            refine p_step (by exact rfl) (y_pickF (et (gS rfl (gS rfl (gS rfl (gS rfl (gS rfl (gS rfl (gS rfl (gS rfl g0)))))))) rfl) rfl) ?_
                            refine p_step (by exact rfl) (y_assignV (et g0 rfl)) ?_
                            refine p_nil ?_
                            refine hK82 _ _ ?_
                            refine fg2 7 122 (gS rfl (gS rfl (gS rfl (gS rfl (gS rfl (gS rfl (gS rfl (gS rfl (gS rfl (gS rfl (gS rfl (gS rfl (gS rfl (gS rfl (gS rfl (gS rfl (gS rfl (gS rfl (gS rfl (gS rfl (gS rfl (gS rfl g0)))))))))))))))))))))) g0 (fun g => ?_)
                            refine c_false (et g0 rfl) rfl ?_
                            refine c_skip ?_
                            refine hQ8 _ _ _ (in_normal ?_)
                            refine hK7 _ _ ?_
                            refine fg1 7 (gS rfl g0) (fun g => ?_)
                            refine c_seq (fun K94 hK94 => ?_)
                            exact (by
                              refine c_region ?_
                              refine l_step (y_moveV (et g0 rfl)) ?_
                              refine l_step y_assignC ?_
                              refine l_step (y_assignV (et (gS rfl g0) rfl)) ?_
                              refine l_nil ?_
                              refine hK94 _ _ ?_
                              refine fg2 7 6 g0 (gS rfl g0) (fun g => ?_)
                              refine c_ret ?_
                              repeat with_reducible refine then_ret ?_
                              refine ret2 rfl (res_tmp (et g0 rfl)) (res_tmp (et (gS rfl g0) rfl)) ?_
                              have jB : refB s f q = 0 := by rw [refB, if_neg e7, if_neg e8, if_neg e9, if_neg e10]
                              rw [refN, if_pos jA, jB]
                              exact ⟨_, _, rfl, G, n6⟩)
                        · skip
                          have e10 : ¬ ((q = 87 ∧ argN f.stack 1 ≠ 0) ∧ destN f.code (argN f.stack 0) = false) := by have := of_decide_eq_false q84; omega
                          refine p_gskip (j := 2) (t := 125) (by exact rfl) (by exact rfl) (by exact rfl) (et g0 rfl) rfl rfl ?_
                          refine p_geskip (j := 2) (t := 125) (by exact rfl) (by exact rfl) (by exact rfl) (et (gS rfl g0) rfl) rfl rfl ⟨.inr SU, ?_⟩
                          refine p_geskip (j := 2) (t := 125) (by exact rfl) (by exact rfl) (by exact rfl) (et (gS rfl (gS rfl g0)) rfl) rfl rfl ⟨.inr SU, ?_⟩
                          refine p_gskip (j := 2) (t := 125) (by exact rfl) (by exact rfl) (by exact rfl) (et (gS rfl (gS rfl (gS rfl g0))) rfl) rfl rfl ?_
                          refine p_step (by exact rfl) (y_pickF (et (gS rfl (gS rfl (gS rfl (gS rfl g0)))) rfl) rfl) ?_
                          refine p_step (by exact rfl) (y_moveV (et g0 rfl)) ?_
                          refine p_gskip (j := 8) (t := 131) (by exact rfl) (by exact rfl) (by exact rfl) (et g0 rfl) rfl rfl ?_
                          refine p_gskip (j := 8) (t := 131) (by exact rfl) (by exact rfl) (by exact rfl) (et (gS rfl g0) rfl) rfl rfl ?_
                          refine p_gskip (j := 8) (t := 131) (by exact rfl) (by exact rfl) (by exact rfl) (et (gS rfl (gS rfl g0)) rfl) rfl rfl ?_
                          refine p_gskip (j := 8) (t := 131) (by exact rfl) (by exact rfl) (by exact rfl) (et (gS rfl (gS rfl (gS rfl g0))) rfl) rfl rfl ?_
                          refine p_gskip (j := 8) (t := 131) (by exact rfl) (by exact rfl) (by exact rfl) (et (gS rfl (gS rfl (gS rfl (gS rfl g0)))) rfl) rfl rfl ?_
                          refine p_geskip (j := 8) (t := 131) (by exact rfl) (by exact rfl) (by exact rfl) (et (gS rfl (gS rfl (gS rfl (gS rfl (gS rfl g0))))) rfl) rfl rfl ⟨.inr SU, ?_⟩
                          refine p_geskip (j := 8) (t := 131) (by exact rfl) (by exact rfl) (by exact rfl) (et (gS rfl (gS rfl (gS rfl (gS rfl (gS rfl (gS rfl g0)))))) rfl) rfl rfl ⟨.inr SU, ?_⟩
                          refine p_gskip (j := 8) (t := 131) (by exact rfl) (by exact rfl) (by exact rfl) (et (gS rfl (gS rfl (gS rfl (gS rfl (gS rfl (gS rfl (gS rfl g0))))))) rfl) rfl rfl ?_
                          refine p_step (by exact rfl) (y_pickF (et (gS rfl (gS rfl (gS rfl (gS rfl (gS rfl (gS rfl (gS rfl (gS rfl g0)))))))) rfl) rfl) ?_
                          refine p_step (by exact rfl) (y_assignV (et g0 rfl)) ?_
                          refine p_nil ?_
                          refine hK82 _ _ ?_
                          refine fg2 7 122 (gS rfl (gS rfl (gS rfl (gS rfl (gS rfl (gS rfl (gS rfl (gS rfl (gS rfl (gS rfl (gS rfl (gS rfl (gS rfl (gS rfl (gS rfl (gS rfl (gS rfl (gS rfl (gS rfl (gS rfl (gS rfl g0))))))))))))))))))))) g0 (fun g => ?_)
                          refine c_false (et g0 rfl) rfl ?_
                          refine c_skip ?_
                          refine hQ8 _ _ _ (in_normal ?_)
                          refine hK7 _ _ ?_
                          refine fg1 7 (gS rfl g0) (fun g => ?_)
                          refine c_seq (fun K96 hK96 => ?_)
                          exact (by
                            refine c_region ?_
                            refine l_step (y_moveV (et g0 rfl)) ?_
                            refine l_step y_assignC ?_
                            refine l_step (y_assignV (et (gS rfl g0) rfl)) ?_
                            refine l_nil ?_
                            refine hK96 _ _ ?_
                            refine fg2 7 6 g0 (gS rfl g0) (fun g => ?_)
                            refine c_ret ?_
                            repeat with_reducible refine then_ret ?_
                            refine ret2 rfl (res_tmp (et g0 rfl)) (res_tmp (et (gS rfl g0) rfl)) ?_
                            have jB : refB s f q = 0 := by rw [refB, if_neg e7, if_neg e8, if_neg e9, if_neg e10]
                            rw [refN, if_pos jA, jB]
                            exact ⟨_, _, rfl, G, n6⟩))))))
      have V4 : Go (fun k => False) w3 H w3 H := Go.refl hF
      refine c_block (fun Q97 hQ97 => ?_)
      refine c_seq (fun K98 hK98 => ?_)
      exact (by
        refine c_region ?_
        refine l_step (y_moveV (et g0 rfl)) ?_
        refine l_step (y_not (et g0 rfl)) ?_
        refine l_step (y_assignV (et g0 rfl)) ?_
        refine l_nil ?_
        refine hK98 _ _ ?_
        refine fg6 2 1 0 8 9 17 (gS rfl (gS rfl (gS rfl (gS rfl (gS rfl (gS rfl (gS rfl (gS rfl g0)))))))) (gS rfl (gS rfl (gS rfl (gS rfl (gS rfl (gS rfl (gS rfl g0))))))) (gS rfl (gS rfl (gS rfl (gS rfl (gS rfl (gS rfl g0)))))) (gS rfl (gS rfl (gS rfl (gS rfl (gS rfl g0))))) (gS rfl (gS rfl (gS rfl (gS rfl g0)))) g0 (fun g => ?_)
        refine c_condV (i := 17) g0 rfl (fun cB1 => ?_) (fun cB1 => ?_)
        · skip
          
          have e1 : knN q = false := by simpa using cB1
          refine c_seq (fun K100 hK100 => ?_)
          exact (by
            refine c_region ?_
            refine l_step y_assignC ?_
            refine l_step y_assignC ?_
            refine l_nil ?_
            refine hK100 _ _ ?_
            refine fg2 6 7 (gS rfl g0) g0 (fun g => ?_)
            refine c_ret ?_
            refine hQ97 _ _ _ (in_ret ?_)
            repeat with_reducible refine then_ret ?_
            refine ret2 rfl (res_tmp (et (gS rfl g0) rfl)) (res_tmp (et g0 rfl)) ?_
            have jA : refA s f q = 5 := by rw [refA, if_pos e1]
            rw [refN, if_neg (by rw [jA]; decide), jA]
            exact ⟨_, _, rfl, G, NV.nil _⟩)
        · skip
          
          have e1 : ¬ knN q = false := by simpa using cB1
          refine c_seq (fun K101 hK101 => ?_)
          exact (by
            refine c_region ?_
            refine l_step (y_moveV (et (gS rfl (gS rfl (gS rfl (gS rfl (gS rfl g0))))) rfl)) ?_
            refine l_step (y_nil (et g0 rfl)) ?_
            refine l_step (y_fld fld_146_8 (et g0 rfl)) ?_
            refine l_step (y_load1 one_144 (et g0 rfl) (at1 (kF.cell (rF 8 _ rfl)))) ?_
            refine l_step (y_len Hvaa.underlying144 (et g0 rfl)) ?_
            refine l_step (y_moveV (et (gS rfl (gS rfl (gS rfl (gS rfl (gS rfl (gS rfl (gS rfl (gS rfl g0)))))))) rfl)) ?_
            refine l_step (y_lss (et (gS rfl g0) rfl) (et g0 rfl)) ?_
            refine l_step (y_assignV (et g0 rfl)) ?_
            refine l_nil ?_
            refine hK101 _ _ ?_
            refine fg6 2 1 0 8 9 20 (gS rfl (gS rfl (gS rfl (gS rfl (gS rfl (gS rfl (gS rfl (gS rfl (gS rfl (gS rfl (gS rfl (gS rfl (gS rfl (gS rfl g0)))))))))))))) (gS rfl (gS rfl (gS rfl (gS rfl (gS rfl (gS rfl (gS rfl (gS rfl (gS rfl (gS rfl (gS rfl (gS rfl (gS rfl g0))))))))))))) (gS rfl (gS rfl (gS rfl (gS rfl (gS rfl (gS rfl (gS rfl (gS rfl (gS rfl (gS rfl (gS rfl (gS rfl g0)))))))))))) (gS rfl (gS rfl (gS rfl (gS rfl (gS rfl (gS rfl (gS rfl (gS rfl (gS rfl (gS rfl (gS rfl g0))))))))))) (gS rfl (gS rfl (gS rfl (gS rfl (gS rfl (gS rfl (gS rfl (gS rfl (gS rfl (gS rfl g0)))))))))) g0 (fun g => ?_)
            refine c_condV (i := 20) g0 rfl (fun cB2 => ?_) (fun cB2 => ?_)
            · skip
              
              have e2 : f.stack.length < tkN q := by have := of_decide_eq_true cB2; omega
              refine c_seq (fun K103 hK103 => ?_)
              exact (by
                refine c_region ?_
                refine l_step y_assignC ?_
                refine l_step y_assignC ?_
                refine l_nil ?_
                refine hK103 _ _ ?_
                refine fg2 6 7 (gS rfl g0) g0 (fun g => ?_)
                refine c_ret ?_
                refine hQ97 _ _ _ (in_ret ?_)
                repeat with_reducible refine then_ret ?_
                refine ret2 rfl (res_tmp (et (gS rfl g0) rfl)) (res_tmp (et g0 rfl)) ?_
                have jA : refA s f q = 3 := by rw [refA, if_neg e1, if_pos e2]
                rw [refN, if_neg (by rw [jA]; decide), jA]
                exact ⟨_, _, rfl, G, NV.nil _⟩)
            · skip
              
              have e2 : ¬ f.stack.length < tkN q := by have := of_decide_eq_false cB2; omega
              refine c_seq (fun K104 hK104 => ?_)
              exact (by
                refine c_region ?_
                refine l_step (y_moveV (et (gS rfl (gS rfl (gS rfl (gS rfl (gS rfl g0))))) rfl)) ?_
                refine l_step (y_nil (et g0 rfl)) ?_
                refine l_step (y_fld fld_146_8 (et g0 rfl)) ?_
                refine l_step (y_load1 one_144 (et g0 rfl) (at1 (kF.cell (rF 8 _ rfl)))) ?_
                refine l_step (y_len Hvaa.underlying144 (et g0 rfl)) ?_
                refine l_step (y_moveV (et (gS rfl (gS rfl (gS rfl (gS rfl (gS rfl (gS rfl (gS rfl (gS rfl g0)))))))) rfl)) ?_
                refine l_step (y_sub (et (gS rfl g0) rfl) (et g0 rfl) (subIN ?_ ?_)) ?_
                omega
                omega
                refine l_step (y_moveV (et (gS rfl (gS rfl (gS rfl (gS rfl (gS rfl (gS rfl (gS rfl (gS rfl (gS rfl g0))))))))) rfl)) ?_
                refine l_step (y_add (et (gS rfl g0) rfl) (et g0 rfl) (addIN ?_)) ?_
                omega
                refine l_step (y_gtr (et g0 rfl) rfl) ?_
                refine l_step (y_assignV (et g0 rfl)) ?_
                refine l_nil ?_
                refine hK104 _ _ ?_
                refine fg4 2 1 0 28 (gS rfl (gS rfl (gS rfl (gS rfl (gS rfl (gS rfl (gS rfl (gS rfl (gS rfl (gS rfl (gS rfl (gS rfl (gS rfl (gS rfl (gS rfl (gS rfl (gS rfl g0))))))))))))))))) (gS rfl (gS rfl (gS rfl (gS rfl (gS rfl (gS rfl (gS rfl (gS rfl (gS rfl (gS rfl (gS rfl (gS rfl (gS rfl (gS rfl (gS rfl (gS rfl g0)))))))))))))))) (gS rfl (gS rfl (gS rfl (gS rfl (gS rfl (gS rfl (gS rfl (gS rfl (gS rfl (gS rfl (gS rfl (gS rfl (gS rfl (gS rfl (gS rfl g0))))))))))))))) g0 (fun g => ?_)
                refine c_condV (i := 28) g0 rfl (fun cB3 => ?_) (fun cB3 => ?_)
                · skip
                  
                  have e3 : 64 < f.stack.length - tkN q + gvN q := by have := of_decide_eq_true cB3; omega
                  refine c_seq (fun K106 hK106 => ?_)
                  exact (by
                    refine c_region ?_
                    refine l_step y_assignC ?_
                    refine l_step y_assignC ?_
                    refine l_nil ?_
                    refine hK106 _ _ ?_
                    refine fg2 6 7 (gS rfl g0) g0 (fun g => ?_)
                    refine c_ret ?_
                    refine hQ97 _ _ _ (in_ret ?_)
                    repeat with_reducible refine then_ret ?_
                    refine ret2 rfl (res_tmp (et (gS rfl g0) rfl)) (res_tmp (et g0 rfl)) ?_
                    have jA : refA s f q = 4 := by rw [refA, if_neg e1, if_neg e2, if_pos e3]
                    rw [refN, if_neg (by rw [jA]; decide), jA]
                    exact ⟨_, _, rfl, G, NV.nil _⟩)
                · skip
                  
                  have e3 : ¬ 64 < f.stack.length - tkN q + gvN q := by have := of_decide_eq_false cB3; omega
                  refine c_seq (fun K107 hK107 => ?_)
                  exact (by
                    refine c_region ?_
                    refine l_step (y_moveV (et (gS rfl (gS rfl (gS rfl g0))) rfl)) ?_
                    refine l_step (y_nil (et g0 rfl)) ?_
                    refine l_step (y_fld fld_146_2 (et g0 rfl)) ?_
                    refine l_step (y_load1 one_4 (et g0 rfl) (at1 (kF.cell (rF 2 _ rfl)))) ?_
                    refine l_step (y_moveV (et g0 rfl)) ?_
                    refine gsplitL (i := 44) g0 (fun q108 => ?_) (fun q108 => ?_)
                    · skip
                      have hg := q108
                      refine l_gstep (j := 4) (t := 44) (by exact rfl) (by exact rfl) (et g0 rfl) (by decide) (y_moveV (et (gS rfl (gS rfl (gS rfl (gS rfl (gS rfl (gS rfl (gS rfl (gS rfl (gS rfl g0))))))))) rfl)) ?_
                      refine l_gstep (j := 4) (t := 44) (by exact rfl) (by exact rfl) (et (gS rfl g0) rfl) (by decide) (y_moveV (et (gS rfl (gS rfl (gS rfl (gS rfl (gS rfl (gS rfl (gS rfl (gS rfl (gS rfl (gS rfl (gS rfl g0))))))))))) rfl)) ?_
                      refine l_geff (j := 4) (t := 44) (by exact rfl) (by exact rfl) (et (gS rfl (gS rfl g0)) rfl) rfl (e_callV cal_138 (aC (et (gS rfl g0) rfl) (aC (et g0 rfl) aN)) (yp_writes hF _ _ _ _ _ kF (hf.mono hL0) _ hq)) (fun v109 w109 h109 => ?_)
                      obtain ⟨rfl, u109⟩ := h109
                      replace G := G.tr (Go.ofUp hF u109)
                      replace V4 := V4.tr (Go.ofUp hF u109)
                      replace hF := hF.up u109
                      replace kS := kS.up u109
                      replace kF := kF.up u109
                      replace kM := kM.up u109
                      replace U := U.tr u109
                      refine l_step (y_pickT (et (gS rfl (gS rfl (gS rfl g0))) rfl) (et g0 rfl)) ?_
                      refine l_step (y_assignV (et g0 rfl)) ?_
                      refine l_nil ?_
                      refine hK107 _ _ ?_
                      refine fg4 2 1 0 39 (gS rfl (gS rfl (gS rfl (gS rfl (gS rfl (gS rfl (gS rfl (gS rfl (gS rfl (gS rfl (gS rfl (gS rfl (gS rfl (gS rfl (gS rfl g0))))))))))))))) (gS rfl (gS rfl (gS rfl (gS rfl (gS rfl (gS rfl (gS rfl (gS rfl (gS rfl (gS rfl (gS rfl (gS rfl (gS rfl (gS rfl g0)))))))))))))) (gS rfl (gS rfl (gS rfl (gS rfl (gS rfl (gS rfl (gS rfl (gS rfl (gS rfl (gS rfl (gS rfl (gS rfl (gS rfl g0))))))))))))) g0 (fun g => ?_)
                      refine c_condV (i := 39) g0 rfl (fun cB4 => ?_) (fun cB4 => ?_)
                      · skip
                        
                        have e4 : f.static = true ∧ wrtN f q = true := ⟨hg, cB4⟩
                        refine c_seq (fun K111 hK111 => ?_)
                        exact (by
                          refine c_region ?_
                          refine l_step y_assignC ?_
                          refine l_step y_assignC ?_
                          refine l_nil ?_
                          refine hK111 _ _ ?_
                          refine fg2 6 7 (gS rfl g0) g0 (fun g => ?_)
                          refine c_ret ?_
                          refine hQ97 _ _ _ (in_ret ?_)
                          repeat with_reducible refine then_ret ?_
                          refine ret2 rfl (res_tmp (et (gS rfl g0) rfl)) (res_tmp (et g0 rfl)) ?_
                          have jA : refA s f q = 7 := by rw [refA, if_neg e1, if_neg e2, if_neg e3, if_pos e4]
                          rw [refN, if_neg (by rw [jA]; decide), jA]
                          exact ⟨_, _, rfl, G, NV.nil _⟩)
                      · skip
                        
                        have e4 : ¬ (f.static = true ∧ wrtN f q = true) := fun h => by rw [h.2] at cB4; cases cB4
                        refine c_seq (fun K112 hK112 => ?_)
                        exact (by
                          refine c_region ?_
                          refine l_step (y_moveV (et (gS rfl (gS rfl (gS rfl (gS rfl g0)))) rfl)) ?_
                          refine l_step (y_eql (et g0 rfl) rfl) ?_
                          refine l_step (y_moveV (et g0 rfl)) ?_
                          refine l_gpure (j := 2) (t := 52) (by exact rfl) (by exact rfl) (et g0 rfl) rfl (fun hc => (y_moveV (et (gS rfl (gS rfl (gS rfl (gS rfl (gS rfl (gS rfl (gS rfl g0))))))) rfl))) ?_
                          refine l_gpure (j := 2) (t := 52) (by exact rfl) (by exact rfl) (et (gS rfl g0) rfl) rfl (fun hc => (y_eql (et (cT g0 hc) rfl) rfl)) ?_
                          refine l_step (y_pickO (et (gS rfl (gS rfl g0)) rfl) rfl (et g0 rfl)) ?_
                          refine l_step (y_moveV (et g0 rfl)) ?_
                          refine gsplitL (i := 56) g0 (fun q113 => ?_) (fun q113 => ?_)
                          · skip
                            have hg5 : q = 240 ∨ q = 245 := by simp at q113; omega
                            refine l_gstep (j := 6) (t := 56) (by exact rfl) (by exact rfl) (et g0 rfl) (by decide) (y_moveV (et (gS rfl (gS rfl (gS rfl (gS rfl (gS rfl (gS rfl (gS rfl (gS rfl (gS rfl (gS rfl (gS rfl g0))))))))))) rfl)) ?_
                            refine l_geff (j := 6) (t := 56) (by exact rfl) (by exact rfl) (et (gS rfl g0) rfl) rfl (e_callV cal_63 (aC (et g0 rfl) (aC (v := .int .i64 ((2 : Nat) : Int)) rfl aN)) (yp_arg _ _ 2 _ _ _ _ _ _ hF kF (rF 8 _ rfl) (hSt.mono hL0) (by omega) (by first | decide | omega))) (fun v114 w114 h114 => ?_)
                            obtain ⟨u114, n114, q114⟩ := h114
                            replace G := G.tr (Go.ofUp hF u114)
                            replace V4 := V4.tr (Go.ofUp hF u114)
                            replace hF := hF.up u114
                            replace kS := kS.up u114
                            replace kF := kF.up u114
                            replace kM := kM.up u114
                            replace U := U.tr u114
                            refine l_geff (j := 6) (t := 56) (by exact rfl) (by exact rfl) (et (gS rfl (gS rfl g0)) rfl) rfl (e_callV cal_32 (aC (v := .int .u64 ((512 : Nat) : Int)) rfl aN) (yp_num (x := 512) hF (by decide))) (fun v115 w115 h115 => ?_)
                            obtain ⟨H115, g115, n115⟩ := h115
                            have hlew115 := g115.le
                            replace n114 := n114.mono hlew115
                            replace hL0 := hL0.trans hlew115
                            replace kS := kS.up g115.up
                            replace kF := kF.up g115.up
                            replace kM := kM.up g115.up
                            replace U := U.tr g115.up
                            replace G := G.tr g115
                            replace V4 := V4.tr g115
                            replace hF := g115.fz
                            have q115 : 512 < 256 ^ 2 := by decide
                            refine l_geff (j := 6) (t := 56) (by exact rfl) (by exact rfl) (et (gS rfl (gS rfl (gS rfl g0))) rfl) rfl (e_callV cal_121 (aC (et (gS rfl g0) rfl) (aC (et g0 rfl) aN)) (nat_cmp hF n114 n115 (bd_sm (bd_W q114) (by decide)) (bd_sm q115 (by decide)))) (fun v116 w116 h116 => ?_)
                            obtain ⟨rfl, u116⟩ := h116
                            replace G := G.tr (Go.ofUp hF u116)
                            replace V4 := V4.tr (Go.ofUp hF u116)
                            replace hF := hF.up u116
                            replace kS := kS.up u116
                            replace kF := kF.up u116
                            replace kM := kM.up u116
                            replace U := U.tr u116
                            exact (by
                              refine l_gstep (j := 6) (t := 56) (by exact rfl) (by exact rfl) (et (gS rfl (gS rfl (gS rfl (gS rfl g0)))) rfl) (by decide) ((y_gtr (et g0 rfl) rfl).to (congrArg Value.bool (cmp_gt0 _ _))) ?_
                              refine l_step (y_pickT (et (gS rfl (gS rfl (gS rfl (gS rfl (gS rfl g0))))) rfl) (et g0 rfl)) ?_
                              refine l_step (y_assignV (et g0 rfl)) ?_
                              refine l_nil ?_
                              refine hK112 _ _ ?_
                              refine fg4 2 1 0 49 (gS rfl (gS rfl (gS rfl (gS rfl (gS rfl (gS rfl (gS rfl (gS rfl (gS rfl (gS rfl (gS rfl (gS rfl (gS rfl (gS rfl (gS rfl (gS rfl (gS rfl (gS rfl (gS rfl g0))))))))))))))))))) (gS rfl (gS rfl (gS rfl (gS rfl (gS rfl (gS rfl (gS rfl (gS rfl (gS rfl (gS rfl (gS rfl (gS rfl (gS rfl (gS rfl (gS rfl (gS rfl (gS rfl (gS rfl g0)))))))))))))))))) (gS rfl (gS rfl (gS rfl (gS rfl (gS rfl (gS rfl (gS rfl (gS rfl (gS rfl (gS rfl (gS rfl (gS rfl (gS rfl (gS rfl (gS rfl (gS rfl (gS rfl g0))))))))))))))))) g0 (fun g => ?_)
                              refine c_condV (i := 49) g0 rfl (fun cB5 => ?_) (fun cB5 => ?_)
                              · skip
                                
                                have e5 : (q = 240 ∨ q = 245) ∧ 512 < argN f.stack 2 := ⟨hg5, of_decide_eq_true cB5⟩
                                refine c_seq (fun K118 hK118 => ?_)
                                exact (by
                                  refine c_region ?_
                                  refine l_step y_assignC ?_
                                  refine l_step y_assignC ?_
                                  refine l_nil ?_
                                  refine hK118 _ _ ?_
                                  refine fg2 6 7 (gS rfl g0) g0 (fun g => ?_)
                                  refine c_ret ?_
                                  refine hQ97 _ _ _ (in_ret ?_)
                                  repeat with_reducible refine then_ret ?_
                                  refine ret2 rfl (res_tmp (et (gS rfl g0) rfl)) (res_tmp (et g0 rfl)) ?_
                                  have jA : refA s f q = 9 := by rw [refA, if_neg e1, if_neg e2, if_neg e3, if_neg e4, if_pos e5]
                                  rw [refN, if_neg (by rw [jA]; decide), jA]
                                  exact ⟨_, _, rfl, G, NV.nil _⟩)
                              · skip
                                
                                have e5 : ¬ ((q = 240 ∨ q = 245) ∧ 512 < argN f.stack 2) := fun h => of_decide_eq_false cB5 h.2
                                refine c_seq (fun K119 hK119 => ?_)
                                exact (by
                                  refine c_draw Up 19 [(0, true), (1, true), (2, true), (3, true), (5, true), (8, true), (9, true), (10, true), (11, true), (12, true), (13, true), (4, false), (6, false), (7, false), (14, false), (15, false), (16, true), (17, true), (18, true)] (by kernel_rfl) (fun w120 hu => ⟨Up.refl _, ?_⟩)
                                  replace G := G.tr (Go.ofUp hF hu)
                                  replace V4 := V4.tr (Go.ofUp hF hu)
                                  replace hF := hF.up hu
                                  replace kS := kS.up hu
                                  replace kF := kF.up hu
                                  replace kM := kM.up hu
                                  replace U := U.tr hu
                                  have SU := Up.refl w120
                                  refine p_step (by exact rfl) (y_moveV (et (gS rfl (gS rfl (gS rfl (gS rfl g0)))) rfl)) ?_
                                  refine p_step (by exact rfl) (y_eql (et g0 rfl) rfl) ?_
                                  refine p_step (by exact rfl) (y_moveV (et g0 rfl)) ?_
                                  refine gsplitP (i := 66) g0 (fun q121 => ?_) (fun q121 => ?_)
                                  · skip
                                    have hg6 : q = 62 := by have := of_decide_eq_true q121; omega
                                    refine p_gstep (j := 2) (t := 66) (by exact rfl) (by exact rfl) (by exact rfl) (et g0 rfl) rfl (y_moveV (et (gS rfl (gS rfl (gS rfl (gS rfl (gS rfl (gS rfl (gS rfl g0))))))) rfl)) ?_
                                    refine p_gstep (j := 2) (t := 66) (by exact rfl) (by exact rfl) (by exact rfl) (et (gS rfl g0) rfl) rfl (y_moveV (et (gS rfl (gS rfl (gS rfl (gS rfl (gS rfl (gS rfl (gS rfl (gS rfl g0)))))))) rfl)) ?_
                                    refine p_gstep (j := 2) (t := 66) (by exact rfl) (by exact rfl) (by exact rfl) (et (gS rfl (gS rfl g0)) rfl) rfl (y_moveV (et (gS rfl (gS rfl (gS rfl (gS rfl (gS rfl (gS rfl (gS rfl (gS rfl g0)))))))) rfl)) ?_
                                    refine p_gstep (j := 2) (t := 66) (by exact rfl) (by exact rfl) (by exact rfl) (et (gS rfl (gS rfl (gS rfl g0))) rfl) rfl (y_nil (et g0 rfl)) ?_
                                    refine p_gstep (j := 2) (t := 66) (by exact rfl) (by exact rfl) (by exact rfl) (et (gS rfl (gS rfl (gS rfl (gS rfl g0)))) rfl) rfl (y_fld fld_102_3 (et g0 rfl)) ?_
                                    refine p_gstep (j := 2) (t := 66) (by exact rfl) (by exact rfl) (by exact rfl) (et (gS rfl (gS rfl (gS rfl (gS rfl (gS rfl g0))))) rfl) rfl (y_load1 one_38 (et g0 rfl) (atS (kS.cell (rS 10 _ rfl)))) ?_
                                    refine p_gstep (j := 2) (t := 66) (by exact rfl) (by exact rfl) (by exact rfl) (et (gS rfl (gS rfl (gS rfl (gS rfl (gS rfl (gS rfl g0)))))) rfl) rfl (y_len Hvaa.underlying38 (et g0 rfl)) ?_
                                    refine p_gstep (j := 2) (t := 66) (by exact rfl) (by exact rfl) (by exact rfl) (et (gS rfl (gS rfl (gS rfl (gS rfl (gS rfl (gS rfl (gS rfl g0))))))) rfl) rfl (y_conv Hvaa.underlying3 Hvaa.underlying26 (et g0 rfl) (wrapU_id uk64 ?_)) ?_
                                    omega
                                    refine p_geff (j := 2) (t := 66) (by exact rfl) (by exact rfl) (by exact rfl) (et (gS rfl (gS rfl (gS rfl (gS rfl (gS rfl (gS rfl (gS rfl (gS rfl g0)))))))) rfl) rfl (e_callV cal_63 (aC (et (gS rfl (gS rfl (gS rfl (gS rfl (gS rfl (gS rfl (gS rfl g0))))))) rfl) (aC (v := .int .i64 ((1 : Nat) : Int)) rfl aN)) (yp_arg _ _ 1 _ _ _ _ _ _ hF kF (rF 8 _ rfl) (hSt.mono hL0) (by omega) (by first | decide | omega))) (fun v122 w122 h122 => ?_)
                                    obtain ⟨u122, n122, q122⟩ := h122
                                    replace G := G.tr (Go.ofUp hF u122)
                                    replace V4 := V4.tr (Go.ofUp hF u122)
                                    replace hF := hF.up u122
                                    replace kS := kS.up u122
                                    replace kF := kF.up u122
                                    replace kM := kM.up u122
                                    replace U := U.tr u122
                                    refine ⟨.inr (SU.tr u122), ?_⟩
                                    replace SU := SU.tr u122
                                    refine p_geff (j := 2) (t := 66) (by exact rfl) (by exact rfl) (by exact rfl) (et (gS rfl (gS rfl (gS rfl (gS rfl (gS rfl (gS rfl (gS rfl (gS rfl (gS rfl g0))))))))) rfl) rfl (e_callV cal_63 (aC (et (gS rfl (gS rfl (gS rfl (gS rfl (gS rfl (gS rfl (gS rfl g0))))))) rfl) (aC (v := .int .i64 ((2 : Nat) : Int)) rfl aN)) (yp_arg _ _ 2 _ _ _ _ _ _ hF kF (rF 8 _ rfl) (hSt.mono hL0) (by omega) (by first | decide | omega))) (fun v123 w123 h123 => ?_)
                                    obtain ⟨u123, n123, q123⟩ := h123
                                    replace G := G.tr (Go.ofUp hF u123)
                                    replace V4 := V4.tr (Go.ofUp hF u123)
                                    replace hF := hF.up u123
                                    replace kS := kS.up u123
                                    replace kF := kF.up u123
                                    replace kM := kM.up u123
                                    replace U := U.tr u123
                                    refine ⟨.inr (SU.tr u123), ?_⟩
                                    replace SU := SU.tr u123
                                    exact (by
                                      refine p_geff (j := 2) (t := 66) (by exact rfl) (by exact rfl) (by exact rfl) (et (gS rfl (gS rfl (gS rfl (gS rfl (gS rfl (gS rfl (gS rfl (gS rfl (gS rfl (gS rfl g0)))))))))) rfl) rfl (e_callV cal_34 (aC (et (gS rfl g0) rfl) (aC (et g0 rfl) aN)) (nat_add hF n122 n123 (bd_sm (bd_W q122) (by decide)) (bd_sm (bd_W q123) (by decide)))) (fun v124 w124 h124 => ?_)
                                      obtain ⟨H124, g124, n124⟩ := h124
                                      have hlew124 := g124.le
                                      replace n114 := n114.mono hlew124
                                      replace n115 := n115.mono hlew124
                                      replace n122 := n122.mono hlew124
                                      replace n123 := n123.mono hlew124
                                      replace hL0 := hL0.trans hlew124
                                      replace kS := kS.up g124.up
                                      replace kF := kF.up g124.up
                                      replace kM := kM.up g124.up
                                      replace U := U.tr g124.up
                                      replace G := G.tr g124
                                      replace V4 := V4.tr g124
                                      replace hF := g124.fz
                                      have q124 := bd_add (c := 33) (bd_W q122) (bd_W q123) (by decide)
                                      refine ⟨.inr (SU.tr g124.up), ?_⟩
                                      replace SU := SU.tr g124.up
                                      refine p_geff (j := 2) (t := 66) (by exact rfl) (by exact rfl) (by exact rfl) (et (gS rfl (gS rfl (gS rfl (gS rfl (gS rfl (gS rfl (gS rfl (gS rfl (gS rfl (gS rfl (gS rfl g0))))))))))) rfl) rfl (e_callV cal_32 (aC (et (gS rfl (gS rfl (gS rfl g0))) rfl) aN) (yp_num hF (show s.ret.length < 18446744073709551616 by omega))) (fun v125 w125 h125 => ?_)
                                      obtain ⟨H125, g125, n125⟩ := h125
                                      have hlew125 := g125.le
                                      replace n114 := n114.mono hlew125
                                      replace n115 := n115.mono hlew125
                                      replace n122 := n122.mono hlew125
                                      replace n123 := n123.mono hlew125
                                      replace n124 := n124.mono hlew125
                                      replace hL0 := hL0.trans hlew125
                                      replace kS := kS.up g125.up
                                      replace kF := kF.up g125.up
                                      replace kM := kM.up g125.up
                                      replace U := U.tr g125.up
                                      replace G := G.tr g125
                                      replace V4 := V4.tr g125
                                      replace hF := g125.fz
                                      have q125 := bd_64 (show s.ret.length < 18446744073709551616 by omega)
                                      refine ⟨.inr (SU.tr g125.up), ?_⟩
                                      replace SU := SU.tr g125.up
                                      exact (by
                                        refine p_geff (j := 2) (t := 66) (by exact rfl) (by exact rfl) (by exact rfl) (et (gS rfl (gS rfl (gS rfl (gS rfl (gS rfl (gS rfl (gS rfl (gS rfl (gS rfl (gS rfl (gS rfl (gS rfl g0)))))))))))) rfl) rfl (e_callV cal_121 (aC (et (gS rfl g0) rfl) (aC (et g0 rfl) aN)) (nat_cmp hF n124 n125 (bd_sm q124 (by decide)) (bd_sm q125 (by decide)))) (fun v126 w126 h126 => ?_)
                                        obtain ⟨rfl, u126⟩ := h126
                                        replace G := G.tr (Go.ofUp hF u126)
                                        replace V4 := V4.tr (Go.ofUp hF u126)
                                        replace hF := hF.up u126
                                        replace kS := kS.up u126
                                        replace kF := kF.up u126
                                        replace kM := kM.up u126
                                        replace U := U.tr u126
                                        refine ⟨.inr (SU.tr u126), ?_⟩
                                        replace SU := SU.tr u126
                                        refine p_gstep (j := 2) (t := 66) (by exact rfl) (by exact rfl) (by exact rfl) (et (gS rfl (gS rfl (gS rfl (gS rfl (gS rfl (gS rfl (gS rfl (gS rfl (gS rfl (gS rfl (gS rfl (gS rfl (gS rfl g0))))))))))))) rfl) rfl ((y_gtr (et g0 rfl) rfl).to (congrArg Value.bool (cmp_gt0 _ _))) ?_
                                        refine p_step (by exact rfl) (y_pickT (et (gS rfl (gS rfl (gS rfl (gS rfl (gS rfl (gS rfl (gS rfl (gS rfl (gS rfl (gS rfl (gS rfl (gS rfl (gS rfl (gS rfl g0)))))))))))))) rfl) (et g0 rfl)) ?_
                                        refine p_step (by exact rfl) (y_assignV (et g0 rfl)) ?_
                                        refine p_nil ?_
                                        refine hK119 _ _ ?_
                                        refine fg4 2 1 0 63 (gS rfl (gS rfl (gS rfl (gS rfl (gS rfl (gS rfl (gS rfl (gS rfl (gS rfl (gS rfl (gS rfl (gS rfl (gS rfl (gS rfl (gS rfl (gS rfl (gS rfl (gS rfl (gS rfl (gS rfl (gS rfl (gS rfl (gS rfl (gS rfl g0)))))))))))))))))))))))) (gS rfl (gS rfl (gS rfl (gS rfl (gS rfl (gS rfl (gS rfl (gS rfl (gS rfl (gS rfl (gS rfl (gS rfl (gS rfl (gS rfl (gS rfl (gS rfl (gS rfl (gS rfl (gS rfl (gS rfl (gS rfl (gS rfl (gS rfl g0))))))))))))))))))))))) (gS rfl (gS rfl (gS rfl (gS rfl (gS rfl (gS rfl (gS rfl (gS rfl (gS rfl (gS rfl (gS rfl (gS rfl (gS rfl (gS rfl (gS rfl (gS rfl (gS rfl (gS rfl (gS rfl (gS rfl (gS rfl (gS rfl g0)))))))))))))))))))))) g0 (fun g => ?_)
                                        refine c_condV (i := 63) g0 rfl (fun cB6 => ?_) (fun cB6 => ?_)
                                        · skip
                                          
                                          have e6 : q = 62 ∧ s.ret.length < argN f.stack 1 + argN f.stack 2 := ⟨hg6, of_decide_eq_true cB6⟩
                                          refine c_seq (fun K128 hK128 => ?_)
                                          exact (by
                                            refine c_region ?_
                                            refine l_step y_assignC ?_
                                            refine l_step y_assignC ?_
                                            refine l_nil ?_
                                            refine hK128 _ _ ?_
                                            refine fg2 6 7 (gS rfl g0) g0 (fun g => ?_)
                                            refine c_ret ?_
                                            refine hQ97 _ _ _ (in_ret ?_)
                                            repeat with_reducible refine then_ret ?_
                                            refine ret2 rfl (res_tmp (et (gS rfl g0) rfl)) (res_tmp (et g0 rfl)) ?_
                                            have jA : refA s f q = 8 := by rw [refA, if_neg e1, if_neg e2, if_neg e3, if_neg e4, if_neg e5, if_pos e6]
                                            rw [refN, if_neg (by rw [jA]; decide), jA]
                                            exact ⟨_, _, rfl, G, NV.nil _⟩)
                                        · skip
                                          
                                          have e6 : ¬ (q = 62 ∧ s.ret.length < argN f.stack 1 + argN f.stack 2) := fun h => of_decide_eq_false cB6 h.2
                                          refine c_skip ?_
                                          refine hQ97 _ _ _ (in_normal ?_)
                                          refine fK3 0 1 2 (gS rfl (gS rfl g0)) (gS rfl (gS rfl (gS rfl g0))) (gS rfl (gS rfl (gS rfl (gS rfl g0)))) (fun g => ?_)
                                          exact hJ4 _ _ ⟨g, _, rfl, (by rw [refA, if_neg e1, if_neg e2, if_neg e3, if_neg e4, if_neg e5, if_neg e6]), V4⟩))
                                  · skip
                                    have e6 : ¬ (q = 62 ∧ s.ret.length < argN f.stack 1 + argN f.stack 2) := by have := of_decide_eq_false q121; omega
                                    refine p_gskip (j := 2) (t := 66) (by exact rfl) (by exact rfl) (by exact rfl) (et g0 rfl) rfl rfl ?_
                                    refine p_gskip (j := 2) (t := 66) (by exact rfl) (by exact rfl) (by exact rfl) (et (gS rfl g0) rfl) rfl rfl ?_
                                    refine p_gskip (j := 2) (t := 66) (by exact rfl) (by exact rfl) (by exact rfl) (et (gS rfl (gS rfl g0)) rfl) rfl rfl ?_
                                    refine p_gskip (j := 2) (t := 66) (by exact rfl) (by exact rfl) (by exact rfl) (et (gS rfl (gS rfl (gS rfl g0))) rfl) rfl rfl ?_
                                    refine p_gskip (j := 2) (t := 66) (by exact rfl) (by exact rfl) (by exact rfl) (et (gS rfl (gS rfl (gS rfl (gS rfl g0)))) rfl) rfl rfl ?_
                                    refine p_gskip (j := 2) (t := 66) (by exact rfl) (by exact rfl) (by exact rfl) (et (gS rfl (gS rfl (gS rfl (gS rfl (gS rfl g0))))) rfl) rfl rfl ?_
                                    refine p_gskip (j := 2) (t := 66) (by exact rfl) (by exact rfl) (by exact rfl) (et (gS rfl (gS rfl (gS rfl (gS rfl (gS rfl (gS rfl g0)))))) rfl) rfl rfl ?_
                                    refine p_gskip (j := 2) (t := 66) (by exact rfl) (by exact rfl) (by exact rfl) (et (gS rfl (gS rfl (gS rfl (gS rfl (gS rfl (gS rfl (gS rfl g0))))))) rfl) rfl rfl ?_
                                    refine p_geskip (j := 2) (t := 66) (by exact rfl) (by exact rfl) (by exact rfl) (et (gS rfl (gS rfl (gS rfl (gS rfl (gS rfl (gS rfl (gS rfl (gS rfl g0)))))))) rfl) rfl rfl ⟨.inr SU, ?_⟩
                                    refine p_geskip (j := 2) (t := 66) (by exact rfl) (by exact rfl) (by exact rfl) (et (gS rfl (gS rfl (gS rfl (gS rfl (gS rfl (gS rfl (gS rfl (gS rfl (gS rfl g0))))))))) rfl) rfl rfl ⟨.inr SU, ?_⟩
                                    refine p_geskip (j := 2) (t := 66) (by exact rfl) (by exact rfl) (by exact rfl) (et (gS rfl (gS rfl (gS rfl (gS rfl (gS rfl (gS rfl (gS rfl (gS rfl (gS rfl (gS rfl g0)))))))))) rfl) rfl rfl ⟨.inr SU, ?_⟩
                                    refine p_geskip (j := 2) (t := 66) (by exact rfl) (by exact rfl) (by exact rfl) (et (gS rfl (gS rfl (gS rfl (gS rfl (gS rfl (gS rfl (gS rfl (gS rfl (gS rfl (gS rfl (gS rfl g0))))))))))) rfl) rfl rfl ⟨.inr SU, ?_⟩
                                    refine p_geskip (j := 2) (t := 66) (by exact rfl) (by exact rfl) (by exact rfl) (et (gS rfl (gS rfl (gS rfl (gS rfl (gS rfl (gS rfl (gS rfl (gS rfl (gS rfl (gS rfl (gS rfl (gS rfl g0)))))))))))) rfl) rfl rfl ⟨.inr SU, ?_⟩
                                    refine p_gskip (j := 2) (t := 66) (by exact rfl) (by exact rfl) (by exact rfl) (et (gS rfl (gS rfl (gS rfl (gS rfl (gS rfl (gS rfl (gS rfl (gS rfl (gS rfl (gS rfl (gS rfl (gS rfl (gS rfl g0))))))))))))) rfl) rfl rfl ?_
                                    refine p_step (by exact rfl) (y_pickF (et (gS rfl (gS rfl (gS rfl (gS rfl (gS rfl (gS rfl (gS rfl (gS rfl (gS rfl (gS rfl (gS rfl (gS rfl (gS rfl (gS rfl g0)))))))))))))) rfl) rfl) ?_
                                    refine p_step (by exact rfl) (y_assignV (et g0 rfl)) ?_
                                    refine p_nil ?_
                                    refine hK119 _ _ ?_
                                    refine fg4 2 1 0 63 (gS rfl (gS rfl (gS rfl (gS rfl (gS rfl (gS rfl (gS rfl (gS rfl (gS rfl (gS rfl (gS rfl (gS rfl (gS rfl (gS rfl (gS rfl (gS rfl (gS rfl (gS rfl (gS rfl (gS rfl (gS rfl (gS rfl (gS rfl (gS rfl g0)))))))))))))))))))))))) (gS rfl (gS rfl (gS rfl (gS rfl (gS rfl (gS rfl (gS rfl (gS rfl (gS rfl (gS rfl (gS rfl (gS rfl (gS rfl (gS rfl (gS rfl (gS rfl (gS rfl (gS rfl (gS rfl (gS rfl (gS rfl (gS rfl (gS rfl g0))))))))))))))))))))))) (gS rfl (gS rfl (gS rfl (gS rfl (gS rfl (gS rfl (gS rfl (gS rfl (gS rfl (gS rfl (gS rfl (gS rfl (gS rfl (gS rfl (gS rfl (gS rfl (gS rfl (gS rfl (gS rfl (gS rfl (gS rfl (gS rfl g0)))))))))))))))))))))) g0 (fun g => ?_)
                                    refine c_false (et g0 rfl) rfl ?_
                                    refine c_skip ?_
                                    refine hQ97 _ _ _ (in_normal ?_)
                                    refine fK3 0 1 2 (gS rfl g0) (gS rfl (gS rfl g0)) (gS rfl (gS rfl (gS rfl g0))) (fun g => ?_)
                                    exact hJ4 _ _ ⟨g, _, rfl, (by rw [refA, if_neg e1, if_neg e2, if_neg e3, if_neg e4, if_neg e5, if_neg e6]), V4⟩))
                          · skip
                            have e5 : ¬ ((q = 240 ∨ q = 245) ∧ 512 < argN f.stack 2) := by simp at q113; omega
                            refine l_gskip (j := 6) (t := 56) (by exact rfl) (by exact rfl) (et g0 rfl) (by decide) (by decide) ?_
                            refine l_gskip (j := 6) (t := 56) (by exact rfl) (by exact rfl) (et (gS rfl g0) rfl) (by decide) (by decide) ?_
                            refine l_gskip (j := 6) (t := 56) (by exact rfl) (by exact rfl) (et (gS rfl (gS rfl g0)) rfl) (by decide) (by decide) ?_
                            refine l_gskip (j := 6) (t := 56) (by exact rfl) (by exact rfl) (et (gS rfl (gS rfl (gS rfl g0))) rfl) (by decide) (by decide) ?_
                            refine l_gskip (j := 6) (t := 56) (by exact rfl) (by exact rfl) (et (gS rfl (gS rfl (gS rfl (gS rfl g0)))) rfl) (by decide) (by decide) ?_
                            refine l_step (y_pickF (et (gS rfl (gS rfl (gS rfl (gS rfl (gS rfl g0))))) rfl) rfl) ?_
                            refine l_step (y_assignV (et g0 rfl)) ?_
                            refine l_nil ?_
                            refine hK112 _ _ ?_
                            refine fg4 2 1 0 49 (gS rfl (gS rfl (gS rfl (gS rfl (gS rfl (gS rfl (gS rfl (gS rfl (gS rfl (gS rfl (gS rfl (gS rfl (gS rfl (gS rfl (gS rfl (gS rfl (gS rfl (gS rfl (gS rfl g0))))))))))))))))))) (gS rfl (gS rfl (gS rfl (gS rfl (gS rfl (gS rfl (gS rfl (gS rfl (gS rfl (gS rfl (gS rfl (gS rfl (gS rfl (gS rfl (gS rfl (gS rfl (gS rfl (gS rfl g0)))))))))))))))))) (gS rfl (gS rfl (gS rfl (gS rfl (gS rfl (gS rfl (gS rfl (gS rfl (gS rfl (gS rfl (gS rfl (gS rfl (gS rfl (gS rfl (gS rfl (gS rfl (gS rfl g0))))))))))))))))) g0 (fun g => ?_)
                            refine c_false (et g0 rfl) rfl ?_
                            refine c_seq (fun K131 hK131 => ?_)
                            exact (by
                              refine c_draw Up 19 [(0, true), (1, true), (2, true), (3, true), (5, true), (8, true), (9, true), (10, true), (11, true), (12, true), (13, true), (4, false), (6, false), (7, false), (14, false), (15, false), (16, true), (17, true), (18, true)] (by kernel_rfl) (fun w132 hu => ⟨Up.refl _, ?_⟩)
                              replace G := G.tr (Go.ofUp hF hu)
                              replace V4 := V4.tr (Go.ofUp hF hu)
                              replace hF := hF.up hu
                              replace kS := kS.up hu
                              replace kF := kF.up hu
                              replace kM := kM.up hu
                              replace U := U.tr hu
                              have SU := Up.refl w132
                              refine p_step (by exact rfl) (y_moveV (et (gS rfl (gS rfl (gS rfl g0))) rfl)) ?_
                              refine p_step (by exact rfl) (y_eql (et g0 rfl) rfl) ?_
                              refine p_step (by exact rfl) (y_moveV (et g0 rfl)) ?_
                              refine gsplitP (i := 66) g0 (fun q133 => ?_) (fun q133 => ?_)
                              · skip
                                have hg6 : q = 62 := by have := of_decide_eq_true q133; omega
                                refine p_gstep (j := 2) (t := 66) (by exact rfl) (by exact rfl) (by exact rfl) (et g0 rfl) rfl (y_moveV (et (gS rfl (gS rfl (gS rfl (gS rfl (gS rfl (gS rfl g0)))))) rfl)) ?_
                                refine p_gstep (j := 2) (t := 66) (by exact rfl) (by exact rfl) (by exact rfl) (et (gS rfl g0) rfl) rfl (y_moveV (et (gS rfl (gS rfl (gS rfl (gS rfl (gS rfl (gS rfl (gS rfl g0))))))) rfl)) ?_
                                refine p_gstep (j := 2) (t := 66) (by exact rfl) (by exact rfl) (by exact rfl) (et (gS rfl (gS rfl g0)) rfl) rfl (y_moveV (et (gS rfl (gS rfl (gS rfl (gS rfl (gS rfl (gS rfl (gS rfl g0))))))) rfl)) ?_
                                refine p_gstep (j := 2) (t := 66) (by exact rfl) (by exact rfl) (by exact rfl) (et (gS rfl (gS rfl (gS rfl g0))) rfl) rfl (y_nil (et g0 rfl)) ?_
                                refine p_gstep (j := 2) (t := 66) (by exact rfl) (by exact rfl) (by exact rfl) (et (gS rfl (gS rfl (gS rfl (gS rfl g0)))) rfl) rfl (y_fld fld_102_3 (et g0 rfl)) ?_
                                refine p_gstep (j := 2) (t := 66) (by exact rfl) (by exact rfl) (by exact rfl) (et (gS rfl (gS rfl (gS rfl (gS rfl (gS rfl g0))))) rfl) rfl (y_load1 one_38 (et g0 rfl) (atS (kS.cell (rS 10 _ rfl)))) ?_
                                refine p_gstep (j := 2) (t := 66) (by exact rfl) (by exact rfl) (by exact rfl) (et (gS rfl (gS rfl (gS rfl (gS rfl (gS rfl (gS rfl g0)))))) rfl) rfl (y_len Hvaa.underlying38 (et g0 rfl)) ?_
                                refine p_gstep (j := 2) (t := 66) (by exact rfl) (by exact rfl) (by exact rfl) (et (gS rfl (gS rfl (gS rfl (gS rfl (gS rfl (gS rfl (gS rfl g0))))))) rfl) rfl (y_conv Hvaa.underlying3 Hvaa.underlying26 (et g0 rfl) (wrapU_id uk64 ?_)) ?_
                                omega
                                refine p_geff (j := 2) (t := 66) (by exact rfl) (by exact rfl) (by exact rfl) (et (gS rfl (gS rfl (gS rfl (gS rfl (gS rfl (gS rfl (gS rfl (gS rfl g0)))))))) rfl) rfl (e_callV cal_63 (aC (et (gS rfl (gS rfl (gS rfl (gS rfl (gS rfl (gS rfl (gS rfl g0))))))) rfl) (aC (v := .int .i64 ((1 : Nat) : Int)) rfl aN)) (yp_arg _ _ 1 _ _ _ _ _ _ hF kF (rF 8 _ rfl) (hSt.mono hL0) (by omega) (by first | decide | omega))) (fun v134 w134 h134 => ?_)
                                obtain ⟨u134, n134, q134⟩ := h134
                                replace G := G.tr (Go.ofUp hF u134)
                                replace V4 := V4.tr (Go.ofUp hF u134)
                                replace hF := hF.up u134
                                replace kS := kS.up u134
                                replace kF := kF.up u134
                                replace kM := kM.up u134
                                replace U := U.tr u134
                                refine ⟨.inr (SU.tr u134), ?_⟩
                                replace SU := SU.tr u134
                                refine p_geff (j := 2) (t := 66) (by exact rfl) (by exact rfl) (by exact rfl) (et (gS rfl (gS rfl (gS rfl (gS rfl (gS rfl (gS rfl (gS rfl (gS rfl (gS rfl g0))))))))) rfl) rfl (e_callV cal_63 (aC (et (gS rfl (gS rfl (gS rfl (gS rfl (gS rfl (gS rfl (gS rfl g0))))))) rfl) (aC (v := .int .i64 ((2 : Nat) : Int)) rfl aN)) (yp_arg _ _ 2 _ _ _ _ _ _ hF kF (rF 8 _ rfl) (hSt.mono hL0) (by omega) (by first | decide | omega))) (fun v135 w135 h135 => ?_)
                                obtain ⟨u135, n135, q135⟩ := h135
                                replace G := G.tr (Go.ofUp hF u135)
                                replace V4 := V4.tr (Go.ofUp hF u135)
                                replace hF := hF.up u135
                                replace kS := kS.up u135
                                replace kF := kF.up u135
                                replace kM := kM.up u135
                                replace U := U.tr u135
                                refine ⟨.inr (SU.tr u135), ?_⟩
                                replace SU := SU.tr u135
                                exact (by
                                  refine p_geff (j := 2) (t := 66) (by exact rfl) (by exact rfl) (by exact rfl) (et (gS rfl (gS rfl (gS rfl (gS rfl (gS rfl (gS rfl (gS rfl (gS rfl (gS rfl (gS rfl g0)))))))))) rfl) rfl (e_callV cal_34 (aC (et (gS rfl g0) rfl) (aC (et g0 rfl) aN)) (nat_add hF n134 n135 (bd_sm (bd_W q134) (by decide)) (bd_sm (bd_W q135) (by decide)))) (fun v136 w136 h136 => ?_)
                                  obtain ⟨H136, g136, n136⟩ := h136
                                  have hlew136 := g136.le
                                  replace n134 := n134.mono hlew136
                                  replace n135 := n135.mono hlew136
                                  replace hL0 := hL0.trans hlew136
                                  replace kS := kS.up g136.up
                                  replace kF := kF.up g136.up
                                  replace kM := kM.up g136.up
                                  replace U := U.tr g136.up
                                  replace G := G.tr g136
                                  replace V4 := V4.tr g136
                                  replace hF := g136.fz
                                  have q136 := bd_add (c := 33) (bd_W q134) (bd_W q135) (by decide)
                                  refine ⟨.inr (SU.tr g136.up), ?_⟩
                                  replace SU := SU.tr g136.up
                                  refine p_geff (j := 2) (t := 66) (by exact rfl) (by exact rfl) (by exact rfl) (et (gS rfl (gS rfl (gS rfl (gS rfl (gS rfl (gS rfl (gS rfl (gS rfl (gS rfl (gS rfl (gS rfl g0))))))))))) rfl) rfl (e_callV cal_32 (aC (et (gS rfl (gS rfl (gS rfl g0))) rfl) aN) (yp_num hF (show s.ret.length < 18446744073709551616 by omega))) (fun v137 w137 h137 => ?_)
                                  obtain ⟨H137, g137, n137⟩ := h137
                                  have hlew137 := g137.le
                                  replace n134 := n134.mono hlew137
                                  replace n135 := n135.mono hlew137
                                  replace n136 := n136.mono hlew137
                                  replace hL0 := hL0.trans hlew137
                                  replace kS := kS.up g137.up
                                  replace kF := kF.up g137.up
                                  replace kM := kM.up g137.up
                                  replace U := U.tr g137.up
                                  replace G := G.tr g137
                                  replace V4 := V4.tr g137
                                  replace hF := g137.fz
                                  have q137 := bd_64 (show s.ret.length < 18446744073709551616 by omega)
                                  refine ⟨.inr (SU.tr g137.up), ?_⟩
                                  replace SU := SU.tr g137.up
                                  exact (by
                                    refine p_geff (j := 2) (t := 66) (by exact rfl) (by exact rfl) (by exact rfl) (et (gS rfl (gS rfl (gS rfl (gS rfl (gS rfl (gS rfl (gS rfl (gS rfl (gS rfl (gS rfl (gS rfl (gS rfl g0)))))))))))) rfl) rfl (e_callV cal_121 (aC (et (gS rfl g0) rfl) (aC (et g0 rfl) aN)) (nat_cmp hF n136 n137 (bd_sm q136 (by decide)) (bd_sm q137 (by decide)))) (fun v138 w138 h138 => ?_)
                                    obtain ⟨rfl, u138⟩ := h138
                                    replace G := G.tr (Go.ofUp hF u138)
                                    replace V4 := V4.tr (Go.ofUp hF u138)
                                    replace hF := hF.up u138
                                    replace kS := kS.up u138
                                    replace kF := kF.up u138
                                    replace kM := kM.up u138
                                    replace U := U.tr u138
                                    refine ⟨.inr (SU.tr u138), ?_⟩
                                    replace SU := SU.tr u138
                                    refine p_gstep (j := 2) (t := 66) (by exact rfl) (by exact rfl) (by exact rfl) (et (gS rfl (gS rfl (gS rfl (gS rfl (gS rfl (gS rfl (gS rfl (gS rfl (gS rfl (gS rfl (gS rfl (gS rfl (gS rfl g0))))))))))))) rfl) rfl ((y_gtr (et g0 rfl) rfl).to (congrArg Value.bool (cmp_gt0 _ _))) ?_
                                    refine p_step (by exact rfl) (y_pickT (et (gS rfl (gS rfl (gS rfl (gS rfl (gS rfl (gS rfl (gS rfl (gS rfl (gS rfl (gS rfl (gS rfl (gS rfl (gS rfl (gS rfl g0)))))))))))))) rfl) (et g0 rfl)) ?_
                                    refine p_step (by exact rfl) (y_assignV (et g0 rfl)) ?_
                                    refine p_nil ?_
                                    refine hK131 _ _ ?_
                                    refine fg4 2 1 0 63 (gS rfl (gS rfl (gS rfl (gS rfl (gS rfl (gS rfl (gS rfl (gS rfl (gS rfl (gS rfl (gS rfl (gS rfl (gS rfl (gS rfl (gS rfl (gS rfl (gS rfl (gS rfl (gS rfl (gS rfl (gS rfl (gS rfl (gS rfl g0))))))))))))))))))))))) (gS rfl (gS rfl (gS rfl (gS rfl (gS rfl (gS rfl (gS rfl (gS rfl (gS rfl (gS rfl (gS rfl (gS rfl (gS rfl (gS rfl (gS rfl (gS rfl (gS rfl (gS rfl (gS rfl (gS rfl (gS rfl (gS rfl g0)))))))))))))))))))))) (gS rfl (gS rfl (gS rfl (gS rfl (gS rfl (gS rfl (gS rfl (gS rfl (gS rfl (gS rfl (gS rfl (gS rfl (gS rfl (gS rfl (gS rfl (gS rfl (gS rfl (gS rfl (gS rfl (gS rfl (gS rfl g0))))))))))))))))))))) g0 (fun g => ?_)
                                    refine c_condV (i := 63) g0 rfl (fun cB6 => ?_) (fun cB6 => ?_)
                                    · skip
                                      
                                      have e6 : q = 62 ∧ s.ret.length < argN f.stack 1 + argN f.stack 2 := ⟨hg6, of_decide_eq_true cB6⟩
                                      refine c_seq (fun K140 hK140 => ?_)
                                      exact (by
                                        refine c_region ?_
                                        refine l_step y_assignC ?_
                                        refine l_step y_assignC ?_
                                        refine l_nil ?_
                                        refine hK140 _ _ ?_
                                        refine fg2 6 7 (gS rfl g0) g0 (fun g => ?_)
                                        refine c_ret ?_
                                        refine hQ97 _ _ _ (in_ret ?_)
                                        repeat with_reducible refine then_ret ?_
                                        refine ret2 rfl (res_tmp (et (gS rfl g0) rfl)) (res_tmp (et g0 rfl)) ?_
                                        have jA : refA s f q = 8 := by rw [refA, if_neg e1, if_neg e2, if_neg e3, if_neg e4, if_neg e5, if_pos e6]
                                        rw [refN, if_neg (by rw [jA]; decide), jA]
                                        exact ⟨_, _, rfl, G, NV.nil _⟩)
                                    · skip
                                      
                                      have e6 : ¬ (q = 62 ∧ s.ret.length < argN f.stack 1 + argN f.stack 2) := fun h => of_decide_eq_false cB6 h.2
                                      refine c_skip ?_
                                      refine hQ97 _ _ _ (in_normal ?_)
                                      refine fK3 0 1 2 (gS rfl (gS rfl g0)) (gS rfl (gS rfl (gS rfl g0))) (gS rfl (gS rfl (gS rfl (gS rfl g0)))) (fun g => ?_)
                                      exact hJ4 _ _ ⟨g, _, rfl, (by rw [refA, if_neg e1, if_neg e2, if_neg e3, if_neg e4, if_neg e5, if_neg e6]), V4⟩))
                              · skip
                                have e6 : ¬ (q = 62 ∧ s.ret.length < argN f.stack 1 + argN f.stack 2) := by have := of_decide_eq_false q133; omega
                                refine p_gskip (j := 2) (t := 66) (by exact rfl) (by exact rfl) (by exact rfl) (et g0 rfl) rfl rfl ?_
                                refine p_gskip (j := 2) (t := 66) (by exact rfl) (by exact rfl) (by exact rfl) (et (gS rfl g0) rfl) rfl rfl ?_
                                refine p_gskip (j := 2) (t := 66) (by exact rfl) (by exact rfl) (by exact rfl) (et (gS rfl (gS rfl g0)) rfl) rfl rfl ?_
                                refine p_gskip (j := 2) (t := 66) (by exact rfl) (by exact rfl) (by exact rfl) (et (gS rfl (gS rfl (gS rfl g0))) rfl) rfl rfl ?_
                                refine p_gskip (j := 2) (t := 66) (by exact rfl) (by exact rfl) (by exact rfl) (et (gS rfl (gS rfl (gS rfl (gS rfl g0)))) rfl) rfl rfl ?_
                                refine p_gskip (j := 2) (t := 66) (by exact rfl) (by exact rfl) (by exact rfl) (et (gS rfl (gS rfl (gS rfl (gS rfl (gS rfl g0))))) rfl) rfl rfl ?_
                                refine p_gskip (j := 2) (t := 66) (by exact rfl) (by exact rfl) (by exact rfl) (et (gS rfl (gS rfl (gS rfl (gS rfl (gS rfl (gS rfl g0)))))) rfl) rfl rfl ?_
                                refine p_gskip (j := 2) (t := 66) (by exact rfl) (by exact rfl) (by exact rfl) (et (gS rfl (gS rfl (gS rfl (gS rfl (gS rfl (gS rfl (gS rfl g0))))))) rfl) rfl rfl ?_
                                refine p_geskip (j := 2) (t := 66) (by exact rfl) (by exact rfl) (by exact rfl) (et (gS rfl (gS rfl (gS rfl (gS rfl (gS rfl (gS rfl (gS rfl (gS rfl g0)))))))) rfl) rfl rfl ⟨.inr SU, ?_⟩
                                refine p_geskip (j := 2) (t := 66) (by exact rfl) (by exact rfl) (by exact rfl) (et (gS rfl (gS rfl (gS rfl (gS rfl (gS rfl (gS rfl (gS rfl (gS rfl (gS rfl g0))))))))) rfl) rfl rfl ⟨.inr SU, ?_⟩
                                refine p_geskip (j := 2) (t := 66) (by exact rfl) (by exact rfl) (by exact rfl) (et (gS rfl (gS rfl (gS rfl (gS rfl (gS rfl (gS rfl (gS rfl (gS rfl (gS rfl (gS rfl g0)))))))))) rfl) rfl rfl ⟨.inr SU, ?_⟩
                                refine p_geskip (j := 2) (t := 66) (by exact rfl) (by exact rfl) (by exact rfl) (et (gS rfl (gS rfl (gS rfl (gS rfl (gS rfl (gS rfl (gS rfl (gS rfl (gS rfl (gS rfl (gS rfl g0))))))))))) rfl) rfl rfl ⟨.inr SU, ?_⟩
                                refine p_geskip (j := 2) (t := 66) (by exact rfl) (by exact rfl) (by exact rfl) (et (gS rfl (gS rfl (gS rfl (gS rfl (gS rfl (gS rfl (gS rfl (gS rfl (gS rfl (gS rfl (gS rfl (gS rfl g0)))))))))))) rfl) rfl rfl ⟨.inr SU, ?_⟩
                                refine p_gskip (j := 2) (t := 66) (by exact rfl) (by exact rfl) (by exact rfl) (et (gS rfl (gS rfl (gS rfl (gS rfl (gS rfl (gS rfl (gS rfl (gS rfl (gS rfl (gS rfl (gS rfl (gS rfl (gS rfl g0))))))))))))) rfl) rfl rfl ?_
                                refine p_step (by exact rfl) (y_pickF (et (gS rfl (gS rfl (gS rfl (gS rfl (gS rfl (gS rfl (gS rfl (gS rfl (gS rfl (gS rfl (gS rfl (gS rfl (gS rfl (gS rfl g0)))))))))))))) rfl) rfl) ?_
                                refine p_step (by exact rfl) (y_assignV (et g0 rfl)) ?_
                                refine p_nil ?_
                                refine hK131 _ _ ?_
                                refine fg4 2 1 0 63 (gS rfl (gS rfl (gS rfl (gS rfl (gS rfl (gS rfl (gS rfl (gS rfl (gS rfl (gS rfl (gS rfl (gS rfl (gS rfl (gS rfl (gS rfl (gS rfl (gS rfl (gS rfl (gS rfl (gS rfl (gS rfl (gS rfl (gS rfl g0))))))))))))))))))))))) (gS rfl (gS rfl (gS rfl (gS rfl (gS rfl (gS rfl (gS rfl (gS rfl (gS rfl (gS rfl (gS rfl (gS rfl (gS rfl (gS rfl (gS rfl (gS rfl (gS rfl (gS rfl (gS rfl (gS rfl (gS rfl (gS rfl g0)))))))))))))))))))))) (gS rfl (gS rfl (gS rfl (gS rfl (gS rfl (gS rfl (gS rfl (gS rfl (gS rfl (gS rfl (gS rfl (gS rfl (gS rfl (gS rfl (gS rfl (gS rfl (gS rfl (gS rfl (gS rfl (gS rfl (gS rfl g0))))))))))))))))))))) g0 (fun g => ?_)
                                refine c_false (et g0 rfl) rfl ?_
                                refine c_skip ?_
                                refine hQ97 _ _ _ (in_normal ?_)
                                refine fK3 0 1 2 (gS rfl g0) (gS rfl (gS rfl g0)) (gS rfl (gS rfl (gS rfl g0))) (fun g => ?_)
                                exact hJ4 _ _ ⟨g, _, rfl, (by rw [refA, if_neg e1, if_neg e2, if_neg e3, if_neg e4, if_neg e5, if_neg e6]), V4⟩))
                    · skip
                      have e4 : ¬ (f.static = true ∧ wrtN f q = true) := fun h => by rw [h.1] at q108; cases q108
                      refine l_gskip (j := 4) (t := 44) (by exact rfl) (by exact rfl) (et g0 rfl) (by decide) (by decide) ?_
                      refine l_gskip (j := 4) (t := 44) (by exact rfl) (by exact rfl) (et (gS rfl g0) rfl) (by decide) (by decide) ?_
                      refine l_gskip (j := 4) (t := 44) (by exact rfl) (by exact rfl) (et (gS rfl (gS rfl g0)) rfl) (by decide) (by decide) ?_
                      refine l_step (y_pickF (et (gS rfl (gS rfl (gS rfl g0))) rfl) rfl) ?_
                      refine l_step (y_assignV (et g0 rfl)) ?_
                      refine l_nil ?_
                      refine hK107 _ _ ?_
                      refine fg4 2 1 0 39 (gS rfl (gS rfl (gS rfl (gS rfl (gS rfl (gS rfl (gS rfl (gS rfl (gS rfl (gS rfl (gS rfl (gS rfl (gS rfl (gS rfl (gS rfl g0))))))))))))))) (gS rfl (gS rfl (gS rfl (gS rfl (gS rfl (gS rfl (gS rfl (gS rfl (gS rfl (gS rfl (gS rfl (gS rfl (gS rfl (gS rfl g0)))))))))))))) (gS rfl (gS rfl (gS rfl (gS rfl (gS rfl (gS rfl (gS rfl (gS rfl (gS rfl (gS rfl (gS rfl (gS rfl (gS rfl g0))))))))))))) g0 (fun g => ?_)
                      refine c_false (et g0 rfl) rfl ?_
                      refine c_seq (fun K143 hK143 => ?_)
                      exact (by
                        refine c_region ?_
                        refine l_step (y_moveV (et (gS rfl (gS rfl (gS rfl g0))) rfl)) ?_
                        refine l_step (y_eql (et g0 rfl) rfl) ?_
                        refine l_step (y_moveV (et g0 rfl)) ?_
                        refine l_gpure (j := 2) (t := 52) (by exact rfl) (by exact rfl) (et g0 rfl) rfl (fun hc => (y_moveV (et (gS rfl (gS rfl (gS rfl (gS rfl (gS rfl (gS rfl g0)))))) rfl))) ?_
                        refine l_gpure (j := 2) (t := 52) (by exact rfl) (by exact rfl) (et (gS rfl g0) rfl) rfl (fun hc => (y_eql (et (cT g0 hc) rfl) rfl)) ?_
                        refine l_step (y_pickO (et (gS rfl (gS rfl g0)) rfl) rfl (et g0 rfl)) ?_
                        refine l_step (y_moveV (et g0 rfl)) ?_
                        refine gsplitL (i := 56) g0 (fun q144 => ?_) (fun q144 => ?_)
                        · skip
                          have hg5 : q = 240 ∨ q = 245 := by simp at q144; omega
                          refine l_gstep (j := 6) (t := 56) (by exact rfl) (by exact rfl) (et g0 rfl) (by decide) (y_moveV (et (gS rfl (gS rfl (gS rfl (gS rfl (gS rfl (gS rfl (gS rfl (gS rfl (gS rfl (gS rfl g0)))))))))) rfl)) ?_
                          refine l_geff (j := 6) (t := 56) (by exact rfl) (by exact rfl) (et (gS rfl g0) rfl) rfl (e_callV cal_63 (aC (et g0 rfl) (aC (v := .int .i64 ((2 : Nat) : Int)) rfl aN)) (yp_arg _ _ 2 _ _ _ _ _ _ hF kF (rF 8 _ rfl) (hSt.mono hL0) (by omega) (by first | decide | omega))) (fun v145 w145 h145 => ?_)
                          obtain ⟨u145, n145, q145⟩ := h145
                          replace G := G.tr (Go.ofUp hF u145)
                          replace V4 := V4.tr (Go.ofUp hF u145)
                          replace hF := hF.up u145
                          replace kS := kS.up u145
                          replace kF := kF.up u145
                          replace kM := kM.up u145
                          replace U := U.tr u145
                          refine l_geff (j := 6) (t := 56) (by exact rfl) (by exact rfl) (et (gS rfl (gS rfl g0)) rfl) rfl (e_callV cal_32 (aC (v := .int .u64 ((512 : Nat) : Int)) rfl aN) (yp_num (x := 512) hF (by decide))) (fun v146 w146 h146 => ?_)
                          obtain ⟨H146, g146, n146⟩ := h146
                          have hlew146 := g146.le
                          replace n145 := n145.mono hlew146
                          replace hL0 := hL0.trans hlew146
                          replace kS := kS.up g146.up
                          replace kF := kF.up g146.up
                          replace kM := kM.up g146.up
                          replace U := U.tr g146.up
                          replace G := G.tr g146
                          replace V4 := V4.tr g146
                          replace hF := g146.fz
                          have q146 : 512 < 256 ^ 2 := by decide
                          refine l_geff (j := 6) (t := 56) (by exact rfl) (by exact rfl) (et (gS rfl (gS rfl (gS rfl g0))) rfl) rfl (e_callV cal_121 (aC (et (gS rfl g0) rfl) (aC (et g0 rfl) aN)) (nat_cmp hF n145 n146 (bd_sm (bd_W q145) (by decide)) (bd_sm q146 (by decide)))) (fun v147 w147 h147 => ?_)
                          obtain ⟨rfl, u147⟩ := h147
                          replace G := G.tr (Go.ofUp hF u147)
                          replace V4 := V4.tr (Go.ofUp hF u147)
                          replace hF := hF.up u147
                          replace kS := kS.up u147
                          replace kF := kF.up u147
                          replace kM := kM.up u147
                          replace U := U.tr u147
                          exact (by
                            refine l_gstep (j := 6) (t := 56) (by exact rfl) (by exact rfl) (et (gS rfl (gS rfl (gS rfl (gS rfl g0)))) rfl) (by decide) ((y_gtr (et g0 rfl) rfl).to (congrArg Value.bool (cmp_gt0 _ _))) ?_
                            refine l_step (y_pickT (et (gS rfl (gS rfl (gS rfl (gS rfl (gS rfl g0))))) rfl) (et g0 rfl)) ?_
                            refine l_step (y_assignV (et g0 rfl)) ?_
                            refine l_nil ?_
                            refine hK143 _ _ ?_
                            refine fg4 2 1 0 49 (gS rfl (gS rfl (gS rfl (gS rfl (gS rfl (gS rfl (gS rfl (gS rfl (gS rfl (gS rfl (gS rfl (gS rfl (gS rfl (gS rfl (gS rfl (gS rfl (gS rfl (gS rfl g0)))))))))))))))))) (gS rfl (gS rfl (gS rfl (gS rfl (gS rfl (gS rfl (gS rfl (gS rfl (gS rfl (gS rfl (gS rfl (gS rfl (gS rfl (gS rfl (gS rfl (gS rfl (gS rfl g0))))))))))))))))) (gS rfl (gS rfl (gS rfl (gS rfl (gS rfl (gS rfl (gS rfl (gS rfl (gS rfl (gS rfl (gS rfl (gS rfl (gS rfl (gS rfl (gS rfl (gS rfl g0)))))))))))))))) g0 (fun g => ?_)
                            refine c_condV (i := 49) g0 rfl (fun cB5 => ?_) (fun cB5 => ?_)
                            · skip
                              
                              have e5 : (q = 240 ∨ q = 245) ∧ 512 < argN f.stack 2 := ⟨hg5, of_decide_eq_true cB5⟩
                              refine c_seq (fun K149 hK149 => ?_)
                              exact (by
                                refine c_region ?_
                                refine l_step y_assignC ?_
                                refine l_step y_assignC ?_
                                refine l_nil ?_
                                refine hK149 _ _ ?_
                                refine fg2 6 7 (gS rfl g0) g0 (fun g => ?_)
                                refine c_ret ?_
                                refine hQ97 _ _ _ (in_ret ?_)
                                repeat with_reducible refine then_ret ?_
                                refine ret2 rfl (res_tmp (et (gS rfl g0) rfl)) (res_tmp (et g0 rfl)) ?_
                                have jA : refA s f q = 9 := by rw [refA, if_neg e1, if_neg e2, if_neg e3, if_neg e4, if_pos e5]
                                rw [refN, if_neg (by rw [jA]; decide), jA]
                                exact ⟨_, _, rfl, G, NV.nil _⟩)
                            · skip
                              
                              have e5 : ¬ ((q = 240 ∨ q = 245) ∧ 512 < argN f.stack 2) := fun h => of_decide_eq_false cB5 h.2
                              refine c_seq (fun K150 hK150 => ?_)
                              exact (by
                                refine c_draw Up 19 [(0, true), (1, true), (2, true), (3, true), (5, true), (8, true), (9, true), (10, true), (11, true), (12, true), (13, true), (4, false), (6, false), (7, false), (14, false), (15, false), (16, true), (17, true), (18, true)] (by kernel_rfl) (fun w151 hu => ⟨Up.refl _, ?_⟩)
                                replace G := G.tr (Go.ofUp hF hu)
                                replace V4 := V4.tr (Go.ofUp hF hu)
                                replace hF := hF.up hu
                                replace kS := kS.up hu
                                replace kF := kF.up hu
                                replace kM := kM.up hu
                                replace U := U.tr hu
                                have SU := Up.refl w151
                                refine p_step (by exact rfl) (y_moveV (et (gS rfl (gS rfl (gS rfl (gS rfl g0)))) rfl)) ?_
                                refine p_step (by exact rfl) (y_eql (et g0 rfl) rfl) ?_
                                refine p_step (by exact rfl) (y_moveV (et g0 rfl)) ?_
                                refine gsplitP (i := 66) g0 (fun q152 => ?_) (fun q152 => ?_)
                                · skip
                                  have hg6 : q = 62 := by have := of_decide_eq_true q152; omega
                                  refine p_gstep (j := 2) (t := 66) (by exact rfl) (by exact rfl) (by exact rfl) (et g0 rfl) rfl (y_moveV (et (gS rfl (gS rfl (gS rfl (gS rfl (gS rfl (gS rfl (gS rfl g0))))))) rfl)) ?_
                                  refine p_gstep (j := 2) (t := 66) (by exact rfl) (by exact rfl) (by exact rfl) (et (gS rfl g0) rfl) rfl (y_moveV (et (gS rfl (gS rfl (gS rfl (gS rfl (gS rfl (gS rfl (gS rfl (gS rfl g0)))))))) rfl)) ?_
                                  refine p_gstep (j := 2) (t := 66) (by exact rfl) (by exact rfl) (by exact rfl) (et (gS rfl (gS rfl g0)) rfl) rfl (y_moveV (et (gS rfl (gS rfl (gS rfl (gS rfl (gS rfl (gS rfl (gS rfl (gS rfl g0)))))))) rfl)) ?_
                                  refine p_gstep (j := 2) (t := 66) (by exact rfl) (by exact rfl) (by exact rfl) (et (gS rfl (gS rfl (gS rfl g0))) rfl) rfl (y_nil (et g0 rfl)) ?_
                                  refine p_gstep (j := 2) (t := 66) (by exact rfl) (by exact rfl) (by exact rfl) (et (gS rfl (gS rfl (gS rfl (gS rfl g0)))) rfl) rfl (y_fld fld_102_3 (et g0 rfl)) ?_
                                  refine p_gstep (j := 2) (t := 66) (by exact rfl) (by exact rfl) (by exact rfl) (et (gS rfl (gS rfl (gS rfl (gS rfl (gS rfl g0))))) rfl) rfl (y_load1 one_38 (et g0 rfl) (atS (kS.cell (rS 10 _ rfl)))) ?_
                                  refine p_gstep (j := 2) (t := 66) (by exact rfl) (by exact rfl) (by exact rfl) (et (gS rfl (gS rfl (gS rfl (gS rfl (gS rfl (gS rfl g0)))))) rfl) rfl (y_len Hvaa.underlying38 (et g0 rfl)) ?_
                                  refine p_gstep (j := 2) (t := 66) (by exact rfl) (by exact rfl) (by exact rfl) (et (gS rfl (gS rfl (gS rfl (gS rfl (gS rfl (gS rfl (gS rfl g0))))))) rfl) rfl (y_conv Hvaa.underlying3 Hvaa.underlying26 (et g0 rfl) (wrapU_id uk64 ?_)) ?_
                                  omega
                                  refine p_geff (j := 2) (t := 66) (by exact rfl) (by exact rfl) (by exact rfl) (et (gS rfl (gS rfl (gS rfl (gS rfl (gS rfl (gS rfl (gS rfl (gS rfl g0)))))))) rfl) rfl (e_callV cal_63 (aC (et (gS rfl (gS rfl (gS rfl (gS rfl (gS rfl (gS rfl (gS rfl g0))))))) rfl) (aC (v := .int .i64 ((1 : Nat) : Int)) rfl aN)) (yp_arg _ _ 1 _ _ _ _ _ _ hF kF (rF 8 _ rfl) (hSt.mono hL0) (by omega) (by first | decide | omega))) (fun v153 w153 h153 => ?_)
                                  obtain ⟨u153, n153, q153⟩ := h153
                                  replace G := G.tr (Go.ofUp hF u153)
                                  replace V4 := V4.tr (Go.ofUp hF u153)
                                  replace hF := hF.up u153
                                  replace kS := kS.up u153
                                  replace kF := kF.up u153
                                  replace kM := kM.up u153
                                  replace U := U.tr u153
                                  refine ⟨.inr (SU.tr u153), ?_⟩
                                  replace SU := SU.tr u153
                                  refine p_geff (j := 2) (t := 66) (by exact rfl) (by exact rfl) (by exact rfl) (et (gS rfl (gS rfl (gS rfl (gS rfl (gS rfl (gS rfl (gS rfl (gS rfl (gS rfl g0))))))))) rfl) rfl (e_callV cal_63 (aC (et (gS rfl (gS rfl (gS rfl (gS rfl (gS rfl (gS rfl (gS rfl g0))))))) rfl) (aC (v := .int .i64 ((2 : Nat) : Int)) rfl aN)) (yp_arg _ _ 2 _ _ _ _ _ _ hF kF (rF 8 _ rfl) (hSt.mono hL0) (by omega) (by first | decide | omega))) (fun v154 w154 h154 => ?_)
                                  obtain ⟨u154, n154, q154⟩ := h154
                                  replace G := G.tr (Go.ofUp hF u154)
                                  replace V4 := V4.tr (Go.ofUp hF u154)
                                  replace hF := hF.up u154
                                  replace kS := kS.up u154
                                  replace kF := kF.up u154
                                  replace kM := kM.up u154
                                  replace U := U.tr u154
                                  refine ⟨.inr (SU.tr u154), ?_⟩
                                  replace SU := SU.tr u154
                                  exact (by
                                    refine p_geff (j := 2) (t := 66) (by exact rfl) (by exact rfl) (by exact rfl) (et (gS rfl (gS rfl (gS rfl (gS rfl (gS rfl (gS rfl (gS rfl (gS rfl (gS rfl (gS rfl g0)))))))))) rfl) rfl (e_callV cal_34 (aC (et (gS rfl g0) rfl) (aC (et g0 rfl) aN)) (nat_add hF n153 n154 (bd_sm (bd_W q153) (by decide)) (bd_sm (bd_W q154) (by decide)))) (fun v155 w155 h155 => ?_)
                                    obtain ⟨H155, g155, n155⟩ := h155
                                    have hlew155 := g155.le
                                    replace n145 := n145.mono hlew155
                                    replace n146 := n146.mono hlew155
                                    replace n153 := n153.mono hlew155
                                    replace n154 := n154.mono hlew155
                                    replace hL0 := hL0.trans hlew155
                                    replace kS := kS.up g155.up
                                    replace kF := kF.up g155.up
                                    replace kM := kM.up g155.up
                                    replace U := U.tr g155.up
                                    replace G := G.tr g155
                                    replace V4 := V4.tr g155
                                    replace hF := g155.fz
                                    have q155 := bd_add (c := 33) (bd_W q153) (bd_W q154) (by decide)
                                    refine ⟨.inr (SU.tr g155.up), ?_⟩
                                    replace SU := SU.tr g155.up
                                    refine p_geff (j := 2) (t := 66) (by exact rfl) (by exact rfl) (by exact rfl) (et (gS rfl (gS rfl (gS rfl (gS rfl (gS rfl (gS rfl (gS rfl (gS rfl (gS rfl (gS rfl (gS rfl g0))))))))))) rfl) rfl (e_callV cal_32 (aC (et (gS rfl (gS rfl (gS rfl g0))) rfl) aN) (yp_num hF (show s.ret.length < 18446744073709551616 by omega))) (fun v156 w156 h156 => ?_)
                                    obtain ⟨H156, g156, n156⟩ := h156
                                    have hlew156 := g156.le
                                    replace n145 := n145.mono hlew156
                                    replace n146 := n146.mono hlew156
                                    replace n153 := n153.mono hlew156
                                    replace n154 := n154.mono hlew156
                                    replace n155 := n155.mono hlew156
                                    replace hL0 := hL0.trans hlew156
                                    replace kS := kS.up g156.up
                                    replace kF := kF.up g156.up
                                    replace kM := kM.up g156.up
                                    replace U := U.tr g156.up
                                    replace G := G.tr g156
                                    replace V4 := V4.tr g156
                                    replace hF := g156.fz
                                    have q156 := bd_64 (show s.ret.length < 18446744073709551616 by omega)
                                    refine ⟨.inr (SU.tr g156.up), ?_⟩
                                    replace SU := SU.tr g156.up
                                    exact (by
                                      refine p_geff (j := 2) (t := 66) (by exact rfl) (by exact rfl) (by exact rfl) (et (gS rfl (gS rfl (gS rfl (gS rfl (gS rfl (gS rfl (gS rfl (gS rfl (gS rfl (gS rfl (gS rfl (gS rfl g0)))))))))))) rfl) rfl (e_callV cal_121 (aC (et (gS rfl g0) rfl) (aC (et g0 rfl) aN)) (nat_cmp hF n155 n156 (bd_sm q155 (by decide)) (bd_sm q156 (by decide)))) (fun v157 w157 h157 => ?_)
                                      obtain ⟨rfl, u157⟩ := h157
                                      replace G := G.tr (Go.ofUp hF u157)
                                      replace V4 := V4.tr (Go.ofUp hF u157)
                                      replace hF := hF.up u157
                                      replace kS := kS.up u157
                                      replace kF := kF.up u157
                                      replace kM := kM.up u157
                                      replace U := U.tr u157
                                      refine ⟨.inr (SU.tr u157), ?_⟩
                                      replace SU := SU.tr u157
                                      refine p_gstep (j := 2) (t := 66) (by exact rfl) (by exact rfl) (by exact rfl) (et (gS rfl (gS rfl (gS rfl (gS rfl (gS rfl (gS rfl (gS rfl (gS rfl (gS rfl (gS rfl (gS rfl (gS rfl (gS rfl g0))))))))))))) rfl) rfl ((y_gtr (et g0 rfl) rfl).to (congrArg Value.bool (cmp_gt0 _ _))) ?_
                                      refine p_step (by exact rfl) (y_pickT (et (gS rfl (gS rfl (gS rfl (gS rfl (gS rfl (gS rfl (gS rfl (gS rfl (gS rfl (gS rfl (gS rfl (gS rfl (gS rfl (gS rfl g0)))))))))))))) rfl) (et g0 rfl)) ?_
                                      refine p_step (by exact rfl) (y_assignV (et g0 rfl)) ?_
                                      refine p_nil ?_
                                      refine hK150 _ _ ?_
                                      refine fg4 2 1 0 63 (gS rfl (gS rfl (gS rfl (gS rfl (gS rfl (gS rfl (gS rfl (gS rfl (gS rfl (gS rfl (gS rfl (gS rfl (gS rfl (gS rfl (gS rfl (gS rfl (gS rfl (gS rfl (gS rfl (gS rfl (gS rfl (gS rfl (gS rfl (gS rfl g0)))))))))))))))))))))))) (gS rfl (gS rfl (gS rfl (gS rfl (gS rfl (gS rfl (gS rfl (gS rfl (gS rfl (gS rfl (gS rfl (gS rfl (gS rfl (gS rfl (gS rfl (gS rfl (gS rfl (gS rfl (gS rfl (gS rfl (gS rfl (gS rfl (gS rfl g0))))))))))))))))))))))) (gS rfl (gS rfl (gS rfl (gS rfl (gS rfl (gS rfl (gS rfl (gS rfl (gS rfl (gS rfl (gS rfl (gS rfl (gS rfl (gS rfl (gS rfl (gS rfl (gS rfl (gS rfl (gS rfl (gS rfl (gS rfl (gS rfl g0)))))))))))))))))))))) g0 (fun g => ?_)
                                      refine c_condV (i := 63) g0 rfl (fun cB6 => ?_) (fun cB6 => ?_)
                                      · skip
                                        
                                        have e6 : q = 62 ∧ s.ret.length < argN f.stack 1 + argN f.stack 2 := ⟨hg6, of_decide_eq_true cB6⟩
                                        refine c_seq (fun K159 hK159 => ?_)
                                        exact (by
                                          refine c_region ?_
                                          refine l_step y_assignC ?_
                                          refine l_step y_assignC ?_
                                          refine l_nil ?_
                                          refine hK159 _ _ ?_
                                          refine fg2 6 7 (gS rfl g0) g0 (fun g => ?_)
                                          refine c_ret ?_
                                          refine hQ97 _ _ _ (in_ret ?_)
                                          repeat with_reducible refine then_ret ?_
                                          refine ret2 rfl (res_tmp (et (gS rfl g0) rfl)) (res_tmp (et g0 rfl)) ?_
                                          have jA : refA s f q = 8 := by rw [refA, if_neg e1, if_neg e2, if_neg e3, if_neg e4, if_neg e5, if_pos e6]
                                          rw [refN, if_neg (by rw [jA]; decide), jA]
                                          exact ⟨_, _, rfl, G, NV.nil _⟩)
                                      · skip
                                        
                                        have e6 : ¬ (q = 62 ∧ s.ret.length < argN f.stack 1 + argN f.stack 2) := fun h => of_decide_eq_false cB6 h.2
                                        refine c_skip ?_
                                        refine hQ97 _ _ _ (in_normal ?_)
                                        refine fK3 0 1 2 (gS rfl (gS rfl g0)) (gS rfl (gS rfl (gS rfl g0))) (gS rfl (gS rfl (gS rfl (gS rfl g0)))) (fun g => ?_)
                                        exact hJ4 _ _ ⟨g, _, rfl, (by rw [refA, if_neg e1, if_neg e2, if_neg e3, if_neg e4, if_neg e5, if_neg e6]), V4⟩))
                                · skip
                                  have e6 : ¬ (q = 62 ∧ s.ret.length < argN f.stack 1 + argN f.stack 2) := by have := of_decide_eq_false q152; omega
                                  refine p_gskip (j := 2) (t := 66) (by exact rfl) (by exact rfl) (by exact rfl) (et g0 rfl) rfl rfl ?_
                                  refine p_gskip (j := 2) (t := 66) (by exact rfl) (by exact rfl) (by exact rfl) (et (gS rfl g0) rfl) rfl rfl ?_
                                  refine p_gskip (j := 2) (t := 66) (by exact rfl) (by exact rfl) (by exact rfl) (et (gS rfl (gS rfl g0)) rfl) rfl rfl ?_
                                  refine p_gskip (j := 2) (t := 66) (by exact rfl) (by exact rfl) (by exact rfl) (et (gS rfl (gS rfl (gS rfl g0))) rfl) rfl rfl ?_
                                  refine p_gskip (j := 2) (t := 66) (by exact rfl) (by exact rfl) (by exact rfl) (et (gS rfl (gS rfl (gS rfl (gS rfl g0)))) rfl) rfl rfl ?_
                                  refine p_gskip (j := 2) (t := 66) (by exact rfl) (by exact rfl) (by exact rfl) (et (gS rfl (gS rfl (gS rfl (gS rfl (gS rfl g0))))) rfl) rfl rfl ?_
                                  refine p_gskip (j := 2) (t := 66) (by exact rfl) (by exact rfl) (by exact rfl) (et (gS rfl (gS rfl (gS rfl (gS rfl (gS rfl (gS rfl g0)))))) rfl) rfl rfl ?_
                                  refine p_gskip (j := 2) (t := 66) (by exact rfl) (by exact rfl) (by exact rfl) (et (gS rfl (gS rfl (gS rfl (gS rfl (gS rfl (gS rfl (gS rfl g0))))))) rfl) rfl rfl ?_
                                  refine p_geskip (j := 2) (t := 66) (by exact rfl) (by exact rfl) (by exact rfl) (et (gS rfl (gS rfl (gS rfl (gS rfl (gS rfl (gS rfl (gS rfl (gS rfl g0)))))))) rfl) rfl rfl ⟨.inr SU, ?_⟩
                                  refine p_geskip (j := 2) (t := 66) (by exact rfl) (by exact rfl) (by exact rfl) (et (gS rfl (gS rfl (gS rfl (gS rfl (gS rfl (gS rfl (gS rfl (gS rfl (gS rfl g0))))))))) rfl) rfl rfl ⟨.inr SU, ?_⟩
                                  refine p_geskip (j := 2) (t := 66) (by exact rfl) (by exact rfl) (by exact rfl) (et (gS rfl (gS rfl (gS rfl (gS rfl (gS rfl (gS rfl (gS rfl (gS rfl (gS rfl (gS rfl g0)))))))))) rfl) rfl rfl ⟨.inr SU, ?_⟩
                                  refine p_geskip (j := 2) (t := 66) (by exact rfl) (by exact rfl) (by exact rfl) (et (gS rfl (gS rfl (gS rfl (gS rfl (gS rfl (gS rfl (gS rfl (gS rfl (gS rfl (gS rfl (gS rfl g0))))))))))) rfl) rfl rfl ⟨.inr SU, ?_⟩
                                  refine p_geskip (j := 2) (t := 66) (by exact rfl) (by exact rfl) (by exact rfl) (et (gS rfl (gS rfl (gS rfl (gS rfl (gS rfl (gS rfl (gS rfl (gS rfl (gS rfl (gS rfl (gS rfl (gS rfl g0)))))))))))) rfl) rfl rfl ⟨.inr SU, ?_⟩
                                  refine p_gskip (j := 2) (t := 66) (by exact rfl) (by exact rfl) (by exact rfl) (et (gS rfl (gS rfl (gS rfl (gS rfl (gS rfl (gS rfl (gS rfl (gS rfl (gS rfl (gS rfl (gS rfl (gS rfl (gS rfl g0))))))))))))) rfl) rfl rfl ?_
                                  refine p_step (by exact rfl) (y_pickF (et (gS rfl (gS rfl (gS rfl (gS rfl (gS rfl (gS rfl (gS rfl (gS rfl (gS rfl (gS rfl (gS rfl (gS rfl (gS rfl (gS rfl g0)))))))))))))) rfl) rfl) ?_
                                  refine p_step (by exact rfl) (y_assignV (et g0 rfl)) ?_
                                  refine p_nil ?_
                                  refine hK150 _ _ ?_
                                  refine fg4 2 1 0 63 (gS rfl (gS rfl (gS rfl (gS rfl (gS rfl (gS rfl (gS rfl (gS rfl (gS rfl (gS rfl (gS rfl (gS rfl (gS rfl (gS rfl (gS rfl (gS rfl (gS rfl (gS rfl (gS rfl (gS rfl (gS rfl (gS rfl (gS rfl (gS rfl g0)))))))))))))))))))))))) (gS rfl (gS rfl (gS rfl (gS rfl (gS rfl (gS rfl (gS rfl (gS rfl (gS rfl (gS rfl (gS rfl (gS rfl (gS rfl (gS rfl (gS rfl (gS rfl (gS rfl (gS rfl (gS rfl (gS rfl (gS rfl (gS rfl (gS rfl g0))))))))))))))))))))))) (gS rfl (gS rfl (gS rfl (gS rfl (gS rfl (gS rfl (gS rfl (gS rfl (gS rfl (gS rfl (gS rfl (gS rfl (gS rfl (gS rfl (gS rfl (gS rfl (gS rfl (gS rfl (gS rfl (gS rfl (gS rfl (gS rfl g0)))))))))))))))))))))) g0 (fun g => ?_)
                                  refine c_false (et g0 rfl) rfl ?_
                                  refine c_skip ?_
                                  refine hQ97 _ _ _ (in_normal ?_)
                                  refine fK3 0 1 2 (gS rfl g0) (gS rfl (gS rfl g0)) (gS rfl (gS rfl (gS rfl g0))) (fun g => ?_)
                                  exact hJ4 _ _ ⟨g, _, rfl, (by rw [refA, if_neg e1, if_neg e2, if_neg e3, if_neg e4, if_neg e5, if_neg e6]), V4⟩))
                        · skip
                          have e5 : ¬ ((q = 240 ∨ q = 245) ∧ 512 < argN f.stack 2) := by simp at q144; omega
                          refine l_gskip (j := 6) (t := 56) (by exact rfl) (by exact rfl) (et g0 rfl) (by decide) (by decide) ?_
                          refine l_gskip (j := 6) (t := 56) (by exact rfl) (by exact rfl) (et (gS rfl g0) rfl) (by decide) (by decide) ?_
                          refine l_gskip (j := 6) (t := 56) (by exact rfl) (by exact rfl) (et (gS rfl (gS rfl g0)) rfl) (by decide) (by decide) ?_
                          refine l_gskip (j := 6) (t := 56) (by exact rfl) (by exact rfl) (et (gS rfl (gS rfl (gS rfl g0))) rfl) (by decide) (by decide) ?_
                          refine l_gskip (j := 6) (t := 56) (by exact rfl) (by exact rfl) (et (gS rfl (gS rfl (gS rfl (gS rfl g0)))) rfl) (by decide) (by decide) ?_
                          refine l_step (y_pickF (et (gS rfl (gS rfl (gS rfl (gS rfl (gS rfl g0))))) rfl) rfl) ?_
                          refine l_step (y_assignV (et g0 rfl)) ?_
                          refine l_nil ?_
                          refine hK143 _ _ ?_
                          refine fg4 2 1 0 49 (gS rfl (gS rfl (gS rfl (gS rfl (gS rfl (gS rfl (gS rfl (gS rfl (gS rfl (gS rfl (gS rfl (gS rfl (gS rfl (gS rfl (gS rfl (gS rfl (gS rfl (gS rfl g0)))))))))))))))))) (gS rfl (gS rfl (gS rfl (gS rfl (gS rfl (gS rfl (gS rfl (gS rfl (gS rfl (gS rfl (gS rfl (gS rfl (gS rfl (gS rfl (gS rfl (gS rfl (gS rfl g0))))))))))))))))) (gS rfl (gS rfl (gS rfl (gS rfl (gS rfl (gS rfl (gS rfl (gS rfl (gS rfl (gS rfl (gS rfl (gS rfl (gS rfl (gS rfl (gS rfl (gS rfl g0)))))))))))))))) g0 (fun g => ?_)
                          refine c_false (et g0 rfl) rfl ?_
                          refine c_seq (fun K162 hK162 => ?_)
                          exact (by
                            refine c_draw Up 19 [(0, true), (1, true), (2, true), (3, true), (5, true), (8, true), (9, true), (10, true), (11, true), (12, true), (13, true), (4, false), (6, false), (7, false), (14, false), (15, false), (16, true), (17, true), (18, true)] (by kernel_rfl) (fun w163 hu => ⟨Up.refl _, ?_⟩)
                            replace G := G.tr (Go.ofUp hF hu)
                            replace V4 := V4.tr (Go.ofUp hF hu)
                            replace hF := hF.up hu
                            replace kS := kS.up hu
                            replace kF := kF.up hu
                            replace kM := kM.up hu
                            replace U := U.tr hu
                            have SU := Up.refl w163
                            refine p_step (by exact rfl) (y_moveV (et (gS rfl (gS rfl (gS rfl g0))) rfl)) ?_
                            refine p_step (by exact rfl) (y_eql (et g0 rfl) rfl) ?_
                            refine p_step (by exact rfl) (y_moveV (et g0 rfl)) ?_
                            refine gsplitP (i := 66) g0 (fun q164 => ?_) (fun q164 => ?_)
                            · skip
                              have hg6 : q = 62 := by have := of_decide_eq_true q164; omega
                              refine p_gstep (j := 2) (t := 66) (by exact rfl) (by exact rfl) (by exact rfl) (et g0 rfl) rfl (y_moveV (et (gS rfl (gS rfl (gS rfl (gS rfl (gS rfl (gS rfl g0)))))) rfl)) ?_
                              refine p_gstep (j := 2) (t := 66) (by exact rfl) (by exact rfl) (by exact rfl) (et (gS rfl g0) rfl) rfl (y_moveV (et (gS rfl (gS rfl (gS rfl (gS rfl (gS rfl (gS rfl (gS rfl g0))))))) rfl)) ?_
                              refine p_gstep (j := 2) (t := 66) (by exact rfl) (by exact rfl) (by exact rfl) (et (gS rfl (gS rfl g0)) rfl) rfl (y_moveV (et (gS rfl (gS rfl (gS rfl (gS rfl (gS rfl (gS rfl (gS rfl g0))))))) rfl)) ?_
                              refine p_gstep (j := 2) (t := 66) (by exact rfl) (by exact rfl) (by exact rfl) (et (gS rfl (gS rfl (gS rfl g0))) rfl) rfl (y_nil (et g0 rfl)) ?_
                              refine p_gstep (j := 2) (t := 66) (by exact rfl) (by exact rfl) (by exact rfl) (et (gS rfl (gS rfl (gS rfl (gS rfl g0)))) rfl) rfl (y_fld fld_102_3 (et g0 rfl)) ?_
                              refine p_gstep (j := 2) (t := 66) (by exact rfl) (by exact rfl) (by exact rfl) (et (gS rfl (gS rfl (gS rfl (gS rfl (gS rfl g0))))) rfl) rfl (y_load1 one_38 (et g0 rfl) (atS (kS.cell (rS 10 _ rfl)))) ?_
                              refine p_gstep (j := 2) (t := 66) (by exact rfl) (by exact rfl) (by exact rfl) (et (gS rfl (gS rfl (gS rfl (gS rfl (gS rfl (gS rfl g0)))))) rfl) rfl (y_len Hvaa.underlying38 (et g0 rfl)) ?_
                              refine p_gstep (j := 2) (t := 66) (by exact rfl) (by exact rfl) (by exact rfl) (et (gS rfl (gS rfl (gS rfl (gS rfl (gS rfl (gS rfl (gS rfl g0))))))) rfl) rfl (y_conv Hvaa.underlying3 Hvaa.underlying26 (et g0 rfl) (wrapU_id uk64 ?_)) ?_
                              omega
                              refine p_geff (j := 2) (t := 66) (by exact rfl) (by exact rfl) (by exact rfl) (et (gS rfl (gS rfl (gS rfl (gS rfl (gS rfl (gS rfl (gS rfl (gS rfl g0)))))))) rfl) rfl (e_callV cal_63 (aC (et (gS rfl (gS rfl (gS rfl (gS rfl (gS rfl (gS rfl (gS rfl g0))))))) rfl) (aC (v := .int .i64 ((1 : Nat) : Int)) rfl aN)) (yp_arg _ _ 1 _ _ _ _ _ _ hF kF (rF 8 _ rfl) (hSt.mono hL0) (by omega) (by first | decide | omega))) (fun v165 w165 h165 => ?_)
                              obtain ⟨u165, n165, q165⟩ := h165
                              replace G := G.tr (Go.ofUp hF u165)
                              replace V4 := V4.tr (Go.ofUp hF u165)
                              replace hF := hF.up u165
                              replace kS := kS.up u165
                              replace kF := kF.up u165
                              replace kM := kM.up u165
                              replace U := U.tr u165
                              refine ⟨.inr (SU.tr u165), ?_⟩
                              replace SU := SU.tr u165
                              refine p_geff (j := 2) (t := 66) (by exact rfl) (by exact rfl) (by exact rfl) (et (gS rfl (gS rfl (gS rfl (gS rfl (gS rfl (gS rfl (gS rfl (gS rfl (gS rfl g0))))))))) rfl) rfl (e_callV cal_63 (aC (et (gS rfl (gS rfl (gS rfl (gS rfl (gS rfl (gS rfl (gS rfl g0))))))) rfl) (aC (v := .int .i64 ((2 : Nat) : Int)) rfl aN)) (yp_arg _ _ 2 _ _ _ _ _ _ hF kF (rF 8 _ rfl) (hSt.mono hL0) (by omega) (by first | decide | omega))) (fun v166 w166 h166 => ?_)
                              obtain ⟨u166, n166, q166⟩ := h166
                              replace G := G.tr (Go.ofUp hF u166)
                              replace V4 := V4.tr (Go.ofUp hF u166)
                              replace hF := hF.up u166
                              replace kS := kS.up u166
                              replace kF := kF.up u166
                              replace kM := kM.up u166
                              replace U := U.tr u166
                              refine ⟨.inr (SU.tr u166), ?_⟩
                              replace SU := SU.tr u166
                              exact (by
                                refine p_geff (j := 2) (t := 66) (by exact rfl) (by exact rfl) (by exact rfl) (et (gS rfl (gS rfl (gS rfl (gS rfl (gS rfl (gS rfl (gS rfl (gS rfl (gS rfl (gS rfl g0)))))))))) rfl) rfl (e_callV cal_34 (aC (et (gS rfl g0) rfl) (aC (et g0 rfl) aN)) (nat_add hF n165 n166 (bd_sm (bd_W q165) (by decide)) (bd_sm (bd_W q166) (by decide)))) (fun v167 w167 h167 => ?_)
                                obtain ⟨H167, g167, n167⟩ := h167
                                have hlew167 := g167.le
                                replace n165 := n165.mono hlew167
                                replace n166 := n166.mono hlew167
                                replace hL0 := hL0.trans hlew167
                                replace kS := kS.up g167.up
                                replace kF := kF.up g167.up
                                replace kM := kM.up g167.up
                                replace U := U.tr g167.up
                                replace G := G.tr g167
                                replace V4 := V4.tr g167
                                replace hF := g167.fz
                                have q167 := bd_add (c := 33) (bd_W q165) (bd_W q166) (by decide)
                                refine ⟨.inr (SU.tr g167.up), ?_⟩
                                replace SU := SU.tr g167.up
                                refine p_geff (j := 2) (t := 66) (by exact rfl) (by exact rfl) (by exact rfl) (et (gS rfl (gS rfl (gS rfl (gS rfl (gS rfl (gS rfl (gS rfl (gS rfl (gS rfl (gS rfl (gS rfl g0))))))))))) rfl) rfl (e_callV cal_32 (aC (et (gS rfl (gS rfl (gS rfl g0))) rfl) aN) (yp_num hF (show s.ret.length < 18446744073709551616 by omega))) (fun v168 w168 h168 => ?_)
                                obtain ⟨H168, g168, n168⟩ := h168
                                have hlew168 := g168.le
                                replace n165 := n165.mono hlew168
                                replace n166 := n166.mono hlew168
                                replace n167 := n167.mono hlew168
                                replace hL0 := hL0.trans hlew168
                                replace kS := kS.up g168.up
                                replace kF := kF.up g168.up
                                replace kM := kM.up g168.up
                                replace U := U.tr g168.up
                                replace G := G.tr g168
                                replace V4 := V4.tr g168
                                replace hF := g168.fz
                                have q168 := bd_64 (show s.ret.length < 18446744073709551616 by omega)
                                refine ⟨.inr (SU.tr g168.up), ?_⟩
                                replace SU := SU.tr g168.up
                                exact (by
                                  refine p_geff (j := 2) (t := 66) (by exact rfl) (by exact rfl) (by exact rfl) (et (gS rfl (gS rfl (gS rfl (gS rfl (gS rfl (gS rfl (gS rfl (gS rfl (gS rfl (gS rfl (gS rfl (gS rfl g0)))))))))))) rfl) rfl (e_callV cal_121 (aC (et (gS rfl g0) rfl) (aC (et g0 rfl) aN)) (nat_cmp hF n167 n168 (bd_sm q167 (by decide)) (bd_sm q168 (by decide)))) (fun v169 w169 h169 => ?_)
                                  obtain ⟨rfl, u169⟩ := h169
                                  replace G := G.tr (Go.ofUp hF u169)
                                  replace V4 := V4.tr (Go.ofUp hF u169)
                                  replace hF := hF.up u169
                                  replace kS := kS.up u169
                                  replace kF := kF.up u169
                                  replace kM := kM.up u169
                                  replace U := U.tr u169
                                  refine ⟨.inr (SU.tr u169), ?_⟩
                                  replace SU := SU.tr u169
                                  refine p_gstep (j := 2) (t := 66) (by exact rfl) (by exact rfl) (by exact rfl) (et (gS rfl (gS rfl (gS rfl (gS rfl (gS rfl (gS rfl (gS rfl (gS rfl (gS rfl (gS rfl (gS rfl (gS rfl (gS rfl g0))))))))))))) rfl) rfl ((y_gtr (et g0 rfl) rfl).to (congrArg Value.bool (cmp_gt0 _ _))) ?_
                                  refine p_step (by exact rfl) (y_pickT (et (gS rfl (gS rfl (gS rfl (gS rfl (gS rfl (gS rfl (gS rfl (gS rfl (gS rfl (gS rfl (gS rfl (gS rfl (gS rfl (gS rfl g0)))))))))))))) rfl) (et g0 rfl)) ?_
                                  refine p_step (by exact rfl) (y_assignV (et g0 rfl)) ?_
                                  refine p_nil ?_
                                  refine hK162 _ _ ?_
                                  refine fg4 2 1 0 63 (gS rfl (gS rfl (gS rfl (gS rfl (gS rfl (gS rfl (gS rfl (gS rfl (gS rfl (gS rfl (gS rfl (gS rfl (gS rfl (gS rfl (gS rfl (gS rfl (gS rfl (gS rfl (gS rfl (gS rfl (gS rfl (gS rfl (gS rfl g0))))))))))))))))))))))) (gS rfl (gS rfl (gS rfl (gS rfl (gS rfl (gS rfl (gS rfl (gS rfl (gS rfl (gS rfl (gS rfl (gS rfl (gS rfl (gS rfl (gS rfl (gS rfl (gS rfl (gS rfl (gS rfl (gS rfl (gS rfl (gS rfl g0)))))))))))))))))))))) (gS rfl (gS rfl (gS rfl (gS rfl (gS rfl (gS rfl (gS rfl (gS rfl (gS rfl (gS rfl (gS rfl (gS rfl (gS rfl (gS rfl (gS rfl (gS rfl (gS rfl (gS rfl (gS rfl (gS rfl (gS rfl g0))))))))))))))))))))) g0 (fun g => ?_)
                                  refine c_condV (i := 63) g0 rfl (fun cB6 => ?_) (fun cB6 => ?_)
                                  · skip
                                    
                                    have e6 : q = 62 ∧ s.ret.length < argN f.stack 1 + argN f.stack 2 := ⟨hg6, of_decide_eq_true cB6⟩
                                    refine c_seq (fun K171 hK171 => ?_)
                                    exact (by
                                      refine c_region ?_
                                      refine l_step y_assignC ?_
                                      refine l_step y_assignC ?_
                                      refine l_nil ?_
                                      refine hK171 _ _ ?_
                                      refine fg2 6 7 (gS rfl g0) g0 (fun g => ?_)
                                      refine c_ret ?_
                                      refine hQ97 _ _ _ (in_ret ?_)
                                      repeat with_reducible refine then_ret ?_
                                      refine ret2 rfl (res_tmp (et (gS rfl g0) rfl)) (res_tmp (et g0 rfl)) ?_
                                      have jA : refA s f q = 8 := by rw [refA, if_neg e1, if_neg e2, if_neg e3, if_neg e4, if_neg e5, if_pos e6]
                                      rw [refN, if_neg (by rw [jA]; decide), jA]
                                      exact ⟨_, _, rfl, G, NV.nil _⟩)
                                  · skip
                                    
                                    have e6 : ¬ (q = 62 ∧ s.ret.length < argN f.stack 1 + argN f.stack 2) := fun h => of_decide_eq_false cB6 h.2
                                    refine c_skip ?_
                                    refine hQ97 _ _ _ (in_normal ?_)
                                    refine fK3 0 1 2 (gS rfl (gS rfl g0)) (gS rfl (gS rfl (gS rfl g0))) (gS rfl (gS rfl (gS rfl (gS rfl g0)))) (fun g => ?_)
                                    exact hJ4 _ _ ⟨g, _, rfl, (by rw [refA, if_neg e1, if_neg e2, if_neg e3, if_neg e4, if_neg e5, if_neg e6]), V4⟩))
                            · skip
                              have e6 : ¬ (q = 62 ∧ s.ret.length < argN f.stack 1 + argN f.stack 2) := by have := of_decide_eq_false q164; omega
                              refine p_gskip (j := 2) (t := 66) (by exact rfl) (by exact rfl) (by exact rfl) (et g0 rfl) rfl rfl ?_
                              refine p_gskip (j := 2) (t := 66) (by exact rfl) (by exact rfl) (by exact rfl) (et (gS rfl g0) rfl) rfl rfl ?_
                              refine p_gskip (j := 2) (t := 66) (by exact rfl) (by exact rfl) (by exact rfl) (et (gS rfl (gS rfl g0)) rfl) rfl rfl ?_
                              refine p_gskip (j := 2) (t := 66) (by exact rfl) (by exact rfl) (by exact rfl) (et (gS rfl (gS rfl (gS rfl g0))) rfl) rfl rfl ?_
                              refine p_gskip (j := 2) (t := 66) (by exact rfl) (by exact rfl) (by exact rfl) (et (gS rfl (gS rfl (gS rfl (gS rfl g0)))) rfl) rfl rfl ?_
                              refine p_gskip (j := 2) (t := 66) (by exact rfl) (by exact rfl) (by exact rfl) (et (gS rfl (gS rfl (gS rfl (gS rfl (gS rfl g0))))) rfl) rfl rfl ?_
                              refine p_gskip (j := 2) (t := 66) (by exact rfl) (by exact rfl) (by exact rfl) (et (gS rfl (gS rfl (gS rfl (gS rfl (gS rfl (gS rfl g0)))))) rfl) rfl rfl ?_
                              refine p_gskip (j := 2) (t := 66) (by exact rfl) (by exact rfl) (by exact rfl) (et (gS rfl (gS rfl (gS rfl (gS rfl (gS rfl (gS rfl (gS rfl g0))))))) rfl) rfl rfl ?_
                              refine p_geskip (j := 2) (t := 66) (by exact rfl) (by exact rfl) (by exact rfl) (et (gS rfl (gS rfl (gS rfl (gS rfl (gS rfl (gS rfl (gS rfl (gS rfl g0)))))))) rfl) rfl rfl ⟨.inr SU, ?_⟩
                              refine p_geskip (j := 2) (t := 66) (by exact rfl) (by exact rfl) (by exact rfl) (et (gS rfl (gS rfl (gS rfl (gS rfl (gS rfl (gS rfl (gS rfl (gS rfl (gS rfl g0))))))))) rfl) rfl rfl ⟨.inr SU, ?_⟩
                              refine p_geskip (j := 2) (t := 66) (by exact rfl) (by exact rfl) (by exact rfl) (et (gS rfl (gS rfl (gS rfl (gS rfl (gS rfl (gS rfl (gS rfl (gS rfl (gS rfl (gS rfl g0)))))))))) rfl) rfl rfl ⟨.inr SU, ?_⟩
                              refine p_geskip (j := 2) (t := 66) (by exact rfl) (by exact rfl) (by exact rfl) (et (gS rfl (gS rfl (gS rfl (gS rfl (gS rfl (gS rfl (gS rfl (gS rfl (gS rfl (gS rfl (gS rfl g0))))))))))) rfl) rfl rfl ⟨.inr SU, ?_⟩
                              refine p_geskip (j := 2) (t := 66) (by exact rfl) (by exact rfl) (by exact rfl) (et (gS rfl (gS rfl (gS rfl (gS rfl (gS rfl (gS rfl (gS rfl (gS rfl (gS rfl (gS rfl (gS rfl (gS rfl g0)))))))))))) rfl) rfl rfl ⟨.inr SU, ?_⟩
                              refine p_gskip (j := 2) (t := 66) (by exact rfl) (by exact rfl) (by exact rfl) (et (gS rfl (gS rfl (gS rfl (gS rfl (gS rfl (gS rfl (gS rfl (gS rfl (gS rfl (gS rfl (gS rfl (gS rfl (gS rfl g0))))))))))))) rfl) rfl rfl ?_
                              refine p_step (by exact rfl) (y_pickF (et (gS rfl (gS rfl (gS rfl (gS rfl (gS rfl (gS rfl (gS rfl (gS rfl (gS rfl (gS rfl (gS rfl (gS rfl (gS rfl (gS rfl g0)))))))))))))) rfl) rfl) ?_
                              refine p_step (by exact rfl) (y_assignV (et g0 rfl)) ?_
                              refine p_nil ?_
                              refine hK162 _ _ ?_
                              refine fg4 2 1 0 63 (gS rfl (gS rfl (gS rfl (gS rfl (gS rfl (gS rfl (gS rfl (gS rfl (gS rfl (gS rfl (gS rfl (gS rfl (gS rfl (gS rfl (gS rfl (gS rfl (gS rfl (gS rfl (gS rfl (gS rfl (gS rfl (gS rfl (gS rfl g0))))))))))))))))))))))) (gS rfl (gS rfl (gS rfl (gS rfl (gS rfl (gS rfl (gS rfl (gS rfl (gS rfl (gS rfl (gS rfl (gS rfl (gS rfl (gS rfl (gS rfl (gS rfl (gS rfl (gS rfl (gS rfl (gS rfl (gS rfl (gS rfl g0)))))))))))))))))))))) (gS rfl (gS rfl (gS rfl (gS rfl (gS rfl (gS rfl (gS rfl (gS rfl (gS rfl (gS rfl (gS rfl (gS rfl (gS rfl (gS rfl (gS rfl (gS rfl (gS rfl (gS rfl (gS rfl (gS rfl (gS rfl g0))))))))))))))))))))) g0 (fun g => ?_)
                              refine c_false (et g0 rfl) rfl ?_
                              refine c_skip ?_
                              refine hQ97 _ _ _ (in_normal ?_)
                              refine fK3 0 1 2 (gS rfl g0) (gS rfl (gS rfl g0)) (gS rfl (gS rfl (gS rfl g0))) (fun g => ?_)
                              exact hJ4 _ _ ⟨g, _, rfl, (by rw [refA, if_neg e1, if_neg e2, if_neg e3, if_neg e4, if_neg e5, if_neg e6]), V4⟩))))))))
end Go.Proofs.YgvaawGreat
