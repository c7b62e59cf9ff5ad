import Derived.Test.YgvaawGreatZ36
import Derived.Test.YgvaawGreatY41
set_option maxRecDepth 100000
set_option maxHeartbeats 4000000
set_option linter.unusedSimpArgs false
set_option linter.unusedVariables false
namespace Go.Proofs.YgvaawGreat
open Go
section
variable {w w' : World} {H : Store} {col : Nat → Nat} {bc : Nat} {cs : Array Value} {V : EV} {s : YSt} {sn : List Nat} {sv : List AW} {ms : List (List Nat)} {c : Nat}
theorem EX.nont (hE : EX w H col bc cs V s sn sv ms c) (a : Nat) : (acctAt s.now.accts a).nonce < 18446744073709551616 := by
  rw [← hE.no]
  show (ax V a).nonce < 18446744073709551616
  by_cases h : hasA V a
  · obtain ⟨x, h1, h2⟩ := hasA_ix h
    obtain ⟨b, c', cap, vc, hA⟩ := hE.vl.acct h1
    rw [ax_eq hE.ok h1 h2]
    exact hA.ok.nonce
  · rw [ax_no h]
    show 0 < 18446744073709551616
    decide
theorem EX.nonC (hE : EX w H col bc cs V s sn sv ms c) (a : Nat) (ha : a < A160) : Ret 161 [.pointer (some ⟨bc, 2435, none⟩), aV a] w (fun v w' => v = .int .u64 ((acctAt s.now.accts a).nonce : Nat) ∧ Up w w') := by
  have h := v_nonce hE.vl hE.ok a ha
  rw [hE.no] at h
  exact h
end
theorem non_bal (W : YWorld) (a n x : Nat) : (acctAt (putA W.accts (setNon (acctAt W.accts a) n)) x).bal = (acctAt W.accts x).bal := congrFun (congrArg AW.bal (ay_nonce W a n)) x
theorem crG_eq (f : YF) : crG f = f.gas - f.gas / 64 := by unfold crG sentN; omega
theorem crt_lt (a n : Nat) : crtN a n < A160 := Nat.mod_lt _ A160_pos
theorem c2_lt (a x : Nat) (l : List Nat) : c2N a x l < A160 := Nat.mod_lt _ A160_pos
theorem cr_wait (f : YF) (q tk : Nat) (h : tkN q = tk) : setF { crF1 f with outOff := 0, outLen := 0 } tk false 0 0 = waitN (crF1 f) (tkN q) 0 0 := by
  rw [setF0, h]
  unfold waitN
  rfl
theorem m_opCre240 {w : World} {H : Store} {col : Nat → Nat} {bc : Nat} {cs : Array Value} {V : EV} {s : YSt} {sn : List Nat} {sv : List AW} {ms : List (List Nat)} {c : Nat} {low : List YF} {f : YF} (hE : EX w H col bc cs V s sn sv ms c) (hs : s.frames = low ++ [f]) (hp : s.phase = 1) (hms : ms = (low ++ [f]).map (fun g => g.mem)) (hap : s.applied ≤ 4) (hpar : Par low) (hq : opcN f = 240) (hpc9 : f.pc < 512) (htk9 : 3 ≤ f.stack.length) (hrd : argN f.stack 2 ≠ 0 → argN f.stack 1 + argN f.stack 2 ≤ f.mem.length) (hil : (crCode f).length ≤ 512) {c' : Nat} (hc1 : c' + 2825 ≤ c) (hov : ¬ crFail { s with ret := [] } f low.length → argN f.stack 0 ≠ 0 → (acctAt (takeB (entA1 (crS { s with ret := [] } f 240).now (crChild { s with ret := [] } f 240)) f.self (argN f.stack 0)) (crSelf { s with ret := [] } f 240)).bal + argN f.stack 0 < W256) :
    Ret 200 [.pointer (some ⟨bc, 0, none⟩)] w (fun v w' => v = .tuple #[] ∧ XO w H col w' bc (creY { s with ret := [] } f 240 low) c') := by
  obtain ⟨n9, hn9, hR⟩ := hE.topF hs
  have hB := hE.fbT hs
  have h6 := hE.six hs
  have htop := hE.cTop hs
  have hphs := hE.cPh hp
  have hbp := hB.pc
  have hbs := hB.stk
  have hbg := hB.gas
  have hbc9 := hB.code
  have hnw := hE.vl.new
  have hfz := hE.vl.fz
  have hcC := hE.vl.colC
  have hbc0 := hE.vl.kC.lt
  have hX := XT.refl hE
  have hms8 : ms = low.map (fun g => g.mem) ++ [f.mem] := by rw [hms]; simp
  have hsk : f.stack = f.stack := rfl
  refine enter (n := 164) Hvaa.func200 rfl rfl (Nat.le_of_ble_eq_true rfl) ?_
  have U : Ch (fun _ => True) w w := Ch.refl _ w
  refine c_seq (fun K1 hK1 => ?_)
  exact (by
    refine c_region ?_
    refine l_step (y_moveV (et g0 rfl)) ?_
    refine l_eff (e_callV cal_183 (aC (et g0 rfl) aN) (m_running hX.ex hs hp)) (fun v2 w2 h2 => ?_)
    obtain ⟨rfl, u2⟩ := h2
    replace hX := hX.up u2
    replace U := U.tr u2
    refine l_step (y_assignV (et g0 rfl)) ?_
    refine l_nil ?_
    refine hK1 _ _ ?_
    refine fg2 0 2 (gS rfl (gS rfl (gS rfl g0))) g0 (fun g => ?_)
    refine c_seq (fun K3 hK3 => ?_)
    refine c_seq (fun K4 hK4 => ?_)
    exact (by
      refine c_region ?_
      refine l_step (y_moveV (et g0 rfl)) ?_
      refine l_step (y_eqlNil Hvaa.underlying276 (et g0 rfl) rfl) ?_
      refine l_nil ?_
      refine hK4 _ _ ?_
      refine fg3 0 2 13 (gS rfl (gS rfl (gS rfl g0))) (gS rfl (gS rfl g0)) g0 (fun g => ?_)
      refine c_false (et g0 rfl) rfl ?_
      refine c_skip ?_
      refine hK3 _ _ ?_
      refine fg2 0 2 (gS rfl (gS rfl g0)) (gS rfl g0) (fun g => ?_)
      refine c_seq (fun K6 hK6 => ?_)
      exact (by
        refine c_region ?_
        refine l_step (y_moveV (et (gS rfl g0) rfl)) ?_
        refine l_eff (e_callV cal_108 (aC (et g0 rfl) aN) (m_opcode hX.ex hs hp)) (fun v7 w7 h7 => ?_)
        obtain ⟨rfl, u7⟩ := h7
        replace hX := hX.up u7
        replace U := U.tr u7
        refine l_step (y_eql (et g0 rfl) rfl) ?_
        refine l_step (y_assignV (et g0 rfl)) ?_
        refine l_nil ?_
        refine hK6 _ _ ?_
        refine fg3 0 2 3 (gS rfl (gS rfl (gS rfl (gS rfl (gS rfl g0))))) (gS rfl (gS rfl (gS rfl (gS rfl g0)))) g0 (fun g => ?_)
        refine c_seq (fun K8 hK8 => ?_)
        exact (by
          refine c_region ?_
          refine l_step y_assignC ?_
          refine l_nil ?_
          refine hK8 _ _ ?_
          refine c_seq (fun K9 hK9 => ?_)
          refine c_seq (fun K10 hK10 => ?_)
          exact (by
            refine c_region ?_
            refine l_step (y_moveV (et (gS rfl g0) rfl)) ?_
            refine l_nil ?_
            refine hK10 _ _ ?_
            refine c_false (et g0 rfl) (by (exact decide_eq_false (by omega))) ?_
            refine c_skip ?_
            refine hK9 _ _ ?_
            refine fg4 0 2 3 4 (gS rfl (gS rfl (gS rfl (gS rfl g0)))) (gS rfl (gS rfl (gS rfl g0))) (gS rfl (gS rfl g0)) (gS rfl g0) (fun g => ?_)
            refine c_seq (fun K12 hK12 => ?_)
            exact (by
              refine c_region ?_
              refine l_step (y_moveV (et (gS rfl (gS rfl (gS rfl g0))) rfl)) ?_
              refine l_step (y_nil (et g0 rfl)) ?_
              refine l_step (y_fld fld_75_5 (et g0 rfl)) ?_
              refine l_effN (e_store sz_38 (et g0 rfl) (cellsV rfl rfl) rfl (by intro v hv; simp at hv; subst hv; rfl) hX.ex.vl.kC (by rw [hX.ex.vl.size]; omega)) (fun v13 w13 h13 => ?_)
              obtain ⟨rfl, x13⟩ := h13
              have hv13 := hX.stRt (l := []) (by omega) (BV.nil _) x13
              replace hX := hv13
              replace U := U.cc x13.ch (by intro b hb; exact .inl trivial)
              obtain ⟨s0, hs0⟩ : ∃ s0 : YSt, s0 = { s with ret := [] } := ⟨_, rfl⟩
              replace hX := hX.reS hs0
              have hsf0 : s0.frames = low ++ [f] := by rw [hs0]; exact hs
              have hph0 : s0.phase = 1 := by rw [hs0]; exact hp
              have hap0 : s0.applied ≤ 4 := by rw [hs0]; exact hap
              have hac0 : s0.now.accts = s.now.accts := by rw [hs0]
              obtain ⟨n8, hn8, hR0⟩ := hX.ex.topF hsf0
              have hnw1 := hX.ex.vl.new
              have hfz1 := hX.ex.vl.fz
              refine l_nil ?_
              refine hK12 _ _ ?_
              refine fg4 0 2 3 4 (gS rfl (gS rfl (gS rfl (gS rfl (gS rfl (gS rfl g0)))))) (gS rfl (gS rfl (gS rfl (gS rfl (gS rfl g0))))) (gS rfl (gS rfl (gS rfl (gS rfl g0)))) (gS rfl (gS rfl (gS rfl g0))) (fun g => ?_)
              refine c_seq (fun K14 hK14 => ?_)
              exact (by
                refine c_region ?_
                refine l_step (y_moveV (et (gS rfl (gS rfl (gS rfl g0))) rfl)) ?_
                refine l_step (y_moveV (et (gS rfl (gS rfl (gS rfl g0))) rfl)) ?_
                refine l_eff (e_callV cal_264 (aC (et (gS rfl g0) rfl) (aC (et g0 rfl) (aC (v := .int .i64 ((0 : Nat) : Int)) rfl aN))) (m_arg hX.ex hsf0 hph0 rfl 0 (by decide))) (fun v15 w15 h15 => ?_)
                obtain ⟨rfl, u15⟩ := h15
                replace hX := hX.up u15
                replace U := U.tr u15
                have hnwN := hX.ex.vl.new
                have hfzN := hX.ex.vl.fz
                refine l_eff (e_alloc zr_65) (fun v16 w16 h16 => ?_)
                obtain ⟨b16, rfl, n16⟩ := h16
                have f16 : w.heap.size ≤ b16 := Nat.le_trans U.size n16.fresh
                replace hX := hX.up n16.up
                replace U := U.tr n16.up
                have k16 := n16.blk
                obtain ⟨zs16, hz16, k16⟩ : ∃ cs : Array Value, cs.size = 4 ∧ Blk w16 b16 cs := ⟨_, rfl, k16⟩
                have nc16 := hnwN b16 n16.fresh
                have nh16 : ¬ H.has b16 := fun hh => by have h9 := hfzN.lt hh; have h8 := n16.fresh; omega
                refine l_effN (e_store sz_65 (et g0 rfl) (cellsV (et (gS rfl g0) rfl) rfl) rfl (by exact one_uL _) k16 (by (first | (rw [hz16]; exact Nat.le_refl _) | (rw [List.size_toArray, wL_len]; exact Nat.le_refl _)))) (fun v17 w17 h17 => ?_)
                obtain ⟨rfl, x17⟩ := h17
                replace hX := hX.ch x17.ch (by first | omega | (intro b hb; first | (subst hb; first | exact ⟨by omega, fun hh => by have := hfz.lt hh; omega, by omega⟩ | exact ⟨by omega, by assumption, by omega⟩) | (rcases hb with hb | hb <;> (subst hb; first | exact ⟨by omega, fun hh => by have := hfz.lt hh; omega, by omega⟩ | exact ⟨by omega, by assumption, by omega⟩))))
                replace k16 := x17.blk.full (by first | (rw [hz16]; rfl) | (rw [List.size_toArray, wL_len, wL_len]))
                replace U := U.st x17 (.inr f16)
                refine l_nil ?_
                refine hK14 _ _ ?_
                refine fg5 0 2 3 4 5 (gS rfl (gS rfl (gS rfl (gS rfl (gS rfl (gS rfl (gS rfl g0))))))) (gS rfl (gS rfl (gS rfl (gS rfl (gS rfl (gS rfl g0)))))) (gS rfl (gS rfl (gS rfl (gS rfl (gS rfl g0))))) (gS rfl (gS rfl (gS rfl (gS rfl g0)))) g0 (fun g => ?_)
                refine c_seq (fun K18 hK18 => ?_)
                exact (by
                  refine c_draw Up 10 [(0, true), (1, true), (2, true), (3, true), (4, true), (5, true), (6, true), (7, true), (8, false), (9, true)] (by kernel_rfl) (fun w19 hu => ⟨Up.refl _, ?_⟩)
                  replace k16 := k16.up hu
                  replace hX := hX.up hu
                  replace U := U.tr hu
                  have SU := Up.refl w19
                  refine p_step (by exact rfl) (y_moveV (et (gS rfl (gS rfl (gS rfl (gS rfl g0)))) rfl)) ?_
                  refine p_step (by exact rfl) (y_nil (et g0 rfl)) ?_
                  refine p_step (by exact rfl) (y_fld fld_75_0 (et g0 rfl)) ?_
                  refine p_step (by exact rfl) (y_load1 one_59 (et g0 rfl) (atS (hX.ex.vl.c1 hX.ex.lx.pS rfl))) ?_
                  refine p_step (by exact rfl) (y_moveV (et (gS rfl (gS rfl (gS rfl (gS rfl (gS rfl (gS rfl (gS rfl g0))))))) rfl)) ?_
                  refine p_step (by exact rfl) (y_nil (et g0 rfl)) ?_
                  refine p_step (by exact rfl) (y_fld fld_71_9 (et g0 rfl)) ?_
                  refine p_step (by exact rfl) (y_loadR agg_25 sz_25 (et g0 rfl) (by rw [length_bL, length_be]) (atSR (hX.ex.vl.kC.rowO hR0.r2 (by omega)))) ?_
                  refine p_eff (by exact rfl) (e_callV cal_161 (aC (et (gS rfl (gS rfl (gS rfl (gS rfl g0)))) rfl) (aC (et g0 rfl) aN)) (hX.ex.nonC f.self hB.self)) (fun v20 w20 h20 => ?_)
                  obtain ⟨rfl, u20⟩ := h20
                  replace k16 := k16.up u20
                  replace hX := hX.up u20
                  replace U := U.tr u20
                  refine ⟨.inr (SU.tr u20), ?_⟩
                  replace SU := SU.tr u20
                  refine p_step (by exact rfl) (y_assignV (et g0 rfl)) ?_
                  refine p_nil ?_
                  refine hK18 _ _ ?_
                  refine fg6 0 2 3 4 5 6 (gS rfl (gS rfl (gS rfl (gS rfl (gS rfl (gS rfl (gS rfl (gS rfl (gS rfl (gS rfl (gS rfl (gS rfl (gS rfl (gS rfl g0)))))))))))))) (gS rfl (gS rfl (gS rfl (gS rfl (gS rfl (gS rfl (gS rfl (gS rfl (gS rfl (gS rfl (gS rfl (gS rfl (gS rfl g0))))))))))))) (gS rfl (gS rfl (gS rfl (gS rfl (gS rfl (gS rfl (gS rfl (gS rfl (gS rfl (gS rfl (gS rfl (gS rfl g0)))))))))))) (gS rfl (gS rfl (gS rfl (gS rfl (gS rfl (gS rfl (gS rfl (gS rfl (gS rfl (gS rfl (gS rfl g0))))))))))) (gS rfl (gS rfl (gS rfl (gS rfl (gS rfl (gS rfl (gS rfl (gS rfl (gS rfl (gS rfl g0)))))))))) g0 (fun g => ?_)
                  refine c_seq (fun K21 hK21 => ?_)
                  refine c_seq (fun K22 hK22 => ?_)
                  exact (by
                    refine c_draw Up 22 [(0, true), (1, true), (2, true), (3, true), (4, true), (5, true), (6, true), (7, true), (8, true), (9, true), (10, true), (11, true), (12, true), (13, true), (15, true), (14, false), (16, false), (17, true), (18, true), (19, true), (20, true), (21, true)] (by kernel_rfl) (fun w23 hu => ⟨Up.refl _, ?_⟩)
                    replace k16 := k16.up hu
                    replace hX := hX.up hu
                    replace U := U.tr hu
                    have SU := Up.refl w23
                    refine p_step (by exact rfl) (y_moveV (et (gS rfl (gS rfl (gS rfl (gS rfl (gS rfl g0))))) rfl)) ?_
                    refine p_step (by exact rfl) (y_nil (et g0 rfl)) ?_
                    refine p_step (by exact rfl) (y_fld fld_75_4 (et g0 rfl)) ?_
                    refine p_step (by exact rfl) (y_load1 one_73 (et g0 rfl) (atS (hX.ex.vl.c1 (hX.ex.cTop hsf0) (by omega)))) ?_
                    refine p_step (by exact rfl) (y_geq (et g0 rfl) rfl) ?_
                    refine p_step (by exact rfl) (y_moveV (et g0 rfl)) ?_
                    refine gsplitP (i := 38) g0 (fun q24 => ?_) (fun q24 => ?_)
                    · skip
                      have hd6 : 6 ≤ low.length := by have := of_decide_eq_true q24; omega
                      refine p_gskip (j := 5) (t := 38) (by exact rfl) (by exact rfl) (by exact rfl) (et g0 rfl) rfl rfl ?_
                      refine p_gskip (j := 5) (t := 38) (by exact rfl) (by exact rfl) (by exact rfl) (et (gS rfl g0) rfl) rfl rfl ?_
                      refine p_gskip (j := 5) (t := 38) (by exact rfl) (by exact rfl) (by exact rfl) (et (gS rfl (gS rfl g0)) rfl) rfl rfl ?_
                      refine p_gskip (j := 5) (t := 38) (by exact rfl) (by exact rfl) (by exact rfl) (et (gS rfl (gS rfl (gS rfl g0))) rfl) rfl rfl ?_
                      refine p_gskip (j := 5) (t := 38) (by exact rfl) (by exact rfl) (by exact rfl) (et (gS rfl (gS rfl (gS rfl (gS rfl g0)))) rfl) rfl rfl ?_
                      refine p_gskip (j := 5) (t := 38) (by exact rfl) (by exact rfl) (by exact rfl) (et (gS rfl (gS rfl (gS rfl (gS rfl (gS rfl g0))))) rfl) rfl rfl ?_
                      refine p_gskip (j := 5) (t := 38) (by exact rfl) (by exact rfl) (by exact rfl) (et (gS rfl (gS rfl (gS rfl (gS rfl (gS rfl (gS rfl g0)))))) rfl) rfl rfl ?_
                      refine p_gskip (j := 5) (t := 38) (by exact rfl) (by exact rfl) (by exact rfl) (et (gS rfl (gS rfl (gS rfl (gS rfl (gS rfl (gS rfl (gS rfl g0))))))) rfl) rfl rfl ?_
                      refine p_gskip (j := 5) (t := 38) (by exact rfl) (by exact rfl) (by exact rfl) (et (gS rfl (gS rfl (gS rfl (gS rfl (gS rfl (gS rfl (gS rfl (gS rfl g0)))))))) rfl) rfl rfl ?_
                      refine p_geskip (j := 5) (t := 38) (by exact rfl) (by exact rfl) (by exact rfl) (et (gS rfl (gS rfl (gS rfl (gS rfl (gS rfl (gS rfl (gS rfl (gS rfl (gS rfl g0))))))))) rfl) rfl rfl ⟨.inr SU, ?_⟩
                      refine p_geskip (j := 5) (t := 38) (by exact rfl) (by exact rfl) (by exact rfl) (et (gS rfl (gS rfl (gS rfl (gS rfl (gS rfl (gS rfl (gS rfl (gS rfl (gS rfl (gS rfl g0)))))))))) rfl) rfl rfl ⟨.inr SU, ?_⟩
                      refine p_step (by exact rfl) (y_pickT (et (gS rfl (gS rfl (gS rfl (gS rfl (gS rfl (gS rfl (gS rfl (gS rfl (gS rfl (gS rfl (gS rfl g0))))))))))) rfl) rfl) ?_
                      refine p_step (by exact rfl) (y_moveV (et g0 rfl)) ?_
                      refine p_gskip (j := 18) (t := 51) (by exact rfl) (by exact rfl) (by exact rfl) (et g0 rfl) rfl rfl ?_
                      refine p_gskip (j := 18) (t := 51) (by exact rfl) (by exact rfl) (by exact rfl) (et (gS rfl g0) rfl) rfl rfl ?_
                      refine p_step (by exact rfl) (y_pickT (et (gS rfl (gS rfl g0)) rfl) rfl) ?_
                      refine p_nil ?_
                      refine hK22 _ _ ?_
                      refine fg7 0 2 3 4 5 6 54 (gS rfl (gS rfl (gS rfl (gS rfl (gS rfl (gS rfl (gS rfl (gS rfl (gS rfl (gS rfl (gS rfl (gS rfl (gS rfl (gS rfl (gS rfl (gS rfl (gS rfl (gS rfl (gS rfl (gS rfl (gS rfl (gS rfl (gS rfl (gS rfl (gS rfl (gS rfl (gS rfl (gS rfl g0)))))))))))))))))))))))))))) (gS rfl (gS rfl (gS rfl (gS rfl (gS rfl (gS rfl (gS rfl (gS rfl (gS rfl (gS rfl (gS rfl (gS rfl (gS rfl (gS rfl (gS rfl (gS rfl (gS rfl (gS rfl (gS rfl (gS rfl (gS rfl (gS rfl (gS rfl (gS rfl (gS rfl (gS rfl (gS rfl g0))))))))))))))))))))))))))) (gS rfl (gS rfl (gS rfl (gS rfl (gS rfl (gS rfl (gS rfl (gS rfl (gS rfl (gS rfl (gS rfl (gS rfl (gS rfl (gS rfl (gS rfl (gS rfl (gS rfl (gS rfl (gS rfl (gS rfl (gS rfl (gS rfl (gS rfl (gS rfl (gS rfl (gS rfl g0)))))))))))))))))))))))))) (gS rfl (gS rfl (gS rfl (gS rfl (gS rfl (gS rfl (gS rfl (gS rfl (gS rfl (gS rfl (gS rfl (gS rfl (gS rfl (gS rfl (gS rfl (gS rfl (gS rfl (gS rfl (gS rfl (gS rfl (gS rfl (gS rfl (gS rfl (gS rfl (gS rfl g0))))))))))))))))))))))))) (gS rfl (gS rfl (gS rfl (gS rfl (gS rfl (gS rfl (gS rfl (gS rfl (gS rfl (gS rfl (gS rfl (gS rfl (gS rfl (gS rfl (gS rfl (gS rfl (gS rfl (gS rfl (gS rfl (gS rfl (gS rfl (gS rfl (gS rfl (gS rfl g0)))))))))))))))))))))))) (gS rfl (gS rfl (gS rfl (gS rfl (gS rfl (gS rfl (gS rfl (gS rfl (gS rfl (gS rfl (gS rfl (gS rfl (gS rfl (gS rfl (gS rfl (gS rfl (gS rfl (gS rfl (gS rfl (gS rfl (gS rfl (gS rfl (gS rfl g0))))))))))))))))))))))) g0 (fun g => ?_)
                      refine c_true (et g0 rfl) rfl ?_
                      refine c_seq (fun K26 hK26 => ?_)
                      exact (by
                        refine c_region ?_
                        refine l_step (y_moveV (et (gS rfl (gS rfl (gS rfl (gS rfl (gS rfl (gS rfl g0)))))) rfl)) ?_
                        refine l_step (y_moveV (et (gS rfl (gS rfl (gS rfl (gS rfl (gS rfl (gS rfl g0)))))) rfl)) ?_
                        refine l_step (y_moveV (et (gS rfl (gS rfl (gS rfl (gS rfl (gS rfl g0))))) rfl)) ?_
                        refine l_step (y_bld bN bld65_z) ?_
                        refine l_eff (e_callV cal_259 (aC (et (gS rfl (gS rfl (gS rfl g0))) rfl) (aC (et (gS rfl (gS rfl g0)) rfl) (aC (et (gS rfl g0) rfl) (aC rfl (aC (et g0 rfl) (aC (v := .int .u16 ((1 : Nat) : Int)) rfl aN)))))) (m_settle1 hX.ex hsf0 hph0 rfl 3 _ 1 (by omega) (by decide) (by omega) (by omega))) (fun v27 w27 h27 => ?_)
                        obtain ⟨rfl, cs27, y27⟩ := h27
                        replace k16 := k16.ch y27.et.go.ch (by intro hm; (have e0 := hm); omega)
                        replace hX := hX.trans y27
                        replace U := U.cc y27.et.go.ch (by intro b hb; exact .inl trivial)
                        refine l_nil ?_
                        refine hK26 _ _ ?_
                        refine fg0 (fun g => ?_)
                        refine c_ret ?_
                        repeat with_reducible refine then_ret ?_
                        refine ret0 rfl ?_
                        have hfl : crFail { s with ret := [] } f low.length := .inl hd6
                        rw [set_ans, hs0] at hX
                        rw [show creY { s with ret := [] } f 240 low = { { s with ret := [] } with frames := low ++ [ansN f (tkN 240) 0] } by rw [creY, if_pos hfl]]
                        refine ⟨rfl, XO.of (hX.slack (by omega)) ?_⟩
                        rw [hms]
                        show _ = (low ++ [ansN f (tkN 240) 0]).map _
                        rw [List.map_append, List.map_append]
                        rfl)
                    · skip
                      have hd6 : ¬ 6 ≤ low.length := by have := of_decide_eq_false q24; omega
                      refine p_gstep (j := 5) (t := 38) (by exact rfl) (by exact rfl) (by exact rfl) (et g0 rfl) rfl (y_moveV (et (gS rfl (gS rfl (gS rfl (gS rfl (gS rfl (gS rfl (gS rfl (gS rfl (gS rfl (gS rfl (gS rfl (gS rfl g0)))))))))))) rfl)) ?_
                      refine p_gstep (j := 5) (t := 38) (by exact rfl) (by exact rfl) (by exact rfl) (et (gS rfl g0) rfl) rfl (y_nil (et g0 rfl)) ?_
                      refine p_gstep (j := 5) (t := 38) (by exact rfl) (by exact rfl) (by exact rfl) (et (gS rfl (gS rfl g0)) rfl) rfl (y_fld fld_75_0 (et g0 rfl)) ?_
                      refine p_gstep (j := 5) (t := 38) (by exact rfl) (by exact rfl) (by exact rfl) (et (gS rfl (gS rfl (gS rfl g0))) rfl) rfl (y_load1 one_59 (et g0 rfl) (atS (hX.ex.vl.c1 hX.ex.lx.pS rfl))) ?_
                      refine p_gstep (j := 5) (t := 38) (by exact rfl) (by exact rfl) (by exact rfl) (et (gS rfl (gS rfl (gS rfl (gS rfl g0)))) rfl) rfl (y_moveV (et (gS rfl (gS rfl (gS rfl (gS rfl (gS rfl (gS rfl (gS rfl (gS rfl (gS rfl (gS rfl (gS rfl (gS rfl (gS rfl (gS rfl (gS rfl g0))))))))))))))) rfl)) ?_
                      refine p_gstep (j := 5) (t := 38) (by exact rfl) (by exact rfl) (by exact rfl) (et (gS rfl (gS rfl (gS rfl (gS rfl (gS rfl g0))))) rfl) rfl (y_nil (et g0 rfl)) ?_
                      refine p_gstep (j := 5) (t := 38) (by exact rfl) (by exact rfl) (by exact rfl) (et (gS rfl (gS rfl (gS rfl (gS rfl (gS rfl (gS rfl g0)))))) rfl) rfl (y_fld fld_71_9 (et g0 rfl)) ?_
                      refine p_gstep (j := 5) (t := 38) (by exact rfl) (by exact rfl) (by exact rfl) (et (gS rfl (gS rfl (gS rfl (gS rfl (gS rfl (gS rfl (gS rfl g0))))))) rfl) rfl (y_loadR agg_25 sz_25 (et g0 rfl) (by rw [length_bL, length_be]) (atSR (hX.ex.vl.kC.rowO hR0.r2 (by omega)))) ?_
                      refine p_gstep (j := 5) (t := 38) (by exact rfl) (by exact rfl) (by exact rfl) (et (gS rfl (gS rfl (gS rfl (gS rfl (gS rfl (gS rfl (gS rfl (gS rfl g0)))))))) rfl) rfl (y_loadB agg_65 sz_65 (et (gS rfl (gS rfl (gS rfl (gS rfl (gS rfl (gS rfl (gS rfl (gS rfl (gS rfl (gS rfl (gS rfl (gS rfl (gS rfl (gS rfl (gS rfl (gS rfl g0)))))))))))))))) rfl) rfl (atSB k16)) ?_
                      refine p_geff (j := 5) (t := 38) (by exact rfl) (by exact rfl) (by exact rfl) (et (gS rfl (gS rfl (gS rfl (gS rfl (gS rfl (gS rfl (gS rfl (gS rfl (gS rfl g0))))))))) rfl) rfl (e_callV cal_99 (aC (et (gS rfl (gS rfl (gS rfl (gS rfl (gS rfl g0))))) rfl) (aC (et (gS rfl g0) rfl) aN)) (hX.ex.balC f.self hB.self)) (fun v28 w28 h28 => ?_)
                      obtain ⟨rfl, u28⟩ := h28
                      replace k16 := k16.up u28
                      replace hX := hX.up u28
                      replace U := U.tr u28
                      refine ⟨.inr (SU.tr u28), ?_⟩
                      replace SU := SU.tr u28
                      have hbal0 : (acctAt s0.now.accts f.self).bal < W256 := by have h9 := hX.ex.balt f.self; rw [hX.ex.bl] at h9; exact h9
                      refine p_geff (j := 5) (t := 38) (by exact rfl) (by exact rfl) (by exact rfl) (et (gS rfl (gS rfl (gS rfl (gS rfl (gS rfl (gS rfl (gS rfl (gS rfl (gS rfl (gS rfl g0)))))))))) rfl) rfl (e_callV cal_112 (aC (et g0 rfl) (aC (et (gS rfl g0) rfl) aN)) (lt_spec _ _ _ hbal0 (argN_lt hB _))) (fun v29 w29 h29 => ?_)
                      obtain ⟨rfl, u29⟩ := h29
                      replace k16 := k16.up u29
                      replace hX := hX.up u29
                      replace U := U.tr u29
                      refine ⟨.inr (SU.tr u29), ?_⟩
                      replace SU := SU.tr u29
                      refine p_step (by exact rfl) (y_pickF (et (gS rfl (gS rfl (gS rfl (gS rfl (gS rfl (gS rfl (gS rfl (gS rfl (gS rfl (gS rfl (gS rfl g0))))))))))) rfl) (et g0 rfl)) ?_
                      refine p_step (by exact rfl) (y_moveV (et g0 rfl)) ?_
                      refine gsplitP (i := 51) g0 (fun q30 => ?_) (fun q30 => ?_)
                      · skip
                        have hfb : (acctAt s.now.accts f.self).bal < argN f.stack 0 := by have h9 := of_decide_eq_true q30; rw [hac0] at h9; exact h9
                        refine p_gskip (j := 18) (t := 51) (by exact rfl) (by exact rfl) (by exact rfl) (et g0 rfl) rfl rfl ?_
                        refine p_gskip (j := 18) (t := 51) (by exact rfl) (by exact rfl) (by exact rfl) (et (gS rfl g0) rfl) rfl rfl ?_
                        refine p_step (by exact rfl) (y_pickT (et (gS rfl (gS rfl g0)) rfl) rfl) ?_
                        refine p_nil ?_
                        refine hK22 _ _ ?_
                        refine fg7 0 2 3 4 5 6 54 (gS rfl (gS rfl (gS rfl (gS rfl (gS rfl (gS rfl (gS rfl (gS rfl (gS rfl (gS rfl (gS rfl (gS rfl (gS rfl (gS rfl (gS rfl (gS rfl (gS rfl (gS rfl (gS rfl (gS rfl (gS rfl (gS rfl (gS rfl (gS rfl (gS rfl (gS rfl (gS rfl (gS rfl (gS rfl g0))))))))))))))))))))))))))))) (gS rfl (gS rfl (gS rfl (gS rfl (gS rfl (gS rfl (gS rfl (gS rfl (gS rfl (gS rfl (gS rfl (gS rfl (gS rfl (gS rfl (gS rfl (gS rfl (gS rfl (gS rfl (gS rfl (gS rfl (gS rfl (gS rfl (gS rfl (gS rfl (gS rfl (gS rfl (gS rfl (gS rfl g0)))))))))))))))))))))))))))) (gS rfl (gS rfl (gS rfl (gS rfl (gS rfl (gS rfl (gS rfl (gS rfl (gS rfl (gS rfl (gS rfl (gS rfl (gS rfl (gS rfl (gS rfl (gS rfl (gS rfl (gS rfl (gS rfl (gS rfl (gS rfl (gS rfl (gS rfl (gS rfl (gS rfl (gS rfl (gS rfl g0))))))))))))))))))))))))))) (gS rfl (gS rfl (gS rfl (gS rfl (gS rfl (gS rfl (gS rfl (gS rfl (gS rfl (gS rfl (gS rfl (gS rfl (gS rfl (gS rfl (gS rfl (gS rfl (gS rfl (gS rfl (gS rfl (gS rfl (gS rfl (gS rfl (gS rfl (gS rfl (gS rfl (gS rfl g0)))))))))))))))))))))))))) (gS rfl (gS rfl (gS rfl (gS rfl (gS rfl (gS rfl (gS rfl (gS rfl (gS rfl (gS rfl (gS rfl (gS rfl (gS rfl (gS rfl (gS rfl (gS rfl (gS rfl (gS rfl (gS rfl (gS rfl (gS rfl (gS rfl (gS rfl (gS rfl (gS rfl g0))))))))))))))))))))))))) (gS rfl (gS rfl (gS rfl (gS rfl (gS rfl (gS rfl (gS rfl (gS rfl (gS rfl (gS rfl (gS rfl (gS rfl (gS rfl (gS rfl (gS rfl (gS rfl (gS rfl (gS rfl (gS rfl (gS rfl (gS rfl (gS rfl (gS rfl (gS rfl g0)))))))))))))))))))))))) g0 (fun g => ?_)
                        refine c_true (et g0 rfl) rfl ?_
                        refine c_seq (fun K32 hK32 => ?_)
                        exact (by
                          refine c_region ?_
                          refine l_step (y_moveV (et (gS rfl (gS rfl (gS rfl (gS rfl (gS rfl (gS rfl g0)))))) rfl)) ?_
                          refine l_step (y_moveV (et (gS rfl (gS rfl (gS rfl (gS rfl (gS rfl (gS rfl g0)))))) rfl)) ?_
                          refine l_step (y_moveV (et (gS rfl (gS rfl (gS rfl (gS rfl (gS rfl g0))))) rfl)) ?_
                          refine l_step (y_bld bN bld65_z) ?_
                          refine l_eff (e_callV cal_259 (aC (et (gS rfl (gS rfl (gS rfl g0))) rfl) (aC (et (gS rfl (gS rfl g0)) rfl) (aC (et (gS rfl g0) rfl) (aC rfl (aC (et g0 rfl) (aC (v := .int .u16 ((1 : Nat) : Int)) rfl aN)))))) (m_settle1 hX.ex hsf0 hph0 rfl 3 _ 1 (by omega) (by decide) (by omega) (by omega))) (fun v33 w33 h33 => ?_)
                          obtain ⟨rfl, cs33, y33⟩ := h33
                          replace k16 := k16.ch y33.et.go.ch (by intro hm; (have e0 := hm); omega)
                          replace hX := hX.trans y33
                          replace U := U.cc y33.et.go.ch (by intro b hb; exact .inl trivial)
                          refine l_nil ?_
                          refine hK32 _ _ ?_
                          refine fg0 (fun g => ?_)
                          refine c_ret ?_
                          repeat with_reducible refine then_ret ?_
                          refine ret0 rfl ?_
                          have hfl : crFail { s with ret := [] } f low.length := .inr (.inl hfb)
                          rw [set_ans, hs0] at hX
                          rw [show creY { s with ret := [] } f 240 low = { { s with ret := [] } with frames := low ++ [ansN f (tkN 240) 0] } by rw [creY, if_pos hfl]]
                          refine ⟨rfl, XO.of (hX.slack (by omega)) ?_⟩
                          rw [hms]
                          show _ = (low ++ [ansN f (tkN 240) 0]).map _
                          rw [List.map_append, List.map_append]
                          rfl)
                      · skip
                        have hfb : ¬ (acctAt s.now.accts f.self).bal < argN f.stack 0 := by have h9 := of_decide_eq_false q30; rw [hac0] at h9; exact h9
                        refine p_gstep (j := 18) (t := 51) (by exact rfl) (by exact rfl) (by exact rfl) (et g0 rfl) rfl (y_moveV (et (gS rfl (gS rfl (gS rfl (gS rfl (gS rfl (gS rfl (gS rfl (gS rfl (gS rfl (gS rfl (gS rfl (gS rfl (gS rfl (gS rfl (gS rfl (gS rfl (gS rfl (gS rfl (gS rfl (gS rfl (gS rfl g0))))))))))))))))))))) rfl)) ?_
                        refine p_gstep (j := 18) (t := 51) (by exact rfl) (by exact rfl) (by exact rfl) (et (gS rfl g0) rfl) rfl (y_eql (et g0 rfl) rfl) ?_
                        refine p_step (by exact rfl) (y_pickF (et (gS rfl (gS rfl g0)) rfl) (et g0 rfl)) ?_
                        refine p_nil ?_
                        refine hK22 _ _ ?_
                        refine fg7 0 2 3 4 5 6 54 (gS rfl (gS rfl (gS rfl (gS rfl (gS rfl (gS rfl (gS rfl (gS rfl (gS rfl (gS rfl (gS rfl (gS rfl (gS rfl (gS rfl (gS rfl (gS rfl (gS rfl (gS rfl (gS rfl (gS rfl (gS rfl (gS rfl (gS rfl (gS rfl (gS rfl (gS rfl (gS rfl (gS rfl (gS rfl g0))))))))))))))))))))))))))))) (gS rfl (gS rfl (gS rfl (gS rfl (gS rfl (gS rfl (gS rfl (gS rfl (gS rfl (gS rfl (gS rfl (gS rfl (gS rfl (gS rfl (gS rfl (gS rfl (gS rfl (gS rfl (gS rfl (gS rfl (gS rfl (gS rfl (gS rfl (gS rfl (gS rfl (gS rfl (gS rfl (gS rfl g0)))))))))))))))))))))))))))) (gS rfl (gS rfl (gS rfl (gS rfl (gS rfl (gS rfl (gS rfl (gS rfl (gS rfl (gS rfl (gS rfl (gS rfl (gS rfl (gS rfl (gS rfl (gS rfl (gS rfl (gS rfl (gS rfl (gS rfl (gS rfl (gS rfl (gS rfl (gS rfl (gS rfl (gS rfl (gS rfl g0))))))))))))))))))))))))))) (gS rfl (gS rfl (gS rfl (gS rfl (gS rfl (gS rfl (gS rfl (gS rfl (gS rfl (gS rfl (gS rfl (gS rfl (gS rfl (gS rfl (gS rfl (gS rfl (gS rfl (gS rfl (gS rfl (gS rfl (gS rfl (gS rfl (gS rfl (gS rfl (gS rfl (gS rfl g0)))))))))))))))))))))))))) (gS rfl (gS rfl (gS rfl (gS rfl (gS rfl (gS rfl (gS rfl (gS rfl (gS rfl (gS rfl (gS rfl (gS rfl (gS rfl (gS rfl (gS rfl (gS rfl (gS rfl (gS rfl (gS rfl (gS rfl (gS rfl (gS rfl (gS rfl (gS rfl (gS rfl g0))))))))))))))))))))))))) (gS rfl (gS rfl (gS rfl (gS rfl (gS rfl (gS rfl (gS rfl (gS rfl (gS rfl (gS rfl (gS rfl (gS rfl (gS rfl (gS rfl (gS rfl (gS rfl (gS rfl (gS rfl (gS rfl (gS rfl (gS rfl (gS rfl (gS rfl (gS rfl g0)))))))))))))))))))))))) g0 (fun g => ?_)
                        refine c_cond (et g0 rfl) (fun cB3 => ?_) (fun cB3 => ?_)
                        · skip
                          rw [hac0] at cB3
                          have hnm : (acctAt s.now.accts f.self).nonce = 18446744073709551615 := by have := of_decide_eq_true cB3; omega
                          refine c_seq (fun K35 hK35 => ?_)
                          exact (by
                            refine c_region ?_
                            refine l_step (y_moveV (et (gS rfl (gS rfl (gS rfl (gS rfl (gS rfl (gS rfl g0)))))) rfl)) ?_
                            refine l_step (y_moveV (et (gS rfl (gS rfl (gS rfl (gS rfl (gS rfl (gS rfl g0)))))) rfl)) ?_
                            refine l_step (y_moveV (et (gS rfl (gS rfl (gS rfl (gS rfl (gS rfl g0))))) rfl)) ?_
                            refine l_step (y_bld bN bld65_z) ?_
                            refine l_eff (e_callV cal_259 (aC (et (gS rfl (gS rfl (gS rfl g0))) rfl) (aC (et (gS rfl (gS rfl g0)) rfl) (aC (et (gS rfl g0) rfl) (aC rfl (aC (et g0 rfl) (aC (v := .int .u16 ((1 : Nat) : Int)) rfl aN)))))) (m_settle1 hX.ex hsf0 hph0 rfl 3 _ 1 (by omega) (by decide) (by omega) (by omega))) (fun v36 w36 h36 => ?_)
                            obtain ⟨rfl, cs36, y36⟩ := h36
                            replace k16 := k16.ch y36.et.go.ch (by intro hm; (have e0 := hm); omega)
                            replace hX := hX.trans y36
                            replace U := U.cc y36.et.go.ch (by intro b hb; exact .inl trivial)
                            refine l_nil ?_
                            refine hK35 _ _ ?_
                            refine fg0 (fun g => ?_)
                            refine c_ret ?_
                            repeat with_reducible refine then_ret ?_
                            refine ret0 rfl ?_
                            have hfl : crFail { s with ret := [] } f low.length := .inr (.inr (by show 18446744073709551615 ≤ (acctAt s.now.accts f.self).nonce; omega))
                            rw [set_ans, hs0] at hX
                            rw [show creY { s with ret := [] } f 240 low = { { s with ret := [] } with frames := low ++ [ansN f (tkN 240) 0] } by rw [creY, if_pos hfl]]
                            refine ⟨rfl, XO.of (hX.slack (by omega)) ?_⟩
                            rw [hms]
                            show _ = (low ++ [ansN f (tkN 240) 0]).map _
                            rw [List.map_append, List.map_append]
                            rfl)
                        · skip
                          rw [hac0] at cB3
                          have hnm : (acctAt s.now.accts f.self).nonce ≠ 18446744073709551615 := by have := of_decide_eq_false cB3; omega
                          refine c_skip ?_
                          refine hK21 _ _ ?_
                          refine fg6 0 2 3 4 5 6 (gS rfl (gS rfl (gS rfl (gS rfl (gS rfl (gS rfl g0)))))) (gS rfl (gS rfl (gS rfl (gS rfl (gS rfl g0))))) (gS rfl (gS rfl (gS rfl (gS rfl g0)))) (gS rfl (gS rfl (gS rfl g0))) (gS rfl (gS rfl g0)) (gS rfl g0) (fun g => ?_)
                          refine c_seq (fun K37 hK37 => ?_)
                          exact (by
                            refine c_region ?_
                            refine l_step (y_moveV (et (gS rfl (gS rfl (gS rfl (gS rfl (gS rfl g0))))) rfl)) ?_
                            refine l_step (y_moveV (et (gS rfl (gS rfl (gS rfl (gS rfl (gS rfl (gS rfl g0)))))) rfl)) ?_
                            refine l_step (y_moveV (et (gS rfl (gS rfl (gS rfl (gS rfl (gS rfl (gS rfl g0)))))) rfl)) ?_
                            refine l_eff (e_callV cal_264 (aC (et (gS rfl g0) rfl) (aC (et g0 rfl) (aC (v := .int .i64 ((1 : Nat) : Int)) rfl aN))) (m_arg hX.ex hsf0 hph0 rfl 1 (by decide))) (fun v38 w38 h38 => ?_)
                            obtain ⟨rfl, u38⟩ := h38
                            replace k16 := k16.up u38
                            replace hX := hX.up u38
                            replace U := U.tr u38
                            refine l_step (y_moveV (et (gS rfl (gS rfl (gS rfl (gS rfl (gS rfl (gS rfl (gS rfl (gS rfl (gS rfl g0))))))))) rfl)) ?_
                            refine l_step (y_moveV (et (gS rfl (gS rfl (gS rfl (gS rfl (gS rfl (gS rfl (gS rfl (gS rfl (gS rfl g0))))))))) rfl)) ?_
                            refine l_eff (e_callV cal_264 (aC (et (gS rfl g0) rfl) (aC (et g0 rfl) (aC (v := .int .i64 ((2 : Nat) : Int)) rfl aN))) (m_arg hX.ex hsf0 hph0 rfl 2 (by decide))) (fun v39 w39 h39 => ?_)
                            obtain ⟨rfl, u39⟩ := h39
                            replace k16 := k16.up u39
                            replace hX := hX.up u39
                            replace U := U.tr u39
                            refine l_eff (e_callV cal_292 (aC (et (gS rfl (gS rfl (gS rfl (gS rfl (gS rfl (gS rfl g0)))))) rfl) (aC (et (gS rfl (gS rfl (gS rfl g0))) rfl) (aC (et g0 rfl) aN))) (m_read hX.ex hsf0 hph0 hms8 _ _ (argN_lt hB _) (argN_lt hB _) hrd)) (fun v40 w40 h40 => ?_)
                            obtain ⟨H40, vb7, rfl, g40, bv7⟩ := h40
                            have nh16 : ¬ H40.has b16 := g40.nb (fun hh => by have := hfz.lt hh; omega) k16.lt
                            replace k16 := k16.ch g40.ch (by intro hm; exact hm.elim)
                            replace hX := hX.gn g40
                            replace U := U.cc g40.ch (by intro b hb; exact .inl trivial)
                            obtain ⟨ca7, cc7, rfl⟩ := bv7.sl
                            refine l_step (y_moveV (et g0 rfl)) ?_
                            refine l_step (y_ext (et g0 rfl) rfl) ?_
                            refine l_step (y_ext (et (gS rfl g0) rfl) rfl) ?_
                            refine l_step (y_assignV (et (gS rfl g0) rfl)) ?_
                            refine l_step (y_assignV (et (gS rfl g0) rfl)) ?_
                            refine l_nil ?_
                            refine hK37 _ _ ?_
                            refine fg8 0 2 3 4 5 6 7 8 (gS rfl (gS rfl (gS rfl (gS rfl (gS rfl (gS rfl (gS rfl (gS rfl (gS rfl (gS rfl (gS rfl (gS rfl (gS rfl (gS rfl (gS rfl (gS rfl (gS rfl (gS rfl g0)))))))))))))))))) (gS rfl (gS rfl (gS rfl (gS rfl (gS rfl (gS rfl (gS rfl (gS rfl (gS rfl (gS rfl (gS rfl (gS rfl (gS rfl (gS rfl (gS rfl (gS rfl (gS rfl g0))))))))))))))))) (gS rfl (gS rfl (gS rfl (gS rfl (gS rfl (gS rfl (gS rfl (gS rfl (gS rfl (gS rfl (gS rfl (gS rfl (gS rfl (gS rfl (gS rfl (gS rfl g0)))))))))))))))) (gS rfl (gS rfl (gS rfl (gS rfl (gS rfl (gS rfl (gS rfl (gS rfl (gS rfl (gS rfl (gS rfl (gS rfl (gS rfl (gS rfl (gS rfl g0))))))))))))))) (gS rfl (gS rfl (gS rfl (gS rfl (gS rfl (gS rfl (gS rfl (gS rfl (gS rfl (gS rfl (gS rfl (gS rfl (gS rfl (gS rfl g0)))))))))))))) (gS rfl (gS rfl (gS rfl (gS rfl (gS rfl (gS rfl (gS rfl (gS rfl (gS rfl (gS rfl (gS rfl (gS rfl (gS rfl g0))))))))))))) (gS rfl g0) g0 (fun g => ?_)
                            refine c_seq (fun K41 hK41 => ?_)
                            refine c_seq (fun K42 hK42 => ?_)
                            exact (by
                              refine c_region ?_
                              refine l_step (y_moveV (et g0 rfl)) ?_
                              refine l_step (y_not (et g0 rfl)) ?_
                              refine l_nil ?_
                              refine hK42 _ _ ?_
                              refine fg8 0 2 3 4 5 6 7 72 (gS rfl (gS rfl (gS rfl (gS rfl (gS rfl (gS rfl (gS rfl (gS rfl (gS rfl g0))))))))) (gS rfl (gS rfl (gS rfl (gS rfl (gS rfl (gS rfl (gS rfl (gS rfl g0)))))))) (gS rfl (gS rfl (gS rfl (gS rfl (gS rfl (gS rfl (gS rfl g0))))))) (gS rfl (gS rfl (gS rfl (gS rfl (gS rfl (gS rfl g0)))))) (gS rfl (gS rfl (gS rfl (gS rfl (gS rfl g0))))) (gS rfl (gS rfl (gS rfl (gS rfl g0)))) (gS rfl (gS rfl (gS rfl g0))) g0 (fun g => ?_)
                              refine c_false (et g0 rfl) (by rfl) ?_
                              refine c_skip ?_
                              refine hK41 _ _ ?_
                              refine fg7 0 2 3 4 5 6 7 (gS rfl (gS rfl (gS rfl (gS rfl (gS rfl (gS rfl (gS rfl g0))))))) (gS rfl (gS rfl (gS rfl (gS rfl (gS rfl (gS rfl g0)))))) (gS rfl (gS rfl (gS rfl (gS rfl (gS rfl g0))))) (gS rfl (gS rfl (gS rfl (gS rfl g0)))) (gS rfl (gS rfl (gS rfl g0))) (gS rfl (gS rfl g0)) (gS rfl g0) (fun g => ?_)
                              refine c_seq (fun K44 hK44 => ?_)
                              exact (by
                                have hnw1 := hX.ex.vl.new
                                have hfzR := hX.ex.vl.fz
                                refine fgv7 0 2 3 4 5 6 7 (gS rfl (gS rfl (gS rfl (gS rfl (gS rfl (gS rfl g0)))))) (gS rfl (gS rfl (gS rfl (gS rfl (gS rfl g0))))) (gS rfl (gS rfl (gS rfl (gS rfl g0)))) (gS rfl (gS rfl (gS rfl g0))) (gS rfl (gS rfl g0)) (gS rfl g0) g0 (fun g z0 z2 z3 z4 z5 z6 z7 e0 e2 e3 e4 e5 e6 e7 => ?_)
                                refine c_drawJ (fun s_ w_ => ∃ (g : Nat → Value) (b46 : Nat), s_ = (upd (upd (upd (upd (upd (upd (upd g 0 z0) 2 z2) 3 z3) 4 z4) 6 z6) 7 z7) 9 (.pointer (some ⟨b46, 0, none⟩))) ∧ Ch (fun _ => False) w40 w_ ∧ w40.heap.size ≤ b46 ∧ Blk w_ b46 ((fcv (cFr 5 false (argN f.stack 0) (crtN f.self (acctAt s0.now.accts f.self).nonce) f.self 0 0 [] []) (.slice ca7 (rdN f.mem (argN f.stack 1) (argN f.stack 2)).length cc7) (.slice none 0 0) 0 0 0 (List.replicate 8 0)).toArray)) Up 14 (.pure 0 (.pure 1 (.pure 2 (.pure 3 (.pure 4 (.pure 5 (.pure 6 (.pure 7 (.pure 8 (.pure 9 (.pure 10 (.two 11 (.pure 12 (.eff 13 (.eff 14 .fin))) 13 (.eff 11 (.pure 12 (.eff 14 .fin))))))))))))))) (by kernel_rfl) (fun w47 hu => ⟨Up.refl _, ?_⟩) ?_
                                · skip
                                  subst e0 e2 e3 e4 e5 e6 e7
                                  replace k16 := k16.up hu
                                  replace hX := hX.up hu
                                  replace U := U.tr hu
                                  have SU := Up.refl w47
                                  have V45 : Ch (fun _ => False) w40 w47 := hu
                                  refine t_step (by exact rfl) (y_moveV (et (gS rfl (gS rfl (gS rfl (gS rfl (gS rfl g0))))) rfl)) ?_
                                  refine t_step (by exact rfl) (y_nil (et g0 rfl)) ?_
                                  refine t_step (by exact rfl) (y_fld fld_71_9 (et g0 rfl)) ?_
                                  refine t_step (by exact rfl) (y_loadR agg_25 sz_25 (et g0 rfl) (by rw [length_bL, length_be]) (atSR (hX.ex.vl.kC.rowO hR0.r2 (by omega)))) ?_
                                  refine t_step (by exact rfl) (y_loadB agg_65 sz_65 (et (gS rfl (gS rfl (gS rfl (gS rfl (gS rfl (gS rfl g0)))))) rfl) rfl (atSB k16)) ?_
                                  refine t_step (by exact rfl) (y_moveV (et (gS rfl (gS rfl (gS rfl (gS rfl (gS rfl g0))))) rfl)) ?_
                                  refine t_step (by exact rfl) (y_moveV (et (gS rfl (gS rfl (gS rfl (gS rfl (gS rfl (gS rfl (gS rfl (gS rfl (gS rfl (gS rfl (gS rfl g0))))))))))) rfl)) ?_
                                  refine t_step (by exact rfl) (y_nil (et g0 rfl)) ?_
                                  refine t_step (by exact rfl) (y_fld fld_71_9 (et g0 rfl)) ?_
                                  refine t_step (by exact rfl) (y_loadR agg_25 sz_25 (et g0 rfl) (by rw [length_bL, length_be]) (atSR (hX.ex.vl.kC.rowO hR0.r2 (by omega)))) ?_
                                  refine t_step (by exact rfl) (y_moveV (et (gS rfl (gS rfl (gS rfl (gS rfl (gS rfl (gS rfl (gS rfl (gS rfl (gS rfl (gS rfl (gS rfl g0))))))))))) rfl)) ?_
                                  refine t_two ?_ ?_
                                  · skip
                                    refine t_eff (by exact rfl) (e_callV cal_93 (aC (et (gS rfl g0) rfl) (aC (et g0 rfl) aN)) (m_createAddr _ _ _ hB.self (hX.ex.nont f.self))) (fun v48 w48 h48 => ?_)
                                    obtain ⟨rfl, u48⟩ := h48
                                    replace k16 := k16.up u48
                                    replace hX := hX.up u48
                                    replace U := U.tr u48
                                    replace V45 := V45.tr u48
                                    refine ⟨.inr (SU.tr u48), ?_⟩
                                    replace SU := SU.tr u48
                                    refine t_step (by exact rfl) ((y_bldMN (et (gS rfl (gS rfl (gS rfl (gS rfl (gS rfl (gS rfl (gS rfl (gS rfl g0)))))))) rfl) (et (gS rfl (gS rfl (gS rfl (gS rfl (gS rfl (gS rfl (gS rfl g0))))))) rfl) (et (gS rfl (gS rfl (gS rfl (gS rfl (gS rfl (gS rfl g0)))))) rfl) (et g0 rfl))) ?_
                                    refine t_one ?_
                                    refine t_eff (by exact rfl) (e_alloc zr_71) (fun v49 w49 h49 => ?_)
                                    obtain ⟨b49, rfl, n49⟩ := h49
                                    have d16_49 : b16 < b49 := Nat.lt_of_lt_of_le k16.lt n49.fresh
                                    have f49 : w.heap.size ≤ b49 := Nat.le_trans U.size n49.fresh
                                    have fS49 := Nat.le_trans SU.size n49.fresh
                                    have fV45_49 := Nat.le_trans V45.size n49.fresh
                                    replace k16 := k16.up n49.up
                                    replace hX := hX.up n49.up
                                    replace U := U.tr n49.up
                                    replace V45 := V45.tr n49.up
                                    have k49 := n49.blk
                                    obtain ⟨zs49, hz49, k49⟩ : ∃ cs : Array Value, cs.size = 65 ∧ Blk w49 b49 cs := ⟨_, rfl, k49⟩
                                    refine ⟨.inr (SU.tr n49.up), ?_⟩
                                    replace SU := SU.tr n49.up
                                    have nc49 := hnw1 b49 (Nat.le_trans hu.size fS49)
                                    have nh49 : ¬ H40.has b49 := fun hh => by have h9 := hfzR.lt hh; have h8 := Nat.le_trans hu.size fS49; omega
                                    refine t_one ?_
                                    refine t_effN (by exact rfl) (e_store sz_71 (et g0 rfl) (cellsV (et (gS rfl g0) rfl) rfl) (fcv_len rfl) (by exact fcv_one) k49 (by (rw [hz49]; exact Nat.le_refl _))) (fun v50 w50 h50 => ?_)
                                    obtain ⟨rfl, x50⟩ := h50
                                    replace k16 := k16.ch x50.ch (by omega)
                                    replace hX := hX.ch x50.ch (by first | omega | (intro b hb; first | (subst hb; first | exact ⟨by omega, fun hh => by have := hfz.lt hh; omega, by omega⟩ | exact ⟨by omega, by assumption, by omega⟩) | (rcases hb with hb | hb <;> (subst hb; first | exact ⟨by omega, fun hh => by have := hfz.lt hh; omega, by omega⟩ | exact ⟨by omega, by assumption, by omega⟩))))
                                    replace k49 := x50.blk.full (by rw [hz49, fcv_len rfl])
                                    replace U := U.st x50 (.inr f49)
                                    replace V45 := V45.st x50 (by omega)
                                    refine ⟨.inl rfl, ?_⟩
                                    refine tl7 0 2 3 4 6 7 9 (gS rfl (gS rfl (gS rfl (gS rfl (gS rfl (gS rfl (gS rfl (gS rfl (gS rfl (gS rfl (gS rfl (gS rfl (gS rfl (gS rfl (gS rfl (gS rfl (gS rfl (gS rfl (gS rfl (gS rfl g0)))))))))))))))))))) (gS rfl (gS rfl (gS rfl (gS rfl (gS rfl (gS rfl (gS rfl (gS rfl (gS rfl (gS rfl (gS rfl (gS rfl (gS rfl (gS rfl (gS rfl (gS rfl (gS rfl (gS rfl (gS rfl g0))))))))))))))))))) (gS rfl (gS rfl (gS rfl (gS rfl (gS rfl (gS rfl (gS rfl (gS rfl (gS rfl (gS rfl (gS rfl (gS rfl (gS rfl (gS rfl (gS rfl (gS rfl (gS rfl (gS rfl g0)))))))))))))))))) (gS rfl (gS rfl (gS rfl (gS rfl (gS rfl (gS rfl (gS rfl (gS rfl (gS rfl (gS rfl (gS rfl (gS rfl (gS rfl (gS rfl (gS rfl (gS rfl (gS rfl g0))))))))))))))))) (gS rfl (gS rfl (gS rfl (gS rfl (gS rfl (gS rfl (gS rfl (gS rfl (gS rfl (gS rfl (gS rfl (gS rfl (gS rfl (gS rfl (gS rfl g0))))))))))))))) (gS rfl (gS rfl (gS rfl (gS rfl (gS rfl (gS rfl (gS rfl (gS rfl (gS rfl (gS rfl (gS rfl (gS rfl (gS rfl (gS rfl g0)))))))))))))) g0 (fun g => ?_)
                                    exact ⟨g, _, rfl, V45, Nat.le_trans hu.size fS49, k49⟩
                                  · skip
                                    refine t_eff (by exact rfl) (e_alloc zr_71) (fun v51 w51 h51 => ?_)
                                    obtain ⟨b51, rfl, n51⟩ := h51
                                    have d16_51 : b16 < b51 := Nat.lt_of_lt_of_le k16.lt n51.fresh
                                    have f51 : w.heap.size ≤ b51 := Nat.le_trans U.size n51.fresh
                                    have fS51 := Nat.le_trans SU.size n51.fresh
                                    have fV45_51 := Nat.le_trans V45.size n51.fresh
                                    replace k16 := k16.up n51.up
                                    replace hX := hX.up n51.up
                                    replace U := U.tr n51.up
                                    replace V45 := V45.tr n51.up
                                    have k51 := n51.blk
                                    obtain ⟨zs51, hz51, k51⟩ : ∃ cs : Array Value, cs.size = 65 ∧ Blk w51 b51 cs := ⟨_, rfl, k51⟩
                                    refine ⟨.inr (SU.tr n51.up), ?_⟩
                                    replace SU := SU.tr n51.up
                                    have nc51 := hnw1 b51 (Nat.le_trans hu.size fS51)
                                    have nh51 : ¬ H40.has b51 := fun hh => by have h9 := hfzR.lt hh; have h8 := Nat.le_trans hu.size fS51; omega
                                    refine t_one ?_
                                    refine t_eff (by exact rfl) (e_callV cal_93 (aC (et (gS rfl (gS rfl g0)) rfl) (aC (et (gS rfl g0) rfl) aN)) (m_createAddr _ _ _ hB.self (hX.ex.nont f.self))) (fun v52 w52 h52 => ?_)
                                    obtain ⟨rfl, u52⟩ := h52
                                    replace k16 := k16.up u52
                                    replace k51 := k51.up u52
                                    replace hX := hX.up u52
                                    replace U := U.tr u52
                                    replace V45 := V45.tr u52
                                    refine ⟨.inr (SU.tr u52), ?_⟩
                                    replace SU := SU.tr u52
                                    refine t_step (by exact rfl) ((y_bldMN (et (gS rfl (gS rfl (gS rfl (gS rfl (gS rfl (gS rfl (gS rfl (gS rfl (gS rfl g0))))))))) rfl) (et (gS rfl (gS rfl (gS rfl (gS rfl (gS rfl (gS rfl (gS rfl (gS rfl g0)))))))) rfl) (et (gS rfl (gS rfl (gS rfl (gS rfl (gS rfl (gS rfl (gS rfl g0))))))) rfl) (et g0 rfl))) ?_
                                    refine t_one ?_
                                    refine t_effN (by exact rfl) (e_store sz_71 (et (gS rfl (gS rfl g0)) rfl) (cellsV (et g0 rfl) rfl) (fcv_len rfl) (by exact fcv_one) k51 (by (rw [hz51]; exact Nat.le_refl _))) (fun v53 w53 h53 => ?_)
                                    obtain ⟨rfl, x53⟩ := h53
                                    replace k16 := k16.ch x53.ch (by omega)
                                    replace hX := hX.ch x53.ch (by first | omega | (intro b hb; first | (subst hb; first | exact ⟨by omega, fun hh => by have := hfz.lt hh; omega, by omega⟩ | exact ⟨by omega, by assumption, by omega⟩) | (rcases hb with hb | hb <;> (subst hb; first | exact ⟨by omega, fun hh => by have := hfz.lt hh; omega, by omega⟩ | exact ⟨by omega, by assumption, by omega⟩))))
                                    replace k51 := x53.blk.full (by rw [hz51, fcv_len rfl])
                                    replace U := U.st x53 (.inr f51)
                                    replace V45 := V45.st x53 (by omega)
                                    refine ⟨.inl rfl, ?_⟩
                                    refine tl7 0 2 3 4 6 7 9 (gS rfl (gS rfl (gS rfl (gS rfl (gS rfl (gS rfl (gS rfl (gS rfl (gS rfl (gS rfl (gS rfl (gS rfl (gS rfl (gS rfl (gS rfl (gS rfl (gS rfl (gS rfl (gS rfl (gS rfl g0)))))))))))))))))))) (gS rfl (gS rfl (gS rfl (gS rfl (gS rfl (gS rfl (gS rfl (gS rfl (gS rfl (gS rfl (gS rfl (gS rfl (gS rfl (gS rfl (gS rfl (gS rfl (gS rfl (gS rfl (gS rfl g0))))))))))))))))))) (gS rfl (gS rfl (gS rfl (gS rfl (gS rfl (gS rfl (gS rfl (gS rfl (gS rfl (gS rfl (gS rfl (gS rfl (gS rfl (gS rfl (gS rfl (gS rfl (gS rfl (gS rfl g0)))))))))))))))))) (gS rfl (gS rfl (gS rfl (gS rfl (gS rfl (gS rfl (gS rfl (gS rfl (gS rfl (gS rfl (gS rfl (gS rfl (gS rfl (gS rfl (gS rfl (gS rfl (gS rfl g0))))))))))))))))) (gS rfl (gS rfl (gS rfl (gS rfl (gS rfl (gS rfl (gS rfl (gS rfl (gS rfl (gS rfl (gS rfl (gS rfl (gS rfl (gS rfl (gS rfl g0))))))))))))))) (gS rfl (gS rfl (gS rfl (gS rfl (gS rfl (gS rfl (gS rfl (gS rfl (gS rfl (gS rfl (gS rfl (gS rfl (gS rfl (gS rfl g0)))))))))))))) (gS rfl (gS rfl g0)) (fun g => ?_)
                                    exact ⟨g, _, rfl, V45, Nat.le_trans hu.size fS51, k51⟩
                                intro s_ w54 hJ
                                obtain ⟨g, b46, rfl, V45, fn46, kn46⟩ := hJ
                                subst e0 e2 e3 e4 e5 e6 e7
                                have d16_46 : b16 < b46 := Nat.lt_of_lt_of_le k16.lt fn46
                                have f46 : w.heap.size ≤ b46 := Nat.le_trans U.size fn46
                                replace k16 := k16.up V45
                                replace hX := hX.up V45
                                replace U := U.tr V45
                                have k46 := kn46
                                have nc46 := hnw1 b46 fn46
                                have nh46 : ¬ H40.has b46 := fun hh => by have h9 := hfzR.lt hh; have h8 := fn46; omega
                                rw [hac0] at k46
                                refine hK44 _ _ ?_
                                refine c_seq (fun K55 hK55 => ?_)
                                refine c_seq (fun K56 hK56 => ?_)
                                exact (by
                                  refine c_region ?_
                                  refine l_step (y_moveV (et (gS rfl (gS rfl (gS rfl (gS rfl g0)))) rfl)) ?_
                                  refine l_nil ?_
                                  refine hK56 _ _ ?_
                                  refine fg7 0 2 4 6 7 9 88 (gS rfl (gS rfl (gS rfl (gS rfl (gS rfl (gS rfl (gS rfl g0))))))) (gS rfl (gS rfl (gS rfl (gS rfl (gS rfl (gS rfl g0)))))) (gS rfl (gS rfl (gS rfl (gS rfl g0)))) (gS rfl (gS rfl (gS rfl g0))) (gS rfl (gS rfl g0)) (gS rfl g0) g0 (fun g => ?_)
                                  refine c_false (et g0 rfl) (by (exact decide_eq_false (by omega))) ?_
                                  refine c_skip ?_
                                  refine hK55 _ _ ?_
                                  refine fg5 0 2 4 6 9 (gS rfl (gS rfl (gS rfl (gS rfl (gS rfl (gS rfl g0)))))) (gS rfl (gS rfl (gS rfl (gS rfl (gS rfl g0))))) (gS rfl (gS rfl (gS rfl (gS rfl g0)))) (gS rfl (gS rfl (gS rfl g0))) (gS rfl g0) (fun g => ?_)
                                  refine c_seq (fun K58 hK58 => ?_)
                                  exact (by
                                    refine c_draw Up 11 [(0, true), (1, true), (2, true), (3, true), (4, true), (5, true), (6, true), (7, true), (8, true), (9, true), (10, true), (11, false)] (by kernel_rfl) (fun w59 hu => ⟨Up.refl _, ?_⟩)
                                    replace k16 := k16.up hu
                                    replace k46 := k46.up hu
                                    replace hX := hX.up hu
                                    replace U := U.tr hu
                                    have SU := Up.refl w59
                                    refine p_step (by exact rfl) (y_moveV (et (gS rfl (gS rfl (gS rfl g0))) rfl)) ?_
                                    refine p_step (by exact rfl) (y_nil (et g0 rfl)) ?_
                                    refine p_step (by exact rfl) (y_fld fld_71_7 (et g0 rfl)) ?_
                                    refine p_step (by exact rfl) (y_load1 one_26 (et g0 rfl) (atS (hX.ex.vl.c1 (hR0.r1 7 _ rfl) (by omega)))) ?_
                                    refine p_step (by exact rfl) (y_moveV (et (gS rfl (gS rfl (gS rfl (gS rfl (gS rfl (gS rfl (gS rfl g0))))))) rfl)) ?_
                                    refine p_step (by exact rfl) (y_nil (et g0 rfl)) ?_
                                    refine p_step (by exact rfl) (y_fld fld_71_7 (et g0 rfl)) ?_
                                    refine p_step (by exact rfl) (y_load1 one_26 (et g0 rfl) (atS (hX.ex.vl.c1 (hR0.r1 7 _ rfl) (by omega)))) ?_
                                    refine p_step (by exact rfl) (y_quo (et g0 rfl) rfl (by decide) (quoU (b := 64) uk64 ?_)) ?_
                                    omega
                                    refine p_step (by exact rfl) (y_sub (et (gS rfl (gS rfl (gS rfl (gS rfl (gS rfl g0))))) rfl) (et g0 rfl) (wrapU_subN uk64 ?_ ?_)) ?_
                                    omega
                                    omega
                                    refine p_step (by exact rfl) (y_fld fld_71_7 (et (gS rfl (gS rfl (gS rfl (gS rfl (gS rfl (gS rfl (gS rfl (gS rfl (gS rfl (gS rfl g0)))))))))) rfl)) ?_
                                    refine p_effN (by exact rfl) (e_store sz_26 (et g0 rfl) (cellsV (et (gS rfl g0) rfl) rfl) rfl (by first | exact one_bL _ | exact one_uL _ | (intro v hv; simp at hv; subst hv; rfl)) k46 (by (rw [List.size_toArray, fcv_len rfl]; decide))) (fun v60 w60 h60 => ?_)
                                    obtain ⟨rfl, x60⟩ := h60
                                    replace k16 := k16.ch x60.ch (by omega)
                                    replace hX := hX.ch x60.ch (by first | omega | (intro b hb; first | (subst hb; first | exact ⟨by omega, fun hh => by have := hfz.lt hh; omega, by omega⟩ | exact ⟨by omega, by assumption, by omega⟩) | (rcases hb with hb | hb <;> (subst hb; first | exact ⟨by omega, fun hh => by have := hfz.lt hh; omega, by omega⟩ | exact ⟨by omega, by assumption, by omega⟩))))
                                    replace k46 := x60.blk
                                    replace U := U.st x60 (.inr f46)
                                    refine ⟨.inl rfl, ?_⟩
                                    replace k46 := Blk.fgs (q := _) k46
                                    replace k46 : Blk w60 b46 (fcv (cFr 5 false (argN f.stack 0) (crtN f.self (acctAt s.now.accts f.self).nonce) f.self (f.gas - f.gas / 64) 0 [] []) (.slice ca7 (rdN f.mem (argN f.stack 1) (argN f.stack 2)).length cc7) (.slice none 0 0) 0 0 0 (List.replicate 8 0)).toArray := k46
                                    rw [← crG_eq] at k46
                                    have hcg := crG_eq f
                                    refine p_nil ?_
                                    refine hK58 _ _ ?_
                                    refine fg5 0 2 4 6 9 (gS rfl (gS rfl (gS rfl (gS rfl (gS rfl (gS rfl (gS rfl (gS rfl (gS rfl (gS rfl (gS rfl (gS rfl (gS rfl (gS rfl (gS rfl g0))))))))))))))) (gS rfl (gS rfl (gS rfl (gS rfl (gS rfl (gS rfl (gS rfl (gS rfl (gS rfl (gS rfl (gS rfl (gS rfl (gS rfl (gS rfl g0)))))))))))))) (gS rfl (gS rfl (gS rfl (gS rfl (gS rfl (gS rfl (gS rfl (gS rfl (gS rfl (gS rfl (gS rfl (gS rfl (gS rfl g0))))))))))))) (gS rfl (gS rfl (gS rfl (gS rfl (gS rfl (gS rfl (gS rfl (gS rfl (gS rfl (gS rfl (gS rfl (gS rfl g0)))))))))))) (gS rfl (gS rfl (gS rfl (gS rfl (gS rfl (gS rfl (gS rfl (gS rfl (gS rfl (gS rfl (gS rfl g0))))))))))) (fun g => ?_)
                                    refine c_seq (fun K61 hK61 => ?_)
                                    exact (by
                                      refine c_draw Up 9 [(0, true), (1, true), (2, true), (3, true), (4, true), (5, true), (6, true), (7, true), (8, true), (9, false)] (by kernel_rfl) (fun w62 hu => ⟨Up.refl _, ?_⟩)
                                      replace k16 := k16.up hu
                                      replace k46 := k46.up hu
                                      replace hX := hX.up hu
                                      replace U := U.tr hu
                                      have SU := Up.refl w62
                                      refine p_step (by exact rfl) (y_moveV (et (gS rfl (gS rfl (gS rfl g0))) rfl)) ?_
                                      refine p_step (by exact rfl) (y_nil (et g0 rfl)) ?_
                                      refine p_step (by exact rfl) (y_fld fld_71_7 (et g0 rfl)) ?_
                                      refine p_step (by exact rfl) (y_load1 one_26 (et g0 rfl) (atS (hX.ex.vl.c1 (hR0.r1 7 _ rfl) (by omega)))) ?_
                                      refine p_step (by exact rfl) (y_fld fld_71_7 (et (gS rfl (gS rfl (gS rfl (gS rfl g0)))) rfl)) ?_
                                      refine p_step (by exact rfl) (y_load1 one_26 (et g0 rfl) (atS (k46.cell (show _ = some (Value.int .u64 (crG f : Nat)) from rfl)))) ?_
                                      refine p_step (by exact rfl) (y_sub (et (gS rfl (gS rfl g0)) rfl) (et g0 rfl) (wrapU_subN uk64 ?_ ?_)) ?_
                                      omega
                                      omega
                                      refine p_step (by exact rfl) (y_nil (et (gS rfl (gS rfl (gS rfl (gS rfl (gS rfl (gS rfl g0)))))) rfl)) ?_
                                      refine p_step (by exact rfl) (y_fld fld_71_7 (et g0 rfl)) ?_
                                      refine p_effN (by exact rfl) (e_store sz_26 (et g0 rfl) (cellsV (et (gS rfl (gS rfl g0)) rfl) rfl) rfl (by intro v hv; simp at hv; subst hv; rfl) hX.ex.vl.kC (by rw [hX.ex.vl.size]; omega)) (fun v63 w63 h63 => ?_)
                                      obtain ⟨rfl, x63⟩ := h63
                                      have hv63 := hX.stGas hsf0 hph0 (p := f.gas - crG f) (c' := c' + crG f + 2825) (by omega) (by omega) (by omega) x63
                                      replace k16 := k16.ch x63.ch (by intro hm; first | omega | (subst hm; omega))
                                      replace k46 := k46.ch x63.ch (by intro hm; first | omega | (subst hm; omega))
                                      replace hX := hv63
                                      replace U := U.cc x63.ch (by intro b hb; exact .inl trivial)
                                      obtain ⟨s1, hs1⟩ : ∃ s1 : YSt, s1 = { s0 with frames := low ++ [crF1 f] } := ⟨_, rfl⟩
                                      replace hX := hX.reS hs1
                                      have hsf1 : s1.frames = low ++ [crF1 f] := by rw [hs1]
                                      have hph1 : s1.phase = 1 := by rw [hs1]; exact hph0
                                      have hap1 : s1.applied ≤ 4 := by rw [hs1]; exact hap0
                                      have hac1 : s1.now.accts = s.now.accts := by rw [hs1]; exact hac0
                                      have hhf := (hX.ex.px.has (crF1 f) (by rw [hsf1]; simp)).1
                                      have hnow1 : s1.now = s.now := by rw [hs1, hs0]
                                      refine ⟨.inl rfl, ?_⟩
                                      refine p_nil ?_
                                      refine hK61 _ _ ?_
                                      refine fg5 0 2 4 6 9 (gS rfl (gS rfl (gS rfl (gS rfl (gS rfl (gS rfl (gS rfl (gS rfl (gS rfl (gS rfl (gS rfl (gS rfl (gS rfl g0))))))))))))) (gS rfl (gS rfl (gS rfl (gS rfl (gS rfl (gS rfl (gS rfl (gS rfl (gS rfl (gS rfl (gS rfl (gS rfl g0)))))))))))) (gS rfl (gS rfl (gS rfl (gS rfl (gS rfl (gS rfl (gS rfl (gS rfl (gS rfl (gS rfl (gS rfl g0))))))))))) (gS rfl (gS rfl (gS rfl (gS rfl (gS rfl (gS rfl (gS rfl (gS rfl (gS rfl (gS rfl g0)))))))))) (gS rfl (gS rfl (gS rfl (gS rfl (gS rfl (gS rfl (gS rfl (gS rfl (gS rfl g0))))))))) (fun g => ?_)
                                      refine c_seq (fun K64 hK64 => ?_)
                                      refine c_seq (fun K65 hK65 => ?_)
                                      exact (by
                                        refine c_draw (SXF _ bc (1803 + 65 * low.length + 9) (bL (be 20 f.self))) 19 [(0, true), (1, true), (2, true), (3, true), (4, true), (5, true), (6, true), (7, true), (8, true), (9, true), (10, false), (11, true), (12, true), (13, true), (14, true), (15, true), (16, false), (17, true), (18, true)] (by kernel_rfl) (fun w66 hu => ⟨SXF.refl (hX.up hu) ((hX.up hu).ex.selfR (f := crF1 f) hsf1), ?_⟩)
                                        replace k16 := k16.up hu
                                        replace k46 := k46.up hu
                                        replace hX := hX.up hu
                                        replace U := U.tr hu
                                        have SU := SXF.refl hX (hX.ex.selfR (f := crF1 f) hsf1)
                                        have cq := cq_refl hX
                                        have hX_s := hX
                                        have k16_s := k16
                                        have k46_s := k46
                                        refine p_step (by exact rfl) (y_moveV (et (gS rfl (gS rfl (gS rfl (gS rfl g0)))) rfl)) ?_
                                        refine p_step (by exact rfl) (y_nil (et g0 rfl)) ?_
                                        refine p_step (by exact rfl) (y_fld fld_75_0 (et g0 rfl)) ?_
                                        refine p_step (by exact rfl) (y_load1 one_59 (et g0 rfl) (atXFP)) ?_
                                        refine p_step (by exact rfl) (y_moveV (et (gS rfl (gS rfl (gS rfl (gS rfl (gS rfl (gS rfl (gS rfl g0))))))) rfl)) ?_
                                        refine p_step (by exact rfl) (y_nil (et g0 rfl)) ?_
                                        refine p_step (by exact rfl) (y_fld fld_71_9 (et g0 rfl)) ?_
                                        refine p_step (by exact rfl) (y_loadR agg_25 sz_25 (et g0 rfl) (by rw [length_bL, length_be]) (atXFR)) ?_
                                        refine p_step (by exact rfl) (y_moveV (et (gS rfl (gS rfl (gS rfl (gS rfl (gS rfl (gS rfl (gS rfl (gS rfl (gS rfl g0))))))))) rfl)) ?_
                                        refine p_step (by exact rfl) (y_add (et g0 rfl) rfl (wrapU_addN (b := 1) uk64 ?_)) ?_
                                        (rw [hac0]; have h9 := hE.nont f.self; omega)
                                        refine p_eff (by exact rfl) (e_callV cal_96 (aC (et (gS rfl (gS rfl (gS rfl (gS rfl (gS rfl (gS rfl g0)))))) rfl) (aC (et (gS rfl (gS rfl g0)) rfl) (aC (et g0 rfl) aN))) (v_putNonce hX.ex.vl hX.ex.ok f.self hB.self ((acctAt s0.now.accts f.self).nonce + 1) (by rw [hac0]; have h9 := hE.nont f.self; omega) 0 (.inl ⟨hhf, rfl⟩) (hX.ex.room hap1).j)) (fun v67 w67 h67 => ?_)
                                        obtain ⟨rfl, cl67, cs67, V67, t67, ok67, js67⟩ := h67
                                        have nc16 := (t67.col b16 k16.lt).trans nc16
                                        have nc46 := (t67.col b46 k46.lt).trans nc46
                                        have kp67 := hX.ex.vl.kC
                                        replace k16 := k16.ch t67.go.ch (by intro hm; (have e0 := hm); omega)
                                        replace k46 := k46.ch t67.go.ch (by intro hm; (have e0 := hm); omega)
                                        replace hX := hX.vt0 t67 ok67 js67 (ay_nonce s1.now f.self ((acctAt s0.now.accts f.self).nonce + 1)) (fun _ => rfl) (c' := c' + crG f + 2800) (by omega)
                                        replace U := U.cc t67.go.ch (by intro b hb; exact .inl trivial)
                                        have hhf2 := js67.ha _ hhf
                                        have cq9 := SU.ch.size
                                        replace SU := SU.xc t67.go.ch (hX.ex.vl.c1 hX.ex.lx.pS rfl) (hX.ex.vl.kC.rowO (hX.ex.selfR (f := crF1 f) hsf1) rfl) (by intro b hlt hb; have h9 := cq b hlt; have e0 := hb; first | exact hb.elim | omega | (dsimp only at e0; omega))
                                        replace cq := cq_step cq t67.col cq9
                                        refine ⟨.inr SU, ?_⟩
                                        exact (by
                                          refine p_step (by exact rfl) (y_not (et g0 rfl)) ?_
                                          refine p_step (by exact rfl) (y_moveV (et g0 rfl)) ?_
                                          refine gsplitP (i := 132) g0 (fun q68 => ?_) (fun q68 => ?_)
                                          · skip
                                            cases q68
                                          · skip
                                            refine p_gstep (j := 12) (t := 132) (by exact rfl) (by exact rfl) (by exact rfl) (et g0 rfl) rfl (y_moveV (et (gS rfl (gS rfl (gS rfl (gS rfl (gS rfl (gS rfl (gS rfl (gS rfl (gS rfl (gS rfl (gS rfl (gS rfl (gS rfl (gS rfl (gS rfl (gS rfl (gS rfl (gS rfl g0)))))))))))))))))) rfl)) ?_
                                            refine p_gstep (j := 12) (t := 132) (by exact rfl) (by exact rfl) (by exact rfl) (et (gS rfl g0) rfl) rfl (y_fld fld_71_9 (et (gS rfl (gS rfl (gS rfl (gS rfl (gS rfl (gS rfl (gS rfl (gS rfl (gS rfl (gS rfl (gS rfl (gS rfl (gS rfl (gS rfl (gS rfl g0))))))))))))))) rfl)) ?_
                                            refine p_gstep (j := 12) (t := 132) (by exact rfl) (by exact rfl) (by exact rfl) (et (gS rfl (gS rfl g0)) rfl) rfl (y_loadR agg_25 sz_25 (et g0 rfl) (by rw [length_bL, length_be]) (toF (atXR (k46_s.row fcv_row.1) (by omega)))) ?_
                                            refine p_geff (j := 12) (t := 132) (by exact rfl) (by exact rfl) (by exact rfl) (et (gS rfl (gS rfl (gS rfl g0))) rfl) rfl (e_callV cal_294 (aC (et (gS rfl (gS rfl g0)) rfl) (aC (et g0 rfl) aN)) (m_warmAcct hX.ex hsf1 hph1 (crtN f.self (acctAt s.now.accts f.self).nonce) (crt_lt _ _) hap1 (c' := c' + crG f + 200) (by omega) (fun _ => by omega))) (fun v69 w69 h69 => ?_)
                                            obtain ⟨rfl, cl69, cs69, V69, y69⟩ := h69
                                            have nc16 := (y69.et.col b16 k16.lt).trans nc16
                                            have nc46 := (y69.et.col b46 k46.lt).trans nc46
                                            have kp69 := hX.ex.vl.kC
                                            replace k16 := k16.ch y69.et.go.ch (by intro hm; (have e0 := hm); omega)
                                            replace k46 := k46.ch y69.et.go.ch (by intro hm; (have e0 := hm); omega)
                                            replace hX := hX.trans y69
                                            replace U := U.cc y69.et.go.ch (by intro b hb; exact .inl trivial)
                                            have cq9 := SU.ch.size
                                            replace SU := SU.xc y69.et.go.ch (hX.ex.vl.c1 hX.ex.lx.pS rfl) (hX.ex.vl.kC.rowO (hX.ex.selfR (f := crF1 f) hsf1) rfl) (by intro b hlt hb; have h9 := cq b hlt; have e0 := hb; first | exact hb.elim | omega | (dsimp only at e0; omega))
                                            replace cq := cq_step cq y69.et.col cq9
                                            refine ⟨.inr SU, ?_⟩
                                            refine p_gstep (j := 12) (t := 132) (by exact rfl) (by exact rfl) (by exact rfl) (et (gS rfl (gS rfl (gS rfl (gS rfl g0)))) rfl) rfl (y_not (et g0 rfl)) ?_
                                            refine p_step (by exact rfl) (y_pickF (et (gS rfl (gS rfl (gS rfl (gS rfl (gS rfl g0))))) rfl) (et g0 rfl)) ?_
                                            refine p_nil ?_
                                            refine hK65 _ _ ?_
                                            refine fg5 0 2 4 9 138 (gS rfl (gS rfl (gS rfl (gS rfl (gS rfl (gS rfl (gS rfl (gS rfl (gS rfl (gS rfl (gS rfl (gS rfl (gS rfl (gS rfl (gS rfl (gS rfl (gS rfl (gS rfl (gS rfl (gS rfl (gS rfl (gS rfl (gS rfl (gS rfl g0)))))))))))))))))))))))) (gS rfl (gS rfl (gS rfl (gS rfl (gS rfl (gS rfl (gS rfl (gS rfl (gS rfl (gS rfl (gS rfl (gS rfl (gS rfl (gS rfl (gS rfl (gS rfl (gS rfl (gS rfl (gS rfl (gS rfl (gS rfl (gS rfl (gS rfl g0))))))))))))))))))))))) (gS rfl (gS rfl (gS rfl (gS rfl (gS rfl (gS rfl (gS rfl (gS rfl (gS rfl (gS rfl (gS rfl (gS rfl (gS rfl (gS rfl (gS rfl (gS rfl (gS rfl (gS rfl (gS rfl (gS rfl (gS rfl (gS rfl g0)))))))))))))))))))))) (gS rfl (gS rfl (gS rfl (gS rfl (gS rfl (gS rfl (gS rfl (gS rfl (gS rfl (gS rfl (gS rfl (gS rfl (gS rfl (gS rfl (gS rfl (gS rfl (gS rfl (gS rfl (gS rfl (gS rfl g0)))))))))))))))))))) g0 (fun g => ?_)
                                            refine c_false (et g0 rfl) (by rfl) ?_
                                            refine c_skip ?_
                                            refine hK64 _ _ ?_
                                            refine fg4 0 2 4 9 (gS rfl (gS rfl (gS rfl (gS rfl g0)))) (gS rfl (gS rfl (gS rfl g0))) (gS rfl (gS rfl g0)) (gS rfl g0) (fun g => ?_)
                                            refine c_seq (fun K71 hK71 => ?_)
                                            refine c_seq (fun K72 hK72 => ?_)
                                            exact (by
                                              refine c_region ?_
                                              refine l_step (y_moveV (et (gS rfl (gS rfl (gS rfl g0))) rfl)) ?_
                                              refine l_step (y_fld fld_71_9 (et (gS rfl g0) rfl)) ?_
                                              obtain ⟨s4, hs4⟩ : ∃ s4 : YSt, s4 = { (crS { s with ret := [] } f 240) with frames := low ++ [crF1 f] } := ⟨_, rfl⟩
                                              have ecs : (crS { s with ret := [] } f 240) = { { s with ret := [] } with now := { s.now with accts := putA s.now.accts (setNon (acctAt s.now.accts f.self) ((acctAt s.now.accts f.self).nonce + 1)), warmA := withA s.now.warmA (crtN f.self (acctAt s.now.accts f.self).nonce) } } := rfl
                                              replace hX := hX.reS (show s4 = _ by rw [hs4, ecs, hnow1, hac0, hs1, hs0])
                                              have hsf4 : s4.frames = low ++ [crF1 f] := by rw [hs4]
                                              have hph4 : s4.phase = 1 := by rw [hs4]; exact hp
                                              have hap4 : s4.applied ≤ 4 := by rw [hs4]; exact hap
                                              have hn4 : s4.now = (crS { s with ret := [] } f 240).now := by rw [hs4]
                                              have hht := hX.ex.hasW (a := (crtN f.self (acctAt s.now.accts f.self).nonce)) (by rw [hn4, ecs]; exact (mem_withA _ _ _).2 (.inl rfl))
                                              have hhf4 := (hX.ex.px.has (crF1 f) (by rw [hsf4]; simp)).1
                                              have hskc : (crF1 f).stack = f.stack := rfl
                                              refine l_step (y_loadR agg_25 sz_25 (et g0 rfl) (by rw [length_bL, length_be]) (at1R (k46.row fcv_row.1))) ?_
                                              refine l_eff (e_callV cal_106 (aC (et (gS rfl (gS rfl g0)) rfl) (aC (et g0 rfl) aN)) (m_taken hX.ex hsf4 hph4 (crtN f.self (acctAt s.now.accts f.self).nonce) (crt_lt _ _))) (fun v73 w73 h73 => ?_)
                                              obtain ⟨rfl, u73⟩ := h73
                                              replace k16 := k16.up u73
                                              replace k46 := k46.up u73
                                              replace hX := hX.up u73
                                              replace U := U.tr u73
                                              refine l_nil ?_
                                              refine hK72 _ _ ?_
                                              refine fg5 0 2 4 9 144 (gS rfl (gS rfl (gS rfl (gS rfl (gS rfl (gS rfl (gS rfl g0))))))) (gS rfl (gS rfl (gS rfl (gS rfl (gS rfl (gS rfl g0)))))) (gS rfl (gS rfl (gS rfl (gS rfl (gS rfl g0))))) (gS rfl (gS rfl (gS rfl (gS rfl g0)))) g0 (fun g => ?_)
                                              refine c_cond (et g0 rfl) (fun cB7 => ?_) (fun cB7 => ?_)
                                              · skip
                                                rw [show tknB s4 (crtN f.self (acctAt s.now.accts f.self).nonce) = tknB (crS { s with ret := [] } f 240) (crtN f.self (acctAt s.now.accts f.self).nonce) by unfold tknB; rw [hn4]] at cB7
                                                refine c_seq (fun K75 hK75 => ?_)
                                                exact (by
                                                  refine c_region ?_
                                                  refine l_step (y_moveV (et (gS rfl (gS rfl (gS rfl (gS rfl g0)))) rfl)) ?_
                                                  refine l_step (y_moveV (et (gS rfl (gS rfl (gS rfl (gS rfl g0)))) rfl)) ?_
                                                  refine l_step (y_moveV (et (gS rfl (gS rfl (gS rfl (gS rfl g0)))) rfl)) ?_
                                                  refine l_step (y_bld bN bld65_z) ?_
                                                  refine l_eff (e_callV cal_259 (aC (et (gS rfl (gS rfl (gS rfl g0))) rfl) (aC (et (gS rfl (gS rfl g0)) rfl) (aC (et (gS rfl g0) rfl) (aC rfl (aC (et g0 rfl) (aC (v := .int .u16 ((1 : Nat) : Int)) rfl aN)))))) (m_settle1 hX.ex hsf4 hph4 rfl 3 _ 1 (by rw [hskc]; omega) (by decide) (by show f.pc + 1 ≤ 560; omega) (by rw [hskc]; omega))) (fun v76 w76 h76 => ?_)
                                                  obtain ⟨rfl, cs76, y76⟩ := h76
                                                  replace k16 := k16.ch y76.et.go.ch (by intro hm; (have e0 := hm); omega)
                                                  replace k46 := k46.ch y76.et.go.ch (by intro hm; (have e0 := hm); omega)
                                                  replace hX := hX.trans y76
                                                  replace U := U.cc y76.et.go.ch (by intro b hb; exact .inl trivial)
                                                  refine l_nil ?_
                                                  refine hK75 _ _ ?_
                                                  refine fg0 (fun g => ?_)
                                                  refine c_ret ?_
                                                  repeat with_reducible refine then_ret ?_
                                                  refine ret0 rfl ?_
                                                  have hnm9 : ¬ 18446744073709551615 ≤ (acctAt s.now.accts f.self).nonce := by have := hE.nont f.self; omega
                                                  have hnf : ¬ crFail { s with ret := [] } f low.length := fun h9 => by rcases h9 with h9 | h9 | h9; exact hd6 h9; exact hfb h9; exact hnm9 h9
                                                  have hb7 : tknB (crS { s with ret := [] } f 240) (crSelf { s with ret := [] } f 240) = true := cB7
                                                  rw [set_ans, hs4] at hX
                                                  rw [show creY { s with ret := [] } f 240 low = { (crS { s with ret := [] } f 240) with frames := low ++ [ansN (crF1 f) (tkN 240) 0] } by rw [creY, if_neg hnf, if_pos hb7]]
                                                  refine ⟨rfl, XO.of (hX.slack (by omega)) ?_⟩
                                                  rw [hms]
                                                  show _ = (low ++ [ansN (crF1 f) (tkN 240) 0]).map _
                                                  rw [List.map_append, List.map_append]
                                                  rfl)
                                              · skip
                                                rw [show tknB s4 (crtN f.self (acctAt s.now.accts f.self).nonce) = tknB (crS { s with ret := [] } f 240) (crtN f.self (acctAt s.now.accts f.self).nonce) by unfold tknB; rw [hn4]] at cB7
                                                refine c_skip ?_
                                                refine hK71 _ _ ?_
                                                refine fg4 0 2 4 9 (gS rfl (gS rfl (gS rfl (gS rfl g0)))) (gS rfl (gS rfl (gS rfl g0))) (gS rfl (gS rfl g0)) (gS rfl g0) (fun g => ?_)
                                                refine c_seq (fun K77 hK77 => ?_)
                                                exact (by
                                                  refine c_region ?_
                                                  refine l_step (y_moveV (et (gS rfl (gS rfl g0)) rfl)) ?_
                                                  refine l_step (y_nil (et g0 rfl)) ?_
                                                  refine l_step (y_fld fld_71_15 (et g0 rfl)) ?_
                                                  refine l_effN (e_store sz_60 (et g0 rfl) (cellsV rfl rfl) rfl (by intro v hv; simp at hv; subst hv; rfl) hX.ex.vl.kC (by rw [hX.ex.vl.size]; omega)) (fun v78 w78 h78 => ?_)
                                                  obtain ⟨rfl, x78⟩ := h78
                                                  have hv78 := hX.stOO hsf4 hph4 (p := 0) (by omega) (by omega) x78
                                                  replace k16 := k16.ch x78.ch (by intro hm; first | omega | (subst hm; omega))
                                                  replace k46 := k46.ch x78.ch (by intro hm; first | omega | (subst hm; omega))
                                                  replace hX := hv78
                                                  replace U := U.cc x78.ch (by intro b hb; exact .inl trivial)
                                                  obtain ⟨s5, hs5⟩ : ∃ s5 : YSt, s5 = { s4 with frames := low ++ [{ crF1 f with outOff := 0 }] } := ⟨_, rfl⟩
                                                  replace hX := hX.reS hs5
                                                  have hsf5 : s5.frames = low ++ [{ crF1 f with outOff := 0 }] := by rw [hs5]
                                                  have hph5 : s5.phase = 1 := by rw [hs5]; exact hph4
                                                  refine l_nil ?_
                                                  refine hK77 _ _ ?_
                                                  refine fg4 0 2 4 9 (gS rfl (gS rfl (gS rfl (gS rfl (gS rfl (gS rfl g0)))))) (gS rfl (gS rfl (gS rfl (gS rfl (gS rfl g0))))) (gS rfl (gS rfl (gS rfl (gS rfl g0)))) (gS rfl (gS rfl (gS rfl g0))) (fun g => ?_)
                                                  refine c_seq (fun K79 hK79 => ?_)
                                                  exact (by
                                                    refine c_region ?_
                                                    refine l_step (y_moveV (et (gS rfl (gS rfl g0)) rfl)) ?_
                                                    refine l_step (y_nil (et g0 rfl)) ?_
                                                    refine l_step (y_fld fld_71_16 (et g0 rfl)) ?_
                                                    refine l_effN (e_store sz_60 (et g0 rfl) (cellsV rfl rfl) rfl (by intro v hv; simp at hv; subst hv; rfl) hX.ex.vl.kC (by rw [hX.ex.vl.size]; omega)) (fun v80 w80 h80 => ?_)
                                                    obtain ⟨rfl, x80⟩ := h80
                                                    have hv80 := hX.stOL hsf5 hph5 (p := 0) (by omega) (by omega) x80
                                                    replace k16 := k16.ch x80.ch (by intro hm; first | omega | (subst hm; omega))
                                                    replace k46 := k46.ch x80.ch (by intro hm; first | omega | (subst hm; omega))
                                                    replace hX := hv80
                                                    replace U := U.cc x80.ch (by intro b hb; exact .inl trivial)
                                                    obtain ⟨s6, hs6⟩ : ∃ s6 : YSt, s6 = { s5 with frames := low ++ [{ crF1 f with outOff := 0, outLen := 0 }] } := ⟨_, rfl⟩
                                                    replace hX := hX.reS hs6
                                                    have hsf6 : s6.frames = low ++ [{ crF1 f with outOff := 0, outLen := 0 }] := by rw [hs6]
                                                    have hph6 : s6.phase = 1 := by rw [hs6]; exact hph5
                                                    refine l_nil ?_
                                                    refine hK79 _ _ ?_
                                                    refine fg4 0 2 4 9 (gS rfl (gS rfl (gS rfl (gS rfl (gS rfl (gS rfl g0)))))) (gS rfl (gS rfl (gS rfl (gS rfl (gS rfl g0))))) (gS rfl (gS rfl (gS rfl (gS rfl g0)))) (gS rfl (gS rfl (gS rfl g0))) (fun g => ?_)
                                                    refine c_seq (fun K81 hK81 => ?_)
                                                    exact (by
                                                      refine c_region ?_
                                                      refine l_step (y_moveV (et (gS rfl (gS rfl (gS rfl g0))) rfl)) ?_
                                                      refine l_step (y_moveV (et (gS rfl (gS rfl (gS rfl g0))) rfl)) ?_
                                                      refine l_step (y_moveV (et (gS rfl (gS rfl (gS rfl g0))) rfl)) ?_
                                                      refine l_step (y_bld bN bld65_z) ?_
                                                      refine l_eff (e_callV cal_259 (aC (et (gS rfl (gS rfl (gS rfl g0))) rfl) (aC (et (gS rfl (gS rfl g0)) rfl) (aC (et (gS rfl g0) rfl) (aC rfl (aC (et g0 rfl) (aC (v := .int .u16 ((0 : Nat) : Int)) rfl aN)))))) (m_settle0 hX.ex hsf6 hph6 rfl 3 0 0 (by show 3 ≤ f.stack.length; omega) (by decide) (by show f.pc + 0 ≤ 560; omega))) (fun v82 w82 h82 => ?_)
                                                      obtain ⟨rfl, cs82, y82⟩ := h82
                                                      replace k16 := k16.ch y82.et.go.ch (by intro hm; (have e0 := hm); omega)
                                                      replace k46 := k46.ch y82.et.go.ch (by intro hm; (have e0 := hm); omega)
                                                      replace hX := hX.trans y82
                                                      replace U := U.cc y82.et.go.ch (by intro b hb; exact .inl trivial)
                                                      rw [cr_wait f 240 3 rfl] at hX
                                                      obtain ⟨s9, hs9⟩ : ∃ s9 : YSt, s9 = { (crS { s with ret := [] } f 240) with frames := low ++ [(waitN (crF1 f) (tkN 240) 0 0)] } := ⟨_, rfl⟩
                                                      replace hX := hX.reS (show s9 = { s6 with frames := low ++ [(waitN (crF1 f) (tkN 240) 0 0)] } by rw [hs9, hs6, hs5, hs4])
                                                      have hn9 : s9.now = (crS { s with ret := [] } f 240).now := by rw [hs9]
                                                      refine l_nil ?_
                                                      refine hK81 _ _ ?_
                                                      refine fg2 0 9 (gS rfl (gS rfl (gS rfl (gS rfl (gS rfl (gS rfl (gS rfl (gS rfl g0)))))))) (gS rfl (gS rfl (gS rfl (gS rfl (gS rfl g0))))) (fun g => ?_)
                                                      refine c_region ?_
                                                      refine l_step (y_moveV (et (gS rfl g0) rfl)) ?_
                                                      have hnlt := hE.nont f.self
                                                      have hnm9 : ¬ 18446744073709551615 ≤ (acctAt s.now.accts f.self).nonce := by omega
                                                      have euu : (crChild { s with ret := [] } f 240) = { cFr 5 false (argN f.stack 0) (crtN f.self (acctAt s.now.accts f.self).nonce) f.self (crG f) 0 [] [] with code := (rdN f.mem (argN f.stack 1) (argN f.stack 2)), input := [] } := rfl
                                                      have hbc : BV H40 (.slice ca7 (crChild { s with ret := [] } f 240).code.length cc7) (crChild { s with ret := [] } f 240).code := bv7
                                                      have hbi : BV H40 (.slice none (crChild { s with ret := [] } f 240).input.length 0) (crChild { s with ret := [] } f 240).input := BV.nil _
                                                      replace k46 : Blk w82 b46 (fcv (crChild { s with ret := [] } f 240) (.slice ca7 (crChild { s with ret := [] } f 240).code.length cc7) (.slice none (crChild { s with ret := [] } f 240).input.length 0) 0 0 0 (List.replicate 8 0)).toArray := by
                                                        show Blk _ _ (fcv (crChild { s with ret := [] } f 240) (.slice ca7 (rdN f.mem (argN f.stack 1) (argN f.stack 2)).length cc7) (.slice none 0 0) 0 0 0 (List.replicate 8 0)).toArray
                                                        rw [euu, fcv_ci]
                                                        exact k46
                                                      have hU : EFB (crChild { s with ret := [] } f 240) := ⟨by show 5 < 8; decide, by show 0 < 8; decide, Nat.zero_le _, Nat.zero_le _, fun _ h => absurd h (List.not_mem_nil), by show crG f ≤ 1048576; omega, (crt_lt _ _), hB.self, argN_lt hB _, hil, Nat.zero_le _, Nat.zero_le _, Nat.zero_le _, hbc.dig, hbi.dig⟩
                                                      have hpm := hX.ex.px.pot.m
                                                      replace hX := hX.slack (c' := c' + crG f + 100) (by omega)
                                                      have hmk : 100 * V69.marks.length + (gasS s9 + (c' + crG f + 100)) ≤ 1048576 := by omega
                                                      have hcc : c' + (crChild { s with ret := [] } f 240).gas + (if crN (crChild { s with ret := [] } f 240).kind = true then 50 else 0) + (if (crChild { s with ret := [] } f 240).kind ≠ 3 ∧ (crChild { s with ret := [] } f 240).kind ≠ 7 ∧ (crChild { s with ret := [] } f 240).value ≠ 0 then 50 else 0) ≤ c' + crG f + 100 := by
                                                        show c' + crG f + (if crN 5 = true then 50 else 0) + _ ≤ _
                                                        rw [if_pos (show crN 5 = true from rfl)]
                                                        split <;> omega
                                                      have hle : (crChild { s with ret := [] } f 240).kind ≠ 3 → (crChild { s with ret := [] } f 240).kind ≠ 7 → (crChild { s with ret := [] } f 240).value ≤ (acctAt (entA1 s9.now (crChild { s with ret := [] } f 240)) (crChild { s with ret := [] } f 240).caller).bal := by
                                                        intro _ _
                                                        rw [hn9, show entA1 (crS { s with ret := [] } f 240).now (crChild { s with ret := [] } f 240) = putA (crS { s with ret := [] } f 240).now.accts (setNon (acctAt (crS { s with ret := [] } f 240).now.accts (crChild { s with ret := [] } f 240).self) 1) from if_pos rfl, non_bal]
                                                        show argN f.stack 0 ≤ (acctAt (putA s.now.accts (setNon (acctAt s.now.accts f.self) ((acctAt s.now.accts f.self).nonce + 1))) f.self).bal
                                                        rw [non_bal]
                                                        exact Nat.le_of_not_lt hfb
                                                      have hov9 : (crChild { s with ret := [] } f 240).kind ≠ 3 → (crChild { s with ret := [] } f 240).kind ≠ 7 → (crChild { s with ret := [] } f 240).value ≠ 0 → (acctAt (takeB (entA1 s9.now (crChild { s with ret := [] } f 240)) (crChild { s with ret := [] } f 240).caller (crChild { s with ret := [] } f 240).value) (crChild { s with ret := [] } f 240).self).bal + (crChild { s with ret := [] } f 240).value < W256 := by
                                                        intro _ _ h3
                                                        rw [hn9]
                                                        exact hov (fun h9 => by rcases h9 with h9 | h9 | h9; exact hd6 h9; exact hfb h9; exact hnm9 h9) h3
                                                      have hph9 : s9.phase = 1 := by rw [hs9]; exact hp
                                                      have hap9 : s9.applied ≤ 4 := by rw [hs9]; exact hap
                                                      have hl9 : s9.frames.length ≤ 6 := by rw [hs9]; show (low ++ [_]).length ≤ 6; rw [List.length_append, List.length_singleton]; omega
                                                      have hm9 : ms.length ≤ 6 := by rw [hms, List.length_map, List.length_append, List.length_singleton]; omega
                                                      refine l_step (y_loadB agg_71 sz_71 (et (gS rfl g0) rfl) (by rw [List.size_toArray, fcv_len rfl]) (at1B k46)) ?_
                                                      exact (by
                                                        refine l_eff (e_callV cal_105 (aC (et (gS rfl g0) rfl) (aC (et g0 rfl) aN)) (m_enter hX.ex (by omega) hl9 hm9 (u := (crChild { s with ret := [] } f 240)) hbc hbi hU rfl (c' := c') hap9 hmk hcc hht hhf4 hle hov9 (hX.ex.limR hph9) (hX.ex.madR hph9) (hX.ex.orgR hph9))) (fun v83 w83 h83 => ?_)
                                                        obtain ⟨rfl, cl83, cs83, V83, y83⟩ := h83
                                                        replace k16 := k16.ch y83.et.go.ch (by intro hm; (have e0 := hm); omega)
                                                        replace k46 := k46.ch y83.et.go.ch (by intro hm; (have e0 := hm); omega)
                                                        replace hX := hX.trans y83
                                                        replace U := U.cc y83.et.go.ch (by intro b hb; exact .inl trivial)
                                                        refine l_nil ?_
                                                        refine end0 rfl ?_
                                                        have hnf : ¬ crFail { s with ret := [] } f low.length := fun h9 => by rcases h9 with h9 | h9 | h9; exact hd6 h9; exact hfb h9; exact hnm9 h9
                                                        have hb7 : tknB (crS { s with ret := [] } f 240) (crSelf { s with ret := [] } f 240) = false := cB7
                                                        rw [show creY { s with ret := [] } f 240 low = entY { (crS { s with ret := [] } f 240) with frames := low ++ [(waitN (crF1 f) (tkN 240) 0 0)] } (crChild { s with ret := [] } f 240) by rw [creY, if_neg hnf, if_neg (by rw [hb7]; decide)]]
                                                        rw [hs9] at hX
                                                        rw [show ({ entY { (crS { s with ret := [] } f 240) with frames := low ++ [(waitN (crF1 f) (tkN 240) 0 0)] } (crChild { s with ret := [] } f 240) with phase := 1 } : YSt) = entY { (crS { s with ret := [] } f 240) with frames := low ++ [(waitN (crF1 f) (tkN 240) 0 0)] } (crChild { s with ret := [] } f 240) from ph1 hp] at hX
                                                        refine ⟨rfl, XO.of hX ?_⟩
                                                        rw [hms]
                                                        show _ = ((low ++ [(waitN (crF1 f) (tkN 240) 0 0)]) ++ [_]).map _
                                                        rw [List.map_append, List.map_append, List.map_append]
                                                        rfl))))))))))))))))))))))
end Go.Proofs.YgvaawGreat
