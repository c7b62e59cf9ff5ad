import Derived.Test.YgvaawGreatW5
set_option maxRecDepth 100000
set_option maxHeartbeats 4000000
set_option linter.unusedSimpArgs false
set_option linter.unusedVariables false
namespace Go.Proofs.YgvaawGreat
open Go
theorem m_end {w : World} {H : Store} {col : Nat → Nat} {bc : Nat} {cs : Array Value} {V : EV} {s : YSt} {sn : List Nat} {sv : List AW} {ms : List (List Nat)} {c : Nat} {low : List YF} {f : YF} (hE : EX w H col bc cs V s sn sv ms c) (hs : s.frames = low ++ [f]) (hp : s.phase = 1) (q : Nat) (hqq : q < 256) {oa : Option Addr} {oc : Nat} {l : List Nat} (hBo : BV H (.slice oa l.length oc) l) (hll : l.length ≤ 717280) (hms : ms = (low ++ [f]).map (fun g => g.mem)) (hap : s.applied ≤ 4) (hpar : ∀ p, low.getLast? = some p → p.stack.length < 64 ∧ p.pc < 512 ∧ (0 < p.outLen → p.outOff + p.outLen ≤ p.mem.length)) :
    Ret 186 [.pointer (some ⟨bc, 0, none⟩), .int .u8 (q : Nat), .slice oa l.length oc] w (fun v w' => v = .tuple #[] ∧ XO w H col w' bc (lvY s f q l low) c) := by
  obtain ⟨n9, hn9, hR⟩ := hE.topF hs
  have hB := hE.fbT hs
  have h6 := hE.six hs
  have htop := hE.cTop hs
  have hphs := hE.cPh hp
  have hbp := hB.pc
  have hbs := hB.stk
  have hbg := hB.gas
  have hbc9 := hB.code
  have hnw := hE.vl.new
  have hfz := hE.vl.fz
  have hcC := hE.vl.colC
  have hbc0 := hE.vl.kC.lt
  have hX := XT.refl hE
  have hro := hE.room hap
  have hhs := (hE.px.has f (by rw [hs]; simp)).1
  have hms8 : ms = low.map (fun g => g.mem) ++ [f.mem] := by rw [hms]; simp
  have hl256 := lvSt_lt (f := f) (l := l) hqq
  refine enter (n := 172) Hvaa.func186 rfl rfl (Nat.le_of_ble_eq_true rfl) ?_
  have U : Ch (fun _ => True) w w := Ch.refl _ w
  refine c_seq (fun K1 hK1 => ?_)
  exact (by
    refine c_region ?_
    refine l_step (y_moveV (et g0 rfl)) ?_
    refine l_eff (e_callV cal_183 (aC (et g0 rfl) aN) (m_running hX.ex hs hp)) (fun v2 w2 h2 => ?_)
    obtain ⟨rfl, u2⟩ := h2
    replace hX := hX.up u2
    replace U := U.tr u2
    refine l_step (y_assignV (et g0 rfl)) ?_
    refine l_nil ?_
    refine hK1 _ _ ?_
    refine fg4 2 1 0 6 (gS rfl (gS rfl (gS rfl (gS rfl (gS rfl g0))))) (gS rfl (gS rfl (gS rfl (gS rfl g0)))) (gS rfl (gS rfl (gS rfl g0))) g0 (fun g => ?_)
    refine c_seq (fun K3 hK3 => ?_)
    refine c_seq (fun K4 hK4 => ?_)
    exact (by
      refine c_region ?_
      refine l_step (y_moveV (et g0 rfl)) ?_
      refine l_step (y_eqlNil Hvaa.underlying276 (et g0 rfl) rfl) ?_
      refine l_nil ?_
      refine hK4 _ _ ?_
      refine fg5 2 1 0 6 15 (gS rfl (gS rfl (gS rfl (gS rfl (gS rfl g0))))) (gS rfl (gS rfl (gS rfl (gS rfl g0)))) (gS rfl (gS rfl (gS rfl g0))) (gS rfl (gS rfl g0)) g0 (fun g => ?_)
      refine c_false (et g0 rfl) rfl ?_
      refine c_skip ?_
      refine hK3 _ _ ?_
      refine fg4 2 1 0 6 (gS rfl (gS rfl (gS rfl (gS rfl g0)))) (gS rfl (gS rfl (gS rfl g0))) (gS rfl (gS rfl g0)) (gS rfl g0) (fun g => ?_)
      refine c_seq (fun K6 hK6 => ?_)
      exact (by
        refine c_region ?_
        refine l_step (y_moveV (et g0 rfl)) ?_
        refine l_step (y_nil (et g0 rfl)) ?_
        refine l_step (y_fld fld_71_7 (et g0 rfl)) ?_
        refine l_step (y_load1 one_26 (et g0 rfl) (at1 (hX.ex.vl.c1 (hR.r1 7 _ rfl) (by omega)))) ?_
        refine l_step (y_assignV (et g0 rfl)) ?_
        refine l_nil ?_
        refine hK6 _ _ ?_
        refine fg5 2 1 0 6 7 (gS rfl (gS rfl (gS rfl (gS rfl (gS rfl (gS rfl (gS rfl (gS rfl g0)))))))) (gS rfl (gS rfl (gS rfl (gS rfl (gS rfl (gS rfl (gS rfl g0))))))) (gS rfl (gS rfl (gS rfl (gS rfl (gS rfl (gS rfl g0)))))) (gS rfl (gS rfl (gS rfl (gS rfl (gS rfl g0))))) g0 (fun g => ?_)
        refine c_seq (fun K7 hK7 => ?_)
        exact (by
          refine c_region ?_
          refine l_step (y_moveV (et (gS rfl g0) rfl)) ?_
          refine l_step (y_nil (et g0 rfl)) ?_
          refine l_step (y_fld fld_71_0 (et g0 rfl)) ?_
          refine l_step (y_load1 one_5 (et g0 rfl) (at1 (hX.ex.vl.c1 (hR.r1 0 _ rfl) (by omega)))) ?_
          refine l_eff (e_callV cal_180 (aC (et g0 rfl) aN) (mach_creates _ _)) (fun v8 w8 h8 => ?_)
          obtain ⟨rfl, u8⟩ := h8
          replace hX := hX.up u8
          replace U := U.tr u8
          refine l_step (y_assignV (et g0 rfl)) ?_
          refine l_nil ?_
          refine hK7 _ _ ?_
          refine fg6 2 1 0 6 7 8 (gS rfl (gS rfl (gS rfl (gS rfl (gS rfl (gS rfl (gS rfl (gS rfl (gS rfl (gS rfl g0)))))))))) (gS rfl (gS rfl (gS rfl (gS rfl (gS rfl (gS rfl (gS rfl (gS rfl (gS rfl g0))))))))) (gS rfl (gS rfl (gS rfl (gS rfl (gS rfl (gS rfl (gS rfl (gS rfl g0)))))))) (gS rfl (gS rfl (gS rfl (gS rfl (gS rfl (gS rfl (gS rfl g0))))))) (gS rfl (gS rfl (gS rfl (gS rfl (gS rfl (gS rfl g0)))))) g0 (fun g => ?_)
          refine c_seq (fun K9 hK9 => ?_)
          have hJ9 : ∀ (s_ : Nat → Value) (W9 : World), (∃ (g : Nat → Value) (oa2 : Option Addr) (oc2 : Nat) (H2 : Store) (col2 : Nat → Nat) (cs2 : Array Value) (V2 : EV), s_ = (upd (upd (upd (upd (upd (upd g 0 (.pointer (some ⟨bc, 0, none⟩))) 1 (.int .u8 ((lvSt f q l) : Nat))) 2 (.slice oa2 (o1N f q l).length oc2)) 6 (.pointer (some ⟨bc, 1803 + 65 * low.length, none⟩))) 7 (.int .u64 (g1N f q l : Nat))) 8 (.bool (crN f.kind))) ∧ (XG w H col W9 H2 col2 bc cs2 V2 s sn ms) ∧ (PX V2 (psS s f low (w1N s f q l) (g1N f q l)) sn sv c) ∧ (BV H2 (.slice oa2 (o1N f q l).length oc2) (o1N f q l))) → K9 (mk 172 s_) W9 := by
            intro s_ W9 hI
            obtain ⟨g, oa2, oc2, H2, col2, cs2, V2, rfl, hX, hP, hB2⟩ := hI
            have U : Ch (fun _ => True) w W9 := hX.et.go.ch.mono (fun _ _ _ => trivial)
            refine hK9 _ _ ?_
            refine c_seq (fun K10 hK10 => ?_)
            have hJ10 : ∀ (s_ : Nat → Value) (W10 : World), (∃ (g : Nat → Value) (oa3 : Option Addr) (oc3 : Nat) (H3 : Store) (col3 : Nat → Nat) (cs3 : Array Value) (V3 : EV), s_ = (upd (upd (upd (upd (upd (upd g 0 (.pointer (some ⟨bc, 0, none⟩))) 1 (.int .u8 ((lvSt f q l) : Nat))) 2 (.slice oa3 (lvOut f q l).length oc3)) 6 (.pointer (some ⟨bc, 1803 + 65 * low.length, none⟩))) 7 (.int .u64 ((lvGas f q l) : Nat))) 8 (.bool (crN f.kind))) ∧ (XG w H col W10 H3 col3 bc cs3 V3 s sn ms) ∧ (PX V3 (psS s f low (w1N s f q l) (lvGas f q l)) sn sv c) ∧ (BV H3 (.slice oa3 (lvOut f q l).length oc3) (lvOut f q l))) → K10 (mk 172 s_) W10 := by
              intro s_ W10 hI
              obtain ⟨g, oa3, oc3, H3, col3, cs3, V3, rfl, hX, hP, hB3⟩ := hI
              have U : Ch (fun _ => True) w W10 := hX.et.go.ch.mono (fun _ _ _ => trivial)
              have hR8 := hX.ex.lx.frm low.length f n9 (by rw [hs]; simp) hn9
              obtain ⟨m8, hm8, hm9⟩ := hP.mark (low := low) rfl hn9
              refine hK10 _ _ ?_
              refine c_seq (fun K11 hK11 => ?_)
              refine c_seq (fun K12 hK12 => ?_)
              have hJ12 : ∀ (s_ : Nat → Value) (W12 : World), (∃ (g : Nat → Value) (H4 : Store) (col4 : Nat → Nat) (cs4 : Array Value) (V4 : EV) (sv4 : List AW), s_ = (upd (upd (upd (upd (upd (upd (upd g 0 (.pointer (some ⟨bc, 0, none⟩))) 1 (.int .u8 ((lvSt f q l) : Nat))) 2 (.slice oa3 (lvOut f q l).length oc3)) 6 (.pointer (some ⟨bc, 1803 + 65 * low.length, none⟩))) 7 (.int .u64 ((lvGas f q l) : Nat))) 8 (.bool (crN f.kind))) 80 (.bool false)) ∧ (XG w H col W12 H4 col4 bc cs4 V4 s sn (low.map (fun g => g.mem))) ∧ (PX V4 { s with now := lvW s f q l, frames := low } sn.dropLast sv4 (c + (lvGas f q l))) ∧ (BV H4 (.slice oa3 (lvOut f q l).length oc3) (lvOut f q l))) → K12 (mk 172 s_) W12 := by
                intro s_ W12 hI
                obtain ⟨g, H4, col4, cs4, V4, sv4, rfl, hX, hP, hB4⟩ := hI
                have U : Ch (fun _ => True) w W12 := hX.et.go.ch.mono (fun _ _ _ => trivial)
                have hR9 := hX.ex.lx.frm low.length f n9 (by rw [hs]; simp) hn9
                have ht9 := hX.ex.lx.cTop hs
                refine hK12 _ _ ?_
                refine c_false (et g0 rfl) (by rfl) ?_
                refine c_skip ?_
                refine hK11 _ _ ?_
                refine fg6 0 1 2 6 7 8 (gS rfl (gS rfl (gS rfl (gS rfl (gS rfl (gS rfl g0)))))) (gS rfl (gS rfl (gS rfl (gS rfl (gS rfl g0))))) (gS rfl (gS rfl (gS rfl (gS rfl g0)))) (gS rfl (gS rfl (gS rfl g0))) (gS rfl (gS rfl g0)) (gS rfl g0) (fun g => ?_)
                refine c_seq (fun K14 hK14 => ?_)
                exact (by
                  refine c_region ?_
                  refine l_step (y_moveV (et (gS rfl (gS rfl (gS rfl (gS rfl (gS rfl g0))))) rfl)) ?_
                  refine l_step (y_moveV (et (gS rfl (gS rfl (gS rfl (gS rfl g0)))) rfl)) ?_
                  refine l_step (y_nil (et (gS rfl g0) rfl)) ?_
                  refine l_step (y_fld fld_75_5 (et g0 rfl)) ?_
                  refine l_effN (e_store sz_38 (et g0 rfl) (cellsV (et (gS rfl (gS rfl g0)) rfl) rfl) rfl (by intro v hv; simp at hv; subst hv; rfl) hX.ex.vl.kC (by rw [hX.ex.vl.size]; omega)) (fun v15 w15 h15 => ?_)
                  obtain ⟨rfl, x15⟩ := h15
                  have hv15 := hX.st x15 (by decide) (Nat.le_of_ble_eq_true rfl) (hX.ex.lx.retS hX.ex.vl.size (by omega) hB4)
                  have hse1 := hR9.r2.off (v := .slice oa3 (lvOut f q l).length oc3) (k := 2259) (by rw [length_bL, length_be]; omega)
                  replace hX := hv15
                  replace U := U.cc x15.ch (by intro b hb; exact .inl trivial)
                  refine l_nil ?_
                  refine hK14 _ _ ?_
                  refine fg6 0 1 2 6 7 8 (gS rfl (gS rfl (gS rfl (gS rfl (gS rfl (gS rfl (gS rfl (gS rfl (gS rfl g0))))))))) (gS rfl (gS rfl (gS rfl (gS rfl (gS rfl (gS rfl (gS rfl (gS rfl g0)))))))) (gS rfl (gS rfl (gS rfl (gS rfl (gS rfl (gS rfl (gS rfl g0))))))) (gS rfl (gS rfl (gS rfl (gS rfl (gS rfl (gS rfl g0)))))) (gS rfl (gS rfl (gS rfl (gS rfl (gS rfl g0))))) (gS rfl (gS rfl (gS rfl (gS rfl g0)))) (fun g => ?_)
                  refine c_seq (fun K16 hK16 => ?_)
                  exact (by
                    refine c_region ?_
                    refine l_step (y_moveV (et (gS rfl (gS rfl (gS rfl (gS rfl (gS rfl g0))))) rfl)) ?_
                    refine l_step (y_nil (et g0 rfl)) ?_
                    refine l_step (y_fld fld_75_4 (et g0 rfl)) ?_
                    refine l_step (y_load1 one_73 (et g0 rfl) (at1 (hX.ex.vl.c1 (hX.ex.lx.cTop (s := { s with ret := (lvOut f q l) }) (f := f) hs) (by omega)))) ?_
                    refine l_step (y_sub (et g0 rfl) rfl (topSub h6)) ?_
                    refine l_step (y_nil (et (gS rfl (gS rfl (gS rfl (gS rfl g0)))) rfl)) ?_
                    refine l_step (y_fld fld_75_4 (et g0 rfl)) ?_
                    refine l_effN (e_store sz_73 (et g0 rfl) (cellsV (et (gS rfl (gS rfl g0)) rfl) rfl) rfl (by intro v hv; simp at hv; subst hv; rfl) hX.ex.vl.kC (by rw [hX.ex.vl.size]; omega)) (fun v17 w17 h17 => ?_)
                    obtain ⟨rfl, x17⟩ := h17
                    have hv17 := hX.st x17 (by decide) (Nat.le_of_ble_eq_true rfl) (hX.ex.lx.pop (f := f) hX.ex.vl.size (by show s.phase ≠ 2; omega) hs)
                    have hse2 := hse1.off (v := .int .i8 ((low.length : Nat) - 1)) (k := 2258) (by rw [length_bL, length_be]; omega)
                    replace hX := hv17
                    replace U := U.cc x17.ch (by intro b hb; exact .inl trivial)
                    refine l_nil ?_
                    refine hK16 _ _ ?_
                    refine fg6 0 1 2 6 7 8 (gS rfl (gS rfl (gS rfl (gS rfl (gS rfl (gS rfl (gS rfl (gS rfl (gS rfl (gS rfl (gS rfl (gS rfl g0)))))))))))) (gS rfl (gS rfl (gS rfl (gS rfl (gS rfl (gS rfl (gS rfl (gS rfl (gS rfl (gS rfl (gS rfl g0))))))))))) (gS rfl (gS rfl (gS rfl (gS rfl (gS rfl (gS rfl (gS rfl (gS rfl (gS rfl (gS rfl g0)))))))))) (gS rfl (gS rfl (gS rfl (gS rfl (gS rfl (gS rfl (gS rfl (gS rfl (gS rfl g0))))))))) (gS rfl (gS rfl (gS rfl (gS rfl (gS rfl (gS rfl (gS rfl (gS rfl g0)))))))) (gS rfl (gS rfl (gS rfl (gS rfl (gS rfl (gS rfl (gS rfl g0))))))) (fun g => ?_)
                    refine c_seq (fun K18 hK18 => ?_)
                    refine c_seq (fun K19 hK19 => ?_)
                    exact (by
                      refine c_region ?_
                      refine l_step (y_moveV (et (gS rfl (gS rfl (gS rfl (gS rfl (gS rfl g0))))) rfl)) ?_
                      refine l_step (y_nil (et g0 rfl)) ?_
                      refine l_step (y_fld fld_75_4 (et g0 rfl)) ?_
                      refine l_step (y_load1 one_73 (et g0 rfl) (at1 (hX.ex.vl.c1 hX.ex.lx.top (by omega)))) ?_
                      refine l_step (y_lss (et g0 rfl) rfl) ?_
                      refine l_nil ?_
                      refine hK19 _ _ ?_
                      refine fg7 0 1 2 6 7 8 98 (gS rfl (gS rfl (gS rfl (gS rfl (gS rfl (gS rfl (gS rfl (gS rfl (gS rfl (gS rfl g0)))))))))) (gS rfl (gS rfl (gS rfl (gS rfl (gS rfl (gS rfl (gS rfl (gS rfl (gS rfl g0))))))))) (gS rfl (gS rfl (gS rfl (gS rfl (gS rfl (gS rfl (gS rfl (gS rfl g0)))))))) (gS rfl (gS rfl (gS rfl (gS rfl (gS rfl (gS rfl (gS rfl g0))))))) (gS rfl (gS rfl (gS rfl (gS rfl (gS rfl (gS rfl g0)))))) (gS rfl (gS rfl (gS rfl (gS rfl (gS rfl g0))))) g0 (fun g => ?_)
                      refine c_cond (et g0 rfl) (fun cB7 => ?_) (fun cB7 => ?_)
                      · skip
                        
                        have hl0 : low = [] := by have h9 := of_decide_eq_true cB7; exact List.eq_nil_of_length_eq_zero (by have : ((low.length : Nat) : Int) - 1 < 0 := h9; omega)
                        refine c_seq (fun K21 hK21 => ?_)
                        exact (by
                          refine c_region ?_
                          refine l_step (y_moveV (et (gS rfl (gS rfl (gS rfl (gS rfl (gS rfl (gS rfl g0)))))) rfl)) ?_
                          refine l_step (y_nil (et g0 rfl)) ?_
                          refine l_step (y_fld fld_75_9 (et g0 rfl)) ?_
                          refine l_effN (e_store sz_5 (et g0 rfl) (cellsV rfl rfl) rfl (by intro v hv; simp at hv; subst hv; rfl) hX.ex.vl.kC (by rw [hX.ex.vl.size]; omega)) (fun v22 w22 h22 => ?_)
                          obtain ⟨rfl, x22⟩ := h22
                          have hlx := hX.ex.lx
                          have hzz := hX.ex.vl.size
                          have hv22 := hX.xr.xq.st x22 (by decide) (Nat.le_of_ble_eq_true rfl)
                          replace hX := hv22
                          replace U := U.cc x22.ch (by intro b hb; exact .inl trivial)
                          refine l_nil ?_
                          refine hK21 _ _ ?_
                          refine fg3 0 1 7 (gS rfl (gS rfl (gS rfl (gS rfl (gS rfl (gS rfl (gS rfl (gS rfl (gS rfl g0))))))))) (gS rfl (gS rfl (gS rfl (gS rfl (gS rfl (gS rfl (gS rfl (gS rfl g0)))))))) (gS rfl (gS rfl (gS rfl (gS rfl (gS rfl g0))))) (fun g => ?_)
                          refine c_seq (fun K23 hK23 => ?_)
                          exact (by
                            refine c_region ?_
                            refine l_step (y_moveV (et (gS rfl (gS rfl g0)) rfl)) ?_
                            refine l_step (y_moveV (et (gS rfl (gS rfl g0)) rfl)) ?_
                            refine l_step (y_nil (et (gS rfl g0) rfl)) ?_
                            refine l_step (y_fld fld_75_10 (et g0 rfl)) ?_
                            refine l_effN (e_store sz_5 (et g0 rfl) (cellsV (et (gS rfl (gS rfl g0)) rfl) rfl) rfl (by intro v hv; simp at hv; subst hv; rfl) hX.ex.vl.kC (by rw [hX.ex.vl.size]; omega)) (fun v24 w24 h24 => ?_)
                            obtain ⟨rfl, x24⟩ := h24
                            have hv24 := hX.st x24 (by decide) (Nat.le_of_ble_eq_true rfl)
                            replace hX := hv24
                            replace U := U.cc x24.ch (by intro b hb; exact .inl trivial)
                            refine l_nil ?_
                            refine hK23 _ _ ?_
                            refine fg2 0 7 (gS rfl (gS rfl (gS rfl (gS rfl (gS rfl (gS rfl g0)))))) (gS rfl (gS rfl (gS rfl (gS rfl g0)))) (fun g => ?_)
                            refine c_seq (fun K25 hK25 => ?_)
                            exact (by
                              refine c_region ?_
                              refine l_step (y_moveV (et (gS rfl g0) rfl)) ?_
                              refine l_step (y_moveV (et (gS rfl g0) rfl)) ?_
                              refine l_step (y_nil (et (gS rfl g0) rfl)) ?_
                              refine l_step (y_fld fld_75_3 (et g0 rfl)) ?_
                              refine l_step (y_idxAC 0 0 Hvaa.underlying72 sz_71 (et g0 rfl) rfl rfl rfl) ?_
                              refine l_step (y_fld fld_71_7 (et g0 rfl)) ?_
                              refine l_effN (e_store sz_26 (et g0 rfl) (cellsV (et (gS rfl (gS rfl (gS rfl (gS rfl g0)))) rfl) rfl) rfl (by intro v hv; simp at hv; subst hv; rfl) hX.ex.vl.kC (by rw [hX.ex.vl.size]; omega)) (fun v26 w26 h26 => ?_)
                              obtain ⟨rfl, x26⟩ := h26
                              have hv26 := hX.st x26 (by decide) (Nat.le_of_ble_eq_true rfl)
                              replace hX := hv26
                              replace U := U.cc x26.ch (by intro b hb; exact .inl trivial)
                              refine l_nil ?_
                              refine hK25 _ _ ?_
                              refine fg0 (fun g => ?_)
                              refine c_ret ?_
                              repeat with_reducible refine then_ret ?_
                              refine ret0 rfl ?_
                              have h1 := hlx.ended (st := (lvSt f q l)) (g := (lvGas f q l)) hzz hl0 (by show s.phase ≠ 0; omega)
                              have h2 := (hX.xr.xt (h1.now (lvW s f q l)) (hP.re rfl rfl rfl (fun _ => by show s.phase ≠ 0; omega) rfl rfl rfl)).slack (show c ≤ c + (lvGas f q l) by omega)
                              have e9 : lvY s f q l low = { s with now := lvW s f q l, ret := (lvOut f q l), frames := low, phase := 2, status := (lvSt f q l), left := (lvGas f q l) } := by
                                subst hl0
                                rfl
                              refine ⟨rfl, ?_⟩
                              unfold XO
                              rw [e9]
                              exact ⟨_, _, _, _, _, _, h2⟩)))
                      · skip
                        
                        have h8 : ¬ (((low.length : Nat) : Int) - 1 < 0) := of_decide_eq_false cB7
                        have hl0 : low ≠ [] := by
                          intro h9
                          have h7 : low.length = 0 := by rw [h9]; rfl
                          omega
                        obtain ⟨lo2, p, hlp⟩ := last_of hl0
                        obtain ⟨s1, hs1⟩ : ∃ s1 : YSt, s1 = { s with now := lvW s f q l, ret := (lvOut f q l), frames := low } := ⟨_, rfl⟩
                        replace hX := ((hX.xr.xg (hX.ex.lx.now (lvW s f q l))).xt (hP.re rfl rfl rfl (fun h => h) rfl rfl rfl)).reS hs1
                        have hsf : s1.frames = lo2 ++ [p] := by rw [hs1]; exact hlp
                        have hph1 : s1.phase = 1 := by rw [hs1]; exact hp
                        obtain ⟨n7, hn7, hR7⟩ := hX.ex.topF hsf
                        have hB7 := hX.ex.fbT hsf
                        have h67 := hX.ex.six hsf
                        have hll2 : low.length = lo2.length + 1 := by rw [hlp]; simp
                        have hpg := hB7.gas
                        have hpt := hX.ex.px.pot.t
                        rw [gas_top hsf] at hpt
                        have hpo := hB7.oo
                        have hpl := hB7.ol
                        have hpar1 := hpar p (by rw [hlp]; simp)
                        have hgl := lvGas_le f q l
                        have hol := lvOut_len f q l
                        refine c_skip ?_
                        refine hK18 _ _ ?_
                        refine fg6 0 1 2 6 7 8 (gS rfl (gS rfl (gS rfl (gS rfl (gS rfl (gS rfl g0)))))) (gS rfl (gS rfl (gS rfl (gS rfl (gS rfl g0))))) (gS rfl (gS rfl (gS rfl (gS rfl g0)))) (gS rfl (gS rfl (gS rfl g0))) (gS rfl (gS rfl g0)) (gS rfl g0) (fun g => ?_)
                        refine c_seq (fun K27 hK27 => ?_)
                        exact (by
                          refine c_draw Up 9 [(0, true), (1, true), (2, true), (3, true), (4, true), (5, true), (6, true), (7, true), (8, true)] (by kernel_rfl) (fun w28 hu => ⟨Up.refl _, ?_⟩)
                          replace hX := hX.up hu
                          replace U := U.tr hu
                          have SU := Up.refl w28
                          refine p_step (by exact rfl) (y_moveV (et (gS rfl (gS rfl (gS rfl (gS rfl (gS rfl g0))))) rfl)) ?_
                          refine p_step (by exact rfl) (y_moveV (et (gS rfl (gS rfl (gS rfl (gS rfl (gS rfl (gS rfl g0)))))) rfl)) ?_
                          refine p_step (by exact rfl) (y_nil (et g0 rfl)) ?_
                          refine p_step (by exact rfl) (y_fld fld_75_4 (et g0 rfl)) ?_
                          refine p_step (by exact rfl) (y_load1 one_73 (et g0 rfl) (atS (hX.ex.vl.c1 (hX.ex.cTop hsf) (by omega)))) ?_
                          refine p_step (by exact rfl) (y_nil (et (gS rfl (gS rfl (gS rfl (gS rfl g0)))) rfl)) ?_
                          refine p_step (by exact rfl) (y_fld fld_75_3 (et g0 rfl)) ?_
                          refine p_step (by exact rfl) (y_idxA Hvaa.underlying72 sz_71 (et g0 rfl) (et (gS rfl (gS rfl g0)) rfl) ?_ ?_) ?_
                          omega
                          omega
                          refine p_step (by exact rfl) (y_assignV (et g0 rfl)) ?_
                          refine p_nil ?_
                          refine hK27 _ _ ?_
                          refine fg7 0 1 2 6 7 8 9 (gS rfl (gS rfl (gS rfl (gS rfl (gS rfl (gS rfl (gS rfl (gS rfl (gS rfl (gS rfl (gS rfl (gS rfl (gS rfl (gS rfl g0)))))))))))))) (gS rfl (gS rfl (gS rfl (gS rfl (gS rfl (gS rfl (gS rfl (gS rfl (gS rfl (gS rfl (gS rfl (gS rfl (gS rfl g0))))))))))))) (gS rfl (gS rfl (gS rfl (gS rfl (gS rfl (gS rfl (gS rfl (gS rfl (gS rfl (gS rfl (gS rfl (gS rfl g0)))))))))))) (gS rfl (gS rfl (gS rfl (gS rfl (gS rfl (gS rfl (gS rfl (gS rfl (gS rfl (gS rfl (gS rfl g0))))))))))) (gS rfl (gS rfl (gS rfl (gS rfl (gS rfl (gS rfl (gS rfl (gS rfl (gS rfl (gS rfl g0)))))))))) (gS rfl (gS rfl (gS rfl (gS rfl (gS rfl (gS rfl (gS rfl (gS rfl (gS rfl g0))))))))) g0 (fun g => ?_)
                          refine c_seq (fun K29 hK29 => ?_)
                          exact (by
                            refine c_region ?_
                            refine l_step (y_moveV (et g0 rfl)) ?_
                            refine l_step (y_nil (et g0 rfl)) ?_
                            refine l_step (y_fld fld_71_7 (et g0 rfl)) ?_
                            refine l_step (y_load1 one_26 (et g0 rfl) (at1 (hX.ex.vl.c1 (hR7.r1 7 _ rfl) (by omega)))) ?_
                            refine l_step (y_moveV (et (gS rfl (gS rfl (gS rfl (gS rfl (gS rfl (gS rfl g0)))))) rfl)) ?_
                            refine l_step (y_add (et (gS rfl g0) rfl) (et g0 rfl) (wrapU_addN uk64 ?_)) ?_
                            omega
                            refine l_step (y_nil (et (gS rfl (gS rfl (gS rfl (gS rfl (gS rfl g0))))) rfl)) ?_
                            refine l_step (y_fld fld_71_7 (et g0 rfl)) ?_
                            refine l_effN (e_store sz_26 (et g0 rfl) (cellsV (et (gS rfl (gS rfl g0)) rfl) rfl) rfl (by intro v hv; simp at hv; subst hv; rfl) hX.ex.vl.kC (by rw [hX.ex.vl.size]; omega)) (fun v30 w30 h30 => ?_)
                            obtain ⟨rfl, x30⟩ := h30
                            have hv30 := hX.stGas hsf hph1 (p := p.gas + (lvGas f q l)) (c' := c) (by omega) (by omega) (by omega) x30
                            have hse3 := hse2.off (v := .int .u64 (p.gas + (lvGas f q l) : Nat)) (k := _) (by have h9 : 1803 + (((lo2.length : Nat) : Int)).toNat * 65 + 7 < 1803 + 65 * low.length + 9 := (by omega); exact .inl h9)
                            replace hX := hv30
                            replace U := U.cc x30.ch (by intro b hb; exact .inl trivial)
                            obtain ⟨p1, hp1⟩ : ∃ p1 : YF, p1 = { p with gas := p.gas + (lvGas f q l) } := ⟨_, rfl⟩
                            rw [← hp1] at hX
                            obtain ⟨s2, hs2⟩ : ∃ s2 : YSt, s2 = { s1 with frames := lo2 ++ [p1] } := ⟨_, rfl⟩
                            replace hX := hX.reS hs2
                            have hsf2 : s2.frames = lo2 ++ [p1] := by rw [hs2]
                            have hph2 : s2.phase = 1 := by rw [hs2]; exact hph1
                            obtain ⟨n6, hn6, hR6⟩ := hX.ex.topF hsf2
                            have epo : p1.outOff = p.outOff := by rw [hp1]
                            have epl : p1.outLen = p.outLen := by rw [hp1]
                            have hnw1 := hX.ex.vl.new
                            have hfz1 := hX.ex.vl.fz
                            refine l_nil ?_
                            refine hK29 _ _ ?_
                            refine fg6 0 1 2 6 8 9 (gS rfl (gS rfl (gS rfl (gS rfl (gS rfl (gS rfl (gS rfl (gS rfl (gS rfl (gS rfl (gS rfl (gS rfl (gS rfl (gS rfl g0)))))))))))))) (gS rfl (gS rfl (gS rfl (gS rfl (gS rfl (gS rfl (gS rfl (gS rfl (gS rfl (gS rfl (gS rfl (gS rfl (gS rfl g0))))))))))))) (gS rfl (gS rfl (gS rfl (gS rfl (gS rfl (gS rfl (gS rfl (gS rfl (gS rfl (gS rfl (gS rfl (gS rfl g0)))))))))))) (gS rfl (gS rfl (gS rfl (gS rfl (gS rfl (gS rfl (gS rfl (gS rfl (gS rfl (gS rfl (gS rfl g0))))))))))) (gS rfl (gS rfl (gS rfl (gS rfl (gS rfl (gS rfl (gS rfl (gS rfl (gS rfl g0))))))))) (gS rfl (gS rfl (gS rfl (gS rfl (gS rfl (gS rfl (gS rfl (gS rfl g0)))))))) (fun g => ?_)
                            refine c_seq (fun K31 hK31 => ?_)
                            exact (by
                              refine c_region ?_
                              refine l_step (y_bld bN bld65_z) ?_
                              refine l_eff (e_alloc zr_65) (fun v32 w32 h32 => ?_)
                              obtain ⟨b32, rfl, n32⟩ := h32
                              have f32 : w.heap.size ≤ b32 := Nat.le_trans U.size n32.fresh
                              replace hX := hX.up n32.up
                              replace U := U.tr n32.up
                              have k32 := n32.blk
                              obtain ⟨zs32, hz32, k32⟩ : ∃ cs : Array Value, cs.size = 4 ∧ Blk w32 b32 cs := ⟨_, rfl, k32⟩
                              have nc32 := hnw1 b32 n32.fresh
                              have nh32 : ¬ H4.has b32 := fun hh => by have h9 := hfz1.lt hh; have h8 := n32.fresh; omega
                              refine l_effN (e_store sz_65 (et g0 rfl) (cellsV (et (gS rfl g0) rfl) rfl) rfl (by exact one_uL _) k32 (by (first | (rw [hz32]; exact Nat.le_refl _) | (rw [List.size_toArray, wL_len]; exact Nat.le_refl _)))) (fun v33 w33 h33 => ?_)
                              obtain ⟨rfl, x33⟩ := h33
                              replace hX := hX.ch x33.ch (by first | omega | (intro b hb; first | (subst hb; first | exact ⟨by omega, fun hh => by have := hfz.lt hh; omega, by omega⟩ | exact ⟨by omega, by assumption, by omega⟩) | (rcases hb with hb | hb <;> (subst hb; first | exact ⟨by omega, fun hh => by have := hfz.lt hh; omega, by omega⟩ | exact ⟨by omega, by assumption, by omega⟩))))
                              replace k32 := x33.blk.full (by first | (rw [hz32]; rfl) | (rw [List.size_toArray, wL_len, wL_len]))
                              replace U := U.st x33 (.inr f32)
                              refine l_nil ?_
                              refine hK31 _ _ ?_
                              refine fg7 0 1 2 6 8 9 10 (gS rfl (gS rfl (gS rfl (gS rfl (gS rfl (gS rfl (gS rfl g0))))))) (gS rfl (gS rfl (gS rfl (gS rfl (gS rfl (gS rfl g0)))))) (gS rfl (gS rfl (gS rfl (gS rfl (gS rfl g0))))) (gS rfl (gS rfl (gS rfl (gS rfl g0)))) (gS rfl (gS rfl (gS rfl g0))) (gS rfl (gS rfl g0)) g0 (fun g => ?_)
                              refine c_seq (fun K34 hK34 => ?_)
                              have hJ34 : ∀ (s_ : Nat → Value) (W34 : World), (∃ (g : Nat → Value), s_ = (upd (upd (upd (upd g 0 (.pointer (some ⟨bc, 0, none⟩))) 2 (.slice oa3 (lvOut f q l).length oc3)) 9 (.pointer (some ⟨bc, 1803 + (((lo2.length : Nat) : Int)).toNat * 65, none⟩))) 10 (.pointer (some ⟨b32, 0, none⟩))) ∧ Blk W34 b32 ((wL (lvFlag f q l)).toArray) ∧ Ch (fun k => k = b32) w33 W34) → K34 (mk 172 s_) W34 := by
                                intro s_ W34 hI
                                obtain ⟨g, rfl, nk32, V34⟩ := hI
                                replace hX := hX.ch V34 (by intro b hb; first | (subst hb; first | exact ⟨by omega, fun hh => by have := hfz.lt hh; omega, by omega⟩ | exact ⟨by omega, by assumption, by omega⟩) | (rcases hb with hb | hb <;> (subst hb; first | exact ⟨by omega, fun hh => by have := hfz.lt hh; omega, by omega⟩ | exact ⟨by omega, by assumption, by omega⟩)))
                                replace k32 := nk32
                                replace U := U.cc V34 (by intro b hb; first | exact hb.elim | omega | (simp at hb ⊢; omega))
                                refine hK34 _ _ ?_
                                refine c_seq (fun K35 hK35 => ?_)
                                exact (by
                                  refine c_region ?_
                                  refine l_step (y_moveV (et (gS rfl g0) rfl)) ?_
                                  refine l_step (y_nil (et g0 rfl)) ?_
                                  refine l_step (y_fld fld_71_16 (et g0 rfl)) ?_
                                  refine l_step (y_load1 one_60 (et g0 rfl) (at1 (hX.ex.vl.c1 (hR6.r7 1 _ rfl) (by omega)))) ?_
                                  refine l_step (y_assignV (et g0 rfl)) ?_
                                  refine l_nil ?_
                                  refine hK35 _ _ ?_
                                  refine fg5 0 2 9 10 11 (gS rfl (gS rfl (gS rfl (gS rfl (gS rfl (gS rfl (gS rfl (gS rfl g0)))))))) (gS rfl (gS rfl (gS rfl (gS rfl (gS rfl (gS rfl (gS rfl g0))))))) (gS rfl (gS rfl (gS rfl (gS rfl (gS rfl (gS rfl g0)))))) (gS rfl (gS rfl (gS rfl (gS rfl (gS rfl g0))))) g0 (fun g => ?_)
                                  refine c_seq (fun K36 hK36 => ?_)
                                  have hJ36 : ∀ (s_ : Nat → Value) (W36 : World), (∃ (g : Nat → Value) (k9 : Nat), s_ = (upd (upd (upd (upd (upd g 0 (.pointer (some ⟨bc, 0, none⟩))) 2 (.slice oa3 (lvOut f q l).length oc3)) 9 (.pointer (some ⟨bc, 1803 + (((lo2.length : Nat) : Int)).toNat * 65, none⟩))) 10 (.pointer (some ⟨b32, 0, none⟩))) 11 (.int .u32 (k9 : Nat))) ∧ (k9 = (min p.outLen (lvOut f q l).length)) ∧ Ch (fun k => False) W34 W36) → K36 (mk 172 s_) W36 := by
                                    intro s_ W36 hI
                                    obtain ⟨g, k9, rfl, hk9, V36⟩ := hI
                                    replace k32 := k32.ch V36 (by exact fun h => h)
                                    replace hX := hX.ch V36 (by first | exact fun h => h | exact fun _ h => h.elim | exact fun _ _ h => h)
                                    replace U := U.cc V36 (by intro b hb; first | exact hb.elim | omega | (simp at hb ⊢; omega))
                                    refine hK36 _ _ ?_
                                    refine c_seq (fun K37 hK37 => ?_)
                                    refine c_seq (fun K38 hK38 => ?_)
                                    exact (by
                                      refine c_draw (SXM _ bc _) 15 [(0, true), (1, true), (2, true), (3, true), (4, true), (5, true), (6, true), (7, true), (8, true), (9, true), (10, true), (11, true), (12, false), (13, true), (14, true)] (by kernel_rfl) (fun w39 hu => ⟨SXM.refl (hX.up hu), ?_⟩)
                                      replace k32 := k32.up hu
                                      replace hX := hX.up hu
                                      replace U := U.tr hu
                                      have SU := SXM.refl hX
                                      have cq := cq_refl hX
                                      have hX_s := hX
                                      have k32_s := k32
                                      refine p_step (by exact rfl) (y_moveV (et g0 rfl)) ?_
                                      refine p_step (by exact rfl) (y_gtr (et g0 rfl) rfl) ?_
                                      refine p_step (by exact rfl) (y_moveV (et g0 rfl)) ?_
                                      refine gsplitP (i := 153) g0 (fun q40 => ?_) (fun q40 => ?_)
                                      · skip
                                        have h0k : 0 < k9 := by have := of_decide_eq_true q40; omega
                                        refine p_gstep (j := 2) (t := 153) (by exact rfl) (by exact rfl) (by exact rfl) (et g0 rfl) rfl (y_moveV (et (gS rfl (gS rfl (gS rfl (gS rfl (gS rfl (gS rfl (gS rfl (gS rfl g0)))))))) rfl)) ?_
                                        refine p_gstep (j := 2) (t := 153) (by exact rfl) (by exact rfl) (by exact rfl) (et (gS rfl g0) rfl) rfl (y_nil (et g0 rfl)) ?_
                                        refine p_gstep (j := 2) (t := 153) (by exact rfl) (by exact rfl) (by exact rfl) (et (gS rfl (gS rfl g0)) rfl) rfl (y_fld fld_75_1 (et g0 rfl)) ?_
                                        refine p_gstep (j := 2) (t := 153) (by exact rfl) (by exact rfl) (by exact rfl) (et (gS rfl (gS rfl (gS rfl g0))) rfl) rfl (y_moveV (et (gS rfl (gS rfl (gS rfl (gS rfl (gS rfl (gS rfl (gS rfl (gS rfl (gS rfl g0))))))))) rfl)) ?_
                                        refine p_gstep (j := 2) (t := 153) (by exact rfl) (by exact rfl) (by exact rfl) (et (gS rfl (gS rfl (gS rfl (gS rfl g0)))) rfl) rfl (y_nil (et g0 rfl)) ?_
                                        refine p_gstep (j := 2) (t := 153) (by exact rfl) (by exact rfl) (by exact rfl) (et (gS rfl (gS rfl (gS rfl (gS rfl (gS rfl g0))))) rfl) rfl (y_fld fld_71_15 (et g0 rfl)) ?_
                                        refine p_gstep (j := 2) (t := 153) (by exact rfl) (by exact rfl) (by exact rfl) (et (gS rfl (gS rfl (gS rfl (gS rfl (gS rfl (gS rfl g0)))))) rfl) rfl (y_load1 one_60 (et g0 rfl) (atXMC (hR6.r7.at1 0 rfl rfl) (by omega) (by omega))) ?_
                                        refine p_gstep (j := 2) (t := 153) (by exact rfl) (by exact rfl) (by exact rfl) (et (gS rfl (gS rfl (gS rfl (gS rfl (gS rfl (gS rfl (gS rfl g0))))))) rfl) rfl (y_moveV (et (gS rfl (gS rfl (gS rfl (gS rfl (gS rfl (gS rfl (gS rfl (gS rfl (gS rfl (gS rfl (gS rfl (gS rfl (gS rfl (gS rfl g0)))))))))))))) rfl)) ?_
                                        refine p_gstep (j := 2) (t := 153) (by exact rfl) (by exact rfl) (by exact rfl) (et (gS rfl (gS rfl (gS rfl (gS rfl (gS rfl (gS rfl (gS rfl (gS rfl g0)))))))) rfl) rfl (y_moveV (et (gS rfl (gS rfl (gS rfl (gS rfl (gS rfl (gS rfl (gS rfl (gS rfl (gS rfl (gS rfl (gS rfl (gS rfl g0)))))))))))) rfl)) ?_
                                        have hms6 : low.map (fun g => g.mem) = lo2.map (fun g => g.mem) ++ [p.mem] := by rw [hlp]; simp
                                        refine p_geff (j := 2) (t := 153) (by exact rfl) (by exact rfl) (by exact rfl) (et (gS rfl (gS rfl (gS rfl (gS rfl (gS rfl (gS rfl (gS rfl (gS rfl (gS rfl g0))))))))) rfl) rfl (e_callV cal_258 (aC (et (gS rfl (gS rfl (gS rfl (gS rfl (gS rfl (gS rfl g0)))))) rfl) (aC (et (gS rfl (gS rfl g0)) rfl) (aC (et (gS rfl g0) rfl) (aC (v := .int .u64 ((0 : Nat) : Int)) rfl (aC (et g0 rfl) aN))))) (hX.ex.mWr hms6 p1.outOff k9 0 (by omega) (by have := hpar1.2.2 (by omega); omega) (by decide) hB4 (by omega))) (fun v41 w41 h41 => ?_)
                                        obtain ⟨rfl, m41, z41⟩ := h41
                                        have kp41 := hX.ex.vl.kC
                                        replace k32 := k32.ch z41 (by intro hm; (have e0 := hm); omega)
                                        replace hX := hX.mem z41 (fun b hb => hb) m41
                                        replace U := U.cc z41 (by intro b hb; exact .inl trivial)
                                        have cq9 := SU.ch.size
                                        replace SU := SU.xm z41 kp41 hX.ex.vl.kC (Out.refl _ _ _) (hX.ex.vl.c1 hX.ex.lx.pS rfl) (by intro b hlt hb; have h9 := cq b hlt; have e0 := hb; omega)
                                        refine ⟨.inr SU, ?_⟩
                                        refine p_gstep (j := 2) (t := 153) (by exact rfl) (by exact rfl) (by exact rfl) (et (gS rfl (gS rfl (gS rfl (gS rfl (gS rfl (gS rfl (gS rfl (gS rfl (gS rfl (gS rfl g0)))))))))) rfl) rfl (y_not (et g0 rfl)) ?_
                                        refine p_step (by exact rfl) (y_pickT (et (gS rfl (gS rfl (gS rfl (gS rfl (gS rfl (gS rfl (gS rfl (gS rfl (gS rfl (gS rfl (gS rfl g0))))))))))) rfl) (et g0 rfl)) ?_
                                        refine p_nil ?_
                                        refine hK38 _ _ ?_
                                        refine fg4 0 9 10 165 (gS rfl (gS rfl (gS rfl (gS rfl (gS rfl (gS rfl (gS rfl (gS rfl (gS rfl (gS rfl (gS rfl (gS rfl (gS rfl (gS rfl (gS rfl (gS rfl (gS rfl (gS rfl (gS rfl (gS rfl g0)))))))))))))))))))) (gS rfl (gS rfl (gS rfl (gS rfl (gS rfl (gS rfl (gS rfl (gS rfl (gS rfl (gS rfl (gS rfl (gS rfl (gS rfl (gS rfl (gS rfl (gS rfl (gS rfl (gS rfl g0)))))))))))))))))) (gS rfl (gS rfl (gS rfl (gS rfl (gS rfl (gS rfl (gS rfl (gS rfl (gS rfl (gS rfl (gS rfl (gS rfl (gS rfl (gS rfl (gS rfl (gS rfl (gS rfl g0))))))))))))))))) g0 (fun g => ?_)
                                        refine c_false (et g0 rfl) (by rfl) ?_
                                        refine c_skip ?_
                                        refine hK37 _ _ ?_
                                        refine fg3 0 9 10 (gS rfl (gS rfl (gS rfl g0))) (gS rfl (gS rfl g0)) (gS rfl g0) (fun g => ?_)
                                        exact (by
                                          refine c_region ?_
                                          refine l_step (y_moveV (et (gS rfl (gS rfl g0)) rfl)) ?_
                                          refine l_step (y_moveV (et (gS rfl (gS rfl g0)) rfl)) ?_
                                          refine l_step (y_loadB agg_65 sz_65 (et (gS rfl (gS rfl g0)) rfl) rfl (at1B k32)) ?_
                                          have epc : p1.pc = p.pc := by rw [hp1]
                                          have est : p1.stack = p.stack := by rw [hp1]
                                          have hfl9 : lvFlag f q l < W256 := by
                                            unfold lvFlag
                                            split
                                            · split
                                              · exact Nat.lt_trans hB.self (by decide)
                                              · decide
                                            · decide
                                          refine l_eff (e_callV cal_259 (aC (et (gS rfl (gS rfl g0)) rfl) (aC (et (gS rfl g0) rfl) (aC (v := .int .u16 ((0 : Nat) : Int)) rfl (aC rfl (aC (et g0 rfl) (aC (v := .int .u16 ((1 : Nat) : Int)) rfl aN)))))) (m_settle1 hX.ex hsf2 hph2 (by omega) 0 _ 1 (Nat.zero_le _) hfl9 (by rw [epc]; omega) (by rw [est]; omega))) (fun v43 w43 h43 => ?_)
                                          obtain ⟨rfl, cs43, y43⟩ := h43
                                          replace k32 := k32.ch y43.et.go.ch (by intro hm; (have e0 := hm); omega)
                                          replace hX := hX.trans y43
                                          replace U := U.cc y43.et.go.ch (by intro b hb; exact .inl trivial)
                                          refine l_nil ?_
                                          refine end0 rfl ?_
                                          have em : lvMem p f q l = wrN p.mem p.outOff ((lvOut f q l).take (min p.outLen (lvOut f q l).length)) := by rw [lvMem, if_pos (by omega)]
                                          have e9 : lvY s f q l low = { s with now := lvW s f q l, ret := (lvOut f q l), frames := lo2 ++ [lvP p f q l] } := by
                                            unfold lvY
                                            rw [hlp, List.getLast?_append, List.dropLast_concat]
                                            rfl
                                          have e7 : (lvY s f q l low).frames.map (fun g => g.mem) = lo2.map (fun g => g.mem) ++ [wrN p.mem p.outOff ((lvOut f q l).take (min p.outLen (lvOut f q l).length))] := by
                                            rw [e9]
                                            show (lo2 ++ [lvP p f q l]).map (fun g => g.mem) = _
                                            rw [List.map_append]
                                            show _ ++ [lvMem p f q l] = _
                                            rw [em]
                                          have hr := hX.remem (low := lo2) rfl (lvMem p f q l)
                                          refine ⟨rfl, ?_⟩
                                          unfold XO
                                          rw [e7, e9]
                                          rw [cut0 (by omega), hk9, epo] at hr
                                          rw [hs2, hs1, hp1] at hr
                                          exact ⟨_, _, _, _, _, _, hr⟩)
                                      · skip
                                        have h0k : ¬ 0 < k9 := by have := of_decide_eq_false q40; omega
                                        refine p_gskip (j := 2) (t := 153) (by exact rfl) (by exact rfl) (by exact rfl) (et g0 rfl) rfl rfl ?_
                                        refine p_gskip (j := 2) (t := 153) (by exact rfl) (by exact rfl) (by exact rfl) (et (gS rfl g0) rfl) rfl rfl ?_
                                        refine p_gskip (j := 2) (t := 153) (by exact rfl) (by exact rfl) (by exact rfl) (et (gS rfl (gS rfl g0)) rfl) rfl rfl ?_
                                        refine p_gskip (j := 2) (t := 153) (by exact rfl) (by exact rfl) (by exact rfl) (et (gS rfl (gS rfl (gS rfl g0))) rfl) rfl rfl ?_
                                        refine p_gskip (j := 2) (t := 153) (by exact rfl) (by exact rfl) (by exact rfl) (et (gS rfl (gS rfl (gS rfl (gS rfl g0)))) rfl) rfl rfl ?_
                                        refine p_gskip (j := 2) (t := 153) (by exact rfl) (by exact rfl) (by exact rfl) (et (gS rfl (gS rfl (gS rfl (gS rfl (gS rfl g0))))) rfl) rfl rfl ?_
                                        refine p_gskip (j := 2) (t := 153) (by exact rfl) (by exact rfl) (by exact rfl) (et (gS rfl (gS rfl (gS rfl (gS rfl (gS rfl (gS rfl g0)))))) rfl) rfl rfl ?_
                                        refine p_gskip (j := 2) (t := 153) (by exact rfl) (by exact rfl) (by exact rfl) (et (gS rfl (gS rfl (gS rfl (gS rfl (gS rfl (gS rfl (gS rfl g0))))))) rfl) rfl rfl ?_
                                        refine p_gskip (j := 2) (t := 153) (by exact rfl) (by exact rfl) (by exact rfl) (et (gS rfl (gS rfl (gS rfl (gS rfl (gS rfl (gS rfl (gS rfl (gS rfl g0)))))))) rfl) rfl rfl ?_
                                        refine p_geskip (j := 2) (t := 153) (by exact rfl) (by exact rfl) (by exact rfl) (et (gS rfl (gS rfl (gS rfl (gS rfl (gS rfl (gS rfl (gS rfl (gS rfl (gS rfl g0))))))))) rfl) rfl rfl ⟨.inr SU, ?_⟩
                                        refine p_gskip (j := 2) (t := 153) (by exact rfl) (by exact rfl) (by exact rfl) (et (gS rfl (gS rfl (gS rfl (gS rfl (gS rfl (gS rfl (gS rfl (gS rfl (gS rfl (gS rfl g0)))))))))) rfl) rfl rfl ?_
                                        refine p_step (by exact rfl) (y_pickF (et (gS rfl (gS rfl (gS rfl (gS rfl (gS rfl (gS rfl (gS rfl (gS rfl (gS rfl (gS rfl (gS rfl g0))))))))))) rfl) rfl) ?_
                                        refine p_nil ?_
                                        refine hK38 _ _ ?_
                                        refine fg4 0 9 10 165 (gS rfl (gS rfl (gS rfl (gS rfl (gS rfl (gS rfl (gS rfl (gS rfl (gS rfl (gS rfl (gS rfl (gS rfl (gS rfl (gS rfl (gS rfl (gS rfl (gS rfl (gS rfl (gS rfl (gS rfl g0)))))))))))))))))))) (gS rfl (gS rfl (gS rfl (gS rfl (gS rfl (gS rfl (gS rfl (gS rfl (gS rfl (gS rfl (gS rfl (gS rfl (gS rfl (gS rfl (gS rfl (gS rfl (gS rfl (gS rfl g0)))))))))))))))))) (gS rfl (gS rfl (gS rfl (gS rfl (gS rfl (gS rfl (gS rfl (gS rfl (gS rfl (gS rfl (gS rfl (gS rfl (gS rfl (gS rfl (gS rfl (gS rfl (gS rfl g0))))))))))))))))) g0 (fun g => ?_)
                                        refine c_false (et g0 rfl) rfl ?_
                                        refine c_skip ?_
                                        refine hK37 _ _ ?_
                                        refine fg3 0 9 10 (gS rfl (gS rfl (gS rfl g0))) (gS rfl (gS rfl g0)) (gS rfl g0) (fun g => ?_)
                                        exact (by
                                          refine c_region ?_
                                          refine l_step (y_moveV (et (gS rfl (gS rfl g0)) rfl)) ?_
                                          refine l_step (y_moveV (et (gS rfl (gS rfl g0)) rfl)) ?_
                                          refine l_step (y_loadB agg_65 sz_65 (et (gS rfl (gS rfl g0)) rfl) rfl (at1B k32)) ?_
                                          have epc : p1.pc = p.pc := by rw [hp1]
                                          have est : p1.stack = p.stack := by rw [hp1]
                                          have hfl9 : lvFlag f q l < W256 := by
                                            unfold lvFlag
                                            split
                                            · split
                                              · exact Nat.lt_trans hB.self (by decide)
                                              · decide
                                            · decide
                                          refine l_eff (e_callV cal_259 (aC (et (gS rfl (gS rfl g0)) rfl) (aC (et (gS rfl g0) rfl) (aC (v := .int .u16 ((0 : Nat) : Int)) rfl (aC rfl (aC (et g0 rfl) (aC (v := .int .u16 ((1 : Nat) : Int)) rfl aN)))))) (m_settle1 hX.ex hsf2 hph2 (by omega) 0 _ 1 (Nat.zero_le _) hfl9 (by rw [epc]; omega) (by rw [est]; omega))) (fun v45 w45 h45 => ?_)
                                          obtain ⟨rfl, cs45, y45⟩ := h45
                                          replace k32 := k32.ch y45.et.go.ch (by intro hm; (have e0 := hm); omega)
                                          replace hX := hX.trans y45
                                          replace U := U.cc y45.et.go.ch (by intro b hb; exact .inl trivial)
                                          refine l_nil ?_
                                          refine end0 rfl ?_
                                          have em : lvMem p f q l = p.mem := by rw [lvMem, if_neg (by omega)]
                                          have e9 : lvY s f q l low = { s with now := lvW s f q l, ret := (lvOut f q l), frames := lo2 ++ [lvP p f q l] } := by
                                            unfold lvY
                                            rw [hlp, List.getLast?_append, List.dropLast_concat]
                                            rfl
                                          have e7 : (lvY s f q l low).frames.map (fun g => g.mem) = lo2.map (fun g => g.mem) ++ [p.mem] := by
                                            rw [e9]
                                            show (lo2 ++ [lvP p f q l]).map (fun g => g.mem) = _
                                            rw [List.map_append]
                                            show _ ++ [lvMem p f q l] = _
                                            rw [em]
                                          have hr := hX.remem (low := lo2) rfl (lvMem p f q l)
                                          refine ⟨rfl, ?_⟩
                                          unfold XO
                                          rw [e7, e9]
                                          rw [hlp, List.map_append] at hr
                                          rw [hs2, hs1, hp1] at hr
                                          exact ⟨_, _, _, _, _, _, hr⟩))
                                  have V36 : Ch (fun k => False) W34 W34 := Ch.refl _ _
                                  refine c_seq (fun K46 hK46 => ?_)
                                  exact (by
                                    refine c_region ?_
                                    refine l_step (y_moveV (et g0 rfl)) ?_
                                    refine l_step (y_conv Hvaa.underlying60 Hvaa.underlying26 (et g0 rfl) (wrapU_id uk64 ?_)) ?_
                                    omega
                                    refine l_step (y_moveV (et (gS rfl (gS rfl (gS rfl (gS rfl (gS rfl g0))))) rfl)) ?_
                                    refine l_step (y_len Hvaa.underlying38 (et g0 rfl)) ?_
                                    refine l_step (y_conv Hvaa.underlying3 Hvaa.underlying26 (et g0 rfl) (wrapU_id uk64 ?_)) ?_
                                    omega
                                    refine l_step (y_gtr (et (gS rfl (gS rfl (gS rfl g0))) rfl) (et g0 rfl)) ?_
                                    refine l_nil ?_
                                    refine hK46 _ _ ?_
                                    refine fg6 0 2 9 10 11 147 (gS rfl (gS rfl (gS rfl (gS rfl (gS rfl (gS rfl (gS rfl (gS rfl (gS rfl (gS rfl g0)))))))))) (gS rfl (gS rfl (gS rfl (gS rfl (gS rfl (gS rfl (gS rfl (gS rfl (gS rfl g0))))))))) (gS rfl (gS rfl (gS rfl (gS rfl (gS rfl (gS rfl (gS rfl (gS rfl g0)))))))) (gS rfl (gS rfl (gS rfl (gS rfl (gS rfl (gS rfl (gS rfl g0))))))) (gS rfl (gS rfl (gS rfl (gS rfl (gS rfl (gS rfl g0)))))) g0 (fun g => ?_)
                                    refine c_cond (et g0 rfl) (fun cB10 => ?_) (fun cB10 => ?_)
                                    · skip
                                      
                                      have h10 : (lvOut f q l).length < p.outLen := by have := of_decide_eq_true cB10; omega
                                      exact (by
                                        refine c_region ?_
                                        refine l_step (y_moveV (et (gS rfl (gS rfl (gS rfl (gS rfl g0)))) rfl)) ?_
                                        refine l_step (y_len Hvaa.underlying38 (et g0 rfl)) ?_
                                        refine l_step (y_conv Hvaa.underlying3 Hvaa.underlying60 (et g0 rfl) (wrapU_id uk32 ?_)) ?_
                                        omega
                                        refine l_step (y_assignV (et g0 rfl)) ?_
                                        refine l_nil ?_
                                        refine fK5 0 2 9 10 11 (gS rfl (gS rfl (gS rfl (gS rfl (gS rfl (gS rfl (gS rfl (gS rfl (gS rfl g0))))))))) (gS rfl (gS rfl (gS rfl (gS rfl (gS rfl (gS rfl (gS rfl (gS rfl g0)))))))) (gS rfl (gS rfl (gS rfl (gS rfl (gS rfl (gS rfl (gS rfl g0))))))) (gS rfl (gS rfl (gS rfl (gS rfl (gS rfl (gS rfl g0)))))) g0 (fun g => ?_)
                                        exact hJ36 _ _ ⟨g, (lvOut f q l).length, rfl, by omega, V36⟩)
                                    · skip
                                      
                                      have h10 : ¬ (lvOut f q l).length < p.outLen := by have := of_decide_eq_false cB10; omega
                                      refine c_skip ?_
                                      refine fK5 0 2 9 10 11 (gS rfl (gS rfl (gS rfl (gS rfl (gS rfl g0))))) (gS rfl (gS rfl (gS rfl (gS rfl g0)))) (gS rfl (gS rfl (gS rfl g0))) (gS rfl (gS rfl g0)) (gS rfl g0) (fun g => ?_)
                                      exact hJ36 _ _ ⟨g, p1.outLen, rfl, by omega, V36⟩))
                              have V34 : Ch (fun k => k = b32) w33 w33 := Ch.refl _ _
                              refine c_seq (fun K48 hK48 => ?_)
                              exact (by
                                refine c_region ?_
                                refine l_step (y_moveV (et (gS rfl (gS rfl (gS rfl (gS rfl (gS rfl g0))))) rfl)) ?_
                                refine l_step (y_eql (et g0 rfl) rfl) ?_
                                refine l_nil ?_
                                refine hK48 _ _ ?_
                                refine fg7 0 2 6 8 9 10 130 (gS rfl (gS rfl (gS rfl (gS rfl (gS rfl (gS rfl (gS rfl (gS rfl g0)))))))) (gS rfl (gS rfl (gS rfl (gS rfl (gS rfl (gS rfl g0)))))) (gS rfl (gS rfl (gS rfl (gS rfl (gS rfl g0))))) (gS rfl (gS rfl (gS rfl (gS rfl g0)))) (gS rfl (gS rfl (gS rfl g0))) (gS rfl (gS rfl g0)) g0 (fun g => ?_)
                                refine c_cond (et g0 rfl) (fun cB8 => ?_) (fun cB8 => ?_)
                                · skip
                                  
                                  have h8 : (lvSt f q l) = 0 := by have := of_decide_eq_true cB8; omega
                                  refine c_seq (fun K50 hK50 => ?_)
                                  exact (by
                                    refine c_region ?_
                                    refine l_step (y_idxAC 0 0 Hvaa.underlying65 sz_26 (et (gS rfl g0) rfl) rfl rfl rfl) ?_
                                    refine l_effN (e_store sz_26 (et g0 rfl) (cellsV rfl rfl) rfl (by first | exact one_bL _ | exact one_uL _ | (intro v hv; simp at hv; subst hv; rfl)) k32 (by first | exact Nat.le_of_ble_eq_true rfl | simp | omega)) (fun v51 w51 h51 => ?_)
                                    obtain ⟨rfl, x51⟩ := h51
                                    replace hX := hX.ch x51.ch (by first | omega | (intro b hb; first | (subst hb; first | exact ⟨by omega, fun hh => by have := hfz.lt hh; omega, by omega⟩ | exact ⟨by omega, by assumption, by omega⟩) | (rcases hb with hb | hb <;> (subst hb; first | exact ⟨by omega, fun hh => by have := hfz.lt hh; omega, by omega⟩ | exact ⟨by omega, by assumption, by omega⟩))))
                                    replace k32 := x51.blk
                                    replace U := U.st x51 (.inr f32)
                                    replace V34 := V34.st x51 (by omega)
                                    replace k32 : Blk w51 b32 (wL 1).toArray := k32
                                    refine l_nil ?_
                                    refine hK50 _ _ ?_
                                    refine fg6 0 2 6 8 9 10 (gS rfl (gS rfl (gS rfl (gS rfl (gS rfl (gS rfl (gS rfl g0))))))) (gS rfl (gS rfl (gS rfl (gS rfl (gS rfl (gS rfl g0)))))) (gS rfl (gS rfl (gS rfl (gS rfl (gS rfl g0))))) (gS rfl (gS rfl (gS rfl (gS rfl g0)))) (gS rfl (gS rfl (gS rfl g0))) (gS rfl (gS rfl g0)) (fun g => ?_)
                                    refine c_seq (fun K52 hK52 => ?_)
                                    exact (by
                                      refine c_region ?_
                                      refine l_step (y_moveV (et (gS rfl (gS rfl g0)) rfl)) ?_
                                      refine l_nil ?_
                                      refine hK52 _ _ ?_
                                      refine fg6 0 2 6 9 10 132 (gS rfl (gS rfl (gS rfl (gS rfl (gS rfl (gS rfl g0)))))) (gS rfl (gS rfl (gS rfl (gS rfl (gS rfl g0))))) (gS rfl (gS rfl (gS rfl (gS rfl g0)))) (gS rfl (gS rfl g0)) (gS rfl g0) g0 (fun g => ?_)
                                      refine c_cond (et g0 rfl) (fun cB9 => ?_) (fun cB9 => ?_)
                                      · skip
                                        
                                        exact (by
                                          refine c_region ?_
                                          refine l_step (y_moveV (et (gS rfl (gS rfl (gS rfl g0))) rfl)) ?_
                                          refine l_step (y_nil (et g0 rfl)) ?_
                                          refine l_step (y_fld fld_71_9 (et g0 rfl)) ?_
                                          refine l_step (y_loadR agg_25 sz_25 (et g0 rfl) (by rw [length_bL, length_be]) (at1R (hX.ex.vl.kC.rowO hse3 (by omega)))) ?_
                                          refine l_eff (e_callV cal_257 (aC (et g0 rfl) aN) (mach_addrWord _ _ hB.self)) (fun v54 w54 h54 => ?_)
                                          obtain ⟨rfl, u54⟩ := h54
                                          replace k32 := k32.up u54
                                          replace hX := hX.up u54
                                          replace U := U.tr u54
                                          replace V34 := V34.tr u54
                                          refine l_effN (e_store sz_65 (et (gS rfl (gS rfl (gS rfl (gS rfl (gS rfl (gS rfl g0)))))) rfl) (cellsV (et g0 rfl) rfl) rfl (by exact one_uL _) k32 (by exact Nat.le_of_ble_eq_true rfl)) (fun v55 w55 h55 => ?_)
                                          obtain ⟨rfl, x55⟩ := h55
                                          replace hX := hX.ch x55.ch (by first | omega | (intro b hb; first | (subst hb; first | exact ⟨by omega, fun hh => by have := hfz.lt hh; omega, by omega⟩ | exact ⟨by omega, by assumption, by omega⟩) | (rcases hb with hb | hb <;> (subst hb; first | exact ⟨by omega, fun hh => by have := hfz.lt hh; omega, by omega⟩ | exact ⟨by omega, by assumption, by omega⟩))))
                                          replace k32 := x55.blk.full rfl
                                          replace U := U.st x55 (.inr f32)
                                          replace V34 := V34.st x55 (by omega)
                                          refine l_nil ?_
                                          refine fK4 0 2 9 10 (gS rfl (gS rfl (gS rfl (gS rfl (gS rfl (gS rfl (gS rfl (gS rfl (gS rfl (gS rfl g0)))))))))) (gS rfl (gS rfl (gS rfl (gS rfl (gS rfl (gS rfl (gS rfl (gS rfl (gS rfl g0))))))))) (gS rfl (gS rfl (gS rfl (gS rfl (gS rfl (gS rfl (gS rfl g0))))))) (gS rfl (gS rfl (gS rfl (gS rfl (gS rfl (gS rfl g0)))))) (fun g => ?_)
                                          have e8 : lvFlag f q l = f.self := by rw [lvFlag, if_pos h8, if_pos cB9]
                                          rw [← e8] at k32
                                          exact hJ34 _ _ ⟨g, rfl, k32, V34⟩)
                                      · skip
                                        
                                        refine c_skip ?_
                                        refine fK4 0 2 9 10 (gS rfl (gS rfl (gS rfl (gS rfl (gS rfl g0))))) (gS rfl (gS rfl (gS rfl (gS rfl g0)))) (gS rfl (gS rfl g0)) (gS rfl g0) (fun g => ?_)
                                        have e8 : lvFlag f q l = 1 := by rw [lvFlag, if_pos h8, if_neg (by rw [cB9]; decide)]
                                        rw [← e8] at k32
                                        exact hJ34 _ _ ⟨g, rfl, k32, V34⟩))
                                · skip
                                  
                                  have h8 : (lvSt f q l) ≠ 0 := by have := of_decide_eq_false cB8; omega
                                  refine c_skip ?_
                                  refine fK4 0 2 9 10 (gS rfl (gS rfl (gS rfl (gS rfl (gS rfl (gS rfl g0)))))) (gS rfl (gS rfl (gS rfl (gS rfl (gS rfl g0))))) (gS rfl (gS rfl g0)) (gS rfl g0) (fun g => ?_)
                                  have e8 : lvFlag f q l = 0 := if_neg h8
                                  rw [← e8] at k32
                                  exact hJ34 _ _ ⟨g, rfl, k32, V34⟩)))))))
              refine c_draw (SXM _ bc _) 21 [(0, true), (1, true), (2, true), (3, true), (4, true), (5, true), (6, true), (7, true), (8, true), (9, true), (10, true), (11, false), (12, true), (13, true), (14, true), (15, true), (16, true), (17, true), (18, false), (19, true), (20, true)] (by kernel_rfl) (fun w56 hu => ⟨SXMG.refl (hX.up hu), ?_⟩)
              replace hX := hX.up hu
              replace U := U.tr hu
              have SU := SXMG.refl hX
              have cq := cqG_refl hX
              have hX_s := hX
              refine p_step (by exact rfl) (y_moveV (et (gS rfl (gS rfl (gS rfl (gS rfl g0)))) rfl)) ?_
              refine p_step (by exact rfl) (y_neq (et g0 rfl) rfl) ?_
              refine p_step (by exact rfl) (y_moveV (et g0 rfl)) ?_
              refine gsplitP (i := 62) g0 (fun q57 => ?_) (fun q57 => ?_)
              · skip
                have hst : (lvSt f q l) ≠ 0 := by have := of_decide_eq_true q57; omega
                refine p_gstep (j := 2) (t := 62) (by exact rfl) (by exact rfl) (by exact rfl) (et g0 rfl) rfl (y_moveV (et (gS rfl (gS rfl (gS rfl (gS rfl (gS rfl (gS rfl (gS rfl (gS rfl (gS rfl g0))))))))) rfl)) ?_
                refine p_gstep (j := 2) (t := 62) (by exact rfl) (by exact rfl) (by exact rfl) (et (gS rfl g0) rfl) rfl (y_nil (et g0 rfl)) ?_
                refine p_gstep (j := 2) (t := 62) (by exact rfl) (by exact rfl) (by exact rfl) (et (gS rfl (gS rfl g0)) rfl) rfl (y_fld fld_75_0 (et g0 rfl)) ?_
                refine p_gstep (j := 2) (t := 62) (by exact rfl) (by exact rfl) (by exact rfl) (et (gS rfl (gS rfl (gS rfl g0))) rfl) rfl (y_load1 one_59 (et g0 rfl) (atXMP)) ?_
                refine p_gstep (j := 2) (t := 62) (by exact rfl) (by exact rfl) (by exact rfl) (et (gS rfl (gS rfl (gS rfl (gS rfl g0)))) rfl) rfl (y_moveV (et (gS rfl (gS rfl (gS rfl (gS rfl (gS rfl (gS rfl (gS rfl (gS rfl (gS rfl (gS rfl g0)))))))))) rfl)) ?_
                refine p_gstep (j := 2) (t := 62) (by exact rfl) (by exact rfl) (by exact rfl) (et (gS rfl (gS rfl (gS rfl (gS rfl (gS rfl g0))))) rfl) rfl (y_nil (et g0 rfl)) ?_
                refine p_gstep (j := 2) (t := 62) (by exact rfl) (by exact rfl) (by exact rfl) (et (gS rfl (gS rfl (gS rfl (gS rfl (gS rfl (gS rfl g0)))))) rfl) rfl (y_fld fld_71_8 (et g0 rfl)) ?_
                refine p_gstep (j := 2) (t := 62) (by exact rfl) (by exact rfl) (by exact rfl) (et (gS rfl (gS rfl (gS rfl (gS rfl (gS rfl (gS rfl (gS rfl g0))))))) rfl) rfl (y_load1 one_21 (et g0 rfl) (atXMC (hR8.r1.at1 8 rfl rfl) (by omega) (by omega))) ?_
                refine p_geff (j := 2) (t := 62) (by exact rfl) (by exact rfl) (by exact rfl) (et (gS rfl (gS rfl (gS rfl (gS rfl (gS rfl (gS rfl (gS rfl (gS rfl g0)))))))) rfl) rfl (e_callV cal_249 (aC (et (gS rfl (gS rfl (gS rfl (gS rfl g0)))) rfl) (aC (et g0 rfl) aN)) (v_revertTo hX.ex.vl hX.ex.ok hm8 hm9)) (fun v58 w58 h58 => ?_)
                obtain ⟨rfl, cl58, cs58, Vk58, t58, ok58, un58⟩ := h58
                have kp58 := hX.ex.vl.kC
                have hP7 := hP.rev (low := low) rfl (by rw [hX.ex.lx.snl, hs]; simp [psS]) hn9 hm8 un58
                replace hX := hX.vt t58 ok58
                replace U := U.cc t58.go.ch (by intro b hb; exact .inl trivial)
                have cq9 := SU.ch.size
                replace SU := SU.xc t58 kp58 (hX.ex.vl.c1 hX.ex.lx.pS rfl) (by intro b hlt hb; have h9 := cq b hlt; have e0 := hb; first | exact hb.elim | omega | (dsimp only at e0; omega))
                replace cq := cq_step cq t58.col cq9
                refine ⟨.inr SU, ?_⟩
                refine p_gstep (j := 2) (t := 62) (by exact rfl) (by exact rfl) (by exact rfl) (et (gS rfl (gS rfl (gS rfl (gS rfl (gS rfl (gS rfl (gS rfl (gS rfl (gS rfl g0))))))))) rfl) rfl (y_not (et g0 rfl)) ?_
                refine p_step (by exact rfl) (y_pickT (et (gS rfl (gS rfl (gS rfl (gS rfl (gS rfl (gS rfl (gS rfl (gS rfl (gS rfl (gS rfl g0)))))))))) rfl) (et g0 rfl)) ?_
                refine p_step (by exact rfl) (y_moveV (et g0 rfl)) ?_
                refine gsplitP (i := 74) g0 (fun q59 => ?_) (fun q59 => ?_)
                · skip
                  cases q59
                · skip
                  refine p_gstep (j := 14) (t := 74) (by exact rfl) (by exact rfl) (by exact rfl) (et g0 rfl) rfl (y_moveV (et (gS rfl (gS rfl (gS rfl (gS rfl (gS rfl (gS rfl (gS rfl (gS rfl (gS rfl (gS rfl (gS rfl (gS rfl (gS rfl (gS rfl (gS rfl (gS rfl (gS rfl (gS rfl (gS rfl (gS rfl (gS rfl (gS rfl g0)))))))))))))))))))))) rfl)) ?_
                  refine p_gstep (j := 14) (t := 74) (by exact rfl) (by exact rfl) (by exact rfl) (et (gS rfl g0) rfl) rfl (y_nil (et g0 rfl)) ?_
                  refine p_gstep (j := 14) (t := 74) (by exact rfl) (by exact rfl) (by exact rfl) (et (gS rfl (gS rfl g0)) rfl) rfl (y_fld fld_75_1 (et g0 rfl)) ?_
                  refine p_geff (j := 14) (t := 74) (by exact rfl) (by exact rfl) (by exact rfl) (et (gS rfl (gS rfl (gS rfl g0))) rfl) rfl (e_callV cal_256 (aC (et g0 rfl) aN) (hX.leaveC hms8)) (fun v60 w60 h60 => ?_)
                  obtain ⟨rfl, cs60, y60, o60, x60⟩ := h60
                  have kp60 := hX.ex.vl.kC
                  have hcC4 := hX.ex.vl.colC
                  replace hX := y60
                  replace U := U.cc x60 (by intro b hb; exact .inl trivial)
                  have cq9 := SU.ch.size
                  replace SU := SU.xm x60 kp60 hX.ex.vl.kC o60 (hX.ex.vl.c1 hX.ex.lx.pS rfl) (by intro b hlt hb; have h9 := cq b hlt; subst hb; omega)
                  refine ⟨.inr SU, ?_⟩
                  refine p_gstep (j := 14) (t := 74) (by exact rfl) (by exact rfl) (by exact rfl) (et (gS rfl (gS rfl (gS rfl (gS rfl g0)))) rfl) rfl (y_not (et g0 rfl)) ?_
                  refine p_step (by exact rfl) (y_pickF (et (gS rfl (gS rfl (gS rfl (gS rfl (gS rfl g0))))) rfl) (et g0 rfl)) ?_
                  refine p_nil ?_
                  refine fK7 0 1 2 6 7 8 80 (gS rfl (gS rfl (gS rfl (gS rfl (gS rfl (gS rfl (gS rfl (gS rfl (gS rfl (gS rfl (gS rfl (gS rfl (gS rfl (gS rfl (gS rfl (gS rfl (gS rfl (gS rfl (gS rfl (gS rfl (gS rfl (gS rfl (gS rfl (gS rfl (gS rfl (gS rfl (gS rfl (gS rfl g0)))))))))))))))))))))))))))) (gS rfl (gS rfl (gS rfl (gS rfl (gS rfl (gS rfl (gS rfl (gS rfl (gS rfl (gS rfl (gS rfl (gS rfl (gS rfl (gS rfl (gS rfl (gS rfl (gS rfl (gS rfl (gS rfl (gS rfl (gS rfl (gS rfl (gS rfl (gS rfl (gS rfl (gS rfl (gS rfl g0))))))))))))))))))))))))))) (gS rfl (gS rfl (gS rfl (gS rfl (gS rfl (gS rfl (gS rfl (gS rfl (gS rfl (gS rfl (gS rfl (gS rfl (gS rfl (gS rfl (gS rfl (gS rfl (gS rfl (gS rfl (gS rfl (gS rfl (gS rfl (gS rfl (gS rfl (gS rfl (gS rfl (gS rfl g0)))))))))))))))))))))))))) (gS rfl (gS rfl (gS rfl (gS rfl (gS rfl (gS rfl (gS rfl (gS rfl (gS rfl (gS rfl (gS rfl (gS rfl (gS rfl (gS rfl (gS rfl (gS rfl (gS rfl (gS rfl (gS rfl (gS rfl (gS rfl (gS rfl (gS rfl (gS rfl (gS rfl g0))))))))))))))))))))))))) (gS rfl (gS rfl (gS rfl (gS rfl (gS rfl (gS rfl (gS rfl (gS rfl (gS rfl (gS rfl (gS rfl (gS rfl (gS rfl (gS rfl (gS rfl (gS rfl (gS rfl (gS rfl (gS rfl (gS rfl (gS rfl (gS rfl (gS rfl (gS rfl g0)))))))))))))))))))))))) (gS rfl (gS rfl (gS rfl (gS rfl (gS rfl (gS rfl (gS rfl (gS rfl (gS rfl (gS rfl (gS rfl (gS rfl (gS rfl (gS rfl (gS rfl (gS rfl (gS rfl (gS rfl (gS rfl (gS rfl (gS rfl (gS rfl (gS rfl g0))))))))))))))))))))))) g0 (fun g => ?_)
                  exact hJ12 _ _ ⟨g, _, _, _, _, _, rfl, hX, by rw [lvW_eq, if_neg hst]; exact hP7, hB3⟩
              · skip
                have hst : (lvSt f q l) = 0 := by have := of_decide_eq_false q57; omega
                refine p_gskip (j := 2) (t := 62) (by exact rfl) (by exact rfl) (by exact rfl) (et g0 rfl) rfl rfl ?_
                refine p_gskip (j := 2) (t := 62) (by exact rfl) (by exact rfl) (by exact rfl) (et (gS rfl g0) rfl) rfl rfl ?_
                refine p_gskip (j := 2) (t := 62) (by exact rfl) (by exact rfl) (by exact rfl) (et (gS rfl (gS rfl g0)) rfl) rfl rfl ?_
                refine p_gskip (j := 2) (t := 62) (by exact rfl) (by exact rfl) (by exact rfl) (et (gS rfl (gS rfl (gS rfl g0))) rfl) rfl rfl ?_
                refine p_gskip (j := 2) (t := 62) (by exact rfl) (by exact rfl) (by exact rfl) (et (gS rfl (gS rfl (gS rfl (gS rfl g0)))) rfl) rfl rfl ?_
                refine p_gskip (j := 2) (t := 62) (by exact rfl) (by exact rfl) (by exact rfl) (et (gS rfl (gS rfl (gS rfl (gS rfl (gS rfl g0))))) rfl) rfl rfl ?_
                refine p_gskip (j := 2) (t := 62) (by exact rfl) (by exact rfl) (by exact rfl) (et (gS rfl (gS rfl (gS rfl (gS rfl (gS rfl (gS rfl g0)))))) rfl) rfl rfl ?_
                refine p_gskip (j := 2) (t := 62) (by exact rfl) (by exact rfl) (by exact rfl) (et (gS rfl (gS rfl (gS rfl (gS rfl (gS rfl (gS rfl (gS rfl g0))))))) rfl) rfl rfl ?_
                refine p_geskip (j := 2) (t := 62) (by exact rfl) (by exact rfl) (by exact rfl) (et (gS rfl (gS rfl (gS rfl (gS rfl (gS rfl (gS rfl (gS rfl (gS rfl g0)))))))) rfl) rfl rfl ⟨.inr SU, ?_⟩
                refine p_gskip (j := 2) (t := 62) (by exact rfl) (by exact rfl) (by exact rfl) (et (gS rfl (gS rfl (gS rfl (gS rfl (gS rfl (gS rfl (gS rfl (gS rfl (gS rfl g0))))))))) rfl) rfl rfl ?_
                refine p_step (by exact rfl) (y_pickF (et (gS rfl (gS rfl (gS rfl (gS rfl (gS rfl (gS rfl (gS rfl (gS rfl (gS rfl (gS rfl g0)))))))))) rfl) rfl) ?_
                refine p_step (by exact rfl) (y_moveV (et g0 rfl)) ?_
                refine p_gstep (j := 14) (t := 74) (by exact rfl) (by exact rfl) (by exact rfl) (et g0 rfl) rfl (y_moveV (et (gS rfl (gS rfl (gS rfl (gS rfl (gS rfl (gS rfl (gS rfl (gS rfl (gS rfl (gS rfl (gS rfl (gS rfl (gS rfl (gS rfl (gS rfl (gS rfl (gS rfl (gS rfl (gS rfl (gS rfl (gS rfl g0))))))))))))))))))))) rfl)) ?_
                refine p_gstep (j := 14) (t := 74) (by exact rfl) (by exact rfl) (by exact rfl) (et (gS rfl g0) rfl) rfl (y_nil (et g0 rfl)) ?_
                refine p_gstep (j := 14) (t := 74) (by exact rfl) (by exact rfl) (by exact rfl) (et (gS rfl (gS rfl g0)) rfl) rfl (y_fld fld_75_1 (et g0 rfl)) ?_
                refine p_geff (j := 14) (t := 74) (by exact rfl) (by exact rfl) (by exact rfl) (et (gS rfl (gS rfl (gS rfl g0))) rfl) rfl (e_callV cal_256 (aC (et g0 rfl) aN) (hX.leaveC hms8)) (fun v61 w61 h61 => ?_)
                obtain ⟨rfl, cs61, y61, o61, x61⟩ := h61
                have kp61 := hX.ex.vl.kC
                have hcC4 := hX.ex.vl.colC
                replace hX := y61
                replace U := U.cc x61 (by intro b hb; exact .inl trivial)
                have cq9 := SU.ch.size
                replace SU := SU.xm x61 kp61 hX.ex.vl.kC o61 (hX.ex.vl.c1 hX.ex.lx.pS rfl) (by intro b hlt hb; have h9 := cq b hlt; subst hb; omega)
                refine ⟨.inr SU, ?_⟩
                refine p_gstep (j := 14) (t := 74) (by exact rfl) (by exact rfl) (by exact rfl) (et (gS rfl (gS rfl (gS rfl (gS rfl g0)))) rfl) rfl (y_not (et g0 rfl)) ?_
                refine p_step (by exact rfl) (y_pickF (et (gS rfl (gS rfl (gS rfl (gS rfl (gS rfl g0))))) rfl) (et g0 rfl)) ?_
                refine p_nil ?_
                refine fK7 0 1 2 6 7 8 80 (gS rfl (gS rfl (gS rfl (gS rfl (gS rfl (gS rfl (gS rfl (gS rfl (gS rfl (gS rfl (gS rfl (gS rfl (gS rfl (gS rfl (gS rfl (gS rfl (gS rfl (gS rfl (gS rfl (gS rfl (gS rfl (gS rfl (gS rfl (gS rfl (gS rfl (gS rfl (gS rfl g0))))))))))))))))))))))))))) (gS rfl (gS rfl (gS rfl (gS rfl (gS rfl (gS rfl (gS rfl (gS rfl (gS rfl (gS rfl (gS rfl (gS rfl (gS rfl (gS rfl (gS rfl (gS rfl (gS rfl (gS rfl (gS rfl (gS rfl (gS rfl (gS rfl (gS rfl (gS rfl (gS rfl (gS rfl g0)))))))))))))))))))))))))) (gS rfl (gS rfl (gS rfl (gS rfl (gS rfl (gS rfl (gS rfl (gS rfl (gS rfl (gS rfl (gS rfl (gS rfl (gS rfl (gS rfl (gS rfl (gS rfl (gS rfl (gS rfl (gS rfl (gS rfl (gS rfl (gS rfl (gS rfl (gS rfl (gS rfl g0))))))))))))))))))))))))) (gS rfl (gS rfl (gS rfl (gS rfl (gS rfl (gS rfl (gS rfl (gS rfl (gS rfl (gS rfl (gS rfl (gS rfl (gS rfl (gS rfl (gS rfl (gS rfl (gS rfl (gS rfl (gS rfl (gS rfl (gS rfl (gS rfl (gS rfl (gS rfl g0)))))))))))))))))))))))) (gS rfl (gS rfl (gS rfl (gS rfl (gS rfl (gS rfl (gS rfl (gS rfl (gS rfl (gS rfl (gS rfl (gS rfl (gS rfl (gS rfl (gS rfl (gS rfl (gS rfl (gS rfl (gS rfl (gS rfl (gS rfl (gS rfl (gS rfl g0))))))))))))))))))))))) (gS rfl (gS rfl (gS rfl (gS rfl (gS rfl (gS rfl (gS rfl (gS rfl (gS rfl (gS rfl (gS rfl (gS rfl (gS rfl (gS rfl (gS rfl (gS rfl (gS rfl (gS rfl (gS rfl (gS rfl (gS rfl (gS rfl g0)))))))))))))))))))))) g0 (fun g => ?_)
                exact hJ12 _ _ ⟨g, _, _, _, _, _, rfl, hX, by rw [lvW_eq, if_pos hst]; exact hP.pop (low := low) rfl, hB3⟩
            refine c_seq (fun K62 hK62 => ?_)
            exact (by
              refine c_region ?_
              refine l_step (y_moveV (et (gS rfl (gS rfl (gS rfl (gS rfl g0)))) rfl)) ?_
              refine l_step (y_gtr (et g0 rfl) rfl) ?_
              refine l_nil ?_
              refine hK62 _ _ ?_
              refine fg7 0 1 2 6 7 8 59 (gS rfl (gS rfl (gS rfl (gS rfl (gS rfl (gS rfl (gS rfl g0))))))) (gS rfl (gS rfl (gS rfl (gS rfl (gS rfl (gS rfl g0)))))) (gS rfl (gS rfl (gS rfl (gS rfl (gS rfl g0))))) (gS rfl (gS rfl (gS rfl (gS rfl g0)))) (gS rfl (gS rfl (gS rfl g0))) (gS rfl (gS rfl g0)) g0 (fun g => ?_)
              refine c_cond (et g0 rfl) (fun cB5 => ?_) (fun cB5 => ?_)
              · skip
                
                have h5 : 1 < (lvSt f q l) := by have := of_decide_eq_true cB5; omega
                refine c_seq (fun K64 hK64 => ?_)
                exact (by
                  refine c_region ?_
                  refine l_step y_assignC ?_
                  refine l_nil ?_
                  refine hK64 _ _ ?_
                  refine fg5 0 1 6 7 8 (gS rfl (gS rfl (gS rfl (gS rfl (gS rfl (gS rfl (gS rfl g0))))))) (gS rfl (gS rfl (gS rfl (gS rfl (gS rfl (gS rfl g0)))))) (gS rfl (gS rfl (gS rfl (gS rfl g0)))) g0 (gS rfl (gS rfl g0)) (fun g => ?_)
                  refine c_region ?_
                  refine l_step y_assignC ?_
                  refine l_nil ?_
                  refine fK6 0 1 2 6 7 8 (gS rfl (gS rfl (gS rfl (gS rfl (gS rfl g0))))) (gS rfl (gS rfl (gS rfl (gS rfl g0)))) g0 (gS rfl (gS rfl (gS rfl g0))) (gS rfl (gS rfl g0)) (gS rfl g0) (fun g => ?_)
                  exact hJ10 _ _ ⟨g, none, 0, _, _, _, _, (by rw [lvGas_eq, lvOut_eq, if_pos h5, if_pos h5]; rfl), hX, hP.gas2 (by rw [lvGas_eq]; split <;> omega), by rw [lvOut_eq, if_pos h5]; exact BV.nil _⟩)
              · skip
                
                have h5 : ¬ 1 < (lvSt f q l) := by have := of_decide_eq_false cB5; omega
                refine c_skip ?_
                refine fK6 0 1 2 6 7 8 (gS rfl (gS rfl (gS rfl (gS rfl (gS rfl (gS rfl g0)))))) (gS rfl (gS rfl (gS rfl (gS rfl (gS rfl g0))))) (gS rfl (gS rfl (gS rfl (gS rfl g0)))) (gS rfl (gS rfl (gS rfl g0))) (gS rfl (gS rfl g0)) (gS rfl g0) (fun g => ?_)
                exact hJ10 _ _ ⟨g, oa2, oc2, _, _, _, _, (by rw [lvGas_eq, lvOut_eq, if_neg h5, if_neg h5]), hX, hP.gas2 (by rw [lvGas_eq]; split <;> omega), by rw [lvOut_eq, if_neg h5]; exact hB2⟩)
          refine c_seq (fun K65 hK65 => ?_)
          exact (by
            refine c_region ?_
            refine l_step (y_moveV (et g0 rfl)) ?_
            refine l_step (y_moveV (et g0 rfl)) ?_
            refine l_gpure (j := 1) (t := 28) (by exact rfl) (by exact rfl) (et g0 rfl) rfl (fun hc => (y_moveV (et (gS rfl (gS rfl (gS rfl (gS rfl (gS rfl (gS rfl g0)))))) rfl))) ?_
            refine l_gpure (j := 1) (t := 28) (by exact rfl) (by exact rfl) (et (gS rfl g0) rfl) rfl (fun hc => (y_eql (et (cT g0 hc) rfl) rfl)) ?_
            refine l_step (y_pickA (et (gS rfl (gS rfl g0)) rfl) (et g0 rfl) rfl) ?_
            refine l_nil ?_
            refine hK65 _ _ ?_
            refine fg7 2 1 0 6 7 8 31 (gS rfl (gS rfl (gS rfl (gS rfl (gS rfl (gS rfl (gS rfl (gS rfl (gS rfl (gS rfl g0)))))))))) (gS rfl (gS rfl (gS rfl (gS rfl (gS rfl (gS rfl (gS rfl (gS rfl (gS rfl g0))))))))) (gS rfl (gS rfl (gS rfl (gS rfl (gS rfl (gS rfl (gS rfl (gS rfl g0)))))))) (gS rfl (gS rfl (gS rfl (gS rfl (gS rfl (gS rfl (gS rfl g0))))))) (gS rfl (gS rfl (gS rfl (gS rfl (gS rfl (gS rfl g0)))))) (gS rfl (gS rfl (gS rfl (gS rfl (gS rfl g0))))) g0 (fun g => ?_)
            refine c_cond (et g0 rfl) (fun cB2 => ?_) (fun cB2 => ?_)
            · skip
              
              have hc2 : crN f.kind = true ∧ q = 0 := by simpa using cB2
              refine c_seq (fun K67 hK67 => ?_)
              exact (by
                refine c_region ?_
                refine l_step (y_moveV (et (gS rfl (gS rfl g0)) rfl)) ?_
                refine l_step (y_moveV (et (gS rfl (gS rfl (gS rfl (gS rfl (gS rfl (gS rfl (gS rfl g0))))))) rfl)) ?_
                refine l_eff (e_callV cal_254 (aC (et (gS rfl g0) rfl) (aC (et g0 rfl) aN)) (m_deposit f.gas _ (by omega) (hBo.wv hX.ex.vl.fz) hll)) (fun v68 w68 h68 => ?_)
                obtain ⟨rfl, u68⟩ := h68
                replace hX := hX.up u68
                replace U := U.tr u68
                refine l_step (y_moveV (et g0 rfl)) ?_
                refine l_step (y_ext (et g0 rfl) rfl) ?_
                refine l_step (y_ext (et (gS rfl g0) rfl) rfl) ?_
                refine l_step (y_assignV (et (gS rfl g0) rfl)) ?_
                refine l_step (y_assignV (et (gS rfl g0) rfl)) ?_
                refine l_nil ?_
                refine hK67 _ _ ?_
                refine fg6 2 1 0 6 7 8 (gS rfl (gS rfl (gS rfl (gS rfl (gS rfl (gS rfl (gS rfl (gS rfl (gS rfl (gS rfl (gS rfl (gS rfl (gS rfl (gS rfl g0)))))))))))))) g0 (gS rfl (gS rfl (gS rfl (gS rfl (gS rfl (gS rfl (gS rfl (gS rfl (gS rfl (gS rfl (gS rfl (gS rfl g0)))))))))))) (gS rfl (gS rfl (gS rfl (gS rfl (gS rfl (gS rfl (gS rfl (gS rfl (gS rfl (gS rfl (gS rfl g0))))))))))) (gS rfl g0) (gS rfl (gS rfl (gS rfl (gS rfl (gS rfl (gS rfl (gS rfl (gS rfl (gS rfl g0))))))))) (fun g => ?_)
                refine c_seq (fun K69 hK69 => ?_)
                exact (by
                  refine c_region ?_
                  refine l_step (y_moveV (et (gS rfl (gS rfl (gS rfl (gS rfl g0)))) rfl)) ?_
                  refine l_step (y_eql (et g0 rfl) rfl) ?_
                  refine l_nil ?_
                  refine hK69 _ _ ?_
                  refine fg7 2 1 0 6 7 8 39 (gS rfl (gS rfl (gS rfl (gS rfl (gS rfl (gS rfl (gS rfl g0))))))) (gS rfl (gS rfl (gS rfl (gS rfl (gS rfl (gS rfl g0)))))) (gS rfl (gS rfl (gS rfl (gS rfl (gS rfl g0))))) (gS rfl (gS rfl (gS rfl (gS rfl g0)))) (gS rfl (gS rfl (gS rfl g0))) (gS rfl (gS rfl g0)) g0 (fun g => ?_)
                  refine c_cond (et g0 rfl) (fun cB3 => ?_) (fun cB3 => ?_)
                  · skip
                    
                    have hd0 : (depN f l).2 = 0 := by have := of_decide_eq_true cB3; rw [dep_eq]; omega
                    refine c_seq (fun K71 hK71 => ?_)
                    refine c_seq (fun K72 hK72 => ?_)
                    exact (by
                      refine c_draw (SXM _ bc _) 16 [(0, true), (1, true), (2, true), (3, true), (4, true), (5, true), (6, true), (7, true), (8, true), (9, true), (10, true), (11, true), (12, true), (13, false), (14, true), (15, true)] (by kernel_rfl) (fun w73 hu => ⟨SXM.refl (hX.up hu), ?_⟩)
                      replace hX := hX.up hu
                      replace U := U.tr hu
                      have SU := SXM.refl hX
                      have cq := cq_refl hX
                      have hX_s := hX
                      refine p_step (by exact rfl) (y_moveV (et (gS rfl (gS rfl (gS rfl (gS rfl (gS rfl (gS rfl g0)))))) rfl)) ?_
                      refine p_step (by exact rfl) (y_len Hvaa.underlying38 (et g0 rfl)) ?_
                      refine p_step (by exact rfl) (y_gtr (et g0 rfl) rfl) ?_
                      refine p_step (by exact rfl) (y_moveV (et g0 rfl)) ?_
                      refine gsplitP (i := 43) g0 (fun q74 => ?_) (fun q74 => ?_)
                      · skip
                        have hl0 : 0 < l.length := by have := of_decide_eq_true q74; omega
                        refine p_gstep (j := 3) (t := 43) (by exact rfl) (by exact rfl) (by exact rfl) (et g0 rfl) rfl (y_moveV (et (gS rfl (gS rfl (gS rfl (gS rfl (gS rfl (gS rfl (gS rfl (gS rfl (gS rfl g0))))))))) rfl)) ?_
                        refine p_gstep (j := 3) (t := 43) (by exact rfl) (by exact rfl) (by exact rfl) (et (gS rfl g0) rfl) rfl (y_nil (et g0 rfl)) ?_
                        refine p_gstep (j := 3) (t := 43) (by exact rfl) (by exact rfl) (by exact rfl) (et (gS rfl (gS rfl g0)) rfl) rfl (y_fld fld_75_0 (et g0 rfl)) ?_
                        refine p_gstep (j := 3) (t := 43) (by exact rfl) (by exact rfl) (by exact rfl) (et (gS rfl (gS rfl (gS rfl g0))) rfl) rfl (y_load1 one_59 (et g0 rfl) (atXMP)) ?_
                        refine p_gstep (j := 3) (t := 43) (by exact rfl) (by exact rfl) (by exact rfl) (et (gS rfl (gS rfl (gS rfl (gS rfl g0)))) rfl) rfl (y_moveV (et (gS rfl (gS rfl (gS rfl (gS rfl (gS rfl (gS rfl (gS rfl (gS rfl (gS rfl (gS rfl (gS rfl (gS rfl g0)))))))))))) rfl)) ?_
                        refine p_gstep (j := 3) (t := 43) (by exact rfl) (by exact rfl) (by exact rfl) (et (gS rfl (gS rfl (gS rfl (gS rfl (gS rfl g0))))) rfl) rfl (y_nil (et g0 rfl)) ?_
                        refine p_gstep (j := 3) (t := 43) (by exact rfl) (by exact rfl) (by exact rfl) (et (gS rfl (gS rfl (gS rfl (gS rfl (gS rfl (gS rfl g0)))))) rfl) rfl (y_fld fld_71_9 (et g0 rfl)) ?_
                        refine p_gstep (j := 3) (t := 43) (by exact rfl) (by exact rfl) (by exact rfl) (et (gS rfl (gS rfl (gS rfl (gS rfl (gS rfl (gS rfl (gS rfl g0))))))) rfl) rfl (y_loadR agg_25 sz_25 (et g0 rfl) (by rw [length_bL, length_be]) (atXMR hR.r2 (by omega) (by rw [length_bL, length_be]; omega))) ?_
                        refine p_gstep (j := 3) (t := 43) (by exact rfl) (by exact rfl) (by exact rfl) (et (gS rfl (gS rfl (gS rfl (gS rfl (gS rfl (gS rfl (gS rfl (gS rfl g0)))))))) rfl) rfl (y_moveV (et (gS rfl (gS rfl (gS rfl (gS rfl (gS rfl (gS rfl (gS rfl (gS rfl (gS rfl (gS rfl (gS rfl (gS rfl (gS rfl (gS rfl (gS rfl (gS rfl (gS rfl (gS rfl (gS rfl g0))))))))))))))))))) rfl)) ?_
                        refine p_geff (j := 3) (t := 43) (by exact rfl) (by exact rfl) (by exact rfl) (et (gS rfl (gS rfl (gS rfl (gS rfl (gS rfl (gS rfl (gS rfl (gS rfl (gS rfl g0))))))))) rfl) rfl (e_callV cal_255 (aC (et (gS rfl (gS rfl (gS rfl (gS rfl (gS rfl g0))))) rfl) (aC (et (gS rfl g0) rfl) (aC (et g0 rfl) aN))) (v_putCode hX.ex.vl hX.ex.ok f.self hB.self hBo (dep_ok hd0).1 0 (.inl ⟨hhs, rfl⟩) hro.j)) (fun v75 w75 h75 => ?_)
                        obtain ⟨rfl, H75, cl75, cs75, V75, t75, ok75, js75⟩ := h75
                        have kp75 := hX.ex.vl.kC
                        have hP5 : PX V75 (psS s f low (w1N s f q l) (g1N f q l)) sn sv c := by
                          have hd := dep_ok hd0
                          have h1 := hX.ex.px.gas hs (g1N f q l) (c' := c + 25) (by rw [show g1N f q l = (depN f l).1 from if_pos hc2, hd.2.1]; omega)
                          have h2 := h1.js js75 (W := w1N s f q l) (c' := c) (by rw [show w1N s f q l = _ from if_pos ⟨hc2.1, hc2.2, hd0, hl0⟩]; exact ay_code s.now f.self l) (fun _ => rfl) (by omega)
                          exact h2
                        replace hX := hX.xg.vt t75 ok75
                        replace U := U.cc t75.go.ch (by intro b hb; exact .inl trivial)
                        have cq9 := SU.ch.size
                        replace SU := SU.xc t75 kp75 (hX.ex.vl.c1 hX.ex.lx.pS rfl) (by intro b hlt hb; have h9 := cq b hlt; have e0 := hb; first | exact hb.elim | omega | (dsimp only at e0; omega))
                        replace cq := cq_step cq t75.col cq9
                        refine ⟨.inr SU, ?_⟩
                        refine p_gstep (j := 3) (t := 43) (by exact rfl) (by exact rfl) (by exact rfl) (et (gS rfl (gS rfl (gS rfl (gS rfl (gS rfl (gS rfl (gS rfl (gS rfl (gS rfl (gS rfl g0)))))))))) rfl) rfl (y_not (et g0 rfl)) ?_
                        refine p_step (by exact rfl) (y_pickT (et (gS rfl (gS rfl (gS rfl (gS rfl (gS rfl (gS rfl (gS rfl (gS rfl (gS rfl (gS rfl (gS rfl g0))))))))))) rfl) (et g0 rfl)) ?_
                        refine p_nil ?_
                        refine hK72 _ _ ?_
                        refine fg6 1 0 6 7 8 55 (gS rfl (gS rfl (gS rfl (gS rfl (gS rfl (gS rfl (gS rfl (gS rfl (gS rfl (gS rfl (gS rfl (gS rfl (gS rfl (gS rfl (gS rfl (gS rfl (gS rfl (gS rfl (gS rfl (gS rfl (gS rfl (gS rfl g0)))))))))))))))))))))) (gS rfl (gS rfl (gS rfl (gS rfl (gS rfl (gS rfl (gS rfl (gS rfl (gS rfl (gS rfl (gS rfl (gS rfl (gS rfl (gS rfl (gS rfl (gS rfl (gS rfl (gS rfl (gS rfl (gS rfl (gS rfl g0))))))))))))))))))))) (gS rfl (gS rfl (gS rfl (gS rfl (gS rfl (gS rfl (gS rfl (gS rfl (gS rfl (gS rfl (gS rfl (gS rfl (gS rfl (gS rfl (gS rfl (gS rfl (gS rfl (gS rfl (gS rfl (gS rfl g0)))))))))))))))))))) (gS rfl (gS rfl (gS rfl (gS rfl (gS rfl (gS rfl (gS rfl (gS rfl (gS rfl (gS rfl (gS rfl (gS rfl (gS rfl (gS rfl (gS rfl (gS rfl (gS rfl (gS rfl (gS rfl g0))))))))))))))))))) (gS rfl (gS rfl (gS rfl (gS rfl (gS rfl (gS rfl (gS rfl (gS rfl (gS rfl (gS rfl (gS rfl (gS rfl (gS rfl (gS rfl (gS rfl (gS rfl (gS rfl (gS rfl g0)))))))))))))))))) g0 (fun g => ?_)
                        refine c_false (et g0 rfl) (by rfl) ?_
                        refine c_skip ?_
                        refine hK71 _ _ ?_
                        refine fg5 1 0 6 7 8 (gS rfl (gS rfl (gS rfl (gS rfl (gS rfl g0))))) (gS rfl (gS rfl (gS rfl (gS rfl g0)))) (gS rfl (gS rfl (gS rfl g0))) (gS rfl (gS rfl g0)) (gS rfl g0) (fun g => ?_)
                        exact (by
                          refine c_region ?_
                          refine l_step y_assignC ?_
                          refine l_nil ?_
                          refine fK6 0 1 2 6 7 8 (gS rfl (gS rfl (gS rfl (gS rfl g0)))) (gS rfl (gS rfl (gS rfl (gS rfl (gS rfl g0))))) g0 (gS rfl (gS rfl (gS rfl g0))) (gS rfl (gS rfl g0)) (gS rfl g0) (fun g => ?_)
                          exact hJ9 _ _ ⟨g, none, 0, _, _, _, _, (by rw [lvSt_c hc2, show g1N f q l = (depN f l).1 from if_pos hc2, show o1N f q l = [] from if_pos ⟨hc2.1, hc2.2, hd0⟩]; rfl), hX, hP5, by rw [show o1N f q l = [] from if_pos ⟨hc2.1, hc2.2, hd0⟩]; exact BV.nil _⟩)
                      · skip
                        have hl0 : ¬ 0 < l.length := by have := of_decide_eq_false q74; omega
                        refine p_gskip (j := 3) (t := 43) (by exact rfl) (by exact rfl) (by exact rfl) (et g0 rfl) rfl rfl ?_
                        refine p_gskip (j := 3) (t := 43) (by exact rfl) (by exact rfl) (by exact rfl) (et (gS rfl g0) rfl) rfl rfl ?_
                        refine p_gskip (j := 3) (t := 43) (by exact rfl) (by exact rfl) (by exact rfl) (et (gS rfl (gS rfl g0)) rfl) rfl rfl ?_
                        refine p_gskip (j := 3) (t := 43) (by exact rfl) (by exact rfl) (by exact rfl) (et (gS rfl (gS rfl (gS rfl g0))) rfl) rfl rfl ?_
                        refine p_gskip (j := 3) (t := 43) (by exact rfl) (by exact rfl) (by exact rfl) (et (gS rfl (gS rfl (gS rfl (gS rfl g0)))) rfl) rfl rfl ?_
                        refine p_gskip (j := 3) (t := 43) (by exact rfl) (by exact rfl) (by exact rfl) (et (gS rfl (gS rfl (gS rfl (gS rfl (gS rfl g0))))) rfl) rfl rfl ?_
                        refine p_gskip (j := 3) (t := 43) (by exact rfl) (by exact rfl) (by exact rfl) (et (gS rfl (gS rfl (gS rfl (gS rfl (gS rfl (gS rfl g0)))))) rfl) rfl rfl ?_
                        refine p_gskip (j := 3) (t := 43) (by exact rfl) (by exact rfl) (by exact rfl) (et (gS rfl (gS rfl (gS rfl (gS rfl (gS rfl (gS rfl (gS rfl g0))))))) rfl) rfl rfl ?_
                        refine p_gskip (j := 3) (t := 43) (by exact rfl) (by exact rfl) (by exact rfl) (et (gS rfl (gS rfl (gS rfl (gS rfl (gS rfl (gS rfl (gS rfl (gS rfl g0)))))))) rfl) rfl rfl ?_
                        refine p_geskip (j := 3) (t := 43) (by exact rfl) (by exact rfl) (by exact rfl) (et (gS rfl (gS rfl (gS rfl (gS rfl (gS rfl (gS rfl (gS rfl (gS rfl (gS rfl g0))))))))) rfl) rfl rfl ⟨.inr SU, ?_⟩
                        refine p_gskip (j := 3) (t := 43) (by exact rfl) (by exact rfl) (by exact rfl) (et (gS rfl (gS rfl (gS rfl (gS rfl (gS rfl (gS rfl (gS rfl (gS rfl (gS rfl (gS rfl g0)))))))))) rfl) rfl rfl ?_
                        refine p_step (by exact rfl) (y_pickF (et (gS rfl (gS rfl (gS rfl (gS rfl (gS rfl (gS rfl (gS rfl (gS rfl (gS rfl (gS rfl (gS rfl g0))))))))))) rfl) rfl) ?_
                        refine p_nil ?_
                        refine hK72 _ _ ?_
                        refine fg6 1 0 6 7 8 55 (gS rfl (gS rfl (gS rfl (gS rfl (gS rfl (gS rfl (gS rfl (gS rfl (gS rfl (gS rfl (gS rfl (gS rfl (gS rfl (gS rfl (gS rfl (gS rfl (gS rfl (gS rfl (gS rfl (gS rfl (gS rfl (gS rfl g0)))))))))))))))))))))) (gS rfl (gS rfl (gS rfl (gS rfl (gS rfl (gS rfl (gS rfl (gS rfl (gS rfl (gS rfl (gS rfl (gS rfl (gS rfl (gS rfl (gS rfl (gS rfl (gS rfl (gS rfl (gS rfl (gS rfl (gS rfl g0))))))))))))))))))))) (gS rfl (gS rfl (gS rfl (gS rfl (gS rfl (gS rfl (gS rfl (gS rfl (gS rfl (gS rfl (gS rfl (gS rfl (gS rfl (gS rfl (gS rfl (gS rfl (gS rfl (gS rfl (gS rfl (gS rfl g0)))))))))))))))))))) (gS rfl (gS rfl (gS rfl (gS rfl (gS rfl (gS rfl (gS rfl (gS rfl (gS rfl (gS rfl (gS rfl (gS rfl (gS rfl (gS rfl (gS rfl (gS rfl (gS rfl (gS rfl (gS rfl g0))))))))))))))))))) (gS rfl (gS rfl (gS rfl (gS rfl (gS rfl (gS rfl (gS rfl (gS rfl (gS rfl (gS rfl (gS rfl (gS rfl (gS rfl (gS rfl (gS rfl (gS rfl (gS rfl (gS rfl g0)))))))))))))))))) g0 (fun g => ?_)
                        refine c_false (et g0 rfl) rfl ?_
                        refine c_skip ?_
                        refine hK71 _ _ ?_
                        refine fg5 1 0 6 7 8 (gS rfl (gS rfl (gS rfl (gS rfl (gS rfl g0))))) (gS rfl (gS rfl (gS rfl (gS rfl g0)))) (gS rfl (gS rfl (gS rfl g0))) (gS rfl (gS rfl g0)) (gS rfl g0) (fun g => ?_)
                        exact (by
                          refine c_region ?_
                          refine l_step y_assignC ?_
                          refine l_nil ?_
                          refine fK6 0 1 2 6 7 8 (gS rfl (gS rfl (gS rfl (gS rfl g0)))) (gS rfl (gS rfl (gS rfl (gS rfl (gS rfl g0))))) g0 (gS rfl (gS rfl (gS rfl g0))) (gS rfl (gS rfl g0)) (gS rfl g0) (fun g => ?_)
                          exact hJ9 _ _ ⟨g, none, 0, _, _, _, _, (by rw [lvSt_c hc2, show g1N f q l = (depN f l).1 from if_pos hc2, show o1N f q l = [] from if_pos ⟨hc2.1, hc2.2, hd0⟩]; rfl), hX.xg, by rw [show w1N s f q l = s.now from if_neg (fun h => hl0 h.2.2.2)]; exact hX.ex.px.gas hs _ (by have := g1_le f q l; omega), by rw [show o1N f q l = [] from if_pos ⟨hc2.1, hc2.2, hd0⟩]; exact BV.nil _⟩))
                  · skip
                    
                    have hd0 : (depN f l).2 ≠ 0 := by have := of_decide_eq_false cB3; rw [dep_eq]; omega
                    refine c_skip ?_
                    refine fK6 0 1 2 6 7 8 (gS rfl (gS rfl (gS rfl (gS rfl g0)))) (gS rfl (gS rfl (gS rfl (gS rfl (gS rfl g0))))) (gS rfl (gS rfl (gS rfl (gS rfl (gS rfl (gS rfl g0)))))) (gS rfl (gS rfl (gS rfl g0))) (gS rfl (gS rfl g0)) (gS rfl g0) (fun g => ?_)
                    exact hJ9 _ _ ⟨g, oa, oc, _, _, _, _, (by rw [lvSt_c hc2, show g1N f q l = (depN f l).1 from if_pos hc2, show o1N f q l = l from if_neg (fun h => hd0 h.2.2)]; rfl), hX.xg, by rw [show w1N s f q l = s.now from if_neg (fun h => hd0 h.2.2.1)]; exact hX.ex.px.gas hs _ (by have := g1_le f q l; omega), by rw [show o1N f q l = l from if_neg (fun h => hd0 h.2.2)]; exact hBo⟩))
            · skip
              
              have hc2 : ¬ (crN f.kind = true ∧ q = 0) := by simpa using cB2
              refine c_skip ?_
              refine fK6 0 1 2 6 7 8 (gS rfl (gS rfl (gS rfl (gS rfl g0)))) (gS rfl (gS rfl (gS rfl (gS rfl (gS rfl g0))))) (gS rfl (gS rfl (gS rfl (gS rfl (gS rfl (gS rfl g0)))))) (gS rfl (gS rfl (gS rfl g0))) (gS rfl (gS rfl g0)) (gS rfl g0) (fun g => ?_)
              exact hJ9 _ _ ⟨g, oa, oc, _, _, _, _, (by rw [lvSt_n hc2, show g1N f q l = f.gas from if_neg hc2, show o1N f q l = l from if_neg (fun h => hc2 ⟨h.1, h.2.1⟩)]), hX.xg, by rw [show w1N s f q l = s.now from if_neg (fun h => hc2 ⟨h.1, h.2.1⟩)]; exact hX.ex.px.gas hs _ (by have := g1_le f q l; omega), by rw [show o1N f q l = l from if_neg (fun h => hc2 ⟨h.1, h.2.1⟩)]; exact hBo⟩)))))
end Go.Proofs.YgvaawGreat
