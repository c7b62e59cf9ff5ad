import Derived.Test.YgvaawGreatZ46
set_option maxRecDepth 100000
set_option maxHeartbeats 4000000
set_option linter.unusedSimpArgs false
set_option linter.unusedVariables false
namespace Go.Proofs.YgvaawGreat
open Go
theorem XO.slack {w0 w : World} {H0 : Store} {col0 : Nat → Nat} {bc : Nat} {s : YSt} {c c' : Nat} (h : XO w0 H0 col0 w bc s c) (hc : c' ≤ c) : XO w0 H0 col0 w bc s c' := by
  obtain ⟨H, col, cs, V, sn, sv, h⟩ := h
  exact ⟨H, col, cs, V, sn, sv, h.slack hc⟩
theorem opc_ltE {f : YF} (h : EFB f) : opcN f < 256 := by
  unfold opcN
  by_cases hp : f.pc < f.code.length
  · rw [List.getElem?_eq_getElem hp]
    exact h.cdig _ (List.getElem_mem _)
  · rw [List.getElem?_eq_none (by omega)]
    decide
theorem m_stepN {w : World} {H : Store} {col : Nat → Nat} {bc : Nat} {cs : Array Value} {V : EV} {s : YSt} {sn : List Nat} {sv : List AW} {ms : List (List Nat)} {c : Nat} {low : List YF} {f : YF} (hE : EX w H col bc cs V s sn sv ms c) (hs : s.frames = low ++ [f]) (hp : s.phase = 1) (hms : ms = (low ++ [f]).map (fun g => g.mem)) (hap : s.applied ≤ 4) (hpar : Par low) (hrl : s.ret.length ≤ 717280) (hnat : f.ntv ≠ 0) :
    Ret 36 [.pointer (some ⟨bc, 0, none⟩)] w (fun v w' => v = .bool true ∧ XO w H col w' bc (natY s f low) c) := by
  obtain ⟨n9, hn9, hR⟩ := hE.topF hs
  have hB := hE.fbT hs
  have h6 := hE.six hs
  have htop := hE.cTop hs
  have hphs := hE.cPh hp
  have hbp := hB.pc
  have hbs := hB.stk
  have hbg := hB.gas
  have hbc9 := hB.code
  have hnw := hE.vl.new
  have hfz := hE.vl.fz
  have hcC := hE.vl.colC
  have hbc0 := hE.vl.kC.lt
  have hX := XT.refl hE
  have hq256 : opcN f < 256 := opc_ltE hB
  refine enter (n := 41) Hvaa.func36 rfl rfl (Nat.le_of_ble_eq_true rfl) ?_
  have U : Ch (fun _ => True) w w := Ch.refl _ w
  refine c_seq (fun K1 hK1 => ?_)
  exact (by
    refine c_region ?_
    refine l_step y_assignC ?_
    refine l_nil ?_
    refine hK1 _ _ ?_
    refine fg1 0 (gS rfl g0) (fun g => ?_)
    refine c_seq (fun K2 hK2 => ?_)
    refine c_seq (fun K3 hK3 => ?_)
    exact (by
      refine c_region ?_
      refine l_step (y_moveV (et g0 rfl)) ?_
      refine l_step (y_nil (et g0 rfl)) ?_
      refine l_step (y_fld fld_75_9 (et g0 rfl)) ?_
      refine l_step (y_load1 one_5 (et g0 rfl) (at1 (hX.ex.vl.c1 hX.ex.lx.phs (by omega)))) ?_
      refine l_step (y_neq (et g0 rfl) rfl) ?_
      refine l_step (y_moveV (et g0 rfl)) ?_
      refine gsplitL (i := 13) g0 (fun q4 => ?_) (fun q4 => ?_)
      · skip
        exact absurd (show (s.phase : Int) = 1 by omega) (of_decide_eq_true q4)
      · skip
        refine l_gstep (j := 5) (t := 13) (by exact rfl) (by exact rfl) (et g0 rfl) (by decide) (y_moveV (et (gS rfl (gS rfl (gS rfl (gS rfl (gS rfl (gS rfl (gS rfl g0))))))) rfl)) ?_
        refine l_gstep (j := 5) (t := 13) (by exact rfl) (by exact rfl) (et (gS rfl g0) rfl) (by decide) (y_nil (et g0 rfl)) ?_
        refine l_gstep (j := 5) (t := 13) (by exact rfl) (by exact rfl) (et (gS rfl (gS rfl g0)) rfl) (by decide) (y_fld fld_75_0 (et g0 rfl)) ?_
        refine l_gstep (j := 5) (t := 13) (by exact rfl) (by exact rfl) (et (gS rfl (gS rfl (gS rfl g0))) rfl) (by decide) (y_load1 one_59 (et g0 rfl) (at1 (hX.ex.vl.c1 hX.ex.lx.pS rfl))) ?_
        refine l_gstep (j := 5) (t := 13) (by exact rfl) (by exact rfl) (et (gS rfl (gS rfl (gS rfl (gS rfl g0)))) rfl) (by decide) (y_eqlNil Hvaa.underlying59 (et g0 rfl) rfl) ?_
        refine l_step (y_pickF (et (gS rfl (gS rfl (gS rfl (gS rfl (gS rfl g0))))) rfl) (et g0 rfl)) ?_
        refine l_nil ?_
        refine hK3 _ _ ?_
        refine fg2 0 19 (gS rfl (gS rfl (gS rfl (gS rfl (gS rfl (gS rfl (gS rfl (gS rfl (gS rfl (gS rfl (gS rfl (gS rfl (gS rfl g0))))))))))))) g0 (fun g => ?_)
        refine c_false (et g0 rfl) rfl ?_
        refine c_skip ?_
        refine hK2 _ _ ?_
        refine fg1 0 (gS rfl g0) (fun g => ?_)
        refine c_seq (fun K6 hK6 => ?_)
        refine c_seq (fun K7 hK7 => ?_)
        exact (by
          refine c_region ?_
          refine l_step (y_moveV (et g0 rfl)) ?_
          refine l_eff (e_callV cal_107 (aC (et g0 rfl) aN) (m_runNative hX.ex hs hp hms hap hpar hnat)) (fun v8 w8 h8 => ?_)
          obtain ⟨rfl, hO8⟩ := h8
          replace hX := hX.xo hO8
          replace U := U.cc hO8.chc (by intro b hb; exact .inl trivial)
          refine l_nil ?_
          refine hK7 _ _ ?_
          refine fg2 0 21 (gS rfl (gS rfl g0)) g0 (fun g => ?_)
          refine c_true (et g0 rfl) (by rfl) ?_
          refine c_seq (fun K10 hK10 => ?_)
          exact (by
            refine c_region ?_
            refine l_step y_assignC ?_
            refine l_nil ?_
            refine hK10 _ _ ?_
            refine fg1 2 g0 (fun g => ?_)
            refine c_ret ?_
            repeat with_reducible refine then_ret ?_
            refine ret1 rfl (res_tmp (et g0 rfl)) ?_
            exact ⟨rfl, hX⟩))))
theorem m_stepF {w : World} {H : Store} {col : Nat → Nat} {bc : Nat} {cs : Array Value} {V : EV} {s : YSt} {sn : List Nat} {sv : List AW} {ms : List (List Nat)} {c : Nat} {low : List YF} {f : YF} (hE : EX w H col bc cs V s sn sv ms c) (hs : s.frames = low ++ [f]) (hp : s.phase = 1) (hms : ms = (low ++ [f]).map (fun g => g.mem)) (hap : s.applied ≤ 4) (hpar : Par low) (hrl : s.ret.length ≤ 717280) (hnat : f.ntv = 0) (h0 : asN s f (opcN f) ≠ 0) :
    Ret 36 [.pointer (some ⟨bc, 0, none⟩)] w (fun v w' => v = .bool true ∧ XO w H col w' bc (lvY s f (asN s f (opcN f)) [] low) c) := by
  obtain ⟨n9, hn9, hR⟩ := hE.topF hs
  have hB := hE.fbT hs
  have h6 := hE.six hs
  have htop := hE.cTop hs
  have hphs := hE.cPh hp
  have hbp := hB.pc
  have hbs := hB.stk
  have hbg := hB.gas
  have hbc9 := hB.code
  have hnw := hE.vl.new
  have hfz := hE.vl.fz
  have hcC := hE.vl.colC
  have hbc0 := hE.vl.kC.lt
  have hX := XT.refl hE
  have hq256 : opcN f < 256 := opc_ltE hB
  refine enter (n := 41) Hvaa.func36 rfl rfl (Nat.le_of_ble_eq_true rfl) ?_
  have U : Ch (fun _ => True) w w := Ch.refl _ w
  refine c_seq (fun K1 hK1 => ?_)
  exact (by
    refine c_region ?_
    refine l_step y_assignC ?_
    refine l_nil ?_
    refine hK1 _ _ ?_
    refine fg1 0 (gS rfl g0) (fun g => ?_)
    refine c_seq (fun K2 hK2 => ?_)
    refine c_seq (fun K3 hK3 => ?_)
    exact (by
      refine c_region ?_
      refine l_step (y_moveV (et g0 rfl)) ?_
      refine l_step (y_nil (et g0 rfl)) ?_
      refine l_step (y_fld fld_75_9 (et g0 rfl)) ?_
      refine l_step (y_load1 one_5 (et g0 rfl) (at1 (hX.ex.vl.c1 hX.ex.lx.phs (by omega)))) ?_
      refine l_step (y_neq (et g0 rfl) rfl) ?_
      refine l_step (y_moveV (et g0 rfl)) ?_
      refine gsplitL (i := 13) g0 (fun q4 => ?_) (fun q4 => ?_)
      · skip
        exact absurd (show (s.phase : Int) = 1 by omega) (of_decide_eq_true q4)
      · skip
        refine l_gstep (j := 5) (t := 13) (by exact rfl) (by exact rfl) (et g0 rfl) (by decide) (y_moveV (et (gS rfl (gS rfl (gS rfl (gS rfl (gS rfl (gS rfl (gS rfl g0))))))) rfl)) ?_
        refine l_gstep (j := 5) (t := 13) (by exact rfl) (by exact rfl) (et (gS rfl g0) rfl) (by decide) (y_nil (et g0 rfl)) ?_
        refine l_gstep (j := 5) (t := 13) (by exact rfl) (by exact rfl) (et (gS rfl (gS rfl g0)) rfl) (by decide) (y_fld fld_75_0 (et g0 rfl)) ?_
        refine l_gstep (j := 5) (t := 13) (by exact rfl) (by exact rfl) (et (gS rfl (gS rfl (gS rfl g0))) rfl) (by decide) (y_load1 one_59 (et g0 rfl) (at1 (hX.ex.vl.c1 hX.ex.lx.pS rfl))) ?_
        refine l_gstep (j := 5) (t := 13) (by exact rfl) (by exact rfl) (et (gS rfl (gS rfl (gS rfl (gS rfl g0)))) rfl) (by decide) (y_eqlNil Hvaa.underlying59 (et g0 rfl) rfl) ?_
        refine l_step (y_pickF (et (gS rfl (gS rfl (gS rfl (gS rfl (gS rfl g0))))) rfl) (et g0 rfl)) ?_
        refine l_nil ?_
        refine hK3 _ _ ?_
        refine fg2 0 19 (gS rfl (gS rfl (gS rfl (gS rfl (gS rfl (gS rfl (gS rfl (gS rfl (gS rfl (gS rfl (gS rfl (gS rfl (gS rfl g0))))))))))))) g0 (fun g => ?_)
        refine c_false (et g0 rfl) rfl ?_
        refine c_skip ?_
        refine hK2 _ _ ?_
        refine fg1 0 (gS rfl g0) (fun g => ?_)
        refine c_seq (fun K6 hK6 => ?_)
        refine c_seq (fun K7 hK7 => ?_)
        exact (by
          refine c_region ?_
          refine l_step (y_moveV (et g0 rfl)) ?_
          refine l_eff (e_callV cal_107 (aC (et g0 rfl) aN) (m_runNative0 hX.ex hs hp hnat)) (fun v8 w8 h8 => ?_)
          obtain ⟨rfl, u8⟩ := h8
          replace hX := hX.up u8
          replace U := U.tr u8
          refine l_nil ?_
          refine hK7 _ _ ?_
          refine fg2 0 21 (gS rfl (gS rfl g0)) g0 (fun g => ?_)
          refine c_false (et g0 rfl) (by rfl) ?_
          refine c_skip ?_
          refine hK6 _ _ ?_
          refine fg1 0 (gS rfl g0) (fun g => ?_)
          refine c_seq (fun K10 hK10 => ?_)
          exact (by
            refine c_region ?_
            refine l_step (y_moveV (et g0 rfl)) ?_
            refine l_eff (e_callV cal_108 (aC (et g0 rfl) aN) (m_opcode hX.ex hs hp)) (fun v11 w11 h11 => ?_)
            obtain ⟨rfl, u11⟩ := h11
            replace hX := hX.up u11
            replace U := U.tr u11
            refine l_step (y_assignV (et g0 rfl)) ?_
            refine l_nil ?_
            refine hK10 _ _ ?_
            refine fg2 0 3 (gS rfl (gS rfl (gS rfl g0))) g0 (fun g => ?_)
            refine c_seq (fun K12 hK12 => ?_)
            exact (by
              refine c_region ?_
              refine l_step (y_moveV (et g0 rfl)) ?_
              refine l_eff (e_callV cal_109 (aC (et g0 rfl) aN) (info_spec _ _ hq256)) (fun v13 w13 h13 => ?_)
              obtain ⟨rfl, u13⟩ := h13
              replace hX := hX.up u13
              replace U := U.tr u13
              refine l_step (y_moveV (et g0 rfl)) ?_
              refine l_step (y_ext (et g0 rfl) rfl) ?_
              refine l_step (y_ext (et (gS rfl g0) rfl) rfl) ?_
              refine l_step (y_ext (et (gS rfl (gS rfl g0)) rfl) rfl) ?_
              refine l_step (y_ext (et (gS rfl (gS rfl (gS rfl g0))) rfl) rfl) ?_
              refine l_step (y_assignV (et (gS rfl (gS rfl (gS rfl g0))) rfl)) ?_
              refine l_step (y_assignV (et (gS rfl (gS rfl (gS rfl g0))) rfl)) ?_
              refine l_step (y_assignV (et (gS rfl (gS rfl (gS rfl g0))) rfl)) ?_
              refine l_step (y_assignV (et (gS rfl (gS rfl (gS rfl g0))) rfl)) ?_
              refine l_nil ?_
              refine hK12 _ _ ?_
              refine fg6 0 3 4 5 6 7 (gS rfl (gS rfl (gS rfl (gS rfl (gS rfl (gS rfl (gS rfl (gS rfl (gS rfl (gS rfl (gS rfl (gS rfl g0)))))))))))) (gS rfl (gS rfl (gS rfl (gS rfl (gS rfl (gS rfl (gS rfl (gS rfl (gS rfl (gS rfl (gS rfl g0))))))))))) (gS rfl (gS rfl (gS rfl g0))) (gS rfl (gS rfl g0)) (gS rfl g0) g0 (fun g => ?_)
              refine c_seq (fun K14 hK14 => ?_)
              refine c_seq (fun K15 hK15 => ?_)
              exact (by
                refine c_region ?_
                refine l_step (y_moveV (et (gS rfl (gS rfl (gS rfl (gS rfl (gS rfl g0))))) rfl)) ?_
                refine l_step (y_moveV (et (gS rfl (gS rfl (gS rfl (gS rfl (gS rfl g0))))) rfl)) ?_
                refine l_step (y_moveV (et (gS rfl (gS rfl (gS rfl (gS rfl (gS rfl g0))))) rfl)) ?_
                refine l_step (y_moveV (et (gS rfl (gS rfl (gS rfl (gS rfl (gS rfl g0))))) rfl)) ?_
                refine l_step (y_moveV (et (gS rfl (gS rfl (gS rfl (gS rfl (gS rfl g0))))) rfl)) ?_
                refine l_step (y_moveV (et (gS rfl (gS rfl (gS rfl (gS rfl (gS rfl g0))))) rfl)) ?_
                refine l_eff (e_callV cal_110 (aC (et (gS rfl (gS rfl (gS rfl (gS rfl (gS rfl g0))))) rfl) (aC (et (gS rfl (gS rfl (gS rfl (gS rfl g0)))) rfl) (aC (et (gS rfl (gS rfl (gS rfl g0))) rfl) (aC (et (gS rfl (gS rfl g0)) rfl) (aC (et (gS rfl g0) rfl) (aC (et g0 rfl) aN)))))) (m_admF hX.ex hs hp hms hap hpar (opcN f) hq256 hrl h0)) (fun v16 w16 h16 => ?_)
                obtain ⟨rfl, hO16⟩ := h16
                replace hX := hX.xo hO16
                replace U := U.cc hO16.chc (by intro b hb; exact .inl trivial)
                refine l_nil ?_
                refine hK15 _ _ ?_
                refine fg3 0 3 37 (gS rfl (gS rfl (gS rfl (gS rfl (gS rfl (gS rfl (gS rfl (gS rfl (gS rfl (gS rfl (gS rfl (gS rfl g0)))))))))))) (gS rfl (gS rfl (gS rfl (gS rfl (gS rfl (gS rfl (gS rfl (gS rfl (gS rfl (gS rfl (gS rfl g0))))))))))) g0 (fun g => ?_)
                refine c_false (et g0 rfl) (by rfl) ?_
                refine c_skip ?_
                refine hK14 _ _ ?_
                refine fg0 (fun g => ?_)
                refine c_seq (fun K18 hK18 => ?_)
                exact (by
                  refine c_region ?_
                  refine l_step y_assignC ?_
                  refine l_nil ?_
                  refine hK18 _ _ ?_
                  refine c_ret ?_
                  repeat with_reducible refine then_ret ?_
                  refine ret1 rfl (res_tmp (et g0 rfl)) ?_
                  exact ⟨rfl, hX⟩)))))))
theorem m_stepT {w : World} {H : Store} {col : Nat → Nat} {bc : Nat} {cs : Array Value} {V : EV} {s : YSt} {sn : List Nat} {sv : List AW} {ms : List (List Nat)} {c : Nat} {low : List YF} {f : YF} (hE : EX w H col bc cs V s sn sv ms c) (hs : s.frames = low ++ [f]) (hp : s.phase = 1) (hms : ms = (low ++ [f]).map (fun g => g.mem)) (hap : s.applied ≤ 4) (hpar : Par low) (hrl : s.ret.length ≤ 717280) {c' : Nat} (hnat : f.ntv = 0) (h0 : asN s f (opcN f) = 0) (chk : ChkS s f) (hEx : ExS bc s f low sn sv (c + (refN s f (opcN f)).2) c') :
    Ret 36 [.pointer (some ⟨bc, 0, none⟩)] w (fun v w' => v = .bool true ∧ XO w H col w' bc (stepY s f low) c') := by
  obtain ⟨n9, hn9, hR⟩ := hE.topF hs
  have hB := hE.fbT hs
  have h6 := hE.six hs
  have htop := hE.cTop hs
  have hphs := hE.cPh hp
  have hbp := hB.pc
  have hbs := hB.stk
  have hbg := hB.gas
  have hbc9 := hB.code
  have hnw := hE.vl.new
  have hfz := hE.vl.fz
  have hcC := hE.vl.colC
  have hbc0 := hE.vl.kC.lt
  have hX := XT.refl hE
  have hq256 : opcN f < 256 := opc_ltE hB
  refine enter (n := 41) Hvaa.func36 rfl rfl (Nat.le_of_ble_eq_true rfl) ?_
  have U : Ch (fun _ => True) w w := Ch.refl _ w
  refine c_seq (fun K1 hK1 => ?_)
  exact (by
    refine c_region ?_
    refine l_step y_assignC ?_
    refine l_nil ?_
    refine hK1 _ _ ?_
    refine fg1 0 (gS rfl g0) (fun g => ?_)
    refine c_seq (fun K2 hK2 => ?_)
    refine c_seq (fun K3 hK3 => ?_)
    exact (by
      refine c_region ?_
      refine l_step (y_moveV (et g0 rfl)) ?_
      refine l_step (y_nil (et g0 rfl)) ?_
      refine l_step (y_fld fld_75_9 (et g0 rfl)) ?_
      refine l_step (y_load1 one_5 (et g0 rfl) (at1 (hX.ex.vl.c1 hX.ex.lx.phs (by omega)))) ?_
      refine l_step (y_neq (et g0 rfl) rfl) ?_
      refine l_step (y_moveV (et g0 rfl)) ?_
      refine gsplitL (i := 13) g0 (fun q4 => ?_) (fun q4 => ?_)
      · skip
        exact absurd (show (s.phase : Int) = 1 by omega) (of_decide_eq_true q4)
      · skip
        refine l_gstep (j := 5) (t := 13) (by exact rfl) (by exact rfl) (et g0 rfl) (by decide) (y_moveV (et (gS rfl (gS rfl (gS rfl (gS rfl (gS rfl (gS rfl (gS rfl g0))))))) rfl)) ?_
        refine l_gstep (j := 5) (t := 13) (by exact rfl) (by exact rfl) (et (gS rfl g0) rfl) (by decide) (y_nil (et g0 rfl)) ?_
        refine l_gstep (j := 5) (t := 13) (by exact rfl) (by exact rfl) (et (gS rfl (gS rfl g0)) rfl) (by decide) (y_fld fld_75_0 (et g0 rfl)) ?_
        refine l_gstep (j := 5) (t := 13) (by exact rfl) (by exact rfl) (et (gS rfl (gS rfl (gS rfl g0))) rfl) (by decide) (y_load1 one_59 (et g0 rfl) (at1 (hX.ex.vl.c1 hX.ex.lx.pS rfl))) ?_
        refine l_gstep (j := 5) (t := 13) (by exact rfl) (by exact rfl) (et (gS rfl (gS rfl (gS rfl (gS rfl g0)))) rfl) (by decide) (y_eqlNil Hvaa.underlying59 (et g0 rfl) rfl) ?_
        refine l_step (y_pickF (et (gS rfl (gS rfl (gS rfl (gS rfl (gS rfl g0))))) rfl) (et g0 rfl)) ?_
        refine l_nil ?_
        refine hK3 _ _ ?_
        refine fg2 0 19 (gS rfl (gS rfl (gS rfl (gS rfl (gS rfl (gS rfl (gS rfl (gS rfl (gS rfl (gS rfl (gS rfl (gS rfl (gS rfl g0))))))))))))) g0 (fun g => ?_)
        refine c_false (et g0 rfl) rfl ?_
        refine c_skip ?_
        refine hK2 _ _ ?_
        refine fg1 0 (gS rfl g0) (fun g => ?_)
        refine c_seq (fun K6 hK6 => ?_)
        refine c_seq (fun K7 hK7 => ?_)
        exact (by
          refine c_region ?_
          refine l_step (y_moveV (et g0 rfl)) ?_
          refine l_eff (e_callV cal_107 (aC (et g0 rfl) aN) (m_runNative0 hX.ex hs hp hnat)) (fun v8 w8 h8 => ?_)
          obtain ⟨rfl, u8⟩ := h8
          replace hX := hX.up u8
          replace U := U.tr u8
          refine l_nil ?_
          refine hK7 _ _ ?_
          refine fg2 0 21 (gS rfl (gS rfl g0)) g0 (fun g => ?_)
          refine c_false (et g0 rfl) (by rfl) ?_
          refine c_skip ?_
          refine hK6 _ _ ?_
          refine fg1 0 (gS rfl g0) (fun g => ?_)
          refine c_seq (fun K10 hK10 => ?_)
          exact (by
            refine c_region ?_
            refine l_step (y_moveV (et g0 rfl)) ?_
            refine l_eff (e_callV cal_108 (aC (et g0 rfl) aN) (m_opcode hX.ex hs hp)) (fun v11 w11 h11 => ?_)
            obtain ⟨rfl, u11⟩ := h11
            replace hX := hX.up u11
            replace U := U.tr u11
            refine l_step (y_assignV (et g0 rfl)) ?_
            refine l_nil ?_
            refine hK10 _ _ ?_
            refine fg2 0 3 (gS rfl (gS rfl (gS rfl g0))) g0 (fun g => ?_)
            refine c_seq (fun K12 hK12 => ?_)
            exact (by
              refine c_region ?_
              refine l_step (y_moveV (et g0 rfl)) ?_
              refine l_eff (e_callV cal_109 (aC (et g0 rfl) aN) (info_spec _ _ hq256)) (fun v13 w13 h13 => ?_)
              obtain ⟨rfl, u13⟩ := h13
              replace hX := hX.up u13
              replace U := U.tr u13
              refine l_step (y_moveV (et g0 rfl)) ?_
              refine l_step (y_ext (et g0 rfl) rfl) ?_
              refine l_step (y_ext (et (gS rfl g0) rfl) rfl) ?_
              refine l_step (y_ext (et (gS rfl (gS rfl g0)) rfl) rfl) ?_
              refine l_step (y_ext (et (gS rfl (gS rfl (gS rfl g0))) rfl) rfl) ?_
              refine l_step (y_assignV (et (gS rfl (gS rfl (gS rfl g0))) rfl)) ?_
              refine l_step (y_assignV (et (gS rfl (gS rfl (gS rfl g0))) rfl)) ?_
              refine l_step (y_assignV (et (gS rfl (gS rfl (gS rfl g0))) rfl)) ?_
              refine l_step (y_assignV (et (gS rfl (gS rfl (gS rfl g0))) rfl)) ?_
              refine l_nil ?_
              refine hK12 _ _ ?_
              refine fg6 0 3 4 5 6 7 (gS rfl (gS rfl (gS rfl (gS rfl (gS rfl (gS rfl (gS rfl (gS rfl (gS rfl (gS rfl (gS rfl (gS rfl g0)))))))))))) (gS rfl (gS rfl (gS rfl (gS rfl (gS rfl (gS rfl (gS rfl (gS rfl (gS rfl (gS rfl (gS rfl g0))))))))))) (gS rfl (gS rfl (gS rfl g0))) (gS rfl (gS rfl g0)) (gS rfl g0) g0 (fun g => ?_)
              refine c_seq (fun K14 hK14 => ?_)
              refine c_seq (fun K15 hK15 => ?_)
              exact (by
                refine c_region ?_
                refine l_step (y_moveV (et (gS rfl (gS rfl (gS rfl (gS rfl (gS rfl g0))))) rfl)) ?_
                refine l_step (y_moveV (et (gS rfl (gS rfl (gS rfl (gS rfl (gS rfl g0))))) rfl)) ?_
                refine l_step (y_moveV (et (gS rfl (gS rfl (gS rfl (gS rfl (gS rfl g0))))) rfl)) ?_
                refine l_step (y_moveV (et (gS rfl (gS rfl (gS rfl (gS rfl (gS rfl g0))))) rfl)) ?_
                refine l_step (y_moveV (et (gS rfl (gS rfl (gS rfl (gS rfl (gS rfl g0))))) rfl)) ?_
                refine l_step (y_moveV (et (gS rfl (gS rfl (gS rfl (gS rfl (gS rfl g0))))) rfl)) ?_
                refine l_eff (e_callV cal_110 (aC (et (gS rfl (gS rfl (gS rfl (gS rfl (gS rfl g0))))) rfl) (aC (et (gS rfl (gS rfl (gS rfl (gS rfl g0)))) rfl) (aC (et (gS rfl (gS rfl (gS rfl g0))) rfl) (aC (et (gS rfl (gS rfl g0)) rfl) (aC (et (gS rfl g0) rfl) (aC (et g0 rfl) aN)))))) (m_admT hX.ex hs hp hms hap hpar (opcN f) hq256 hrl h0)) (fun v16 w16 h16 => ?_)
                obtain ⟨rfl, cl16, cs16, y16⟩ := h16
                replace hX := hX.trans y16
                replace U := U.cc y16.et.go.ch (by intro b hb; exact .inl trivial)
                replace hX := hX.remem (low := low) rfl (growN f.mem (yReach f.stack (opcN f)))
                rw [chk.mem h0, chk.cost h0] at hX
                have hex := hEx hX.ex
                refine l_nil ?_
                refine hK15 _ _ ?_
                refine fg3 0 3 37 (gS rfl (gS rfl (gS rfl (gS rfl (gS rfl (gS rfl (gS rfl (gS rfl (gS rfl (gS rfl (gS rfl (gS rfl g0)))))))))))) (gS rfl (gS rfl (gS rfl (gS rfl (gS rfl (gS rfl (gS rfl (gS rfl (gS rfl (gS rfl (gS rfl g0))))))))))) g0 (fun g => ?_)
                refine c_true (et g0 rfl) (by rfl) ?_
                exact (by
                  refine c_region ?_
                  refine l_step (y_moveV (et (gS rfl (gS rfl g0)) rfl)) ?_
                  refine l_step (y_moveV (et (gS rfl (gS rfl g0)) rfl)) ?_
                  refine l_eff (e_callV cal_111 (aC (et (gS rfl g0) rfl) (aC (et g0 rfl) aN)) hex) (fun v18 w18 h18 => ?_)
                  obtain ⟨rfl, hO18⟩ := h18
                  replace hX := hX.xo hO18
                  replace U := U.cc hO18.chc (by intro b hb; exact .inl trivial)
                  refine l_nil ?_
                  refine hK14 _ _ ?_
                  refine fg0 (fun g => ?_)
                  refine c_seq (fun K19 hK19 => ?_)
                  exact (by
                    refine c_region ?_
                    refine l_step y_assignC ?_
                    refine l_nil ?_
                    refine hK19 _ _ ?_
                    refine c_ret ?_
                    repeat with_reducible refine then_ret ?_
                    refine ret1 rfl (res_tmp (et g0 rfl)) ?_
                    exact ⟨rfl, hX⟩))))))))
theorem m_step {w : World} {H : Store} {col : Nat → Nat} {bc : Nat} {cs : Array Value} {V : EV} {s : YSt} {sn : List Nat} {sv : List AW} {ms : List (List Nat)} {c : Nat} {low : List YF} {f : YF} (hE : EX w H col bc cs V s sn sv ms c) (hs : s.frames = low ++ [f]) (hp : s.phase = 1) (hms : ms = (low ++ [f]).map (fun g => g.mem)) (hap : s.applied ≤ 4) (hpar : Par low) (hrl : s.ret.length ≤ 717280) {c' : Nat} (hc : c' ≤ c) (chk : ChkS s f) (hEx : f.ntv = 0 → (refN s f (opcN f)).1 = 0 → ExS bc s f low sn sv (c + (refN s f (opcN f)).2) c') : Ret 36 [.pointer (some ⟨bc, 0, none⟩)] w (fun v w' => v = .bool true ∧ XO w H col w' bc (stepY s f low) c') := by
  by_cases hn : f.ntv = 0
  · by_cases h0 : asN s f (opcN f) = 0
    · exact m_stepT hE hs hp hms hap hpar hrl hn h0 chk (hEx hn (chk.st ▸ h0))
    · refine (m_stepF hE hs hp hms hap hpar hrl hn h0).mono fun v w' h => ⟨h.1, ?_⟩
      have e : stepY s f low = lvY s f (asN s f (opcN f)) [] low := by
        rw [chk.st] at h0 ⊢
        unfold stepY
        rw [if_neg (fun h9 => h9 hn), if_pos h0]
      rw [e]
      exact h.2.slack hc
  · refine (m_stepN hE hs hp hms hap hpar hrl hn).mono fun v w' h => ⟨h.1, ?_⟩
    have e : stepY s f low = natY s f low := by
      unfold stepY
      rw [if_pos hn]
    rw [e]
    exact h.2.slack hc
end Go.Proofs.YgvaawGreat
