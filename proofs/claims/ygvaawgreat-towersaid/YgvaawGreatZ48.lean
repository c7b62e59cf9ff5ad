import Derived.Test.YgvaawGreatW11
set_option maxRecDepth 100000
set_option maxHeartbeats 4000000
set_option linter.unusedSimpArgs false
set_option linter.unusedVariables false
namespace Go.Proofs.YgvaawGreat
open Go
theorem m_opEnd0 {w : World} {H : Store} {col : Nat → Nat} {bc : Nat} {cs : Array Value} {V : EV} {s : YSt} {sn : List Nat} {sv : List AW} {ms : List (List Nat)} {c : Nat} {low : List YF} {f : YF} (hE : EX w H col bc cs V s sn sv ms c) (hs : s.frames = low ++ [f]) (hp : s.phase = 1) (hms : ms = (low ++ [f]).map (fun g => g.mem)) (hap : s.applied ≤ 4) (hpar : Par low) (h0 : opcN f = 0) :
    Ret 204 [.pointer (some ⟨bc, 0, none⟩)] w (fun v w' => v = .tuple #[] ∧ XO w H col w' bc (lvY s f 0 [] low) c) := by
  obtain ⟨n9, hn9, hR⟩ := hE.topF hs
  have hB := hE.fbT hs
  have h6 := hE.six hs
  have htop := hE.cTop hs
  have hphs := hE.cPh hp
  have hbp := hB.pc
  have hbs := hB.stk
  have hbg := hB.gas
  have hbc9 := hB.code
  have hnw := hE.vl.new
  have hfz := hE.vl.fz
  have hcC := hE.vl.colC
  have hbc0 := hE.vl.kC.lt
  have hX := XT.refl hE
  refine enter (n := 39) Hvaa.func204 rfl rfl (Nat.le_of_ble_eq_true rfl) ?_
  have U : Ch (fun _ => True) w w := Ch.refl _ w
  refine c_seq (fun K1 hK1 => ?_)
  exact (by
    refine c_region ?_
    refine l_step (y_moveV (et g0 rfl)) ?_
    refine l_eff (e_callV cal_183 (aC (et g0 rfl) aN) (m_running hX.ex hs hp)) (fun v2 w2 h2 => ?_)
    obtain ⟨rfl, u2⟩ := h2
    replace hX := hX.up u2
    replace U := U.tr u2
    refine l_step (y_assignV (et g0 rfl)) ?_
    refine l_nil ?_
    refine hK1 _ _ ?_
    refine fg2 0 2 (gS rfl (gS rfl (gS rfl g0))) g0 (fun g => ?_)
    refine c_seq (fun K3 hK3 => ?_)
    refine c_seq (fun K4 hK4 => ?_)
    exact (by
      refine c_region ?_
      refine l_step (y_moveV (et g0 rfl)) ?_
      refine l_step (y_eqlNil Hvaa.underlying276 (et g0 rfl) rfl) ?_
      refine l_nil ?_
      refine hK4 _ _ ?_
      refine fg3 0 2 9 (gS rfl (gS rfl (gS rfl g0))) (gS rfl (gS rfl g0)) g0 (fun g => ?_)
      refine c_false (et g0 rfl) rfl ?_
      refine c_skip ?_
      refine hK3 _ _ ?_
      refine fg2 0 2 (gS rfl (gS rfl g0)) (gS rfl g0) (fun g => ?_)
      refine c_seq (fun K6 hK6 => ?_)
      exact (by
        refine c_region ?_
        refine l_step (y_moveV (et (gS rfl g0) rfl)) ?_
        refine l_eff (e_callV cal_108 (aC (et g0 rfl) aN) (m_opcode hX.ex hs hp)) (fun v7 w7 h7 => ?_)
        obtain ⟨rfl, u7⟩ := h7
        replace hX := hX.up u7
        replace U := U.tr u7
        refine l_step (y_assignV (et g0 rfl)) ?_
        refine l_nil ?_
        refine hK6 _ _ ?_
        refine fg3 0 2 3 (gS rfl (gS rfl (gS rfl (gS rfl g0)))) (gS rfl (gS rfl (gS rfl g0))) g0 (fun g => ?_)
        refine c_seq (fun K8 hK8 => ?_)
        refine c_seq (fun K9 hK9 => ?_)
        exact (by
          refine c_region ?_
          refine l_step (y_moveV (et g0 rfl)) ?_
          refine l_step (y_eql (et g0 rfl) rfl) ?_
          refine l_nil ?_
          refine hK9 _ _ ?_
          refine fg4 0 2 3 13 (gS rfl (gS rfl (gS rfl (gS rfl g0)))) (gS rfl (gS rfl (gS rfl g0))) (gS rfl (gS rfl g0)) g0 (fun g => ?_)
          refine c_true (et g0 rfl) (by (exact decide_eq_true (by omega))) ?_
          refine c_seq (fun K11 hK11 => ?_)
          exact (by
            refine c_region ?_
            refine l_step (y_moveV (et (gS rfl (gS rfl (gS rfl g0))) rfl)) ?_
            refine l_eff (e_callV cal_186 (aC (et g0 rfl) (aC (v := .int .u8 ((0 : Nat) : Int)) rfl (aC rfl aN))) (m_end (oa := none) (oc := 0) (l := []) hX.ex hs hp 0 (by decide) (BV.nil _) (Nat.zero_le _) hms hap hpar)) (fun v12 w12 h12 => ?_)
            obtain ⟨rfl, hO12⟩ := h12
            replace hX := hX.xo hO12
            replace U := U.cc hO12.chc (by intro b hb; exact .inl trivial)
            refine l_nil ?_
            refine hK11 _ _ ?_
            refine fg0 (fun g => ?_)
            refine c_ret ?_
            repeat with_reducible refine then_ret ?_
            refine ret0 rfl ?_
            exact ⟨rfl, hX⟩)))))
theorem ex_end0 {s : YSt} {f : YF} {low : List YF} {c c' bc : Nat} {sn : List Nat} {sv : List AW} (hn : f.ntv = 0) (hr : (refN s f (opcN f)).1 = 0) (hq : opcN f = 0) (hp : s.phase = 1) (hap : s.applied ≤ 4) (hpar : Par low) (hc : c' ≤ c) : ExS bc s f low sn sv c c' := by
  intro w H col cs V hE
  have key := m_opEnd0 (s := { s with frames := low ++ [stF s f] }) (f := stF s f) hE rfl hp (by rw [List.map_append]; rfl) hap hpar hq
  have e : stepY s f low = lvY s (stF s f) 0 [] low := by
    unfold stepY
    rw [if_neg (fun h => h hn), if_neg (fun h => h hr), if_pos hq]
  rw [lvY_fr] at key
  rw [e, hq]
  refine (x_exec0 key (fun v w' hv => hv.2.chc.mono (fun _ _ _ => trivial))).mono fun v w' hv => ⟨hv.1, ?_⟩
  obtain ⟨v0, _, hx⟩ := hv.2
  exact hx.slack hc
end Go.Proofs.YgvaawGreat
