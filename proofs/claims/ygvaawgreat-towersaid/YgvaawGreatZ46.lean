import Derived.Test.YgvaawGreatZ45
set_option maxRecDepth 100000
set_option maxHeartbeats 4000000
set_option linter.unusedSimpArgs false
set_option linter.unusedVariables false
namespace Go.Proofs.YgvaawGreat
open Go
theorem m_passT {w : World} {H : Store} {col : Nat → Nat} {bc : Nat} {cs : Array Value} {V : EV} {s : YSt} {sn : List Nat} {sv : List AW} {ms : List (List Nat)} {c : Nat} {low : List YF} {f : YF} (hE : EX w H col bc cs V s sn sv ms c) (hs : s.frames = low ++ [f]) (hp : s.phase = 1) (hms : ms = (low ++ [f]).map (fun g => g.mem)) (hap : s.applied ≤ 4) (hpar : Par low) (q : Nat) (hq256 : q < 256) (hrl : s.ret.length ≤ 717280) (h0 : psN s f q = 0) : Ret 188 [.pointer (some ⟨bc, 0, none⟩), .int .u8 (q : Nat), .int .u16 (sgN q : Nat)] w (fun v w' => v = .bool true ∧ ∃ col' cs', XT w H col w' H col' bc cs' V { s with frames := low ++ [{ f with gas := f.gas - pcN s f q }] } sn sv (low.map (fun g => g.mem) ++ [pmN f q]) (c + pcN s f q)) := by
  refine (m_pass hE hs hp hms hap hpar q hq256 hrl).mono fun v w' h => ?_
  rcases h with h | h
  · exact absurd h0 h.1
  · exact h.2
theorem m_passF {w : World} {H : Store} {col : Nat → Nat} {bc : Nat} {cs : Array Value} {V : EV} {s : YSt} {sn : List Nat} {sv : List AW} {ms : List (List Nat)} {c : Nat} {low : List YF} {f : YF} (hE : EX w H col bc cs V s sn sv ms c) (hs : s.frames = low ++ [f]) (hp : s.phase = 1) (hms : ms = (low ++ [f]).map (fun g => g.mem)) (hap : s.applied ≤ 4) (hpar : Par low) (q : Nat) (hq256 : q < 256) (hrl : s.ret.length ≤ 717280) (h0 : psN s f q ≠ 0) : Ret 188 [.pointer (some ⟨bc, 0, none⟩), .int .u8 (q : Nat), .int .u16 (sgN q : Nat)] w (fun v w' => v = .bool false ∧ XO w H col w' bc (lvY s f (psN s f q) [] low) c) := by
  refine (m_pass hE hs hp hms hap hpar q hq256 hrl).mono fun v w' h => ?_
  rcases h with h | h
  · exact h.2
  · exact absurd h.1 h0
/-- what all the engine's checks say -/
def asN (s : YSt) (f : YF) (q : Nat) : Nat := if knN q = false then 5 else if f.stack.length < tkN q then 3 else if 64 < f.stack.length - tkN q + gvN q then 4 else psN s f q
/-- what Exec does behind the checks -/
def ExS (bc : Nat) (s : YSt) (f : YF) (low : List YF) (sn : List Nat) (sv : List AW) (c c' : Nat) : Prop := ∀ {w : World} {H : Store} {col : Nat → Nat} {cs : Array Value} {V : EV}, EX w H col bc cs V { s with frames := low ++ [stF s f] } sn sv (low.map (fun g => g.mem) ++ [(stF s f).mem]) c → Ret 111 [.pointer (some ⟨bc, 0, none⟩), .int .u8 (opcN f : Nat)] w (fun v w' => v = .tuple #[] ∧ XO w H col w' bc (stepY s f low) c')
/-- the engine's checks are the paper's -/
structure ChkS (s : YSt) (f : YF) : Prop where
  st : asN s f (opcN f) = (refN s f (opcN f)).1
  cost : asN s f (opcN f) = 0 → pcN s f (opcN f) = (refN s f (opcN f)).2
  mem : asN s f (opcN f) = 0 → pmN f (opcN f) = growN f.mem (yReach f.stack (opcN f))
theorem m_admT {w : World} {H : Store} {col : Nat → Nat} {bc : Nat} {cs : Array Value} {V : EV} {s : YSt} {sn : List Nat} {sv : List AW} {ms : List (List Nat)} {c : Nat} {low : List YF} {f : YF} (hE : EX w H col bc cs V s sn sv ms c) (hs : s.frames = low ++ [f]) (hp : s.phase = 1) (hms : ms = (low ++ [f]).map (fun g => g.mem)) (hap : s.applied ≤ 4) (hpar : Par low) (q : Nat) (hq256 : q < 256) (hrl : s.ret.length ≤ 717280) (h0 : asN s f q = 0) :
    Ret 110 [.pointer (some ⟨bc, 0, none⟩), .int .u8 (q : Nat), .int .u8 (tkN q : Nat), .int .u8 (gvN q : Nat), .int .u16 (sgN q : Nat), .bool (knN q)] w (fun v w' => v = .bool true ∧ ∃ col' cs', XT w H col w' H col' bc cs' V { s with frames := low ++ [{ f with gas := f.gas - pcN s f q }] } sn sv (low.map (fun g => g.mem) ++ [pmN f q]) (c + pcN s f q)) := by
  obtain ⟨n9, hn9, hR⟩ := hE.topF hs
  have hB := hE.fbT hs
  have h6 := hE.six hs
  have htop := hE.cTop hs
  have hphs := hE.cPh hp
  have hbp := hB.pc
  have hbs := hB.stk
  have hbg := hB.gas
  have hbc9 := hB.code
  have hnw := hE.vl.new
  have hfz := hE.vl.fz
  have hcC := hE.vl.colC
  have hbc0 := hE.vl.kC.lt
  have hX := XT.refl hE
  have hms8 : ms = low.map (fun g => g.mem) ++ [f.mem] := by rw [hms]; simp
  have htl := tk_le hq256
  have hgl := gv_le hq256
  have hkn9 : knN q = true := by
    cases hk : knN q
    · unfold asN at h0; rw [if_pos hk] at h0; cases h0
    · rfl
  have hkn8 : ¬ knN q = false := by rw [hkn9]; decide
  have h39 : ¬ f.stack.length < tkN q := fun h9 => by unfold asN at h0; rw [if_neg hkn8, if_pos h9] at h0; cases h0
  have h49 : ¬ 64 < f.stack.length - tkN q + gvN q := fun h9 => by unfold asN at h0; rw [if_neg hkn8, if_neg h39, if_pos h9] at h0; cases h0
  have hps9 : psN s f q = 0 := by unfold asN at h0; rw [if_neg hkn8, if_neg h39, if_neg h49] at h0; exact h0
  refine enter (n := 53) Hvaa.func110 rfl rfl (Nat.le_of_ble_eq_true rfl) ?_
  have U : Ch (fun _ => True) w w := Ch.refl _ w
  refine c_seq (fun K1 hK1 => ?_)
  exact (by
    refine c_region ?_
    refine l_step y_assignC ?_
    refine l_nil ?_
    refine hK1 _ _ ?_
    refine fg6 5 4 3 2 1 0 (gS rfl (gS rfl (gS rfl (gS rfl (gS rfl (gS rfl g0)))))) (gS rfl (gS rfl (gS rfl (gS rfl (gS rfl g0))))) (gS rfl (gS rfl (gS rfl (gS rfl g0)))) (gS rfl (gS rfl (gS rfl g0))) (gS rfl (gS rfl g0)) (gS rfl g0) (fun g => ?_)
    refine c_seq (fun K2 hK2 => ?_)
    exact (by
      refine c_region ?_
      refine l_step (y_moveV (et g0 rfl)) ?_
      refine l_eff (e_callV cal_183 (aC (et g0 rfl) aN) (m_running hX.ex hs hp)) (fun v3 w3 h3 => ?_)
      obtain ⟨rfl, u3⟩ := h3
      replace hX := hX.up u3
      replace U := U.tr u3
      refine l_step (y_assignV (et g0 rfl)) ?_
      refine l_nil ?_
      refine hK2 _ _ ?_
      refine fg7 5 4 3 2 1 0 13 (gS rfl (gS rfl (gS rfl (gS rfl (gS rfl (gS rfl (gS rfl (gS rfl g0)))))))) (gS rfl (gS rfl (gS rfl (gS rfl (gS rfl (gS rfl (gS rfl g0))))))) (gS rfl (gS rfl (gS rfl (gS rfl (gS rfl (gS rfl g0)))))) (gS rfl (gS rfl (gS rfl (gS rfl (gS rfl g0))))) (gS rfl (gS rfl (gS rfl (gS rfl g0)))) (gS rfl (gS rfl (gS rfl g0))) g0 (fun g => ?_)
      refine c_seq (fun K4 hK4 => ?_)
      refine c_seq (fun K5 hK5 => ?_)
      exact (by
        refine c_region ?_
        refine l_step (y_moveV (et g0 rfl)) ?_
        refine l_step (y_eqlNil Hvaa.underlying276 (et g0 rfl) rfl) ?_
        refine l_nil ?_
        refine hK5 _ _ ?_
        refine fg8 5 4 3 2 1 0 13 17 (gS rfl (gS rfl (gS rfl (gS rfl (gS rfl (gS rfl (gS rfl (gS rfl g0)))))))) (gS rfl (gS rfl (gS rfl (gS rfl (gS rfl (gS rfl (gS rfl g0))))))) (gS rfl (gS rfl (gS rfl (gS rfl (gS rfl (gS rfl g0)))))) (gS rfl (gS rfl (gS rfl (gS rfl (gS rfl g0))))) (gS rfl (gS rfl (gS rfl (gS rfl g0)))) (gS rfl (gS rfl (gS rfl g0))) (gS rfl (gS rfl g0)) g0 (fun g => ?_)
        refine c_false (et g0 rfl) rfl ?_
        refine c_skip ?_
        refine hK4 _ _ ?_
        refine fg7 5 4 3 2 1 0 13 (gS rfl (gS rfl (gS rfl (gS rfl (gS rfl (gS rfl (gS rfl g0))))))) (gS rfl (gS rfl (gS rfl (gS rfl (gS rfl (gS rfl g0)))))) (gS rfl (gS rfl (gS rfl (gS rfl (gS rfl g0))))) (gS rfl (gS rfl (gS rfl (gS rfl g0)))) (gS rfl (gS rfl (gS rfl g0))) (gS rfl (gS rfl g0)) (gS rfl g0) (fun g => ?_)
        refine c_seq (fun K7 hK7 => ?_)
        refine c_block (fun Q8 hQ8 => ?_)
        refine c_seq (fun K9 hK9 => ?_)
        exact (by
          refine c_region ?_
          refine l_step (y_moveV (et (gS rfl (gS rfl (gS rfl (gS rfl (gS rfl (gS rfl g0)))))) rfl)) ?_
          refine l_step (y_not (et g0 rfl)) ?_
          refine l_step (y_assignV (et g0 rfl)) ?_
          refine l_nil ?_
          refine hK9 _ _ ?_
          refine fg7 4 3 2 1 0 13 20 (gS rfl (gS rfl (gS rfl (gS rfl (gS rfl (gS rfl (gS rfl (gS rfl g0)))))))) (gS rfl (gS rfl (gS rfl (gS rfl (gS rfl (gS rfl (gS rfl g0))))))) (gS rfl (gS rfl (gS rfl (gS rfl (gS rfl (gS rfl g0)))))) (gS rfl (gS rfl (gS rfl (gS rfl (gS rfl g0))))) (gS rfl (gS rfl (gS rfl (gS rfl g0)))) (gS rfl (gS rfl (gS rfl g0))) g0 (fun g => ?_)
          refine c_false (et g0 rfl) (by (rw [hkn9]; rfl)) ?_
          refine c_seq (fun K11 hK11 => ?_)
          exact (by
            refine c_region ?_
            refine l_step (y_moveV (et (gS rfl g0) rfl)) ?_
            refine l_step (y_nil (et g0 rfl)) ?_
            refine l_step (y_fld fld_71_6 (et g0 rfl)) ?_
            refine l_step (y_load1 one_67 (et g0 rfl) (at1 (hX.ex.vl.c1 (hR.r1 6 _ rfl) (by omega)))) ?_
            refine l_step (y_moveV (et (gS rfl (gS rfl (gS rfl (gS rfl (gS rfl (gS rfl (gS rfl (gS rfl g0)))))))) rfl)) ?_
            refine l_step (y_conv Hvaa.underlying5 Hvaa.underlying67 (et g0 rfl) (wrapU_id uk16 ?_)) ?_
            omega
            refine l_step (y_lss (et (gS rfl (gS rfl g0)) rfl) (et g0 rfl)) ?_
            refine l_step (y_assignV (et g0 rfl)) ?_
            refine l_nil ?_
            refine hK11 _ _ ?_
            refine fg7 4 3 2 1 0 13 25 (gS rfl (gS rfl (gS rfl (gS rfl (gS rfl (gS rfl (gS rfl (gS rfl (gS rfl (gS rfl (gS rfl (gS rfl (gS rfl (gS rfl g0)))))))))))))) (gS rfl (gS rfl (gS rfl (gS rfl (gS rfl (gS rfl (gS rfl (gS rfl (gS rfl (gS rfl (gS rfl (gS rfl (gS rfl g0))))))))))))) (gS rfl (gS rfl (gS rfl (gS rfl (gS rfl (gS rfl (gS rfl (gS rfl (gS rfl (gS rfl (gS rfl (gS rfl g0)))))))))))) (gS rfl (gS rfl (gS rfl (gS rfl (gS rfl (gS rfl (gS rfl (gS rfl (gS rfl (gS rfl (gS rfl g0))))))))))) (gS rfl (gS rfl (gS rfl (gS rfl (gS rfl (gS rfl (gS rfl (gS rfl (gS rfl (gS rfl g0)))))))))) (gS rfl (gS rfl (gS rfl (gS rfl (gS rfl (gS rfl (gS rfl (gS rfl (gS rfl g0))))))))) g0 (fun g => ?_)
            refine c_false (et g0 rfl) (by (exact decide_eq_false (by omega))) ?_
            refine c_seq (fun K13 hK13 => ?_)
            exact (by
              refine c_region ?_
              refine l_step (y_moveV (et (gS rfl g0) rfl)) ?_
              refine l_step (y_nil (et g0 rfl)) ?_
              refine l_step (y_fld fld_71_6 (et g0 rfl)) ?_
              refine l_step (y_load1 one_67 (et g0 rfl) (at1 (hX.ex.vl.c1 (hR.r1 6 _ rfl) (by omega)))) ?_
              refine l_step (y_moveV (et (gS rfl (gS rfl (gS rfl (gS rfl (gS rfl (gS rfl (gS rfl (gS rfl g0)))))))) rfl)) ?_
              refine l_step (y_conv Hvaa.underlying5 Hvaa.underlying67 (et g0 rfl) (wrapU_id uk16 ?_)) ?_
              omega
              refine l_step (y_sub (et (gS rfl (gS rfl g0)) rfl) (et g0 rfl) (wrapU_subN uk16 ?_ ?_)) ?_
              omega
              omega
              refine l_step (y_moveV (et (gS rfl (gS rfl (gS rfl (gS rfl (gS rfl (gS rfl (gS rfl (gS rfl (gS rfl (gS rfl (gS rfl (gS rfl g0)))))))))))) rfl)) ?_
              refine l_step (y_conv Hvaa.underlying5 Hvaa.underlying67 (et g0 rfl) (wrapU_id uk16 ?_)) ?_
              omega
              refine l_step (y_add (et (gS rfl (gS rfl g0)) rfl) (et g0 rfl) (wrapU_addN uk16 ?_)) ?_
              omega
              refine l_step (y_gtr (et g0 rfl) rfl) ?_
              refine l_step (y_assignV (et g0 rfl)) ?_
              refine l_nil ?_
              refine hK13 _ _ ?_
              refine fg4 4 1 0 35 (gS rfl (gS rfl (gS rfl (gS rfl (gS rfl (gS rfl (gS rfl (gS rfl (gS rfl (gS rfl (gS rfl (gS rfl (gS rfl (gS rfl (gS rfl (gS rfl (gS rfl (gS rfl g0)))))))))))))))))) (gS rfl (gS rfl (gS rfl (gS rfl (gS rfl (gS rfl (gS rfl (gS rfl (gS rfl (gS rfl (gS rfl (gS rfl (gS rfl (gS rfl (gS rfl g0))))))))))))))) (gS rfl (gS rfl (gS rfl (gS rfl (gS rfl (gS rfl (gS rfl (gS rfl (gS rfl (gS rfl (gS rfl (gS rfl (gS rfl (gS rfl g0)))))))))))))) g0 (fun g => ?_)
              refine c_false (et g0 rfl) (by (exact decide_eq_false (by omega))) ?_
              refine c_skip ?_
              refine hQ8 _ _ _ (in_normal ?_)
              refine hK7 _ _ ?_
              refine fg3 4 1 0 (gS rfl (gS rfl (gS rfl g0))) (gS rfl (gS rfl g0)) (gS rfl g0) (fun g => ?_)
              refine c_seq (fun K15 hK15 => ?_)
              exact (by
                refine c_region ?_
                refine l_step (y_moveV (et g0 rfl)) ?_
                refine l_step (y_moveV (et (gS rfl (gS rfl g0)) rfl)) ?_
                refine l_step (y_moveV (et (gS rfl (gS rfl (gS rfl (gS rfl g0)))) rfl)) ?_
                refine l_eff (e_callV cal_188 (aC (et (gS rfl (gS rfl g0)) rfl) (aC (et (gS rfl g0) rfl) (aC (et g0 rfl) aN))) (m_passT hX.ex hs hp hms hap hpar q hq256 hrl hps9)) (fun v16 w16 h16 => ?_)
                obtain ⟨rfl, cl16, cs16, y16⟩ := h16
                replace hX := hX.trans y16
                replace U := U.cc y16.et.go.ch (by intro b hb; exact .inl trivial)
                refine l_step (y_assignV (et g0 rfl)) ?_
                refine l_nil ?_
                refine hK15 _ _ ?_
                refine fg1 12 g0 (fun g => ?_)
                refine c_ret ?_
                repeat with_reducible refine then_ret ?_
                refine ret1 rfl (res_tmp (et g0 rfl)) ?_
                exact ⟨rfl, _, _, hX⟩)))))))
theorem m_admF {w : World} {H : Store} {col : Nat → Nat} {bc : Nat} {cs : Array Value} {V : EV} {s : YSt} {sn : List Nat} {sv : List AW} {ms : List (List Nat)} {c : Nat} {low : List YF} {f : YF} (hE : EX w H col bc cs V s sn sv ms c) (hs : s.frames = low ++ [f]) (hp : s.phase = 1) (hms : ms = (low ++ [f]).map (fun g => g.mem)) (hap : s.applied ≤ 4) (hpar : Par low) (q : Nat) (hq256 : q < 256) (hrl : s.ret.length ≤ 717280) (h0 : asN s f q ≠ 0) :
    Ret 110 [.pointer (some ⟨bc, 0, none⟩), .int .u8 (q : Nat), .int .u8 (tkN q : Nat), .int .u8 (gvN q : Nat), .int .u16 (sgN q : Nat), .bool (knN q)] w (fun v w' => v = .bool false ∧ XO w H col w' bc (lvY s f (asN s f q) [] low) c) := by
  obtain ⟨n9, hn9, hR⟩ := hE.topF hs
  have hB := hE.fbT hs
  have h6 := hE.six hs
  have htop := hE.cTop hs
  have hphs := hE.cPh hp
  have hbp := hB.pc
  have hbs := hB.stk
  have hbg := hB.gas
  have hbc9 := hB.code
  have hnw := hE.vl.new
  have hfz := hE.vl.fz
  have hcC := hE.vl.colC
  have hbc0 := hE.vl.kC.lt
  have hX := XT.refl hE
  have hms8 : ms = low.map (fun g => g.mem) ++ [f.mem] := by rw [hms]; simp
  have htl := tk_le hq256
  have hgl := gv_le hq256
  refine enter (n := 53) Hvaa.func110 rfl rfl (Nat.le_of_ble_eq_true rfl) ?_
  have U : Ch (fun _ => True) w w := Ch.refl _ w
  refine c_seq (fun K1 hK1 => ?_)
  exact (by
    refine c_region ?_
    refine l_step y_assignC ?_
    refine l_nil ?_
    refine hK1 _ _ ?_
    refine fg6 5 4 3 2 1 0 (gS rfl (gS rfl (gS rfl (gS rfl (gS rfl (gS rfl g0)))))) (gS rfl (gS rfl (gS rfl (gS rfl (gS rfl g0))))) (gS rfl (gS rfl (gS rfl (gS rfl g0)))) (gS rfl (gS rfl (gS rfl g0))) (gS rfl (gS rfl g0)) (gS rfl g0) (fun g => ?_)
    refine c_seq (fun K2 hK2 => ?_)
    exact (by
      refine c_region ?_
      refine l_step (y_moveV (et g0 rfl)) ?_
      refine l_eff (e_callV cal_183 (aC (et g0 rfl) aN) (m_running hX.ex hs hp)) (fun v3 w3 h3 => ?_)
      obtain ⟨rfl, u3⟩ := h3
      replace hX := hX.up u3
      replace U := U.tr u3
      refine l_step (y_assignV (et g0 rfl)) ?_
      refine l_nil ?_
      refine hK2 _ _ ?_
      refine fg7 5 4 3 2 1 0 13 (gS rfl (gS rfl (gS rfl (gS rfl (gS rfl (gS rfl (gS rfl (gS rfl g0)))))))) (gS rfl (gS rfl (gS rfl (gS rfl (gS rfl (gS rfl (gS rfl g0))))))) (gS rfl (gS rfl (gS rfl (gS rfl (gS rfl (gS rfl g0)))))) (gS rfl (gS rfl (gS rfl (gS rfl (gS rfl g0))))) (gS rfl (gS rfl (gS rfl (gS rfl g0)))) (gS rfl (gS rfl (gS rfl g0))) g0 (fun g => ?_)
      refine c_seq (fun K4 hK4 => ?_)
      refine c_seq (fun K5 hK5 => ?_)
      exact (by
        refine c_region ?_
        refine l_step (y_moveV (et g0 rfl)) ?_
        refine l_step (y_eqlNil Hvaa.underlying276 (et g0 rfl) rfl) ?_
        refine l_nil ?_
        refine hK5 _ _ ?_
        refine fg8 5 4 3 2 1 0 13 17 (gS rfl (gS rfl (gS rfl (gS rfl (gS rfl (gS rfl (gS rfl (gS rfl g0)))))))) (gS rfl (gS rfl (gS rfl (gS rfl (gS rfl (gS rfl (gS rfl g0))))))) (gS rfl (gS rfl (gS rfl (gS rfl (gS rfl (gS rfl g0)))))) (gS rfl (gS rfl (gS rfl (gS rfl (gS rfl g0))))) (gS rfl (gS rfl (gS rfl (gS rfl g0)))) (gS rfl (gS rfl (gS rfl g0))) (gS rfl (gS rfl g0)) g0 (fun g => ?_)
        refine c_false (et g0 rfl) rfl ?_
        refine c_skip ?_
        refine hK4 _ _ ?_
        refine fg7 5 4 3 2 1 0 13 (gS rfl (gS rfl (gS rfl (gS rfl (gS rfl (gS rfl (gS rfl g0))))))) (gS rfl (gS rfl (gS rfl (gS rfl (gS rfl (gS rfl g0)))))) (gS rfl (gS rfl (gS rfl (gS rfl (gS rfl g0))))) (gS rfl (gS rfl (gS rfl (gS rfl g0)))) (gS rfl (gS rfl (gS rfl g0))) (gS rfl (gS rfl g0)) (gS rfl g0) (fun g => ?_)
        refine c_seq (fun K7 hK7 => ?_)
        refine c_block (fun Q8 hQ8 => ?_)
        refine c_seq (fun K9 hK9 => ?_)
        exact (by
          refine c_region ?_
          refine l_step (y_moveV (et (gS rfl (gS rfl (gS rfl (gS rfl (gS rfl (gS rfl g0)))))) rfl)) ?_
          refine l_step (y_not (et g0 rfl)) ?_
          refine l_step (y_assignV (et g0 rfl)) ?_
          refine l_nil ?_
          refine hK9 _ _ ?_
          refine fg7 4 3 2 1 0 13 20 (gS rfl (gS rfl (gS rfl (gS rfl (gS rfl (gS rfl (gS rfl (gS rfl g0)))))))) (gS rfl (gS rfl (gS rfl (gS rfl (gS rfl (gS rfl (gS rfl g0))))))) (gS rfl (gS rfl (gS rfl (gS rfl (gS rfl (gS rfl g0)))))) (gS rfl (gS rfl (gS rfl (gS rfl (gS rfl g0))))) (gS rfl (gS rfl (gS rfl (gS rfl g0)))) (gS rfl (gS rfl (gS rfl g0))) g0 (fun g => ?_)
          refine c_cond (et g0 rfl) (fun cB2 => ?_) (fun cB2 => ?_)
          · skip
            
            have hkn : knN q = false := by simpa using cB2
            refine c_seq (fun K11 hK11 => ?_)
            exact (by
              refine c_region ?_
              refine l_step (y_moveV (et (gS rfl (gS rfl g0)) rfl)) ?_
              refine l_eff (e_callV cal_185 (aC (et g0 rfl) (aC (v := .int .u8 ((5 : Nat) : Int)) rfl aN)) (m_fail hX.ex hs hp 5 (by decide) hms hap hpar)) (fun v12 w12 h12 => ?_)
              obtain ⟨rfl, hO12⟩ := h12
              replace hX := hX.xo hO12
              replace U := U.cc hO12.chc (by intro b hb; exact .inl trivial)
              refine l_step (y_assignV (et g0 rfl)) ?_
              refine l_nil ?_
              refine hK11 _ _ ?_
              refine fg1 12 g0 (fun g => ?_)
              refine c_ret ?_
              refine hQ8 _ _ _ (in_ret ?_)
              repeat with_reducible refine then_ret ?_
              refine ret1 rfl (res_tmp (et g0 rfl)) ?_
              rw [asN, if_pos hkn]
              exact ⟨rfl, hX⟩)
          · skip
            
            have hkn : ¬ knN q = false := by simpa using cB2
            refine c_seq (fun K13 hK13 => ?_)
            exact (by
              refine c_region ?_
              refine l_step (y_moveV (et (gS rfl g0) rfl)) ?_
              refine l_step (y_nil (et g0 rfl)) ?_
              refine l_step (y_fld fld_71_6 (et g0 rfl)) ?_
              refine l_step (y_load1 one_67 (et g0 rfl) (at1 (hX.ex.vl.c1 (hR.r1 6 _ rfl) (by omega)))) ?_
              refine l_step (y_moveV (et (gS rfl (gS rfl (gS rfl (gS rfl (gS rfl (gS rfl (gS rfl (gS rfl g0)))))))) rfl)) ?_
              refine l_step (y_conv Hvaa.underlying5 Hvaa.underlying67 (et g0 rfl) (wrapU_id uk16 ?_)) ?_
              omega
              refine l_step (y_lss (et (gS rfl (gS rfl g0)) rfl) (et g0 rfl)) ?_
              refine l_step (y_assignV (et g0 rfl)) ?_
              refine l_nil ?_
              refine hK13 _ _ ?_
              refine fg7 4 3 2 1 0 13 25 (gS rfl (gS rfl (gS rfl (gS rfl (gS rfl (gS rfl (gS rfl (gS rfl (gS rfl (gS rfl (gS rfl (gS rfl (gS rfl (gS rfl g0)))))))))))))) (gS rfl (gS rfl (gS rfl (gS rfl (gS rfl (gS rfl (gS rfl (gS rfl (gS rfl (gS rfl (gS rfl (gS rfl (gS rfl g0))))))))))))) (gS rfl (gS rfl (gS rfl (gS rfl (gS rfl (gS rfl (gS rfl (gS rfl (gS rfl (gS rfl (gS rfl (gS rfl g0)))))))))))) (gS rfl (gS rfl (gS rfl (gS rfl (gS rfl (gS rfl (gS rfl (gS rfl (gS rfl (gS rfl (gS rfl g0))))))))))) (gS rfl (gS rfl (gS rfl (gS rfl (gS rfl (gS rfl (gS rfl (gS rfl (gS rfl (gS rfl g0)))))))))) (gS rfl (gS rfl (gS rfl (gS rfl (gS rfl (gS rfl (gS rfl (gS rfl (gS rfl g0))))))))) g0 (fun g => ?_)
              refine c_cond (et g0 rfl) (fun cB3 => ?_) (fun cB3 => ?_)
              · skip
                
                have h3 : f.stack.length < tkN q := by have := of_decide_eq_true cB3; omega
                refine c_seq (fun K15 hK15 => ?_)
                exact (by
                  refine c_region ?_
                  refine l_step (y_moveV (et (gS rfl (gS rfl g0)) rfl)) ?_
                  refine l_eff (e_callV cal_185 (aC (et g0 rfl) (aC (v := .int .u8 ((3 : Nat) : Int)) rfl aN)) (m_fail hX.ex hs hp 3 (by decide) hms hap hpar)) (fun v16 w16 h16 => ?_)
                  obtain ⟨rfl, hO16⟩ := h16
                  replace hX := hX.xo hO16
                  replace U := U.cc hO16.chc (by intro b hb; exact .inl trivial)
                  refine l_step (y_assignV (et g0 rfl)) ?_
                  refine l_nil ?_
                  refine hK15 _ _ ?_
                  refine fg1 12 g0 (fun g => ?_)
                  refine c_ret ?_
                  refine hQ8 _ _ _ (in_ret ?_)
                  repeat with_reducible refine then_ret ?_
                  refine ret1 rfl (res_tmp (et g0 rfl)) ?_
                  rw [asN, if_neg hkn, if_pos h3]
                  exact ⟨rfl, hX⟩)
              · skip
                
                have h3 : ¬ f.stack.length < tkN q := by have := of_decide_eq_false cB3; omega
                refine c_seq (fun K17 hK17 => ?_)
                exact (by
                  refine c_region ?_
                  refine l_step (y_moveV (et (gS rfl g0) rfl)) ?_
                  refine l_step (y_nil (et g0 rfl)) ?_
                  refine l_step (y_fld fld_71_6 (et g0 rfl)) ?_
                  refine l_step (y_load1 one_67 (et g0 rfl) (at1 (hX.ex.vl.c1 (hR.r1 6 _ rfl) (by omega)))) ?_
                  refine l_step (y_moveV (et (gS rfl (gS rfl (gS rfl (gS rfl (gS rfl (gS rfl (gS rfl (gS rfl g0)))))))) rfl)) ?_
                  refine l_step (y_conv Hvaa.underlying5 Hvaa.underlying67 (et g0 rfl) (wrapU_id uk16 ?_)) ?_
                  omega
                  refine l_step (y_sub (et (gS rfl (gS rfl g0)) rfl) (et g0 rfl) (wrapU_subN uk16 ?_ ?_)) ?_
                  omega
                  omega
                  refine l_step (y_moveV (et (gS rfl (gS rfl (gS rfl (gS rfl (gS rfl (gS rfl (gS rfl (gS rfl (gS rfl (gS rfl (gS rfl (gS rfl g0)))))))))))) rfl)) ?_
                  refine l_step (y_conv Hvaa.underlying5 Hvaa.underlying67 (et g0 rfl) (wrapU_id uk16 ?_)) ?_
                  omega
                  refine l_step (y_add (et (gS rfl (gS rfl g0)) rfl) (et g0 rfl) (wrapU_addN uk16 ?_)) ?_
                  omega
                  refine l_step (y_gtr (et g0 rfl) rfl) ?_
                  refine l_step (y_assignV (et g0 rfl)) ?_
                  refine l_nil ?_
                  refine hK17 _ _ ?_
                  refine fg4 4 1 0 35 (gS rfl (gS rfl (gS rfl (gS rfl (gS rfl (gS rfl (gS rfl (gS rfl (gS rfl (gS rfl (gS rfl (gS rfl (gS rfl (gS rfl (gS rfl (gS rfl (gS rfl (gS rfl g0)))))))))))))))))) (gS rfl (gS rfl (gS rfl (gS rfl (gS rfl (gS rfl (gS rfl (gS rfl (gS rfl (gS rfl (gS rfl (gS rfl (gS rfl (gS rfl (gS rfl g0))))))))))))))) (gS rfl (gS rfl (gS rfl (gS rfl (gS rfl (gS rfl (gS rfl (gS rfl (gS rfl (gS rfl (gS rfl (gS rfl (gS rfl (gS rfl g0)))))))))))))) g0 (fun g => ?_)
                  refine c_cond (et g0 rfl) (fun cB4 => ?_) (fun cB4 => ?_)
                  · skip
                    
                    have h4 : 64 < f.stack.length - tkN q + gvN q := by have := of_decide_eq_true cB4; omega
                    refine c_seq (fun K19 hK19 => ?_)
                    exact (by
                      refine c_region ?_
                      refine l_step (y_moveV (et (gS rfl g0) rfl)) ?_
                      refine l_eff (e_callV cal_185 (aC (et g0 rfl) (aC (v := .int .u8 ((4 : Nat) : Int)) rfl aN)) (m_fail hX.ex hs hp 4 (by decide) hms hap hpar)) (fun v20 w20 h20 => ?_)
                      obtain ⟨rfl, hO20⟩ := h20
                      replace hX := hX.xo hO20
                      replace U := U.cc hO20.chc (by intro b hb; exact .inl trivial)
                      refine l_step (y_assignV (et g0 rfl)) ?_
                      refine l_nil ?_
                      refine hK19 _ _ ?_
                      refine fg1 12 g0 (fun g => ?_)
                      refine c_ret ?_
                      refine hQ8 _ _ _ (in_ret ?_)
                      repeat with_reducible refine then_ret ?_
                      refine ret1 rfl (res_tmp (et g0 rfl)) ?_
                      rw [asN, if_neg hkn, if_neg h3, if_pos h4]
                      exact ⟨rfl, hX⟩)
                  · skip
                    
                    have h4 : ¬ 64 < f.stack.length - tkN q + gvN q := by have := of_decide_eq_false cB4; omega
                    refine c_skip ?_
                    refine hQ8 _ _ _ (in_normal ?_)
                    refine hK7 _ _ ?_
                    refine fg3 4 1 0 (gS rfl (gS rfl (gS rfl g0))) (gS rfl (gS rfl g0)) (gS rfl g0) (fun g => ?_)
                    refine c_seq (fun K21 hK21 => ?_)
                    exact (by
                      refine c_region ?_
                      refine l_step (y_moveV (et g0 rfl)) ?_
                      refine l_step (y_moveV (et (gS rfl (gS rfl g0)) rfl)) ?_
                      refine l_step (y_moveV (et (gS rfl (gS rfl (gS rfl (gS rfl g0)))) rfl)) ?_
                      have hps9 : psN s f q ≠ 0 := by rw [asN, if_neg hkn, if_neg h3, if_neg h4] at h0; exact h0
                      refine l_eff (e_callV cal_188 (aC (et (gS rfl (gS rfl g0)) rfl) (aC (et (gS rfl g0) rfl) (aC (et g0 rfl) aN))) (m_passF hX.ex hs hp hms hap hpar q hq256 hrl hps9)) (fun v22 w22 h22 => ?_)
                      obtain ⟨rfl, hO22⟩ := h22
                      replace hX := hX.xo hO22
                      replace U := U.cc hO22.chc (by intro b hb; exact .inl trivial)
                      refine l_step (y_assignV (et g0 rfl)) ?_
                      refine l_nil ?_
                      refine hK21 _ _ ?_
                      refine fg1 12 g0 (fun g => ?_)
                      refine c_ret ?_
                      repeat with_reducible refine then_ret ?_
                      refine ret1 rfl (res_tmp (et g0 rfl)) ?_
                      rw [asN, if_neg hkn, if_neg h3, if_neg h4]
                      exact ⟨rfl, hX⟩)))))))
theorem m_runNative0 {w : World} {H : Store} {col : Nat → Nat} {bc : Nat} {cs : Array Value} {V : EV} {s : YSt} {sn : List Nat} {sv : List AW} {ms : List (List Nat)} {c : Nat} {low : List YF} {f : YF} (hE : EX w H col bc cs V s sn sv ms c) (hs : s.frames = low ++ [f]) (hp : s.phase = 1) (hnat : f.ntv = 0) :
    Ret 107 [.pointer (some ⟨bc, 0, none⟩)] w (fun v w' => v = .bool false ∧ Up w w') := by
  obtain ⟨n9, hn9, hR⟩ := hE.topF hs
  have hB := hE.fbT hs
  have h6 := hE.six hs
  have htop := hE.cTop hs
  have hphs := hE.cPh hp
  have hbp := hB.pc
  have hbs := hB.stk
  have hbg := hB.gas
  have hbc9 := hB.code
  have hnw := hE.vl.new
  have hfz := hE.vl.fz
  have hcC := hE.vl.colC
  have hbc0 := hE.vl.kC.lt
  refine enter (n := 61) Hvaa.func107 rfl rfl (Nat.le_of_ble_eq_true rfl) ?_
  have U := Up.refl w
  refine c_seq (fun K1 hK1 => ?_)
  exact (by
    refine c_region ?_
    refine l_step y_assignC ?_
    refine l_nil ?_
    refine hK1 _ _ ?_
    refine fg1 0 (gS rfl g0) (fun g => ?_)
    refine c_seq (fun K2 hK2 => ?_)
    exact (by
      refine c_region ?_
      refine l_step (y_moveV (et g0 rfl)) ?_
      refine l_eff (e_callV cal_183 (aC (et g0 rfl) aN) (m_running hE hs hp)) (fun v3 w3 h3 => ?_)
      obtain ⟨rfl, u3⟩ := h3
      replace hE := hE.up u3
      replace U := U.tr u3
      refine l_step (y_assignV (et g0 rfl)) ?_
      refine l_nil ?_
      refine hK2 _ _ ?_
      refine fg2 0 3 (gS rfl (gS rfl (gS rfl g0))) g0 (fun g => ?_)
      refine c_seq (fun K4 hK4 => ?_)
      refine c_seq (fun K5 hK5 => ?_)
      exact (by
        refine c_region ?_
        refine l_step (y_moveV (et g0 rfl)) ?_
        refine l_step (y_eqlNil Hvaa.underlying276 (et g0 rfl) rfl) ?_
        refine l_step (y_moveV (et g0 rfl)) ?_
        refine l_gstep (j := 2) (t := 10) (by exact rfl) (by exact rfl) (et g0 rfl) (by decide) (y_moveV (et (gS rfl (gS rfl (gS rfl g0))) rfl)) ?_
        refine l_gstep (j := 2) (t := 10) (by exact rfl) (by exact rfl) (et (gS rfl g0) rfl) (by decide) (y_nil (et g0 rfl)) ?_
        refine l_gstep (j := 2) (t := 10) (by exact rfl) (by exact rfl) (et (gS rfl (gS rfl g0)) rfl) (by decide) (y_fld fld_71_2 (et g0 rfl)) ?_
        refine l_gstep (j := 2) (t := 10) (by exact rfl) (by exact rfl) (et (gS rfl (gS rfl (gS rfl g0))) rfl) (by decide) (y_load1 one_5 (et g0 rfl) (at1 (hE.vl.c1 (hR.r1 2 _ rfl) (by omega)))) ?_
        refine l_gstep (j := 2) (t := 10) (by exact rfl) (by exact rfl) (et (gS rfl (gS rfl (gS rfl (gS rfl g0)))) rfl) (by decide) (y_eql (et g0 rfl) rfl) ?_
        refine l_step (y_pickF (et (gS rfl (gS rfl (gS rfl (gS rfl (gS rfl g0))))) rfl) (et g0 rfl)) ?_
        refine l_nil ?_
        refine hK5 _ _ ?_
        refine fg3 0 3 16 (gS rfl (gS rfl (gS rfl (gS rfl (gS rfl (gS rfl (gS rfl (gS rfl (gS rfl (gS rfl g0)))))))))) (gS rfl (gS rfl (gS rfl (gS rfl (gS rfl (gS rfl (gS rfl (gS rfl (gS rfl g0))))))))) g0 (fun g => ?_)
        refine c_true (et g0 rfl) (by (exact decide_eq_true (by omega))) ?_
        refine c_seq (fun K7 hK7 => ?_)
        exact (by
          refine c_region ?_
          refine l_step y_assignC ?_
          refine l_nil ?_
          refine hK7 _ _ ?_
          refine fg1 2 g0 (fun g => ?_)
          refine c_ret ?_
          repeat with_reducible refine then_ret ?_
          refine ret1 rfl (res_tmp (et g0 rfl)) ?_
          exact ⟨rfl, U⟩))))
end Go.Proofs.YgvaawGreat
