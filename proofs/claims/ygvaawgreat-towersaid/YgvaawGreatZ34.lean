import Derived.Test.YgvaawGreatZ33
set_option maxRecDepth 100000
set_option maxHeartbeats 4000000
set_option linter.unusedSimpArgs false
set_option linter.unusedVariables false
namespace Go.Proofs.YgvaawGreat
open Go
section
variable {w w' : World} {H : Store} {col : Nat → Nat} {bc : Nat} {cs : Array Value} {V : EV} {s : YSt} {sn : List Nat} {sv : List AW} {ms : List (List Nat)} {c : Nat}
theorem EX.md (hE : EX w H col bc cs V s sn sv ms c) (a : Nat) : (absV V).made a = decide (a ∈ s.now.made) := by rw [hE.px.va.abs]; rfl
theorem EX.gn9 (hE : EX w H col bc cs V s sn sv ms c) (a : Nat) : (absV V).gone a = decide (a ∈ s.now.gone) := by rw [hE.px.va.abs]; rfl
theorem EX.mdC (hE : EX w H col bc cs V s sn sv ms c) (a : Nat) (ha : a < A160) : Ret 312 [.pointer (some ⟨bc, 2435, none⟩), aV a] w (fun v w' => v = .bool (decide (a ∈ s.now.made)) ∧ Up w w') := by
  have h := v_isMade hE.vl hE.ok a ha
  rw [hE.md] at h
  exact h
theorem EX.gnC (hE : EX w H col bc cs V s sn sv ms c) (a : Nat) (ha : a < A160) : Ret 313 [.pointer (some ⟨bc, 2435, none⟩), aV a] w (fun v w' => v = .bool (decide (a ∈ s.now.gone)) ∧ Up w w') := by
  have h := v_isGone hE.vl hE.ok a ha
  rw [hE.gn9] at h
  exact h
end
theorem m_opDestruct {w : World} {H : Store} {col : Nat → Nat} {bc : Nat} {cs : Array Value} {V : EV} {s : YSt} {sn : List Nat} {sv : List AW} {ms : List (List Nat)} {c : Nat} {low : List YF} {f : YF} (hE : EX w H col bc cs V s sn sv ms c) (hs : s.frames = low ++ [f]) (hp : s.phase = 1) (hms : ms = (low ++ [f]).map (fun g => g.mem)) (hap : s.applied ≤ 4) (hpar : Par low) {c' : Nat} (hc1 : c' + 75 ≤ c) (hc2 : (desT f) ∉ s.now.warmA → c' + 75 + 2600 ≤ c) (hsum : (desT f) ≠ f.self → (acctAt (takeB s.now.accts f.self (acctAt s.now.accts f.self).bal) (desT f)).bal + (acctAt s.now.accts f.self).bal < W256) :
    Ret 202 [.pointer (some ⟨bc, 0, none⟩)] w (fun v w' => v = .tuple #[] ∧ XO w H col w' bc (lvY (desS s f) f 0 [] low) c') := by
  obtain ⟨n9, hn9, hR⟩ := hE.topF hs
  have hB := hE.fbT hs
  have h6 := hE.six hs
  have htop := hE.cTop hs
  have hphs := hE.cPh hp
  have hbp := hB.pc
  have hbs := hB.stk
  have hbg := hB.gas
  have hbc9 := hB.code
  have hnw := hE.vl.new
  have hfz := hE.vl.fz
  have hcC := hE.vl.colC
  have hbc0 := hE.vl.kC.lt
  have hX := XT.refl hE
  refine enter (n := 80) Hvaa.func202 rfl rfl (Nat.le_of_ble_eq_true rfl) ?_
  have U : Ch (fun _ => True) w w := Ch.refl _ w
  refine c_seq (fun K1 hK1 => ?_)
  exact (by
    refine c_region ?_
    refine l_step (y_moveV (et g0 rfl)) ?_
    refine l_eff (e_callV cal_183 (aC (et g0 rfl) aN) (m_running hX.ex hs hp)) (fun v2 w2 h2 => ?_)
    obtain ⟨rfl, u2⟩ := h2
    replace hX := hX.up u2
    replace U := U.tr u2
    refine l_step (y_assignV (et g0 rfl)) ?_
    refine l_nil ?_
    refine hK1 _ _ ?_
    refine fg2 0 2 (gS rfl (gS rfl (gS rfl g0))) g0 (fun g => ?_)
    refine c_seq (fun K3 hK3 => ?_)
    refine c_seq (fun K4 hK4 => ?_)
    exact (by
      refine c_region ?_
      refine l_step (y_moveV (et g0 rfl)) ?_
      refine l_step (y_eqlNil Hvaa.underlying276 (et g0 rfl) rfl) ?_
      refine l_nil ?_
      refine hK4 _ _ ?_
      refine fg3 0 2 8 (gS rfl (gS rfl (gS rfl g0))) (gS rfl (gS rfl g0)) g0 (fun g => ?_)
      refine c_false (et g0 rfl) rfl ?_
      refine c_skip ?_
      refine hK3 _ _ ?_
      refine fg2 0 2 (gS rfl (gS rfl g0)) (gS rfl g0) (fun g => ?_)
      refine c_seq (fun K6 hK6 => ?_)
      exact (by
        refine c_region ?_
        refine l_step (y_moveV (et (gS rfl g0) rfl)) ?_
        refine l_step (y_moveV (et (gS rfl g0) rfl)) ?_
        refine l_eff (e_callV cal_264 (aC (et (gS rfl g0) rfl) (aC (et g0 rfl) (aC (v := .int .i64 ((0 : Nat) : Int)) rfl aN))) (m_arg hX.ex hs hp (by first | exact hpf | rfl) _ (by decide))) (fun v7 w7 h7 => ?_)
        obtain ⟨rfl, u7⟩ := h7
        replace hX := hX.up u7
        replace U := U.tr u7
        refine l_eff (e_callV cal_293 (aC (et g0 rfl) aN) (mach_addrOf _ _ (argN_lt hB _))) (fun v8 w8 h8 => ?_)
        obtain ⟨rfl, u8⟩ := h8
        replace hX := hX.up u8
        replace U := U.tr u8
        refine l_eff (e_alloc zr_25) (fun v9 w9 h9 => ?_)
        obtain ⟨b9, rfl, n9⟩ := h9
        have f9 : w.heap.size ≤ b9 := Nat.le_trans U.size n9.fresh
        replace hX := hX.up n9.up
        replace U := U.tr n9.up
        have k9 := n9.blk
        obtain ⟨zs9, hz9, k9⟩ : ∃ cs : Array Value, cs.size = 20 ∧ Blk w9 b9 cs := ⟨_, rfl, k9⟩
        have nc9 : col b9 = 0 := hnw _ f9
        refine l_effN (e_store sz_25 (et g0 rfl) (cellsV (et (gS rfl g0) rfl) rfl) (by rw [length_bL, length_be]) (by exact one_bL _) k9 (by (rw [hz9]; exact Nat.le_refl _))) (fun v10 w10 h10 => ?_)
        obtain ⟨rfl, x10⟩ := h10
        replace hX := hX.ch x10.ch (by first | omega | (intro b hb; first | (subst hb; first | exact ⟨by omega, fun hh => by have := hfz.lt hh; omega, by omega⟩ | exact ⟨by omega, by assumption, by omega⟩) | (rcases hb with hb | hb <;> (subst hb; first | exact ⟨by omega, fun hh => by have := hfz.lt hh; omega, by omega⟩ | exact ⟨by omega, by assumption, by omega⟩))))
        replace k9 := x10.blk.full (by rw [hz9, length_bL, length_be])
        replace U := U.st x10 (.inr f9)
        refine l_nil ?_
        refine hK6 _ _ ?_
        refine fg3 0 2 3 (gS rfl (gS rfl (gS rfl (gS rfl (gS rfl (gS rfl g0)))))) (gS rfl (gS rfl (gS rfl (gS rfl (gS rfl g0))))) g0 (fun g => ?_)
        refine c_seq (fun K11 hK11 => ?_)
        exact (by
          refine c_region ?_
          refine l_step (y_moveV (et (gS rfl (gS rfl g0)) rfl)) ?_
          refine l_step (y_loadB agg_25 sz_25 (et (gS rfl g0) rfl) (by rw [List.size_toArray, length_bL, length_be]) (at1B k9)) ?_
          refine l_eff (e_callV cal_294 (aC (et (gS rfl g0) rfl) (aC (et g0 rfl) aN)) (m_warmAcct hX.ex hs hp (desT f) (Nat.mod_lt _ A160_pos) hap (c' := c' + 75) (by omega) (fun h => by have := hc2 h; omega))) (fun v12 w12 h12 => ?_)
          obtain ⟨rfl, cl12, cs12, V12, y12⟩ := h12
          have nc9 := (y12.et.col b9 k9.lt).trans nc9
          have kp12 := hX.ex.vl.kC
          replace k9 := k9.ch y12.et.go.ch (by intro hm; (have e0 := hm); omega)
          replace hX := hX.trans y12
          replace U := U.cc y12.et.go.ch (by intro b hb; exact .inl trivial)
          obtain ⟨s1, hs1⟩ : ∃ s1 : YSt, s1 = { s with now := { s.now with warmA := withA s.now.warmA (desT f) } } := ⟨_, rfl⟩
          replace hX := hX.reS hs1
          have hsf1 : s1.frames = low ++ [f] := by rw [hs1]; exact hs
          have hph1 : s1.phase = 1 := by rw [hs1]; exact hp
          have hac : s1.now.accts = s.now.accts := by rw [hs1]
          have hap1 : s1.applied ≤ 4 := by rw [hs1]; exact hap
          have hnw1 := hX.ex.vl.new
          have hht : hasA V12 (desT f) := hX.ex.hasW (by rw [hs1]; exact (mem_withA _ _ _).2 (.inl rfl))
          have hh1 := (hX.ex.px.has f (by rw [hsf1]; simp)).1
          refine l_step (y_assignV (et g0 rfl)) ?_
          refine l_nil ?_
          refine hK11 _ _ ?_
          refine fg4 0 2 3 4 (gS rfl (gS rfl (gS rfl (gS rfl (gS rfl (gS rfl g0)))))) (gS rfl (gS rfl (gS rfl (gS rfl (gS rfl g0))))) (gS rfl (gS rfl (gS rfl (gS rfl g0)))) g0 (fun g => ?_)
          refine c_seq (fun K13 hK13 => ?_)
          refine c_seq (fun K14 hK14 => ?_)
          exact (by
            refine c_draw Up 9 [(0, true), (1, true), (2, true), (3, true), (4, true), (5, true), (6, true), (7, true), (8, true)] (by kernel_rfl) (fun w15 hu => ⟨Up.refl _, ?_⟩)
            replace k9 := k9.up hu
            replace hX := hX.up hu
            replace U := U.tr hu
            have SU := Up.refl w15
            refine p_step (by exact rfl) (y_moveV (et g0 rfl)) ?_
            refine p_step (by exact rfl) (y_moveV (et g0 rfl)) ?_
            refine gsplitP (i := 17) g0 (fun q16 => ?_) (fun q16 => ?_)
            · skip
              refine p_gstep (j := 1) (t := 17) (by exact rfl) (by exact rfl) (by exact rfl) (et g0 rfl) rfl (y_loadB agg_25 sz_25 (et (gS rfl (gS rfl (gS rfl (gS rfl g0)))) rfl) (by rw [List.size_toArray, length_bL, length_be]) (atSB k9)) ?_
              refine p_gstep (j := 1) (t := 17) (by exact rfl) (by exact rfl) (by exact rfl) (et (gS rfl g0) rfl) rfl (y_moveV (et (gS rfl (gS rfl (gS rfl (gS rfl (gS rfl (gS rfl g0)))))) rfl)) ?_
              refine p_gstep (j := 1) (t := 17) (by exact rfl) (by exact rfl) (by exact rfl) (et (gS rfl (gS rfl g0)) rfl) rfl (y_nil (et g0 rfl)) ?_
              refine p_gstep (j := 1) (t := 17) (by exact rfl) (by exact rfl) (by exact rfl) (et (gS rfl (gS rfl (gS rfl g0))) rfl) rfl (y_fld fld_71_9 (et g0 rfl)) ?_
              refine p_gstep (j := 1) (t := 17) (by exact rfl) (by exact rfl) (by exact rfl) (et (gS rfl (gS rfl (gS rfl (gS rfl g0)))) rfl) rfl (y_loadR agg_25 sz_25 (et g0 rfl) (by rw [length_bL, length_be]) (atSR (hX.ex.vl.kC.rowO (hX.ex.selfR hsf1) (by omega)))) ?_
              refine p_gstep (j := 1) (t := 17) (by exact rfl) (by exact rfl) (by exact rfl) (et (gS rfl (gS rfl (gS rfl (gS rfl (gS rfl g0))))) rfl) rfl (y_neqAddr (Nat.mod_lt _ A160_pos) hB.self (et (gS rfl (gS rfl (gS rfl (gS rfl g0)))) rfl) (et g0 rfl)) ?_
              refine p_step (by exact rfl) (y_pickT (et (gS rfl (gS rfl (gS rfl (gS rfl (gS rfl (gS rfl g0)))))) rfl) (et g0 rfl)) ?_
              refine p_nil ?_
              refine hK14 _ _ ?_
              refine fg5 0 2 3 4 24 (gS rfl (gS rfl (gS rfl (gS rfl (gS rfl (gS rfl (gS rfl (gS rfl (gS rfl (gS rfl (gS rfl (gS rfl (gS rfl g0))))))))))))) (gS rfl (gS rfl (gS rfl (gS rfl (gS rfl (gS rfl (gS rfl (gS rfl (gS rfl (gS rfl (gS rfl (gS rfl g0)))))))))))) (gS rfl (gS rfl (gS rfl (gS rfl (gS rfl (gS rfl (gS rfl (gS rfl (gS rfl (gS rfl (gS rfl g0))))))))))) (gS rfl (gS rfl (gS rfl (gS rfl (gS rfl (gS rfl (gS rfl (gS rfl (gS rfl (gS rfl g0)))))))))) g0 (fun g => ?_)
              refine c_cond (et g0 rfl) (fun cB2 => ?_) (fun cB2 => ?_)
              · skip
                
                have hne : desT f ≠ f.self := of_decide_eq_true cB2
                exact (by
                  refine c_draw (SXF _ bc (1803 + 65 * low.length + 9) (bL (be 20 f.self))) 17 [(0, true), (1, true), (2, true), (3, true), (4, true), (5, true), (6, true), (7, true), (8, true), (9, true), (10, true), (11, true), (12, true), (13, true), (14, false), (15, false), (16, true)] (by kernel_rfl) (fun w18 hu => ⟨SXF.refl (hX.up hu) ((hX.up hu).ex.selfR hsf1), ?_⟩)
                  replace k9 := k9.up hu
                  replace hX := hX.up hu
                  replace U := U.tr hu
                  have SU := SXF.refl hX (hX.ex.selfR hsf1)
                  have cq := cq_refl hX
                  have hX_s := hX
                  have k9_s := k9
                  refine p_step (by exact rfl) (y_moveV (et (gS rfl (gS rfl (gS rfl (gS rfl g0)))) rfl)) ?_
                  refine p_step (by exact rfl) (y_moveV (et (gS rfl (gS rfl (gS rfl (gS rfl g0)))) rfl)) ?_
                  refine p_step (by exact rfl) (y_nil (et g0 rfl)) ?_
                  refine p_step (by exact rfl) (y_fld fld_71_9 (et g0 rfl)) ?_
                  refine p_step (by exact rfl) (y_loadR agg_25 sz_25 (et g0 rfl) (by rw [length_bL, length_be]) (atXFR)) ?_
                  refine p_step (by exact rfl) (y_loadB agg_25 sz_25 (et (gS rfl (gS rfl (gS rfl (gS rfl (gS rfl (gS rfl (gS rfl g0))))))) rfl) (by rw [List.size_toArray, length_bL, length_be]) (toF (atXB k9_s (by omega)))) ?_
                  refine p_step (by exact rfl) (y_moveV (et (gS rfl (gS rfl (gS rfl (gS rfl (gS rfl (gS rfl (gS rfl (gS rfl (gS rfl (gS rfl g0)))))))))) rfl)) ?_
                  refine p_step (by exact rfl) (y_nil (et g0 rfl)) ?_
                  refine p_step (by exact rfl) (y_fld fld_75_0 (et g0 rfl)) ?_
                  refine p_step (by exact rfl) (y_load1 one_59 (et g0 rfl) (atXFP)) ?_
                  refine p_step (by exact rfl) (y_moveV (et (gS rfl (gS rfl (gS rfl (gS rfl (gS rfl (gS rfl (gS rfl (gS rfl (gS rfl (gS rfl (gS rfl (gS rfl (gS rfl g0))))))))))))) rfl)) ?_
                  refine p_step (by exact rfl) (y_nil (et g0 rfl)) ?_
                  refine p_step (by exact rfl) (y_fld fld_71_9 (et g0 rfl)) ?_
                  refine p_step (by exact rfl) (y_loadR agg_25 sz_25 (et g0 rfl) (by rw [length_bL, length_be]) (atXFR)) ?_
                  refine p_eff (by exact rfl) (e_callV cal_99 (aC (et (gS rfl (gS rfl (gS rfl (gS rfl g0)))) rfl) (aC (et g0 rfl) aN)) (hX.ex.balC f.self hB.self)) (fun v19 w19 h19 => ?_)
                  obtain ⟨rfl, u19⟩ := h19
                  replace k9 := k9.up u19
                  replace hX := hX.up u19
                  replace U := U.tr u19
                  refine ⟨.inr (SU.tr u19), ?_⟩
                  replace SU := SU.tr u19
                  have hba : (acctAt s1.now.accts f.self).bal < W256 := by have h9 := hX.ex.balt f.self; rw [hX.ex.bl] at h9; exact h9
                  refine p_eff (by exact rfl) (e_callV cal_182 (aC (et (gS rfl (gS rfl (gS rfl (gS rfl (gS rfl (gS rfl (gS rfl (gS rfl (gS rfl (gS rfl (gS rfl (gS rfl (gS rfl (gS rfl g0)))))))))))))) rfl) (aC (et (gS rfl (gS rfl (gS rfl (gS rfl (gS rfl (gS rfl (gS rfl (gS rfl (gS rfl (gS rfl g0)))))))))) rfl) (aC (et (gS rfl (gS rfl (gS rfl (gS rfl (gS rfl (gS rfl (gS rfl (gS rfl (gS rfl g0))))))))) rfl) (aC (et g0 rfl) aN)))) (m_move hX.ex hsf1 hph1 f.self (desT f) (acctAt s1.now.accts f.self).bal hB.self (Nat.mod_lt _ A160_pos) hba (c' := c' + 25) hap1 (by omega) (fun _ => by omega) hh1 hht (Nat.le_refl _) (fun _ => by rw [hac]; exact hsum hne))) (fun v20 w20 h20 => ?_)
                  obtain ⟨rfl, cl20, cs20, V20, y20⟩ := h20
                  have nc9 := (y20.et.col b9 k9.lt).trans nc9
                  have kp20 := hX.ex.vl.kC
                  replace k9 := k9.ch y20.et.go.ch (by intro hm; (have e0 := hm); omega)
                  replace hX := hX.trans y20
                  replace U := U.cc y20.et.go.ch (by intro b hb; exact .inl trivial)
                  have hh2 := (hX.ex.px.has f (by show f ∈ s1.frames; rw [hsf1]; simp)).1
                  have cq9 := SU.ch.size
                  replace SU := SU.xc y20.et.go.ch (hX.ex.vl.c1 hX.ex.lx.pS rfl) (hX.ex.vl.kC.rowO (hX.ex.selfR hsf1) rfl) (by intro b hlt hb; have h9 := cq b hlt; have e0 := hb; first | exact hb.elim | omega | (dsimp only at e0; omega))
                  replace cq := cq_step cq y20.et.col cq9
                  refine ⟨.inr SU, ?_⟩
                  exact (by
                    refine p_step (by exact rfl) (y_assignV (et g0 rfl)) ?_
                    refine p_nil ?_
                    refine hK13 _ _ ?_
                    refine fg3 0 2 4 (gS rfl (gS rfl (gS rfl (gS rfl (gS rfl (gS rfl (gS rfl (gS rfl (gS rfl (gS rfl (gS rfl (gS rfl (gS rfl (gS rfl (gS rfl (gS rfl (gS rfl (gS rfl (gS rfl (gS rfl (gS rfl g0))))))))))))))))))))) (gS rfl (gS rfl (gS rfl (gS rfl (gS rfl (gS rfl (gS rfl (gS rfl (gS rfl (gS rfl (gS rfl (gS rfl (gS rfl (gS rfl (gS rfl (gS rfl (gS rfl (gS rfl (gS rfl (gS rfl g0)))))))))))))))))))) g0 (fun g => ?_)
                    refine c_seq (fun K21 hK21 => ?_)
                    refine c_seq (fun K22 hK22 => ?_)
                    exact (by
                      refine c_draw Up 24 [(0, true), (1, true), (2, true), (3, true), (4, true), (5, true), (6, true), (7, true), (8, true), (9, true), (10, false), (11, true), (12, true), (13, true), (14, true), (15, true), (16, true), (17, true), (18, true), (19, true), (20, true), (21, false), (22, true), (23, true)] (by kernel_rfl) (fun w23 hu => ⟨Up.refl _, ?_⟩)
                      replace k9 := k9.up hu
                      replace hX := hX.up hu
                      replace U := U.tr hu
                      have SU := Up.refl w23
                      have hX_s := hX
                      have k9_s := k9
                      refine p_step (by exact rfl) (y_moveV (et g0 rfl)) ?_
                      refine p_step (by exact rfl) (y_moveV (et g0 rfl)) ?_
                      refine gsplitP (i := 42) g0 (fun q24 => ?_) (fun q24 => ?_)
                      · skip
                        refine p_gstep (j := 1) (t := 42) (by exact rfl) (by exact rfl) (by exact rfl) (et g0 rfl) rfl (y_moveV (et (gS rfl (gS rfl (gS rfl (gS rfl (gS rfl g0))))) rfl)) ?_
                        refine p_gstep (j := 1) (t := 42) (by exact rfl) (by exact rfl) (by exact rfl) (et (gS rfl g0) rfl) rfl (y_nil (et g0 rfl)) ?_
                        refine p_gstep (j := 1) (t := 42) (by exact rfl) (by exact rfl) (by exact rfl) (et (gS rfl (gS rfl g0)) rfl) rfl (y_fld fld_75_0 (et g0 rfl)) ?_
                        refine p_gstep (j := 1) (t := 42) (by exact rfl) (by exact rfl) (by exact rfl) (et (gS rfl (gS rfl (gS rfl g0))) rfl) rfl (y_load1 one_59 (et g0 rfl) (atS (hX_s.ex.vl.c1 hX_s.ex.lx.pS rfl))) ?_
                        refine p_gstep (j := 1) (t := 42) (by exact rfl) (by exact rfl) (by exact rfl) (et (gS rfl (gS rfl (gS rfl (gS rfl g0)))) rfl) rfl (y_moveV (et (gS rfl (gS rfl (gS rfl (gS rfl (gS rfl (gS rfl (gS rfl (gS rfl g0)))))))) rfl)) ?_
                        refine p_gstep (j := 1) (t := 42) (by exact rfl) (by exact rfl) (by exact rfl) (et (gS rfl (gS rfl (gS rfl (gS rfl (gS rfl g0))))) rfl) rfl (y_nil (et g0 rfl)) ?_
                        refine p_gstep (j := 1) (t := 42) (by exact rfl) (by exact rfl) (by exact rfl) (et (gS rfl (gS rfl (gS rfl (gS rfl (gS rfl (gS rfl g0)))))) rfl) rfl (y_fld fld_71_9 (et g0 rfl)) ?_
                        refine p_gstep (j := 1) (t := 42) (by exact rfl) (by exact rfl) (by exact rfl) (et (gS rfl (gS rfl (gS rfl (gS rfl (gS rfl (gS rfl (gS rfl g0))))))) rfl) rfl (y_loadR agg_25 sz_25 (et g0 rfl) (by rw [length_bL, length_be]) (atSR (hX_s.ex.vl.kC.rowO (hX_s.ex.selfR hsf1) (by omega)))) ?_
                        refine p_geff (j := 1) (t := 42) (by exact rfl) (by exact rfl) (by exact rfl) (et (gS rfl (gS rfl (gS rfl (gS rfl (gS rfl (gS rfl (gS rfl (gS rfl g0)))))))) rfl) rfl (e_callV cal_312 (aC (et (gS rfl (gS rfl (gS rfl (gS rfl g0)))) rfl) (aC (et g0 rfl) aN)) (hX.ex.mdC f.self hB.self)) (fun v25 w25 h25 => ?_)
                        obtain ⟨rfl, u25⟩ := h25
                        replace k9 := k9.up u25
                        replace hX := hX.up u25
                        replace U := U.tr u25
                        refine ⟨.inr (SU.tr u25), ?_⟩
                        replace SU := SU.tr u25
                        refine p_step (by exact rfl) (y_pickT (et (gS rfl (gS rfl (gS rfl (gS rfl (gS rfl (gS rfl (gS rfl (gS rfl (gS rfl g0))))))))) rfl) (et g0 rfl)) ?_
                        refine p_step (by exact rfl) (y_moveV (et g0 rfl)) ?_
                        refine gsplitP (i := 53) g0 (fun q26 => ?_) (fun q26 => ?_)
                        · skip
                          have hmd : f.self ∈ s1.now.made := of_decide_eq_true q26
                          refine p_gstep (j := 12) (t := 53) (by exact rfl) (by exact rfl) (by exact rfl) (et g0 rfl) rfl (y_moveV (et (gS rfl (gS rfl (gS rfl (gS rfl (gS rfl (gS rfl (gS rfl (gS rfl (gS rfl (gS rfl (gS rfl (gS rfl (gS rfl (gS rfl (gS rfl (gS rfl (gS rfl g0))))))))))))))))) rfl)) ?_
                          refine p_gstep (j := 12) (t := 53) (by exact rfl) (by exact rfl) (by exact rfl) (et (gS rfl g0) rfl) rfl (y_nil (et g0 rfl)) ?_
                          refine p_gstep (j := 12) (t := 53) (by exact rfl) (by exact rfl) (by exact rfl) (et (gS rfl (gS rfl g0)) rfl) rfl (y_fld fld_75_0 (et g0 rfl)) ?_
                          refine p_gstep (j := 12) (t := 53) (by exact rfl) (by exact rfl) (by exact rfl) (et (gS rfl (gS rfl (gS rfl g0))) rfl) rfl (y_load1 one_59 (et g0 rfl) (atS (hX_s.ex.vl.c1 hX_s.ex.lx.pS rfl))) ?_
                          refine p_gstep (j := 12) (t := 53) (by exact rfl) (by exact rfl) (by exact rfl) (et (gS rfl (gS rfl (gS rfl (gS rfl g0)))) rfl) rfl (y_moveV (et (gS rfl (gS rfl (gS rfl (gS rfl (gS rfl (gS rfl (gS rfl (gS rfl (gS rfl (gS rfl (gS rfl (gS rfl (gS rfl (gS rfl (gS rfl (gS rfl (gS rfl (gS rfl (gS rfl (gS rfl g0)))))))))))))))))))) rfl)) ?_
                          refine p_gstep (j := 12) (t := 53) (by exact rfl) (by exact rfl) (by exact rfl) (et (gS rfl (gS rfl (gS rfl (gS rfl (gS rfl g0))))) rfl) rfl (y_nil (et g0 rfl)) ?_
                          refine p_gstep (j := 12) (t := 53) (by exact rfl) (by exact rfl) (by exact rfl) (et (gS rfl (gS rfl (gS rfl (gS rfl (gS rfl (gS rfl g0)))))) rfl) rfl (y_fld fld_71_9 (et g0 rfl)) ?_
                          refine p_gstep (j := 12) (t := 53) (by exact rfl) (by exact rfl) (by exact rfl) (et (gS rfl (gS rfl (gS rfl (gS rfl (gS rfl (gS rfl (gS rfl g0))))))) rfl) rfl (y_loadR agg_25 sz_25 (et g0 rfl) (by rw [length_bL, length_be]) (atSR (hX_s.ex.vl.kC.rowO (hX_s.ex.selfR hsf1) (by omega)))) ?_
                          refine p_geff (j := 12) (t := 53) (by exact rfl) (by exact rfl) (by exact rfl) (et (gS rfl (gS rfl (gS rfl (gS rfl (gS rfl (gS rfl (gS rfl (gS rfl g0)))))))) rfl) rfl (e_callV cal_313 (aC (et (gS rfl (gS rfl (gS rfl (gS rfl g0)))) rfl) (aC (et g0 rfl) aN)) (hX.ex.gnC f.self hB.self)) (fun v27 w27 h27 => ?_)
                          obtain ⟨rfl, u27⟩ := h27
                          replace k9 := k9.up u27
                          replace hX := hX.up u27
                          replace U := U.tr u27
                          refine ⟨.inr (SU.tr u27), ?_⟩
                          replace SU := SU.tr u27
                          refine p_gstep (j := 12) (t := 53) (by exact rfl) (by exact rfl) (by exact rfl) (et (gS rfl (gS rfl (gS rfl (gS rfl (gS rfl (gS rfl (gS rfl (gS rfl (gS rfl g0))))))))) rfl) rfl (y_not (et g0 rfl)) ?_
                          refine p_step (by exact rfl) (y_pickT (et (gS rfl (gS rfl (gS rfl (gS rfl (gS rfl (gS rfl (gS rfl (gS rfl (gS rfl (gS rfl g0)))))))))) rfl) (et g0 rfl)) ?_
                          refine p_nil ?_
                          refine hK22 _ _ ?_
                          refine fg4 0 2 4 64 (gS rfl (gS rfl (gS rfl (gS rfl (gS rfl (gS rfl (gS rfl (gS rfl (gS rfl (gS rfl (gS rfl (gS rfl (gS rfl (gS rfl (gS rfl (gS rfl (gS rfl (gS rfl (gS rfl (gS rfl (gS rfl (gS rfl (gS rfl (gS rfl (gS rfl (gS rfl (gS rfl (gS rfl g0)))))))))))))))))))))))))))) (gS rfl (gS rfl (gS rfl (gS rfl (gS rfl (gS rfl (gS rfl (gS rfl (gS rfl (gS rfl (gS rfl (gS rfl (gS rfl (gS rfl (gS rfl (gS rfl (gS rfl (gS rfl (gS rfl (gS rfl (gS rfl (gS rfl (gS rfl (gS rfl (gS rfl (gS rfl (gS rfl g0))))))))))))))))))))))))))) (gS rfl (gS rfl (gS rfl (gS rfl (gS rfl (gS rfl (gS rfl (gS rfl (gS rfl (gS rfl (gS rfl (gS rfl (gS rfl (gS rfl (gS rfl (gS rfl (gS rfl (gS rfl (gS rfl (gS rfl (gS rfl (gS rfl (gS rfl (gS rfl (gS rfl (gS rfl g0)))))))))))))))))))))))))) g0 (fun g => ?_)
                          refine c_cond (et g0 rfl) (fun cB3 => ?_) (fun cB3 => ?_)
                          · skip
                            
                            have hgn : f.self ∉ s1.now.gone := by simpa using cB3
                            exact (by
                              refine c_draw (SXF _ bc (1803 + 65 * low.length + 9) (bL (be 20 f.self))) 10 [(0, true), (1, true), (2, true), (3, true), (4, true), (5, true), (6, true), (7, true), (8, false), (9, true)] (by kernel_rfl) (fun w29 hu => ⟨SXF.refl (hX.up hu) ((hX.up hu).ex.selfR hsf1), ?_⟩)
                              replace k9 := k9.up hu
                              replace hX := hX.up hu
                              replace U := U.tr hu
                              have SU := SXF.refl hX (hX.ex.selfR hsf1)
                              have cq := cq_refl hX
                              have hX_s := hX
                              have k9_s := k9
                              refine p_step (by exact rfl) (y_moveV (et (gS rfl (gS rfl (gS rfl g0))) rfl)) ?_
                              refine p_step (by exact rfl) (y_nil (et g0 rfl)) ?_
                              refine p_step (by exact rfl) (y_fld fld_75_0 (et g0 rfl)) ?_
                              refine p_step (by exact rfl) (y_load1 one_59 (et g0 rfl) (atXFP)) ?_
                              refine p_step (by exact rfl) (y_moveV (et (gS rfl (gS rfl (gS rfl (gS rfl (gS rfl (gS rfl g0)))))) rfl)) ?_
                              refine p_step (by exact rfl) (y_nil (et g0 rfl)) ?_
                              refine p_step (by exact rfl) (y_fld fld_71_9 (et g0 rfl)) ?_
                              refine p_step (by exact rfl) (y_loadR agg_25 sz_25 (et g0 rfl) (by rw [length_bL, length_be]) (atXFR)) ?_
                              refine p_eff (by exact rfl) (e_callV cal_314 (aC (et (gS rfl (gS rfl (gS rfl (gS rfl g0)))) rfl) (aC (et g0 rfl) aN)) (v_markGone hX.ex.vl hX.ex.ok f.self hB.self 0 (.inl ⟨hh2, rfl⟩) (hX.ex.room hap1).j)) (fun v30 w30 h30 => ?_)
                              obtain ⟨rfl, cl30, cs30, V30, t30, ok30, js30⟩ := h30
                              have nc9 := (t30.col b9 k9.lt).trans nc9
                              have kp30 := hX.ex.vl.kC
                              replace k9 := k9.ch t30.go.ch (by intro hm; (have e0 := hm); omega)
                              replace hX := hX.vt0 t30 ok30 js30 (ay_gone _ f.self) (fun _ => rfl) (c' := c') (by omega)
                              replace U := U.cc t30.go.ch (by intro b hb; exact .inl trivial)
                              have cq9 := SU.ch.size
                              replace SU := SU.xc t30.go.ch (hX.ex.vl.c1 hX.ex.lx.pS rfl) (hX.ex.vl.kC.rowO (hX.ex.selfR hsf1) rfl) (by intro b hlt hb; have h9 := cq b hlt; have e0 := hb; first | exact hb.elim | omega | (dsimp only at e0; omega))
                              replace cq := cq_step cq t30.col cq9
                              refine ⟨.inr SU, ?_⟩
                              refine p_step (by exact rfl) (y_assignV (et g0 rfl)) ?_
                              refine p_nil ?_
                              refine hK21 _ _ ?_
                              refine fg2 0 4 (gS rfl (gS rfl (gS rfl (gS rfl (gS rfl (gS rfl (gS rfl (gS rfl (gS rfl (gS rfl (gS rfl (gS rfl (gS rfl g0))))))))))))) g0 (fun g => ?_)
                              refine c_seq (fun K31 hK31 => ?_)
                              refine c_seq (fun K32 hK32 => ?_)
                              exact (by
                                refine c_region ?_
                                refine l_step (y_moveV (et g0 rfl)) ?_
                                refine l_step (y_not (et g0 rfl)) ?_
                                refine l_nil ?_
                                refine hK32 _ _ ?_
                                refine fg2 0 75 (gS rfl (gS rfl (gS rfl g0))) g0 (fun g => ?_)
                                refine c_false (et g0 rfl) (by rfl) ?_
                                refine c_skip ?_
                                refine hK31 _ _ ?_
                                refine fg1 0 (gS rfl g0) (fun g => ?_)
                                exact (by
                                  refine c_region ?_
                                  refine l_step (y_moveV (et g0 rfl)) ?_
                                  replace hX := hX.slack (c' := c') (by omega)
                                  refine l_eff (e_callV cal_186 (aC (et g0 rfl) (aC (v := .int .u8 ((0 : Nat) : Int)) rfl (aC rfl aN))) (m_end (oa := none) (oc := 0) (l := []) hX.ex hsf1 hph1 0 (by decide) (BV.nil _) (Nat.zero_le _) hms hap1 hpar)) (fun v34 w34 h34 => ?_)
                                  obtain ⟨rfl, hO34⟩ := h34
                                  replace k9 := k9.ch hO34.chc (by intro hm; (have e0 := hm); omega)
                                  replace hX := hX.xo hO34
                                  replace U := U.cc hO34.chc (by intro b hb; exact .inl trivial)
                                  refine l_nil ?_
                                  refine end0 rfl ?_
                                  rw [hs1] at hX
                                  have hmd9 : f.self ∈ s.now.made := by rw [hs1] at hmd; exact hmd
                                  unfold desS desA
                                  rw [if_pos hne, if_pos hmd9]
                                  exact ⟨rfl, hX⟩)))
                          · skip
                            
                            have hgn : f.self ∈ s1.now.gone := by simpa using cB3
                            refine c_skip ?_
                            refine hK21 _ _ ?_
                            refine fg2 0 4 (gS rfl (gS rfl (gS rfl g0))) (gS rfl g0) (fun g => ?_)
                            refine c_seq (fun K35 hK35 => ?_)
                            refine c_seq (fun K36 hK36 => ?_)
                            exact (by
                              refine c_region ?_
                              refine l_step (y_moveV (et g0 rfl)) ?_
                              refine l_step (y_not (et g0 rfl)) ?_
                              refine l_nil ?_
                              refine hK36 _ _ ?_
                              refine fg2 0 75 (gS rfl (gS rfl (gS rfl g0))) g0 (fun g => ?_)
                              refine c_false (et g0 rfl) (by rfl) ?_
                              refine c_skip ?_
                              refine hK35 _ _ ?_
                              refine fg1 0 (gS rfl g0) (fun g => ?_)
                              exact (by
                                refine c_region ?_
                                refine l_step (y_moveV (et g0 rfl)) ?_
                                replace hX := hX.slack (c' := c') (by omega)
                                refine l_eff (e_callV cal_186 (aC (et g0 rfl) (aC (v := .int .u8 ((0 : Nat) : Int)) rfl (aC rfl aN))) (m_end (oa := none) (oc := 0) (l := []) hX.ex hsf1 hph1 0 (by decide) (BV.nil _) (Nat.zero_le _) hms hap1 hpar)) (fun v38 w38 h38 => ?_)
                                obtain ⟨rfl, hO38⟩ := h38
                                replace k9 := k9.ch hO38.chc (by intro hm; (have e0 := hm); omega)
                                replace hX := hX.xo hO38
                                replace U := U.cc hO38.chc (by intro b hb; exact .inl trivial)
                                refine l_nil ?_
                                refine end0 rfl ?_
                                rw [hs1] at hX
                                have hmd9 : f.self ∈ s.now.made := by rw [hs1] at hmd; exact hmd
                                have hgn9 : f.self ∈ s.now.gone := by rw [hs1] at hgn; exact hgn
                                unfold desS desA
                                rw [if_pos hne, if_pos hmd9, withA_in hgn9]
                                exact ⟨rfl, hX⟩))
                        · skip
                          have hmd : f.self ∉ s1.now.made := of_decide_eq_false q26
                          refine p_gskip (j := 12) (t := 53) (by exact rfl) (by exact rfl) (by exact rfl) (et g0 rfl) rfl rfl ?_
                          refine p_gskip (j := 12) (t := 53) (by exact rfl) (by exact rfl) (by exact rfl) (et (gS rfl g0) rfl) rfl rfl ?_
                          refine p_gskip (j := 12) (t := 53) (by exact rfl) (by exact rfl) (by exact rfl) (et (gS rfl (gS rfl g0)) rfl) rfl rfl ?_
                          refine p_gskip (j := 12) (t := 53) (by exact rfl) (by exact rfl) (by exact rfl) (et (gS rfl (gS rfl (gS rfl g0))) rfl) rfl rfl ?_
                          refine p_gskip (j := 12) (t := 53) (by exact rfl) (by exact rfl) (by exact rfl) (et (gS rfl (gS rfl (gS rfl (gS rfl g0)))) rfl) rfl rfl ?_
                          refine p_gskip (j := 12) (t := 53) (by exact rfl) (by exact rfl) (by exact rfl) (et (gS rfl (gS rfl (gS rfl (gS rfl (gS rfl g0))))) rfl) rfl rfl ?_
                          refine p_gskip (j := 12) (t := 53) (by exact rfl) (by exact rfl) (by exact rfl) (et (gS rfl (gS rfl (gS rfl (gS rfl (gS rfl (gS rfl g0)))))) rfl) rfl rfl ?_
                          refine p_gskip (j := 12) (t := 53) (by exact rfl) (by exact rfl) (by exact rfl) (et (gS rfl (gS rfl (gS rfl (gS rfl (gS rfl (gS rfl (gS rfl g0))))))) rfl) rfl rfl ?_
                          refine p_geskip (j := 12) (t := 53) (by exact rfl) (by exact rfl) (by exact rfl) (et (gS rfl (gS rfl (gS rfl (gS rfl (gS rfl (gS rfl (gS rfl (gS rfl g0)))))))) rfl) rfl rfl ⟨.inr SU, ?_⟩
                          refine p_gskip (j := 12) (t := 53) (by exact rfl) (by exact rfl) (by exact rfl) (et (gS rfl (gS rfl (gS rfl (gS rfl (gS rfl (gS rfl (gS rfl (gS rfl (gS rfl g0))))))))) rfl) rfl rfl ?_
                          refine p_step (by exact rfl) (y_pickF (et (gS rfl (gS rfl (gS rfl (gS rfl (gS rfl (gS rfl (gS rfl (gS rfl (gS rfl (gS rfl g0)))))))))) rfl) rfl) ?_
                          refine p_nil ?_
                          refine hK22 _ _ ?_
                          refine fg4 0 2 4 64 (gS rfl (gS rfl (gS rfl (gS rfl (gS rfl (gS rfl (gS rfl (gS rfl (gS rfl (gS rfl (gS rfl (gS rfl (gS rfl (gS rfl (gS rfl (gS rfl (gS rfl (gS rfl (gS rfl (gS rfl (gS rfl (gS rfl (gS rfl (gS rfl (gS rfl (gS rfl (gS rfl (gS rfl g0)))))))))))))))))))))))))))) (gS rfl (gS rfl (gS rfl (gS rfl (gS rfl (gS rfl (gS rfl (gS rfl (gS rfl (gS rfl (gS rfl (gS rfl (gS rfl (gS rfl (gS rfl (gS rfl (gS rfl (gS rfl (gS rfl (gS rfl (gS rfl (gS rfl (gS rfl (gS rfl (gS rfl (gS rfl (gS rfl g0))))))))))))))))))))))))))) (gS rfl (gS rfl (gS rfl (gS rfl (gS rfl (gS rfl (gS rfl (gS rfl (gS rfl (gS rfl (gS rfl (gS rfl (gS rfl (gS rfl (gS rfl (gS rfl (gS rfl (gS rfl (gS rfl (gS rfl (gS rfl (gS rfl (gS rfl (gS rfl (gS rfl (gS rfl g0)))))))))))))))))))))))))) g0 (fun g => ?_)
                          refine c_false (et g0 rfl) rfl ?_
                          refine c_skip ?_
                          refine hK21 _ _ ?_
                          refine fg2 0 4 (gS rfl (gS rfl (gS rfl g0))) (gS rfl g0) (fun g => ?_)
                          refine c_seq (fun K40 hK40 => ?_)
                          refine c_seq (fun K41 hK41 => ?_)
                          exact (by
                            refine c_region ?_
                            refine l_step (y_moveV (et g0 rfl)) ?_
                            refine l_step (y_not (et g0 rfl)) ?_
                            refine l_nil ?_
                            refine hK41 _ _ ?_
                            refine fg2 0 75 (gS rfl (gS rfl (gS rfl g0))) g0 (fun g => ?_)
                            refine c_false (et g0 rfl) (by rfl) ?_
                            refine c_skip ?_
                            refine hK40 _ _ ?_
                            refine fg1 0 (gS rfl g0) (fun g => ?_)
                            exact (by
                              refine c_region ?_
                              refine l_step (y_moveV (et g0 rfl)) ?_
                              replace hX := hX.slack (c' := c') (by omega)
                              refine l_eff (e_callV cal_186 (aC (et g0 rfl) (aC (v := .int .u8 ((0 : Nat) : Int)) rfl (aC rfl aN))) (m_end (oa := none) (oc := 0) (l := []) hX.ex hsf1 hph1 0 (by decide) (BV.nil _) (Nat.zero_le _) hms hap1 hpar)) (fun v43 w43 h43 => ?_)
                              obtain ⟨rfl, hO43⟩ := h43
                              replace k9 := k9.ch hO43.chc (by intro hm; (have e0 := hm); omega)
                              replace hX := hX.xo hO43
                              replace U := U.cc hO43.chc (by intro b hb; exact .inl trivial)
                              refine l_nil ?_
                              refine end0 rfl ?_
                              rw [hs1] at hX
                              have hmd9 : f.self ∉ s.now.made := by rw [hs1] at hmd; exact hmd
                              unfold desS desA
                              rw [if_pos hne, if_neg hmd9]
                              exact ⟨rfl, hX⟩))
                      · skip
                        cases q24)))
              · skip
                
                have hne : desT f = f.self := Decidable.not_not.1 (of_decide_eq_false cB2)
                refine c_skip ?_
                refine hK13 _ _ ?_
                refine fg3 0 2 4 (gS rfl (gS rfl (gS rfl (gS rfl g0)))) (gS rfl (gS rfl (gS rfl g0))) (gS rfl g0) (fun g => ?_)
                refine c_seq (fun K44 hK44 => ?_)
                refine c_seq (fun K45 hK45 => ?_)
                exact (by
                  refine c_draw Up 24 [(0, true), (1, true), (2, true), (3, true), (4, true), (5, true), (6, true), (7, true), (8, true), (9, true), (10, false), (11, true), (12, true), (13, true), (14, true), (15, true), (16, true), (17, true), (18, true), (19, true), (20, true), (21, false), (22, true), (23, true)] (by kernel_rfl) (fun w46 hu => ⟨Up.refl _, ?_⟩)
                  replace k9 := k9.up hu
                  replace hX := hX.up hu
                  replace U := U.tr hu
                  have SU := Up.refl w46
                  have hX_s := hX
                  have k9_s := k9
                  refine p_step (by exact rfl) (y_moveV (et g0 rfl)) ?_
                  refine p_step (by exact rfl) (y_moveV (et g0 rfl)) ?_
                  refine gsplitP (i := 42) g0 (fun q47 => ?_) (fun q47 => ?_)
                  · skip
                    refine p_gstep (j := 1) (t := 42) (by exact rfl) (by exact rfl) (by exact rfl) (et g0 rfl) rfl (y_moveV (et (gS rfl (gS rfl (gS rfl (gS rfl (gS rfl g0))))) rfl)) ?_
                    refine p_gstep (j := 1) (t := 42) (by exact rfl) (by exact rfl) (by exact rfl) (et (gS rfl g0) rfl) rfl (y_nil (et g0 rfl)) ?_
                    refine p_gstep (j := 1) (t := 42) (by exact rfl) (by exact rfl) (by exact rfl) (et (gS rfl (gS rfl g0)) rfl) rfl (y_fld fld_75_0 (et g0 rfl)) ?_
                    refine p_gstep (j := 1) (t := 42) (by exact rfl) (by exact rfl) (by exact rfl) (et (gS rfl (gS rfl (gS rfl g0))) rfl) rfl (y_load1 one_59 (et g0 rfl) (atS (hX_s.ex.vl.c1 hX_s.ex.lx.pS rfl))) ?_
                    refine p_gstep (j := 1) (t := 42) (by exact rfl) (by exact rfl) (by exact rfl) (et (gS rfl (gS rfl (gS rfl (gS rfl g0)))) rfl) rfl (y_moveV (et (gS rfl (gS rfl (gS rfl (gS rfl (gS rfl (gS rfl (gS rfl (gS rfl g0)))))))) rfl)) ?_
                    refine p_gstep (j := 1) (t := 42) (by exact rfl) (by exact rfl) (by exact rfl) (et (gS rfl (gS rfl (gS rfl (gS rfl (gS rfl g0))))) rfl) rfl (y_nil (et g0 rfl)) ?_
                    refine p_gstep (j := 1) (t := 42) (by exact rfl) (by exact rfl) (by exact rfl) (et (gS rfl (gS rfl (gS rfl (gS rfl (gS rfl (gS rfl g0)))))) rfl) rfl (y_fld fld_71_9 (et g0 rfl)) ?_
                    refine p_gstep (j := 1) (t := 42) (by exact rfl) (by exact rfl) (by exact rfl) (et (gS rfl (gS rfl (gS rfl (gS rfl (gS rfl (gS rfl (gS rfl g0))))))) rfl) rfl (y_loadR agg_25 sz_25 (et g0 rfl) (by rw [length_bL, length_be]) (atSR (hX_s.ex.vl.kC.rowO (hX_s.ex.selfR hsf1) (by omega)))) ?_
                    refine p_geff (j := 1) (t := 42) (by exact rfl) (by exact rfl) (by exact rfl) (et (gS rfl (gS rfl (gS rfl (gS rfl (gS rfl (gS rfl (gS rfl (gS rfl g0)))))))) rfl) rfl (e_callV cal_312 (aC (et (gS rfl (gS rfl (gS rfl (gS rfl g0)))) rfl) (aC (et g0 rfl) aN)) (hX.ex.mdC f.self hB.self)) (fun v48 w48 h48 => ?_)
                    obtain ⟨rfl, u48⟩ := h48
                    replace k9 := k9.up u48
                    replace hX := hX.up u48
                    replace U := U.tr u48
                    refine ⟨.inr (SU.tr u48), ?_⟩
                    replace SU := SU.tr u48
                    refine p_step (by exact rfl) (y_pickT (et (gS rfl (gS rfl (gS rfl (gS rfl (gS rfl (gS rfl (gS rfl (gS rfl (gS rfl g0))))))))) rfl) (et g0 rfl)) ?_
                    refine p_step (by exact rfl) (y_moveV (et g0 rfl)) ?_
                    refine gsplitP (i := 53) g0 (fun q49 => ?_) (fun q49 => ?_)
                    · skip
                      have hmd : f.self ∈ s1.now.made := of_decide_eq_true q49
                      refine p_gstep (j := 12) (t := 53) (by exact rfl) (by exact rfl) (by exact rfl) (et g0 rfl) rfl (y_moveV (et (gS rfl (gS rfl (gS rfl (gS rfl (gS rfl (gS rfl (gS rfl (gS rfl (gS rfl (gS rfl (gS rfl (gS rfl (gS rfl (gS rfl (gS rfl (gS rfl (gS rfl g0))))))))))))))))) rfl)) ?_
                      refine p_gstep (j := 12) (t := 53) (by exact rfl) (by exact rfl) (by exact rfl) (et (gS rfl g0) rfl) rfl (y_nil (et g0 rfl)) ?_
                      refine p_gstep (j := 12) (t := 53) (by exact rfl) (by exact rfl) (by exact rfl) (et (gS rfl (gS rfl g0)) rfl) rfl (y_fld fld_75_0 (et g0 rfl)) ?_
                      refine p_gstep (j := 12) (t := 53) (by exact rfl) (by exact rfl) (by exact rfl) (et (gS rfl (gS rfl (gS rfl g0))) rfl) rfl (y_load1 one_59 (et g0 rfl) (atS (hX_s.ex.vl.c1 hX_s.ex.lx.pS rfl))) ?_
                      refine p_gstep (j := 12) (t := 53) (by exact rfl) (by exact rfl) (by exact rfl) (et (gS rfl (gS rfl (gS rfl (gS rfl g0)))) rfl) rfl (y_moveV (et (gS rfl (gS rfl (gS rfl (gS rfl (gS rfl (gS rfl (gS rfl (gS rfl (gS rfl (gS rfl (gS rfl (gS rfl (gS rfl (gS rfl (gS rfl (gS rfl (gS rfl (gS rfl (gS rfl (gS rfl g0)))))))))))))))))))) rfl)) ?_
                      refine p_gstep (j := 12) (t := 53) (by exact rfl) (by exact rfl) (by exact rfl) (et (gS rfl (gS rfl (gS rfl (gS rfl (gS rfl g0))))) rfl) rfl (y_nil (et g0 rfl)) ?_
                      refine p_gstep (j := 12) (t := 53) (by exact rfl) (by exact rfl) (by exact rfl) (et (gS rfl (gS rfl (gS rfl (gS rfl (gS rfl (gS rfl g0)))))) rfl) rfl (y_fld fld_71_9 (et g0 rfl)) ?_
                      refine p_gstep (j := 12) (t := 53) (by exact rfl) (by exact rfl) (by exact rfl) (et (gS rfl (gS rfl (gS rfl (gS rfl (gS rfl (gS rfl (gS rfl g0))))))) rfl) rfl (y_loadR agg_25 sz_25 (et g0 rfl) (by rw [length_bL, length_be]) (atSR (hX_s.ex.vl.kC.rowO (hX_s.ex.selfR hsf1) (by omega)))) ?_
                      refine p_geff (j := 12) (t := 53) (by exact rfl) (by exact rfl) (by exact rfl) (et (gS rfl (gS rfl (gS rfl (gS rfl (gS rfl (gS rfl (gS rfl (gS rfl g0)))))))) rfl) rfl (e_callV cal_313 (aC (et (gS rfl (gS rfl (gS rfl (gS rfl g0)))) rfl) (aC (et g0 rfl) aN)) (hX.ex.gnC f.self hB.self)) (fun v50 w50 h50 => ?_)
                      obtain ⟨rfl, u50⟩ := h50
                      replace k9 := k9.up u50
                      replace hX := hX.up u50
                      replace U := U.tr u50
                      refine ⟨.inr (SU.tr u50), ?_⟩
                      replace SU := SU.tr u50
                      refine p_gstep (j := 12) (t := 53) (by exact rfl) (by exact rfl) (by exact rfl) (et (gS rfl (gS rfl (gS rfl (gS rfl (gS rfl (gS rfl (gS rfl (gS rfl (gS rfl g0))))))))) rfl) rfl (y_not (et g0 rfl)) ?_
                      refine p_step (by exact rfl) (y_pickT (et (gS rfl (gS rfl (gS rfl (gS rfl (gS rfl (gS rfl (gS rfl (gS rfl (gS rfl (gS rfl g0)))))))))) rfl) (et g0 rfl)) ?_
                      refine p_nil ?_
                      refine hK45 _ _ ?_
                      refine fg4 0 2 4 64 (gS rfl (gS rfl (gS rfl (gS rfl (gS rfl (gS rfl (gS rfl (gS rfl (gS rfl (gS rfl (gS rfl (gS rfl (gS rfl (gS rfl (gS rfl (gS rfl (gS rfl (gS rfl (gS rfl (gS rfl (gS rfl (gS rfl (gS rfl (gS rfl (gS rfl (gS rfl (gS rfl (gS rfl g0)))))))))))))))))))))))))))) (gS rfl (gS rfl (gS rfl (gS rfl (gS rfl (gS rfl (gS rfl (gS rfl (gS rfl (gS rfl (gS rfl (gS rfl (gS rfl (gS rfl (gS rfl (gS rfl (gS rfl (gS rfl (gS rfl (gS rfl (gS rfl (gS rfl (gS rfl (gS rfl (gS rfl (gS rfl (gS rfl g0))))))))))))))))))))))))))) (gS rfl (gS rfl (gS rfl (gS rfl (gS rfl (gS rfl (gS rfl (gS rfl (gS rfl (gS rfl (gS rfl (gS rfl (gS rfl (gS rfl (gS rfl (gS rfl (gS rfl (gS rfl (gS rfl (gS rfl (gS rfl (gS rfl (gS rfl (gS rfl (gS rfl (gS rfl g0)))))))))))))))))))))))))) g0 (fun g => ?_)
                      refine c_cond (et g0 rfl) (fun cB3 => ?_) (fun cB3 => ?_)
                      · skip
                        
                        have hgn : f.self ∉ s1.now.gone := by simpa using cB3
                        exact (by
                          refine c_draw (SXF _ bc (1803 + 65 * low.length + 9) (bL (be 20 f.self))) 10 [(0, true), (1, true), (2, true), (3, true), (4, true), (5, true), (6, true), (7, true), (8, false), (9, true)] (by kernel_rfl) (fun w52 hu => ⟨SXF.refl (hX.up hu) ((hX.up hu).ex.selfR hsf1), ?_⟩)
                          replace k9 := k9.up hu
                          replace hX := hX.up hu
                          replace U := U.tr hu
                          have SU := SXF.refl hX (hX.ex.selfR hsf1)
                          have cq := cq_refl hX
                          have hX_s := hX
                          have k9_s := k9
                          refine p_step (by exact rfl) (y_moveV (et (gS rfl (gS rfl (gS rfl g0))) rfl)) ?_
                          refine p_step (by exact rfl) (y_nil (et g0 rfl)) ?_
                          refine p_step (by exact rfl) (y_fld fld_75_0 (et g0 rfl)) ?_
                          refine p_step (by exact rfl) (y_load1 one_59 (et g0 rfl) (atXFP)) ?_
                          refine p_step (by exact rfl) (y_moveV (et (gS rfl (gS rfl (gS rfl (gS rfl (gS rfl (gS rfl g0)))))) rfl)) ?_
                          refine p_step (by exact rfl) (y_nil (et g0 rfl)) ?_
                          refine p_step (by exact rfl) (y_fld fld_71_9 (et g0 rfl)) ?_
                          refine p_step (by exact rfl) (y_loadR agg_25 sz_25 (et g0 rfl) (by rw [length_bL, length_be]) (atXFR)) ?_
                          refine p_eff (by exact rfl) (e_callV cal_314 (aC (et (gS rfl (gS rfl (gS rfl (gS rfl g0)))) rfl) (aC (et g0 rfl) aN)) (v_markGone hX.ex.vl hX.ex.ok f.self hB.self 0 (.inl ⟨hh1, rfl⟩) (hX.ex.room hap1).j)) (fun v53 w53 h53 => ?_)
                          obtain ⟨rfl, cl53, cs53, V53, t53, ok53, js53⟩ := h53
                          have nc9 := (t53.col b9 k9.lt).trans nc9
                          have kp53 := hX.ex.vl.kC
                          replace k9 := k9.ch t53.go.ch (by intro hm; (have e0 := hm); omega)
                          replace hX := hX.vt0 t53 ok53 js53 (ay_gone _ f.self) (fun _ => rfl) (c' := c') (by omega)
                          replace U := U.cc t53.go.ch (by intro b hb; exact .inl trivial)
                          have cq9 := SU.ch.size
                          replace SU := SU.xc t53.go.ch (hX.ex.vl.c1 hX.ex.lx.pS rfl) (hX.ex.vl.kC.rowO (hX.ex.selfR hsf1) rfl) (by intro b hlt hb; have h9 := cq b hlt; have e0 := hb; first | exact hb.elim | omega | (dsimp only at e0; omega))
                          replace cq := cq_step cq t53.col cq9
                          refine ⟨.inr SU, ?_⟩
                          refine p_step (by exact rfl) (y_assignV (et g0 rfl)) ?_
                          refine p_nil ?_
                          refine hK44 _ _ ?_
                          refine fg2 0 4 (gS rfl (gS rfl (gS rfl (gS rfl (gS rfl (gS rfl (gS rfl (gS rfl (gS rfl (gS rfl (gS rfl (gS rfl (gS rfl g0))))))))))))) g0 (fun g => ?_)
                          refine c_seq (fun K54 hK54 => ?_)
                          refine c_seq (fun K55 hK55 => ?_)
                          exact (by
                            refine c_region ?_
                            refine l_step (y_moveV (et g0 rfl)) ?_
                            refine l_step (y_not (et g0 rfl)) ?_
                            refine l_nil ?_
                            refine hK55 _ _ ?_
                            refine fg2 0 75 (gS rfl (gS rfl (gS rfl g0))) g0 (fun g => ?_)
                            refine c_false (et g0 rfl) (by rfl) ?_
                            refine c_skip ?_
                            refine hK54 _ _ ?_
                            refine fg1 0 (gS rfl g0) (fun g => ?_)
                            exact (by
                              refine c_region ?_
                              refine l_step (y_moveV (et g0 rfl)) ?_
                              replace hX := hX.slack (c' := c') (by omega)
                              refine l_eff (e_callV cal_186 (aC (et g0 rfl) (aC (v := .int .u8 ((0 : Nat) : Int)) rfl (aC rfl aN))) (m_end (oa := none) (oc := 0) (l := []) hX.ex hsf1 hph1 0 (by decide) (BV.nil _) (Nat.zero_le _) hms hap1 hpar)) (fun v57 w57 h57 => ?_)
                              obtain ⟨rfl, hO57⟩ := h57
                              replace k9 := k9.ch hO57.chc (by intro hm; (have e0 := hm); omega)
                              replace hX := hX.xo hO57
                              replace U := U.cc hO57.chc (by intro b hb; exact .inl trivial)
                              refine l_nil ?_
                              refine end0 rfl ?_
                              rw [hs1] at hX
                              have hmd9 : f.self ∈ s.now.made := by rw [hs1] at hmd; exact hmd
                              unfold desS desA
                              rw [if_neg (fun h => h hne), if_pos hmd9]
                              exact ⟨rfl, hX⟩)))
                      · skip
                        
                        have hgn : f.self ∈ s1.now.gone := by simpa using cB3
                        refine c_skip ?_
                        refine hK44 _ _ ?_
                        refine fg2 0 4 (gS rfl (gS rfl (gS rfl g0))) (gS rfl g0) (fun g => ?_)
                        refine c_seq (fun K58 hK58 => ?_)
                        refine c_seq (fun K59 hK59 => ?_)
                        exact (by
                          refine c_region ?_
                          refine l_step (y_moveV (et g0 rfl)) ?_
                          refine l_step (y_not (et g0 rfl)) ?_
                          refine l_nil ?_
                          refine hK59 _ _ ?_
                          refine fg2 0 75 (gS rfl (gS rfl (gS rfl g0))) g0 (fun g => ?_)
                          refine c_false (et g0 rfl) (by rfl) ?_
                          refine c_skip ?_
                          refine hK58 _ _ ?_
                          refine fg1 0 (gS rfl g0) (fun g => ?_)
                          exact (by
                            refine c_region ?_
                            refine l_step (y_moveV (et g0 rfl)) ?_
                            replace hX := hX.slack (c' := c') (by omega)
                            refine l_eff (e_callV cal_186 (aC (et g0 rfl) (aC (v := .int .u8 ((0 : Nat) : Int)) rfl (aC rfl aN))) (m_end (oa := none) (oc := 0) (l := []) hX.ex hsf1 hph1 0 (by decide) (BV.nil _) (Nat.zero_le _) hms hap1 hpar)) (fun v61 w61 h61 => ?_)
                            obtain ⟨rfl, hO61⟩ := h61
                            replace k9 := k9.ch hO61.chc (by intro hm; (have e0 := hm); omega)
                            replace hX := hX.xo hO61
                            replace U := U.cc hO61.chc (by intro b hb; exact .inl trivial)
                            refine l_nil ?_
                            refine end0 rfl ?_
                            rw [hs1] at hX
                            have hmd9 : f.self ∈ s.now.made := by rw [hs1] at hmd; exact hmd
                            have hgn9 : f.self ∈ s.now.gone := by rw [hs1] at hgn; exact hgn
                            unfold desS desA
                            rw [if_neg (fun h => h hne), if_pos hmd9, withA_in hgn9]
                            exact ⟨rfl, hX⟩))
                    · skip
                      have hmd : f.self ∉ s1.now.made := of_decide_eq_false q49
                      refine p_gskip (j := 12) (t := 53) (by exact rfl) (by exact rfl) (by exact rfl) (et g0 rfl) rfl rfl ?_
                      refine p_gskip (j := 12) (t := 53) (by exact rfl) (by exact rfl) (by exact rfl) (et (gS rfl g0) rfl) rfl rfl ?_
                      refine p_gskip (j := 12) (t := 53) (by exact rfl) (by exact rfl) (by exact rfl) (et (gS rfl (gS rfl g0)) rfl) rfl rfl ?_
                      refine p_gskip (j := 12) (t := 53) (by exact rfl) (by exact rfl) (by exact rfl) (et (gS rfl (gS rfl (gS rfl g0))) rfl) rfl rfl ?_
                      refine p_gskip (j := 12) (t := 53) (by exact rfl) (by exact rfl) (by exact rfl) (et (gS rfl (gS rfl (gS rfl (gS rfl g0)))) rfl) rfl rfl ?_
                      refine p_gskip (j := 12) (t := 53) (by exact rfl) (by exact rfl) (by exact rfl) (et (gS rfl (gS rfl (gS rfl (gS rfl (gS rfl g0))))) rfl) rfl rfl ?_
                      refine p_gskip (j := 12) (t := 53) (by exact rfl) (by exact rfl) (by exact rfl) (et (gS rfl (gS rfl (gS rfl (gS rfl (gS rfl (gS rfl g0)))))) rfl) rfl rfl ?_
                      refine p_gskip (j := 12) (t := 53) (by exact rfl) (by exact rfl) (by exact rfl) (et (gS rfl (gS rfl (gS rfl (gS rfl (gS rfl (gS rfl (gS rfl g0))))))) rfl) rfl rfl ?_
                      refine p_geskip (j := 12) (t := 53) (by exact rfl) (by exact rfl) (by exact rfl) (et (gS rfl (gS rfl (gS rfl (gS rfl (gS rfl (gS rfl (gS rfl (gS rfl g0)))))))) rfl) rfl rfl ⟨.inr SU, ?_⟩
                      refine p_gskip (j := 12) (t := 53) (by exact rfl) (by exact rfl) (by exact rfl) (et (gS rfl (gS rfl (gS rfl (gS rfl (gS rfl (gS rfl (gS rfl (gS rfl (gS rfl g0))))))))) rfl) rfl rfl ?_
                      refine p_step (by exact rfl) (y_pickF (et (gS rfl (gS rfl (gS rfl (gS rfl (gS rfl (gS rfl (gS rfl (gS rfl (gS rfl (gS rfl g0)))))))))) rfl) rfl) ?_
                      refine p_nil ?_
                      refine hK45 _ _ ?_
                      refine fg4 0 2 4 64 (gS rfl (gS rfl (gS rfl (gS rfl (gS rfl (gS rfl (gS rfl (gS rfl (gS rfl (gS rfl (gS rfl (gS rfl (gS rfl (gS rfl (gS rfl (gS rfl (gS rfl (gS rfl (gS rfl (gS rfl (gS rfl (gS rfl (gS rfl (gS rfl (gS rfl (gS rfl (gS rfl (gS rfl g0)))))))))))))))))))))))))))) (gS rfl (gS rfl (gS rfl (gS rfl (gS rfl (gS rfl (gS rfl (gS rfl (gS rfl (gS rfl (gS rfl (gS rfl (gS rfl (gS rfl (gS rfl (gS rfl (gS rfl (gS rfl (gS rfl (gS rfl (gS rfl (gS rfl (gS rfl (gS rfl (gS rfl (gS rfl (gS rfl g0))))))))))))))))))))))))))) (gS rfl (gS rfl (gS rfl (gS rfl (gS rfl (gS rfl (gS rfl (gS rfl (gS rfl (gS rfl (gS rfl (gS rfl (gS rfl (gS rfl (gS rfl (gS rfl (gS rfl (gS rfl (gS rfl (gS rfl (gS rfl (gS rfl (gS rfl (gS rfl (gS rfl (gS rfl g0)))))))))))))))))))))))))) g0 (fun g => ?_)
                      refine c_false (et g0 rfl) rfl ?_
                      refine c_skip ?_
                      refine hK44 _ _ ?_
                      refine fg2 0 4 (gS rfl (gS rfl (gS rfl g0))) (gS rfl g0) (fun g => ?_)
                      refine c_seq (fun K63 hK63 => ?_)
                      refine c_seq (fun K64 hK64 => ?_)
                      exact (by
                        refine c_region ?_
                        refine l_step (y_moveV (et g0 rfl)) ?_
                        refine l_step (y_not (et g0 rfl)) ?_
                        refine l_nil ?_
                        refine hK64 _ _ ?_
                        refine fg2 0 75 (gS rfl (gS rfl (gS rfl g0))) g0 (fun g => ?_)
                        refine c_false (et g0 rfl) (by rfl) ?_
                        refine c_skip ?_
                        refine hK63 _ _ ?_
                        refine fg1 0 (gS rfl g0) (fun g => ?_)
                        exact (by
                          refine c_region ?_
                          refine l_step (y_moveV (et g0 rfl)) ?_
                          replace hX := hX.slack (c' := c') (by omega)
                          refine l_eff (e_callV cal_186 (aC (et g0 rfl) (aC (v := .int .u8 ((0 : Nat) : Int)) rfl (aC rfl aN))) (m_end (oa := none) (oc := 0) (l := []) hX.ex hsf1 hph1 0 (by decide) (BV.nil _) (Nat.zero_le _) hms hap1 hpar)) (fun v66 w66 h66 => ?_)
                          obtain ⟨rfl, hO66⟩ := h66
                          replace k9 := k9.ch hO66.chc (by intro hm; (have e0 := hm); omega)
                          replace hX := hX.xo hO66
                          replace U := U.cc hO66.chc (by intro b hb; exact .inl trivial)
                          refine l_nil ?_
                          refine end0 rfl ?_
                          rw [hs1] at hX
                          have hmd9 : f.self ∉ s.now.made := by rw [hs1] at hmd; exact hmd
                          unfold desS desA
                          rw [if_neg (fun h => h hne), if_neg hmd9]
                          exact ⟨rfl, hX⟩))
                  · skip
                    cases q47)
            · skip
              cases q16)))))
end Go.Proofs.YgvaawGreat
