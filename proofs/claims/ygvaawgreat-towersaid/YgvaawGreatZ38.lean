import Derived.Test.YgvaawGreatZ36
set_option maxRecDepth 100000
set_option maxHeartbeats 4000000
set_option linter.unusedSimpArgs false
set_option linter.unusedVariables false
namespace Go.Proofs.YgvaawGreat
open Go
theorem m_opCall244 {w : World} {H : Store} {col : Nat → Nat} {bc : Nat} {cs : Array Value} {V : EV} {s : YSt} {sn : List Nat} {sv : List AW} {ms : List (List Nat)} {c : Nat} {low : List YF} {f : YF} (hE : EX w H col bc cs V s sn sv ms c) (hs : s.frames = low ++ [f]) (hp : s.phase = 1) (hms : ms = (low ++ [f]).map (fun g => g.mem)) (hap : s.applied ≤ 4) (hpar : Par low) (hq : opcN f = 244) (hpc9 : f.pc < 512) (htk9 : 6 ≤ f.stack.length) (hrd : argN f.stack (2 + 1) ≠ 0 → argN f.stack 2 + argN f.stack (2 + 1) ≤ f.mem.length) (hout : argN f.stack (2 + 3) ≠ 0 → argN f.stack (2 + 2) + argN f.stack (2 + 3) ≤ f.mem.length) {c' c1 : Nat} (hc1 : c1 + 100 ≤ c) (hc2 : (ctT f) ∉ s.now.warmA → c1 + 2600 ≤ c) (hc3 : c' + (if cV f 244 ≠ 0 then 2350 else 0) ≤ c1) :
    Ret 203 [.pointer (some ⟨bc, 0, none⟩)] w (fun v w' => v = .tuple #[] ∧ XO w H col w' bc (callY { s with ret := [] } f 244 low) c') := by
  obtain ⟨n9, hn9, hR⟩ := hE.topF hs
  have hB := hE.fbT hs
  have h6 := hE.six hs
  have htop := hE.cTop hs
  have hphs := hE.cPh hp
  have hbp := hB.pc
  have hbs := hB.stk
  have hbg := hB.gas
  have hbc9 := hB.code
  have hnw := hE.vl.new
  have hfz := hE.vl.fz
  have hcC := hE.vl.colC
  have hbc0 := hE.vl.kC.lt
  have hX := XT.refl hE
  have hms8 : ms = low.map (fun g => g.mem) ++ [f.mem] := by rw [hms]; simp
  have hsk : f.stack = f.stack := rfl
  have hml := hE.memLe hms8
  have hrl := rd_len hrd hml
  have hcl := hE.codeLen (ctT f)
  have hpt := hE.px.pot.t
  rw [gas_top hs] at hpt
  have hcs : cG f 244 ≤ sentN f.gas (argN f.stack 0) + (if cV f 244 ≠ 0 then 2350 else 0) := by
    unfold cG cSent
    by_cases h9 : cV f 244 = 0
    · rw [if_pos h9]; omega
    · rw [if_neg h9, if_pos h9]; omega
  refine enter (n := 212) Hvaa.func203 rfl rfl (Nat.le_of_ble_eq_true rfl) ?_
  have U : Ch (fun _ => True) w w := Ch.refl _ w
  refine c_seq (fun K1 hK1 => ?_)
  exact (by
    refine c_region ?_
    refine l_step (y_moveV (et g0 rfl)) ?_
    refine l_eff (e_callV cal_183 (aC (et g0 rfl) aN) (m_running hX.ex hs hp)) (fun v2 w2 h2 => ?_)
    obtain ⟨rfl, u2⟩ := h2
    replace hX := hX.up u2
    replace U := U.tr u2
    refine l_step (y_assignV (et g0 rfl)) ?_
    refine l_nil ?_
    refine hK1 _ _ ?_
    refine fg2 0 2 (gS rfl (gS rfl (gS rfl g0))) g0 (fun g => ?_)
    refine c_seq (fun K3 hK3 => ?_)
    refine c_seq (fun K4 hK4 => ?_)
    exact (by
      refine c_region ?_
      refine l_step (y_moveV (et g0 rfl)) ?_
      refine l_step (y_eqlNil Hvaa.underlying276 (et g0 rfl) rfl) ?_
      refine l_nil ?_
      refine hK4 _ _ ?_
      refine fg3 0 2 13 (gS rfl (gS rfl (gS rfl g0))) (gS rfl (gS rfl g0)) g0 (fun g => ?_)
      refine c_false (et g0 rfl) rfl ?_
      refine c_skip ?_
      refine hK3 _ _ ?_
      refine fg2 0 2 (gS rfl (gS rfl g0)) (gS rfl g0) (fun g => ?_)
      refine c_seq (fun K6 hK6 => ?_)
      exact (by
        refine c_region ?_
        refine l_step (y_moveV (et (gS rfl g0) rfl)) ?_
        refine l_step (y_moveV (et (gS rfl g0) rfl)) ?_
        refine l_eff (e_callV cal_264 (aC (et (gS rfl g0) rfl) (aC (et g0 rfl) (aC (v := .int .i64 ((1 : Nat) : Int)) rfl aN))) (m_arg hX.ex hs hp (by first | exact hpf | rfl) _ (by decide))) (fun v7 w7 h7 => ?_)
        obtain ⟨rfl, u7⟩ := h7
        replace hX := hX.up u7
        replace U := U.tr u7
        refine l_eff (e_callV cal_293 (aC (et g0 rfl) aN) (mach_addrOf _ _ (argN_lt hB _))) (fun v8 w8 h8 => ?_)
        obtain ⟨rfl, u8⟩ := h8
        replace hX := hX.up u8
        replace U := U.tr u8
        refine l_eff (e_alloc zr_25) (fun v9 w9 h9 => ?_)
        obtain ⟨b9, rfl, n9⟩ := h9
        have f9 : w.heap.size ≤ b9 := Nat.le_trans U.size n9.fresh
        replace hX := hX.up n9.up
        replace U := U.tr n9.up
        have k9 := n9.blk
        obtain ⟨zs9, hz9, k9⟩ : ∃ cs : Array Value, cs.size = 20 ∧ Blk w9 b9 cs := ⟨_, rfl, k9⟩
        have nc9 : col b9 = 0 := hnw _ f9
        refine l_effN (e_store sz_25 (et g0 rfl) (cellsV (et (gS rfl g0) rfl) rfl) (by rw [length_bL, length_be]) (by exact one_bL _) k9 (by (rw [hz9]; exact Nat.le_refl _))) (fun v10 w10 h10 => ?_)
        obtain ⟨rfl, x10⟩ := h10
        replace hX := hX.ch x10.ch (by first | omega | (intro b hb; first | (subst hb; first | exact ⟨by omega, fun hh => by have := hfz.lt hh; omega, by omega⟩ | exact ⟨by omega, by assumption, by omega⟩) | (rcases hb with hb | hb <;> (subst hb; first | exact ⟨by omega, fun hh => by have := hfz.lt hh; omega, by omega⟩ | exact ⟨by omega, by assumption, by omega⟩))))
        replace k9 := x10.blk.full (by rw [hz9, length_bL, length_be])
        replace U := U.st x10 (.inr f9)
        refine l_nil ?_
        refine hK6 _ _ ?_
        refine fg3 0 2 3 (gS rfl (gS rfl (gS rfl (gS rfl (gS rfl (gS rfl g0)))))) (gS rfl (gS rfl (gS rfl (gS rfl (gS rfl g0))))) g0 (fun g => ?_)
        refine c_seq (fun K11 hK11 => ?_)
        exact (by
          refine c_region ?_
          refine l_step (y_moveV (et (gS rfl (gS rfl g0)) rfl)) ?_
          refine l_step (y_nil (et g0 rfl)) ?_
          refine l_step (y_fld fld_75_5 (et g0 rfl)) ?_
          refine l_effN (e_store sz_38 (et g0 rfl) (cellsV rfl rfl) rfl (by intro v hv; simp at hv; subst hv; rfl) hX.ex.vl.kC (by rw [hX.ex.vl.size]; omega)) (fun v12 w12 h12 => ?_)
          obtain ⟨rfl, x12⟩ := h12
          have hv12 := hX.stRt (l := []) (by omega) (BV.nil _) x12
          replace k9 := k9.ch x12.ch (by intro hm; first | omega | (subst hm; omega))
          replace hX := hv12
          replace U := U.cc x12.ch (by intro b hb; exact .inl trivial)
          obtain ⟨s0, hs0⟩ : ∃ s0 : YSt, s0 = { s with ret := [] } := ⟨_, rfl⟩
          replace hX := hX.reS hs0
          have hsf0 : s0.frames = low ++ [f] := by rw [hs0]; exact hs
          have hph0 : s0.phase = 1 := by rw [hs0]; exact hp
          have hap0 : s0.applied ≤ 4 := by rw [hs0]; exact hap
          refine l_nil ?_
          refine hK11 _ _ ?_
          refine fg3 0 2 3 (gS rfl (gS rfl (gS rfl (gS rfl (gS rfl g0))))) (gS rfl (gS rfl (gS rfl (gS rfl g0)))) (gS rfl (gS rfl (gS rfl g0))) (fun g => ?_)
          refine c_seq (fun K13 hK13 => ?_)
          refine c_seq (fun K14 hK14 => ?_)
          exact (by
            refine c_region ?_
            refine l_step (y_moveV (et (gS rfl (gS rfl g0)) rfl)) ?_
            refine l_step (y_loadB agg_25 sz_25 (et (gS rfl g0) rfl) (by rw [List.size_toArray, length_bL, length_be]) (at1B k9)) ?_
            refine l_eff (e_callV cal_294 (aC (et (gS rfl g0) rfl) (aC (et g0 rfl) aN)) (m_warmAcctM hX.ex hsf0 hph0 (ctT f) (Nat.mod_lt _ A160_pos) hap0 (c' := c1) (by omega) (by rw [hs0]; exact hc2))) (fun v15 w15 h15 => ?_)
            obtain ⟨rfl, cl15, cs15, V15, y15, mr15⟩ := h15
            have nc9 := (y15.et.col b9 k9.lt).trans nc9
            have kp15 := hX.ex.vl.kC
            replace k9 := k9.ch y15.et.go.ch (by intro hm; (have e0 := hm); omega)
            replace hX := hX.trans y15
            replace U := U.cc y15.et.go.ch (by intro b hb; exact .inl trivial)
            obtain ⟨s1, hs1⟩ : ∃ s1 : YSt, s1 = cS s0 f := ⟨_, rfl⟩
            replace hX := hX.reS hs1
            have hsf1 : s1.frames = low ++ [f] := by rw [hs1]; exact hsf0
            have hph1 : s1.phase = 1 := by rw [hs1]; exact hph0
            have hac : s1.now.accts = s.now.accts := by rw [hs1, hs0]; rfl
            have hap1 : s1.applied ≤ 4 := by rw [hs1]; exact hap0
            have hnw1 := hX.ex.vl.new
            have hfz1 := hX.ex.vl.fz
            have hht : hasA V15 (ctT f) := hX.ex.hasW (by rw [hs1]; exact (mem_withA _ _ _).2 (.inl rfl))
            have hhf := hX.ex.px.has f (by rw [hsf1]; simp)
            obtain ⟨n8, hn8, hR1⟩ := hX.ex.topF hsf1
            have hmr := mr15
            refine l_step (y_not (et g0 rfl)) ?_
            refine l_nil ?_
            refine hK14 _ _ ?_
            refine fg4 0 2 3 24 (gS rfl (gS rfl (gS rfl (gS rfl (gS rfl (gS rfl g0)))))) (gS rfl (gS rfl (gS rfl (gS rfl (gS rfl g0))))) (gS rfl (gS rfl (gS rfl (gS rfl g0)))) g0 (fun g => ?_)
            refine c_false (et g0 rfl) (by rfl) ?_
            refine c_skip ?_
            refine hK13 _ _ ?_
            refine fg3 0 2 3 (gS rfl (gS rfl (gS rfl g0))) (gS rfl (gS rfl g0)) (gS rfl g0) (fun g => ?_)
            refine c_seq (fun K17 hK17 => ?_)
            exact (by
              refine c_draw Up 11 [(0, true), (1, true), (2, true), (3, true), (4, true), (5, true), (6, true), (7, true), (8, true), (9, true), (10, false), (11, false)] (by kernel_rfl) (fun w18 hu => ⟨Up.refl _, ?_⟩)
              replace k9 := k9.up hu
              replace hX := hX.up hu
              replace U := U.tr hu
              have SU := Up.refl w18
              refine p_step (by exact rfl) (y_moveV (et (gS rfl g0) rfl)) ?_
              refine p_step (by exact rfl) (y_nil (et g0 rfl)) ?_
              refine p_step (by exact rfl) (y_fld fld_71_3 (et g0 rfl)) ?_
              refine p_step (by exact rfl) (y_load1 one_4 (et g0 rfl) (atS (hX.ex.vl.c1 (hR1.r1 3 _ rfl) (by omega)))) ?_
              refine p_step (by exact rfl) (y_loadB agg_25 sz_25 (et (gS rfl (gS rfl (gS rfl (gS rfl g0)))) rfl) (by rw [List.size_toArray, length_bL, length_be]) (atSB k9)) ?_
              refine p_step (by exact rfl) (y_moveV (et (gS rfl (gS rfl (gS rfl (gS rfl (gS rfl (gS rfl g0)))))) rfl)) ?_
              refine p_step (by exact rfl) (y_nil (et g0 rfl)) ?_
              refine p_step (by exact rfl) (y_fld fld_71_9 (et g0 rfl)) ?_
              refine p_step (by exact rfl) (y_loadR agg_25 sz_25 (et g0 rfl) (by rw [length_bL, length_be]) (atSR (hX.ex.vl.kC.rowO hR1.r2 (by omega)))) ?_
              refine p_step (by exact rfl) ((y_bldMC (et (gS rfl (gS rfl (gS rfl (gS rfl (gS rfl g0))))) rfl) (et (gS rfl (gS rfl (gS rfl (gS rfl g0)))) rfl) (et g0 rfl))) ?_
              have hnwN := hX.ex.vl.new
              have hfzN := hX.ex.vl.fz
              refine p_eff (by exact rfl) (e_alloc zr_71) (fun v19 w19 h19 => ?_)
              obtain ⟨b19, rfl, n19⟩ := h19
              have d9_19 : b9 < b19 := Nat.lt_of_lt_of_le k9.lt n19.fresh
              have f19 : w.heap.size ≤ b19 := Nat.le_trans U.size n19.fresh
              have fS19 := Nat.le_trans SU.size n19.fresh
              replace k9 := k9.up n19.up
              replace hX := hX.up n19.up
              replace U := U.tr n19.up
              have k19 := n19.blk
              obtain ⟨zs19, hz19, k19⟩ : ∃ cs : Array Value, cs.size = 65 ∧ Blk w19 b19 cs := ⟨_, rfl, k19⟩
              refine ⟨.inr (SU.tr n19.up), ?_⟩
              replace SU := SU.tr n19.up
              have nc19 := hnwN b19 n19.fresh
              have nh19 : ¬ H.has b19 := fun hh => by have h9 := hfzN.lt hh; have h8 := n19.fresh; omega
              exact (by
                refine p_effN (by exact rfl) (e_store sz_71 (et g0 rfl) (cellsV (et (gS rfl g0) rfl) rfl) (fcv_len rfl) (by exact fcv_one) k19 (by (rw [hz19]; exact Nat.le_refl _))) (fun v20 w20 h20 => ?_)
                obtain ⟨rfl, x20⟩ := h20
                replace k9 := k9.ch x20.ch (by omega)
                replace hX := hX.ch x20.ch (by first | omega | (intro b hb; first | (subst hb; first | exact ⟨by omega, fun hh => by have := hfz.lt hh; omega, by omega⟩ | exact ⟨by omega, by assumption, by omega⟩) | (rcases hb with hb | hb <;> (subst hb; first | exact ⟨by omega, fun hh => by have := hfz.lt hh; omega, by omega⟩ | exact ⟨by omega, by assumption, by omega⟩))))
                replace k19 := x20.blk.full (by rw [hz19, fcv_len rfl])
                replace U := U.st x20 (.inr f19)
                refine ⟨.inl rfl, ?_⟩
                refine p_nil ?_
                refine hK17 _ _ ?_
                refine fg4 0 2 3 4 (gS rfl (gS rfl (gS rfl (gS rfl (gS rfl (gS rfl (gS rfl (gS rfl (gS rfl (gS rfl (gS rfl (gS rfl (gS rfl g0))))))))))))) (gS rfl (gS rfl (gS rfl (gS rfl (gS rfl (gS rfl (gS rfl (gS rfl (gS rfl (gS rfl (gS rfl (gS rfl g0)))))))))))) (gS rfl (gS rfl (gS rfl (gS rfl (gS rfl (gS rfl (gS rfl (gS rfl (gS rfl (gS rfl (gS rfl g0))))))))))) g0 (fun g => ?_)
                refine c_seq (fun K21 hK21 => ?_)
                exact (by
                  refine c_region ?_
                  refine l_step y_assignC ?_
                  refine l_nil ?_
                  refine hK21 _ _ ?_
                  refine c_seq (fun K22 hK22 => ?_)
                  exact (by
                    refine c_region ?_
                    refine l_step (y_bld bN bld65_z) ?_
                    have hnwN := hX.ex.vl.new
                    have hfzN := hX.ex.vl.fz
                    refine l_eff (e_alloc zr_65) (fun v23 w23 h23 => ?_)
                    obtain ⟨b23, rfl, n23⟩ := h23
                    have d9_23 : b9 < b23 := Nat.lt_of_lt_of_le k9.lt n23.fresh
                    have d19_23 : b19 < b23 := Nat.lt_of_lt_of_le k19.lt n23.fresh
                    have f23 : w.heap.size ≤ b23 := Nat.le_trans U.size n23.fresh
                    replace k9 := k9.up n23.up
                    replace k19 := k19.up n23.up
                    replace hX := hX.up n23.up
                    replace U := U.tr n23.up
                    have k23 := n23.blk
                    obtain ⟨zs23, hz23, k23⟩ : ∃ cs : Array Value, cs.size = 4 ∧ Blk w23 b23 cs := ⟨_, rfl, k23⟩
                    have nc23 := hnwN b23 n23.fresh
                    have nh23 : ¬ H.has b23 := fun hh => by have h9 := hfzN.lt hh; have h8 := n23.fresh; omega
                    refine l_effN (e_store sz_65 (et g0 rfl) (cellsV (et (gS rfl g0) rfl) rfl) rfl (by exact one_uL _) k23 (by (first | (rw [hz23]; exact Nat.le_refl _) | (rw [List.size_toArray, wL_len]; exact Nat.le_refl _)))) (fun v24 w24 h24 => ?_)
                    obtain ⟨rfl, x24⟩ := h24
                    replace k9 := k9.ch x24.ch (by omega)
                    replace k19 := k19.ch x24.ch (by omega)
                    replace hX := hX.ch x24.ch (by first | omega | (intro b hb; first | (subst hb; first | exact ⟨by omega, fun hh => by have := hfz.lt hh; omega, by omega⟩ | exact ⟨by omega, by assumption, by omega⟩) | (rcases hb with hb | hb <;> (subst hb; first | exact ⟨by omega, fun hh => by have := hfz.lt hh; omega, by omega⟩ | exact ⟨by omega, by assumption, by omega⟩))))
                    replace k23 := x24.blk.full (by first | (rw [hz23]; rfl) | (rw [List.size_toArray, wL_len, wL_len]))
                    replace U := U.st x24 (.inr f23)
                    refine l_nil ?_
                    refine hK22 _ _ ?_
                    refine fg6 0 2 3 4 5 6 (gS rfl (gS rfl (gS rfl (gS rfl (gS rfl (gS rfl g0)))))) (gS rfl (gS rfl (gS rfl (gS rfl (gS rfl g0))))) (gS rfl (gS rfl (gS rfl (gS rfl g0)))) (gS rfl (gS rfl (gS rfl g0))) (gS rfl (gS rfl g0)) g0 (fun g => ?_)
                    refine c_seq (fun K25 hK25 => ?_)
                    refine c_seq (fun K26 hK26 => ?_)
                    exact (by
                      refine c_region ?_
                      refine l_step (y_moveV (et (gS rfl (gS rfl (gS rfl (gS rfl (gS rfl g0))))) rfl)) ?_
                      refine l_eff (e_callV cal_108 (aC (et g0 rfl) aN) (m_opcode hX.ex hsf1 hph1)) (fun v27 w27 h27 => ?_)
                      obtain ⟨rfl, u27⟩ := h27
                      replace k9 := k9.up u27
                      replace k19 := k19.up u27
                      replace k23 := k23.up u27
                      replace hX := hX.up u27
                      replace U := U.tr u27
                      refine l_nil ?_
                      refine hK26 _ _ ?_
                      refine fg7 0 2 3 4 5 6 39 (gS rfl (gS rfl (gS rfl (gS rfl (gS rfl (gS rfl (gS rfl g0))))))) (gS rfl (gS rfl (gS rfl (gS rfl (gS rfl (gS rfl g0)))))) (gS rfl (gS rfl (gS rfl (gS rfl (gS rfl g0))))) (gS rfl (gS rfl (gS rfl (gS rfl g0)))) (gS rfl (gS rfl (gS rfl g0))) (gS rfl (gS rfl g0)) g0 (fun g => ?_)
                      refine c_block (fun Q28 hQ28 => ?_)
                      refine c_seq (fun K29 hK29 => ?_)
                      exact (by
                        refine c_region ?_
                        refine l_step (y_eql (et g0 rfl) rfl) ?_
                        refine l_step (y_assignV (et g0 rfl)) ?_
                        refine l_nil ?_
                        refine hK29 _ _ ?_
                        refine fg8 0 2 3 4 5 6 39 40 (gS rfl (gS rfl (gS rfl (gS rfl (gS rfl (gS rfl (gS rfl (gS rfl g0)))))))) (gS rfl (gS rfl (gS rfl (gS rfl (gS rfl (gS rfl (gS rfl g0))))))) (gS rfl (gS rfl (gS rfl (gS rfl (gS rfl (gS rfl g0)))))) (gS rfl (gS rfl (gS rfl (gS rfl (gS rfl g0))))) (gS rfl (gS rfl (gS rfl (gS rfl g0)))) (gS rfl (gS rfl (gS rfl g0))) (gS rfl (gS rfl g0)) g0 (fun g => ?_)
                        refine c_false (et g0 rfl) (by (exact decide_eq_false (by omega))) ?_
                        refine c_seq (fun K31 hK31 => ?_)
                        exact (by
                          refine c_region ?_
                          refine l_step (y_eql (et (gS rfl g0) rfl) rfl) ?_
                          refine l_step (y_assignV (et g0 rfl)) ?_
                          refine l_nil ?_
                          refine hK31 _ _ ?_
                          refine fg8 0 2 3 4 5 6 39 47 (gS rfl (gS rfl (gS rfl (gS rfl (gS rfl (gS rfl (gS rfl (gS rfl (gS rfl g0))))))))) (gS rfl (gS rfl (gS rfl (gS rfl (gS rfl (gS rfl (gS rfl (gS rfl g0)))))))) (gS rfl (gS rfl (gS rfl (gS rfl (gS rfl (gS rfl (gS rfl g0))))))) (gS rfl (gS rfl (gS rfl (gS rfl (gS rfl (gS rfl g0)))))) (gS rfl (gS rfl (gS rfl (gS rfl (gS rfl g0))))) (gS rfl (gS rfl (gS rfl (gS rfl g0)))) (gS rfl (gS rfl (gS rfl g0))) g0 (fun g => ?_)
                          refine c_false (et g0 rfl) (by (exact decide_eq_false (by omega))) ?_
                          refine c_seq (fun K33 hK33 => ?_)
                          exact (by
                            refine c_region ?_
                            refine l_step (y_eql (et (gS rfl g0) rfl) rfl) ?_
                            refine l_step (y_assignV (et g0 rfl)) ?_
                            refine l_nil ?_
                            refine hK33 _ _ ?_
                            refine fg8 0 2 3 4 5 6 39 60 (gS rfl (gS rfl (gS rfl (gS rfl (gS rfl (gS rfl (gS rfl (gS rfl (gS rfl g0))))))))) (gS rfl (gS rfl (gS rfl (gS rfl (gS rfl (gS rfl (gS rfl (gS rfl g0)))))))) (gS rfl (gS rfl (gS rfl (gS rfl (gS rfl (gS rfl (gS rfl g0))))))) (gS rfl (gS rfl (gS rfl (gS rfl (gS rfl (gS rfl g0)))))) (gS rfl (gS rfl (gS rfl (gS rfl (gS rfl g0))))) (gS rfl (gS rfl (gS rfl (gS rfl g0)))) (gS rfl (gS rfl (gS rfl g0))) g0 (fun g => ?_)
                            refine c_true (et g0 rfl) (by (exact decide_eq_true (by omega))) ?_
                            refine c_seq (fun K35 hK35 => ?_)
                            exact (by
                              refine c_region ?_
                              refine l_step (y_fld fld_71_0 (et (gS rfl (gS rfl (gS rfl (gS rfl g0)))) rfl)) ?_
                              refine l_effN (e_store sz_5 (et g0 rfl) (cellsV rfl rfl) rfl (by first | exact one_bL _ | exact one_uL _ | (intro v hv; simp at hv; subst hv; rfl)) k19 (by (rw [List.size_toArray, fcv_len rfl]; decide))) (fun v36 w36 h36 => ?_)
                              obtain ⟨rfl, x36⟩ := h36
                              replace k9 := k9.ch x36.ch (by omega)
                              replace k23 := k23.ch x36.ch (by omega)
                              replace hX := hX.ch x36.ch (by first | omega | (intro b hb; first | (subst hb; first | exact ⟨by omega, fun hh => by have := hfz.lt hh; omega, by omega⟩ | exact ⟨by omega, by assumption, by omega⟩) | (rcases hb with hb | hb <;> (subst hb; first | exact ⟨by omega, fun hh => by have := hfz.lt hh; omega, by omega⟩ | exact ⟨by omega, by assumption, by omega⟩))))
                              replace k19 := x36.blk
                              replace U := U.st x36 (.inr f19)
                              replace k19 := Blk.fkd (q := 3) k19
                              refine l_nil ?_
                              refine hK35 _ _ ?_
                              refine fg6 0 2 3 4 5 6 (gS rfl (gS rfl (gS rfl (gS rfl (gS rfl (gS rfl (gS rfl (gS rfl g0)))))))) (gS rfl (gS rfl (gS rfl (gS rfl (gS rfl (gS rfl (gS rfl g0))))))) (gS rfl (gS rfl (gS rfl (gS rfl (gS rfl (gS rfl g0)))))) (gS rfl (gS rfl (gS rfl (gS rfl (gS rfl g0))))) (gS rfl (gS rfl (gS rfl (gS rfl g0)))) (gS rfl (gS rfl (gS rfl g0))) (fun g => ?_)
                              refine c_seq (fun K37 hK37 => ?_)
                              exact (by
                                refine c_region ?_
                                refine l_step (y_moveV (et (gS rfl (gS rfl (gS rfl (gS rfl g0)))) rfl)) ?_
                                refine l_step (y_nil (et g0 rfl)) ?_
                                refine l_step (y_fld fld_71_9 (et g0 rfl)) ?_
                                refine l_step (y_loadR agg_25 sz_25 (et g0 rfl) (by rw [length_bL, length_be]) (at1R (hX.ex.vl.kC.rowO hR1.r2 (by omega)))) ?_
                                refine l_step (y_fld fld_71_9 (et (gS rfl (gS rfl (gS rfl (gS rfl (gS rfl (gS rfl g0)))))) rfl)) ?_
                                refine l_effN (e_store sz_25 (et g0 rfl) (cellsV (et (gS rfl g0) rfl) rfl) (by rw [length_bL, length_be]) (by exact one_bL _) k19 (by (rw [List.size_toArray, fcv_len rfl]; decide))) (fun v38 w38 h38 => ?_)
                                obtain ⟨rfl, x38⟩ := h38
                                replace k9 := k9.ch x38.ch (by omega)
                                replace k23 := k23.ch x38.ch (by omega)
                                replace hX := hX.ch x38.ch (by first | omega | (intro b hb; first | (subst hb; first | exact ⟨by omega, fun hh => by have := hfz.lt hh; omega, by omega⟩ | exact ⟨by omega, by assumption, by omega⟩) | (rcases hb with hb | hb <;> (subst hb; first | exact ⟨by omega, fun hh => by have := hfz.lt hh; omega, by omega⟩ | exact ⟨by omega, by assumption, by omega⟩))))
                                replace k19 := x38.blk
                                replace U := U.st x38 (.inr f19)
                                replace k19 := Blk.fse (q := _) k19
                                refine l_nil ?_
                                refine hK37 _ _ ?_
                                refine fg6 0 2 3 4 5 6 (gS rfl (gS rfl (gS rfl (gS rfl (gS rfl (gS rfl (gS rfl (gS rfl (gS rfl (gS rfl g0)))))))))) (gS rfl (gS rfl (gS rfl (gS rfl (gS rfl (gS rfl (gS rfl (gS rfl (gS rfl g0))))))))) (gS rfl (gS rfl (gS rfl (gS rfl (gS rfl (gS rfl (gS rfl (gS rfl g0)))))))) (gS rfl (gS rfl (gS rfl (gS rfl (gS rfl (gS rfl (gS rfl g0))))))) (gS rfl (gS rfl (gS rfl (gS rfl (gS rfl (gS rfl g0)))))) (gS rfl (gS rfl (gS rfl (gS rfl (gS rfl g0))))) (fun g => ?_)
                                refine c_seq (fun K39 hK39 => ?_)
                                exact (by
                                  refine c_region ?_
                                  refine l_step (y_moveV (et (gS rfl (gS rfl (gS rfl (gS rfl g0)))) rfl)) ?_
                                  refine l_step (y_nil (et g0 rfl)) ?_
                                  refine l_step (y_fld fld_71_10 (et g0 rfl)) ?_
                                  refine l_step (y_loadR agg_25 sz_25 (et g0 rfl) (by rw [length_bL, length_be]) (at1R (hX.ex.vl.kC.rowO hR1.r3 (by omega)))) ?_
                                  refine l_step (y_fld fld_71_10 (et (gS rfl (gS rfl (gS rfl (gS rfl (gS rfl (gS rfl g0)))))) rfl)) ?_
                                  refine l_effN (e_store sz_25 (et g0 rfl) (cellsV (et (gS rfl g0) rfl) rfl) (by rw [length_bL, length_be]) (by exact one_bL _) k19 (by (rw [List.size_toArray, fcv_len rfl]; decide))) (fun v40 w40 h40 => ?_)
                                  obtain ⟨rfl, x40⟩ := h40
                                  replace k9 := k9.ch x40.ch (by omega)
                                  replace k23 := k23.ch x40.ch (by omega)
                                  replace hX := hX.ch x40.ch (by first | omega | (intro b hb; first | (subst hb; first | exact ⟨by omega, fun hh => by have := hfz.lt hh; omega, by omega⟩ | exact ⟨by omega, by assumption, by omega⟩) | (rcases hb with hb | hb <;> (subst hb; first | exact ⟨by omega, fun hh => by have := hfz.lt hh; omega, by omega⟩ | exact ⟨by omega, by assumption, by omega⟩))))
                                  replace k19 := x40.blk
                                  replace U := U.st x40 (.inr f19)
                                  replace k19 := Blk.fca (q := _) k19
                                  refine l_nil ?_
                                  refine hK39 _ _ ?_
                                  refine fg6 0 2 3 4 5 6 (gS rfl (gS rfl (gS rfl (gS rfl (gS rfl (gS rfl (gS rfl (gS rfl (gS rfl (gS rfl g0)))))))))) (gS rfl (gS rfl (gS rfl (gS rfl (gS rfl (gS rfl (gS rfl (gS rfl (gS rfl g0))))))))) (gS rfl (gS rfl (gS rfl (gS rfl (gS rfl (gS rfl (gS rfl (gS rfl g0)))))))) (gS rfl (gS rfl (gS rfl (gS rfl (gS rfl (gS rfl (gS rfl g0))))))) (gS rfl (gS rfl (gS rfl (gS rfl (gS rfl (gS rfl g0)))))) (gS rfl (gS rfl (gS rfl (gS rfl (gS rfl g0))))) (fun g => ?_)
                                  refine c_region ?_
                                  refine l_step (y_moveV (et (gS rfl (gS rfl (gS rfl (gS rfl g0)))) rfl)) ?_
                                  refine l_step (y_nil (et g0 rfl)) ?_
                                  refine l_step (y_fld fld_71_11 (et g0 rfl)) ?_
                                  refine l_step (y_loadR agg_65 sz_65 (et g0 rfl) rfl (at1R (hX.ex.vl.kC.rowO hR1.r4 (by omega)))) ?_
                                  refine l_step (y_fld fld_71_11 (et (gS rfl (gS rfl (gS rfl (gS rfl (gS rfl (gS rfl g0)))))) rfl)) ?_
                                  refine l_effN (e_store sz_65 (et g0 rfl) (cellsV (et (gS rfl g0) rfl) rfl) (wL_len _) (by exact one_uL _) k19 (by (rw [List.size_toArray, fcv_len rfl]; decide))) (fun v41 w41 h41 => ?_)
                                  obtain ⟨rfl, x41⟩ := h41
                                  replace k9 := k9.ch x41.ch (by omega)
                                  replace k23 := k23.ch x41.ch (by omega)
                                  replace hX := hX.ch x41.ch (by first | omega | (intro b hb; first | (subst hb; first | exact ⟨by omega, fun hh => by have := hfz.lt hh; omega, by omega⟩ | exact ⟨by omega, by assumption, by omega⟩) | (rcases hb with hb | hb <;> (subst hb; first | exact ⟨by omega, fun hh => by have := hfz.lt hh; omega, by omega⟩ | exact ⟨by omega, by assumption, by omega⟩))))
                                  replace k19 := x41.blk
                                  replace U := U.st x41 (.inr f19)
                                  replace k19 := Blk.fva (q := _) k19
                                  refine l_nil ?_
                                  refine hQ28 _ _ _ (in_normal ?_)
                                  refine hK25 _ _ ?_
                                  refine fg6 0 2 3 4 5 6 (gS rfl (gS rfl (gS rfl (gS rfl (gS rfl (gS rfl (gS rfl (gS rfl (gS rfl (gS rfl g0)))))))))) (gS rfl (gS rfl (gS rfl (gS rfl (gS rfl (gS rfl (gS rfl (gS rfl (gS rfl g0))))))))) (gS rfl (gS rfl (gS rfl (gS rfl (gS rfl (gS rfl (gS rfl (gS rfl g0)))))))) (gS rfl (gS rfl (gS rfl (gS rfl (gS rfl (gS rfl (gS rfl g0))))))) (gS rfl (gS rfl (gS rfl (gS rfl (gS rfl (gS rfl g0)))))) (gS rfl (gS rfl (gS rfl (gS rfl (gS rfl g0))))) (fun g => ?_)
                                  refine c_seq (fun K42 hK42 => ?_)
                                  exact (by
                                    refine c_draw Up 9 [(0, true), (1, true), (2, true), (3, true), (4, true), (5, true), (6, false), (7, false), (8, true), (9, false)] (by kernel_rfl) (fun w43 hu => ⟨Up.refl _, ?_⟩)
                                    replace k9 := k9.up hu
                                    replace k19 := k19.up hu
                                    replace k23 := k23.up hu
                                    replace hX := hX.up hu
                                    replace U := U.tr hu
                                    have SU := Up.refl w43
                                    refine p_step (by exact rfl) (y_moveV (et (gS rfl (gS rfl (gS rfl (gS rfl g0)))) rfl)) ?_
                                    refine p_step (by exact rfl) (y_nil (et g0 rfl)) ?_
                                    refine p_step (by exact rfl) (y_fld fld_71_7 (et g0 rfl)) ?_
                                    refine p_step (by exact rfl) (y_load1 one_26 (et g0 rfl) (atS (hX.ex.vl.c1 (hR1.r1 7 _ rfl) (by omega)))) ?_
                                    refine p_step (by exact rfl) (y_moveV (et (gS rfl (gS rfl (gS rfl (gS rfl (gS rfl (gS rfl (gS rfl (gS rfl (gS rfl g0))))))))) rfl)) ?_
                                    refine p_step (by exact rfl) (y_moveV (et (gS rfl (gS rfl (gS rfl (gS rfl (gS rfl (gS rfl (gS rfl (gS rfl (gS rfl g0))))))))) rfl)) ?_
                                    refine p_eff (by exact rfl) (e_callV cal_264 (aC (et (gS rfl g0) rfl) (aC (et g0 rfl) (aC (v := .int .i64 ((0 : Nat) : Int)) rfl aN))) (m_arg hX.ex hsf1 hph1 rfl 0 (by decide))) (fun v44 w44 h44 => ?_)
                                    obtain ⟨rfl, u44⟩ := h44
                                    replace k9 := k9.up u44
                                    replace k19 := k19.up u44
                                    replace k23 := k23.up u44
                                    replace hX := hX.up u44
                                    replace U := U.tr u44
                                    refine ⟨.inr (SU.tr u44), ?_⟩
                                    replace SU := SU.tr u44
                                    refine p_eff (by exact rfl) (e_callV cal_315 (aC (et (gS rfl (gS rfl (gS rfl g0))) rfl) (aC (et g0 rfl) aN)) (mach_sentGas _ _ _ (by omega) (argN_lt hB _))) (fun v45 w45 h45 => ?_)
                                    obtain ⟨rfl, u45⟩ := h45
                                    replace k9 := k9.up u45
                                    replace k19 := k19.up u45
                                    replace k23 := k23.up u45
                                    replace hX := hX.up u45
                                    replace U := U.tr u45
                                    refine ⟨.inr (SU.tr u45), ?_⟩
                                    replace SU := SU.tr u45
                                    exact (by
                                      refine p_step (by exact rfl) (y_fld fld_71_7 (et (gS rfl (gS rfl (gS rfl (gS rfl (gS rfl (gS rfl (gS rfl (gS rfl (gS rfl (gS rfl g0)))))))))) rfl)) ?_
                                      refine p_effN (by exact rfl) (e_store sz_26 (et g0 rfl) (cellsV (et (gS rfl g0) rfl) rfl) rfl (by first | exact one_bL _ | exact one_uL _ | (intro v hv; simp at hv; subst hv; rfl)) k19 (by (rw [List.size_toArray, fcv_len rfl]; decide))) (fun v46 w46 h46 => ?_)
                                      obtain ⟨rfl, x46⟩ := h46
                                      replace k9 := k9.ch x46.ch (by omega)
                                      replace k23 := k23.ch x46.ch (by omega)
                                      replace hX := hX.ch x46.ch (by first | omega | (intro b hb; first | (subst hb; first | exact ⟨by omega, fun hh => by have := hfz.lt hh; omega, by omega⟩ | exact ⟨by omega, by assumption, by omega⟩) | (rcases hb with hb | hb <;> (subst hb; first | exact ⟨by omega, fun hh => by have := hfz.lt hh; omega, by omega⟩ | exact ⟨by omega, by assumption, by omega⟩))))
                                      replace k19 := x46.blk
                                      replace U := U.st x46 (.inr f19)
                                      refine ⟨.inl rfl, ?_⟩
                                      replace k19 := Blk.fgs (q := _) k19
                                      replace k19 : Blk w46 b19 (fcv (cFr 3 f.static f.value f.self f.caller (sentN f.gas (argN f.stack 0)) 0 [] []) (.slice none 0 0) (.slice none 0 0) 0 0 0 (List.replicate 8 0)).toArray := k19
                                      have hsl := sent_le f.gas (argN f.stack 0)
                                      refine p_nil ?_
                                      refine hK42 _ _ ?_
                                      refine fg6 0 2 3 4 5 6 (gS rfl (gS rfl (gS rfl (gS rfl (gS rfl (gS rfl (gS rfl (gS rfl (gS rfl (gS rfl (gS rfl (gS rfl (gS rfl (gS rfl g0)))))))))))))) (gS rfl (gS rfl (gS rfl (gS rfl (gS rfl (gS rfl (gS rfl (gS rfl (gS rfl (gS rfl (gS rfl (gS rfl (gS rfl g0))))))))))))) (gS rfl (gS rfl (gS rfl (gS rfl (gS rfl (gS rfl (gS rfl (gS rfl (gS rfl (gS rfl (gS rfl (gS rfl g0)))))))))))) (gS rfl (gS rfl (gS rfl (gS rfl (gS rfl (gS rfl (gS rfl (gS rfl (gS rfl (gS rfl (gS rfl g0))))))))))) (gS rfl (gS rfl (gS rfl (gS rfl (gS rfl (gS rfl (gS rfl (gS rfl (gS rfl (gS rfl g0)))))))))) (gS rfl (gS rfl (gS rfl (gS rfl (gS rfl (gS rfl (gS rfl (gS rfl (gS rfl g0))))))))) (fun g => ?_)
                                      refine c_seq (fun K47 hK47 => ?_)
                                      exact (by
                                        refine c_draw Up 9 [(0, true), (1, true), (2, true), (3, true), (4, true), (5, true), (6, true), (7, true), (8, true), (9, false)] (by kernel_rfl) (fun w48 hu => ⟨Up.refl _, ?_⟩)
                                        replace k9 := k9.up hu
                                        replace k19 := k19.up hu
                                        replace k23 := k23.up hu
                                        replace hX := hX.up hu
                                        replace U := U.tr hu
                                        have SU := Up.refl w48
                                        refine p_step (by exact rfl) (y_moveV (et (gS rfl (gS rfl (gS rfl (gS rfl g0)))) rfl)) ?_
                                        refine p_step (by exact rfl) (y_nil (et g0 rfl)) ?_
                                        refine p_step (by exact rfl) (y_fld fld_71_7 (et g0 rfl)) ?_
                                        refine p_step (by exact rfl) (y_load1 one_26 (et g0 rfl) (atS (hX.ex.vl.c1 (hR1.r1 7 _ rfl) (by omega)))) ?_
                                        refine p_step (by exact rfl) (y_fld fld_71_7 (et (gS rfl (gS rfl (gS rfl (gS rfl (gS rfl (gS rfl g0)))))) rfl)) ?_
                                        refine p_step (by exact rfl) (y_load1 one_26 (et g0 rfl) (atS (k19.cell (show _ = some (Value.int .u64 ((sentN f.gas (argN f.stack 0)) : Nat)) from rfl)))) ?_
                                        refine p_step (by exact rfl) (y_sub (et (gS rfl (gS rfl g0)) rfl) (et g0 rfl) (wrapU_subN uk64 ?_ ?_)) ?_
                                        omega
                                        omega
                                        refine p_step (by exact rfl) (y_nil (et (gS rfl (gS rfl (gS rfl (gS rfl (gS rfl (gS rfl g0)))))) rfl)) ?_
                                        refine p_step (by exact rfl) (y_fld fld_71_7 (et g0 rfl)) ?_
                                        refine p_effN (by exact rfl) (e_store sz_26 (et g0 rfl) (cellsV (et (gS rfl (gS rfl g0)) rfl) rfl) rfl (by intro v hv; simp at hv; subst hv; rfl) hX.ex.vl.kC (by rw [hX.ex.vl.size]; omega)) (fun v49 w49 h49 => ?_)
                                        obtain ⟨rfl, x49⟩ := h49
                                        have hv49 := hX.stGas hsf1 hph1 (p := f.gas - (sentN f.gas (argN f.stack 0))) (c' := c1 + (sentN f.gas (argN f.stack 0))) (by omega) (by omega) (by omega) x49
                                        replace k9 := k9.ch x49.ch (by intro hm; first | omega | (subst hm; omega))
                                        replace k19 := k19.ch x49.ch (by intro hm; first | omega | (subst hm; omega))
                                        replace k23 := k23.ch x49.ch (by intro hm; first | omega | (subst hm; omega))
                                        replace hX := hv49
                                        replace U := U.cc x49.ch (by intro b hb; exact .inl trivial)
                                        have hsk : f.stack = f.stack := rfl
                                        obtain ⟨f2, hf2⟩ : ∃ f2 : YF, f2 = { f with gas := f.gas - (sentN f.gas (argN f.stack 0)) } := ⟨_, rfl⟩
                                        obtain ⟨s2, hs2⟩ : ∃ s2 : YSt, s2 = { s1 with frames := low ++ [f2] } := ⟨_, rfl⟩
                                        replace hX := hX.reS (show s2 = { s1 with frames := low ++ [{ f with gas := f.gas - (sentN f.gas (argN f.stack 0)) }] } by rw [hs2, hf2])
                                        have hsf2 : s2.frames = low ++ [f2] := by rw [hs2]
                                        have hph2 : s2.phase = 1 := by rw [hs2]; exact hph1
                                        have hsk2 : f2.stack = f.stack := by first | (rw [hf2]; done) | (rw [hf2]; exact hsk)
                                        obtain ⟨n7, hn7, hR2⟩ := hX.ex.topF hsf2
                                        have hg2 : f2.gas = f.gas - (sentN f.gas (argN f.stack 0)) := by rw [hf2]
                                        have hse2 : f2.self = f.self := by rw [hf2]
                                        have hac2 : s2.now.accts = s.now.accts := by rw [hs2]; exact hac
                                        have hap2 : s2.applied ≤ 4 := by rw [hs2]; exact hap1
                                        refine ⟨.inl rfl, ?_⟩
                                        refine p_nil ?_
                                        refine hK47 _ _ ?_
                                        refine fg6 0 2 3 4 5 6 (gS rfl (gS rfl (gS rfl (gS rfl (gS rfl (gS rfl (gS rfl (gS rfl (gS rfl (gS rfl (gS rfl (gS rfl (gS rfl (gS rfl g0)))))))))))))) (gS rfl (gS rfl (gS rfl (gS rfl (gS rfl (gS rfl (gS rfl (gS rfl (gS rfl (gS rfl (gS rfl (gS rfl (gS rfl g0))))))))))))) (gS rfl (gS rfl (gS rfl (gS rfl (gS rfl (gS rfl (gS rfl (gS rfl (gS rfl (gS rfl (gS rfl (gS rfl g0)))))))))))) (gS rfl (gS rfl (gS rfl (gS rfl (gS rfl (gS rfl (gS rfl (gS rfl (gS rfl (gS rfl (gS rfl g0))))))))))) (gS rfl (gS rfl (gS rfl (gS rfl (gS rfl (gS rfl (gS rfl (gS rfl (gS rfl (gS rfl g0)))))))))) (gS rfl (gS rfl (gS rfl (gS rfl (gS rfl (gS rfl (gS rfl (gS rfl (gS rfl g0))))))))) (fun g => ?_)
                                        refine c_seq (fun K50 hK50 => ?_)
                                        refine c_seq (fun K51 hK51 => ?_)
                                        exact (by
                                          refine c_region ?_
                                          refine l_step (y_loadB agg_65 sz_65 (et g0 rfl) rfl (at1B k23)) ?_
                                          refine l_eff (e_callV cal_78 (aC (et g0 rfl) aN) (isZero_spec _ _ (by decide))) (fun v52 w52 h52 => ?_)
                                          obtain ⟨rfl, u52⟩ := h52
                                          replace k9 := k9.up u52
                                          replace k19 := k19.up u52
                                          replace k23 := k23.up u52
                                          replace hX := hX.up u52
                                          replace U := U.tr u52
                                          refine l_step (y_not (et g0 rfl)) ?_
                                          refine l_nil ?_
                                          refine hK51 _ _ ?_
                                          refine fg7 0 2 3 4 5 6 102 (gS rfl (gS rfl (gS rfl (gS rfl (gS rfl (gS rfl (gS rfl (gS rfl g0)))))))) (gS rfl (gS rfl (gS rfl (gS rfl (gS rfl (gS rfl (gS rfl g0))))))) (gS rfl (gS rfl (gS rfl (gS rfl (gS rfl (gS rfl g0)))))) (gS rfl (gS rfl (gS rfl (gS rfl (gS rfl g0))))) (gS rfl (gS rfl (gS rfl (gS rfl g0)))) (gS rfl (gS rfl (gS rfl g0))) g0 (fun g => ?_)
                                          refine c_false (et g0 rfl) (by rfl) ?_
                                          refine c_skip ?_
                                          refine hK50 _ _ ?_
                                          refine fg6 0 2 3 4 5 6 (gS rfl (gS rfl (gS rfl (gS rfl (gS rfl (gS rfl g0)))))) (gS rfl (gS rfl (gS rfl (gS rfl (gS rfl g0))))) (gS rfl (gS rfl (gS rfl (gS rfl g0)))) (gS rfl (gS rfl (gS rfl g0))) (gS rfl (gS rfl g0)) (gS rfl g0) (fun g => ?_)
                                          refine c_seq (fun K54 hK54 => ?_)
                                          refine c_seq (fun K55 hK55 => ?_)
                                          exact (by
                                            refine c_draw Up 18 [(0, true), (1, true), (2, true), (3, true), (4, true), (5, true), (6, true), (7, true), (8, true), (9, true), (10, true), (11, true), (12, true), (13, true), (15, true), (14, false), (16, false), (17, true)] (by kernel_rfl) (fun w56 hu => ⟨Up.refl _, ?_⟩)
                                            replace k9 := k9.up hu
                                            replace k19 := k19.up hu
                                            replace k23 := k23.up hu
                                            replace hX := hX.up hu
                                            replace U := U.tr hu
                                            have SU := Up.refl w56
                                            refine p_step (by exact rfl) (y_moveV (et (gS rfl (gS rfl (gS rfl (gS rfl (gS rfl g0))))) rfl)) ?_
                                            refine p_step (by exact rfl) (y_nil (et g0 rfl)) ?_
                                            refine p_step (by exact rfl) (y_fld fld_75_4 (et g0 rfl)) ?_
                                            have e7 : cG f 244 = (sentN f.gas (argN f.stack 0)) := by unfold cG; rw [show cV f 244 = 0 from rfl, if_pos rfl]; rfl
                                            rw [← e7] at k19
                                            have hcg : cG f 244 ≤ (sentN f.gas (argN f.stack 0)) + 2300 := by rw [e7]; omega
                                            refine p_step (by exact rfl) (y_load1 one_73 (et g0 rfl) (atS (hX.ex.vl.c1 (hX.ex.cTop hsf2) (by omega)))) ?_
                                            refine p_step (by exact rfl) (y_geq (et g0 rfl) rfl) ?_
                                            refine p_step (by exact rfl) (y_moveV (et g0 rfl)) ?_
                                            refine gsplitP (i := 112) g0 (fun q57 => ?_) (fun q57 => ?_)
                                            · skip
                                              have hd6 : 6 ≤ low.length := by have := of_decide_eq_true q57; omega
                                              refine p_gskip (j := 5) (t := 112) (by exact rfl) (by exact rfl) (by exact rfl) (et g0 rfl) rfl rfl ?_
                                              refine p_gskip (j := 5) (t := 112) (by exact rfl) (by exact rfl) (by exact rfl) (et (gS rfl g0) rfl) rfl rfl ?_
                                              refine p_gskip (j := 5) (t := 112) (by exact rfl) (by exact rfl) (by exact rfl) (et (gS rfl (gS rfl g0)) rfl) rfl rfl ?_
                                              refine p_gskip (j := 5) (t := 112) (by exact rfl) (by exact rfl) (by exact rfl) (et (gS rfl (gS rfl (gS rfl g0))) rfl) rfl rfl ?_
                                              refine p_gskip (j := 5) (t := 112) (by exact rfl) (by exact rfl) (by exact rfl) (et (gS rfl (gS rfl (gS rfl (gS rfl g0)))) rfl) rfl rfl ?_
                                              refine p_gskip (j := 5) (t := 112) (by exact rfl) (by exact rfl) (by exact rfl) (et (gS rfl (gS rfl (gS rfl (gS rfl (gS rfl g0))))) rfl) rfl rfl ?_
                                              refine p_gskip (j := 5) (t := 112) (by exact rfl) (by exact rfl) (by exact rfl) (et (gS rfl (gS rfl (gS rfl (gS rfl (gS rfl (gS rfl g0)))))) rfl) rfl rfl ?_
                                              refine p_gskip (j := 5) (t := 112) (by exact rfl) (by exact rfl) (by exact rfl) (et (gS rfl (gS rfl (gS rfl (gS rfl (gS rfl (gS rfl (gS rfl g0))))))) rfl) rfl rfl ?_
                                              refine p_gskip (j := 5) (t := 112) (by exact rfl) (by exact rfl) (by exact rfl) (et (gS rfl (gS rfl (gS rfl (gS rfl (gS rfl (gS rfl (gS rfl (gS rfl g0)))))))) rfl) rfl rfl ?_
                                              refine p_geskip (j := 5) (t := 112) (by exact rfl) (by exact rfl) (by exact rfl) (et (gS rfl (gS rfl (gS rfl (gS rfl (gS rfl (gS rfl (gS rfl (gS rfl (gS rfl g0))))))))) rfl) rfl rfl ⟨.inr SU, ?_⟩
                                              refine p_geskip (j := 5) (t := 112) (by exact rfl) (by exact rfl) (by exact rfl) (et (gS rfl (gS rfl (gS rfl (gS rfl (gS rfl (gS rfl (gS rfl (gS rfl (gS rfl (gS rfl g0)))))))))) rfl) rfl rfl ⟨.inr SU, ?_⟩
                                              refine p_step (by exact rfl) (y_pickT (et (gS rfl (gS rfl (gS rfl (gS rfl (gS rfl (gS rfl (gS rfl (gS rfl (gS rfl (gS rfl (gS rfl g0))))))))))) rfl) rfl) ?_
                                              refine p_nil ?_
                                              refine hK55 _ _ ?_
                                              refine fg6 0 2 3 4 5 124 (gS rfl (gS rfl (gS rfl (gS rfl (gS rfl (gS rfl (gS rfl (gS rfl (gS rfl (gS rfl (gS rfl (gS rfl (gS rfl (gS rfl (gS rfl (gS rfl (gS rfl (gS rfl (gS rfl (gS rfl (gS rfl (gS rfl (gS rfl (gS rfl g0)))))))))))))))))))))))) (gS rfl (gS rfl (gS rfl (gS rfl (gS rfl (gS rfl (gS rfl (gS rfl (gS rfl (gS rfl (gS rfl (gS rfl (gS rfl (gS rfl (gS rfl (gS rfl (gS rfl (gS rfl (gS rfl (gS rfl (gS rfl (gS rfl (gS rfl g0))))))))))))))))))))))) (gS rfl (gS rfl (gS rfl (gS rfl (gS rfl (gS rfl (gS rfl (gS rfl (gS rfl (gS rfl (gS rfl (gS rfl (gS rfl (gS rfl (gS rfl (gS rfl (gS rfl (gS rfl (gS rfl (gS rfl (gS rfl (gS rfl g0)))))))))))))))))))))) (gS rfl (gS rfl (gS rfl (gS rfl (gS rfl (gS rfl (gS rfl (gS rfl (gS rfl (gS rfl (gS rfl (gS rfl (gS rfl (gS rfl (gS rfl (gS rfl (gS rfl (gS rfl (gS rfl (gS rfl (gS rfl g0))))))))))))))))))))) (gS rfl (gS rfl (gS rfl (gS rfl (gS rfl (gS rfl (gS rfl (gS rfl (gS rfl (gS rfl (gS rfl (gS rfl (gS rfl (gS rfl (gS rfl (gS rfl (gS rfl (gS rfl (gS rfl (gS rfl g0)))))))))))))))))))) g0 (fun g => ?_)
                                              refine c_true (et g0 rfl) rfl ?_
                                              refine c_seq (fun K59 hK59 => ?_)
                                              exact (by
                                                refine c_draw Up 9 [(0, true), (1, true), (2, true), (3, true), (4, true), (5, true), (6, true), (7, true), (8, true), (9, false)] (by kernel_rfl) (fun w60 hu => ⟨Up.refl _, ?_⟩)
                                                replace k9 := k9.up hu
                                                replace k19 := k19.up hu
                                                replace k23 := k23.up hu
                                                replace hX := hX.up hu
                                                replace U := U.tr hu
                                                have SU := Up.refl w60
                                                refine p_step (by exact rfl) (y_moveV (et (gS rfl (gS rfl (gS rfl (gS rfl g0)))) rfl)) ?_
                                                refine p_step (by exact rfl) (y_nil (et g0 rfl)) ?_
                                                refine p_step (by exact rfl) (y_fld fld_71_7 (et g0 rfl)) ?_
                                                refine p_step (by exact rfl) (y_load1 one_26 (et g0 rfl) (atS (hX.ex.vl.c1 (hR2.r1 7 _ rfl) (by omega)))) ?_
                                                refine p_step (by exact rfl) (y_fld fld_71_7 (et (gS rfl (gS rfl (gS rfl (gS rfl (gS rfl (gS rfl g0)))))) rfl)) ?_
                                                refine p_step (by exact rfl) (y_load1 one_26 (et g0 rfl) (atS (k19.cell (show _ = some (Value.int .u64 (cG f 244 : Nat)) from rfl)))) ?_
                                                refine p_step (by exact rfl) (y_add (et (gS rfl (gS rfl g0)) rfl) (et g0 rfl) (wrapU_addN uk64 ?_)) ?_
                                                omega
                                                refine p_step (by exact rfl) (y_nil (et (gS rfl (gS rfl (gS rfl (gS rfl (gS rfl (gS rfl g0)))))) rfl)) ?_
                                                refine p_step (by exact rfl) (y_fld fld_71_7 (et g0 rfl)) ?_
                                                refine p_effN (by exact rfl) (e_store sz_26 (et g0 rfl) (cellsV (et (gS rfl (gS rfl g0)) rfl) rfl) rfl (by intro v hv; simp at hv; subst hv; rfl) hX.ex.vl.kC (by rw [hX.ex.vl.size]; omega)) (fun v61 w61 h61 => ?_)
                                                obtain ⟨rfl, x61⟩ := h61
                                                have hv61 := hX.stGas hsf2 hph2 (p := f2.gas + cG f 244) (c' := c') (by omega) (by omega) (by omega) x61
                                                replace k9 := k9.ch x61.ch (by intro hm; first | omega | (subst hm; omega))
                                                replace k19 := k19.ch x61.ch (by intro hm; first | omega | (subst hm; omega))
                                                replace k23 := k23.ch x61.ch (by intro hm; first | omega | (subst hm; omega))
                                                replace hX := hv61
                                                replace U := U.cc x61.ch (by intro b hb; exact .inl trivial)
                                                obtain ⟨f3, hf3⟩ : ∃ f3 : YF, f3 = { f2 with gas := f2.gas + cG f 244 } := ⟨_, rfl⟩
                                                obtain ⟨s3, hs3⟩ : ∃ s3 : YSt, s3 = { s2 with frames := low ++ [f3] } := ⟨_, rfl⟩
                                                replace hX := hX.reS (show s3 = { s2 with frames := low ++ [{ f2 with gas := f2.gas + cG f 244 }] } by rw [hs3, hf3])
                                                have hsf3 : s3.frames = low ++ [f3] := by rw [hs3]
                                                have hph3 : s3.phase = 1 := by rw [hs3]; exact hph2
                                                have hsk3 : f3.stack = f.stack := by first | (rw [hf3]; done) | (rw [hf3]; exact hsk2)
                                                refine ⟨.inl rfl, ?_⟩
                                                refine p_nil ?_
                                                refine hK59 _ _ ?_
                                                refine fg3 0 2 5 (gS rfl (gS rfl (gS rfl (gS rfl (gS rfl (gS rfl (gS rfl (gS rfl (gS rfl (gS rfl (gS rfl (gS rfl (gS rfl (gS rfl g0)))))))))))))) (gS rfl (gS rfl (gS rfl (gS rfl (gS rfl (gS rfl (gS rfl (gS rfl (gS rfl (gS rfl (gS rfl (gS rfl (gS rfl g0))))))))))))) (gS rfl (gS rfl (gS rfl (gS rfl (gS rfl (gS rfl (gS rfl (gS rfl (gS rfl (gS rfl g0)))))))))) (fun g => ?_)
                                                refine c_seq (fun K62 hK62 => ?_)
                                                exact (by
                                                  refine c_region ?_
                                                  refine l_step (y_moveV (et (gS rfl (gS rfl g0)) rfl)) ?_
                                                  refine l_step (y_moveV (et (gS rfl (gS rfl g0)) rfl)) ?_
                                                  refine l_step (y_moveV (et (gS rfl (gS rfl g0)) rfl)) ?_
                                                  refine l_step (y_add (et g0 rfl) rfl (addIN (x := 2) (y := 4) ?_)) ?_
                                                  omega
                                                  refine l_step (y_conv Hvaa.underlying3 Hvaa.underlying67 (et g0 rfl) (wrapU_id uk16 ?_)) ?_
                                                  omega
                                                  refine l_step (y_bld bN bld65_z) ?_
                                                  refine l_eff (e_callV cal_259 (aC (et (gS rfl (gS rfl (gS rfl (gS rfl (gS rfl g0))))) rfl) (aC (et (gS rfl (gS rfl (gS rfl (gS rfl g0)))) rfl) (aC (et (gS rfl g0) rfl) (aC rfl (aC (et g0 rfl) (aC (v := .int .u16 ((1 : Nat) : Int)) rfl aN)))))) (m_settle1 hX.ex hsf3 hph3 rfl 6 _ 1 (by rw [hsk3]; omega) (by decide) (by rw [hf3, hf2]; show f.pc + 1 ≤ 560; omega) (by rw [hsk3]; omega))) (fun v63 w63 h63 => ?_)
                                                  obtain ⟨rfl, cs63, y63⟩ := h63
                                                  replace k9 := k9.ch y63.et.go.ch (by intro hm; (have e0 := hm); omega)
                                                  replace k19 := k19.ch y63.et.go.ch (by intro hm; (have e0 := hm); omega)
                                                  replace k23 := k23.ch y63.et.go.ch (by intro hm; (have e0 := hm); omega)
                                                  replace hX := hX.trans y63
                                                  replace U := U.cc y63.et.go.ch (by intro b hb; exact .inl trivial)
                                                  refine l_nil ?_
                                                  refine hK62 _ _ ?_
                                                  refine fg0 (fun g => ?_)
                                                  refine c_ret ?_
                                                  repeat with_reducible refine then_ret ?_
                                                  refine ret0 rfl ?_
                                                  have hfl : cFail { s with ret := [] } f 244 low.length := .inl hd6
                                                  rw [set_ans, hf3, hf2, hs3, hs2, hs1, hs0] at hX
                                                  rw [show callY { s with ret := [] } f 244 low = { cS { s with ret := [] } f with frames := low ++ [cBack f 244] } from if_pos hfl]
                                                  refine ⟨rfl, XO.of hX ?_⟩
                                                  rw [hms]
                                                  show _ = (low ++ [cBack f 244]).map _
                                                  rw [List.map_append, List.map_append]
                                                  rfl))
                                            · skip
                                              have hd6 : ¬ 6 ≤ low.length := by have := of_decide_eq_false q57; omega
                                              refine p_gstep (j := 5) (t := 112) (by exact rfl) (by exact rfl) (by exact rfl) (et g0 rfl) rfl (y_moveV (et (gS rfl (gS rfl (gS rfl (gS rfl (gS rfl (gS rfl (gS rfl (gS rfl (gS rfl (gS rfl (gS rfl (gS rfl g0)))))))))))) rfl)) ?_
                                              refine p_gstep (j := 5) (t := 112) (by exact rfl) (by exact rfl) (by exact rfl) (et (gS rfl g0) rfl) rfl (y_nil (et g0 rfl)) ?_
                                              refine p_gstep (j := 5) (t := 112) (by exact rfl) (by exact rfl) (by exact rfl) (et (gS rfl (gS rfl g0)) rfl) rfl (y_fld fld_75_0 (et g0 rfl)) ?_
                                              refine p_gstep (j := 5) (t := 112) (by exact rfl) (by exact rfl) (by exact rfl) (et (gS rfl (gS rfl (gS rfl g0))) rfl) rfl (y_load1 one_59 (et g0 rfl) (atS (hX.ex.vl.c1 hX.ex.lx.pS rfl))) ?_
                                              refine p_gstep (j := 5) (t := 112) (by exact rfl) (by exact rfl) (by exact rfl) (et (gS rfl (gS rfl (gS rfl (gS rfl g0)))) rfl) rfl (y_moveV (et (gS rfl (gS rfl (gS rfl (gS rfl (gS rfl (gS rfl (gS rfl (gS rfl (gS rfl (gS rfl (gS rfl (gS rfl (gS rfl (gS rfl (gS rfl g0))))))))))))))) rfl)) ?_
                                              refine p_gstep (j := 5) (t := 112) (by exact rfl) (by exact rfl) (by exact rfl) (et (gS rfl (gS rfl (gS rfl (gS rfl (gS rfl g0))))) rfl) rfl (y_nil (et g0 rfl)) ?_
                                              refine p_gstep (j := 5) (t := 112) (by exact rfl) (by exact rfl) (by exact rfl) (et (gS rfl (gS rfl (gS rfl (gS rfl (gS rfl (gS rfl g0)))))) rfl) rfl (y_fld fld_71_9 (et g0 rfl)) ?_
                                              refine p_gstep (j := 5) (t := 112) (by exact rfl) (by exact rfl) (by exact rfl) (et (gS rfl (gS rfl (gS rfl (gS rfl (gS rfl (gS rfl (gS rfl g0))))))) rfl) rfl (y_loadR agg_25 sz_25 (et g0 rfl) (by rw [length_bL, length_be]) (atSR (hX.ex.vl.kC.rowO hR2.r2 (by omega)))) ?_
                                              refine p_gstep (j := 5) (t := 112) (by exact rfl) (by exact rfl) (by exact rfl) (et (gS rfl (gS rfl (gS rfl (gS rfl (gS rfl (gS rfl (gS rfl (gS rfl g0)))))))) rfl) rfl (y_loadB agg_65 sz_65 (et (gS rfl (gS rfl (gS rfl (gS rfl (gS rfl (gS rfl (gS rfl (gS rfl (gS rfl (gS rfl (gS rfl (gS rfl (gS rfl (gS rfl (gS rfl g0))))))))))))))) rfl) rfl (atSB k23)) ?_
                                              have hB2s : f2.self < A160 := by rw [hse2]; exact hB.self
                                              have hbal2 : (acctAt s2.now.accts f2.self).bal < W256 := by have h9 := hX.ex.balt f2.self; rw [hX.ex.bl] at h9; exact h9
                                              refine p_geff (j := 5) (t := 112) (by exact rfl) (by exact rfl) (by exact rfl) (et (gS rfl (gS rfl (gS rfl (gS rfl (gS rfl (gS rfl (gS rfl (gS rfl (gS rfl g0))))))))) rfl) rfl (e_callV cal_99 (aC (et (gS rfl (gS rfl (gS rfl (gS rfl (gS rfl g0))))) rfl) (aC (et (gS rfl g0) rfl) aN)) (hX.ex.balC f2.self hB2s)) (fun v64 w64 h64 => ?_)
                                              obtain ⟨rfl, u64⟩ := h64
                                              replace k9 := k9.up u64
                                              replace k19 := k19.up u64
                                              replace k23 := k23.up u64
                                              replace hX := hX.up u64
                                              replace U := U.tr u64
                                              refine ⟨.inr (SU.tr u64), ?_⟩
                                              replace SU := SU.tr u64
                                              refine p_geff (j := 5) (t := 112) (by exact rfl) (by exact rfl) (by exact rfl) (et (gS rfl (gS rfl (gS rfl (gS rfl (gS rfl (gS rfl (gS rfl (gS rfl (gS rfl (gS rfl g0)))))))))) rfl) rfl (e_callV cal_112 (aC (et g0 rfl) (aC (et (gS rfl g0) rfl) aN)) (lt_spec _ _ _ hbal2 (by decide))) (fun v65 w65 h65 => ?_)
                                              obtain ⟨rfl, u65⟩ := h65
                                              replace k9 := k9.up u65
                                              replace k19 := k19.up u65
                                              replace k23 := k23.up u65
                                              replace hX := hX.up u65
                                              replace U := U.tr u65
                                              refine ⟨.inr (SU.tr u65), ?_⟩
                                              replace SU := SU.tr u65
                                              refine p_step (by exact rfl) (y_pickF (et (gS rfl (gS rfl (gS rfl (gS rfl (gS rfl (gS rfl (gS rfl (gS rfl (gS rfl (gS rfl (gS rfl g0))))))))))) rfl) (et g0 rfl)) ?_
                                              refine p_nil ?_
                                              refine hK55 _ _ ?_
                                              refine fg6 0 2 3 4 5 124 (gS rfl (gS rfl (gS rfl (gS rfl (gS rfl (gS rfl (gS rfl (gS rfl (gS rfl (gS rfl (gS rfl (gS rfl (gS rfl (gS rfl (gS rfl (gS rfl (gS rfl (gS rfl (gS rfl (gS rfl (gS rfl (gS rfl (gS rfl (gS rfl g0)))))))))))))))))))))))) (gS rfl (gS rfl (gS rfl (gS rfl (gS rfl (gS rfl (gS rfl (gS rfl (gS rfl (gS rfl (gS rfl (gS rfl (gS rfl (gS rfl (gS rfl (gS rfl (gS rfl (gS rfl (gS rfl (gS rfl (gS rfl (gS rfl (gS rfl g0))))))))))))))))))))))) (gS rfl (gS rfl (gS rfl (gS rfl (gS rfl (gS rfl (gS rfl (gS rfl (gS rfl (gS rfl (gS rfl (gS rfl (gS rfl (gS rfl (gS rfl (gS rfl (gS rfl (gS rfl (gS rfl (gS rfl (gS rfl (gS rfl g0)))))))))))))))))))))) (gS rfl (gS rfl (gS rfl (gS rfl (gS rfl (gS rfl (gS rfl (gS rfl (gS rfl (gS rfl (gS rfl (gS rfl (gS rfl (gS rfl (gS rfl (gS rfl (gS rfl (gS rfl (gS rfl (gS rfl (gS rfl g0))))))))))))))))))))) (gS rfl (gS rfl (gS rfl (gS rfl (gS rfl (gS rfl (gS rfl (gS rfl (gS rfl (gS rfl (gS rfl (gS rfl (gS rfl (gS rfl (gS rfl (gS rfl (gS rfl (gS rfl (gS rfl (gS rfl g0)))))))))))))))))))) g0 (fun g => ?_)
                                              refine c_cond (et g0 rfl) (fun cB8 => ?_) (fun cB8 => ?_)
                                              · skip
                                                rw [hac2, hse2] at cB8
                                                have hfb : (acctAt s.now.accts f.self).bal < 0 := of_decide_eq_true cB8
                                                refine c_seq (fun K67 hK67 => ?_)
                                                exact (by
                                                  refine c_draw Up 9 [(0, true), (1, true), (2, true), (3, true), (4, true), (5, true), (6, true), (7, true), (8, true), (9, false)] (by kernel_rfl) (fun w68 hu => ⟨Up.refl _, ?_⟩)
                                                  replace k9 := k9.up hu
                                                  replace k19 := k19.up hu
                                                  replace k23 := k23.up hu
                                                  replace hX := hX.up hu
                                                  replace U := U.tr hu
                                                  have SU := Up.refl w68
                                                  refine p_step (by exact rfl) (y_moveV (et (gS rfl (gS rfl (gS rfl (gS rfl g0)))) rfl)) ?_
                                                  refine p_step (by exact rfl) (y_nil (et g0 rfl)) ?_
                                                  refine p_step (by exact rfl) (y_fld fld_71_7 (et g0 rfl)) ?_
                                                  refine p_step (by exact rfl) (y_load1 one_26 (et g0 rfl) (atS (hX.ex.vl.c1 (hR2.r1 7 _ rfl) (by omega)))) ?_
                                                  refine p_step (by exact rfl) (y_fld fld_71_7 (et (gS rfl (gS rfl (gS rfl (gS rfl (gS rfl (gS rfl g0)))))) rfl)) ?_
                                                  refine p_step (by exact rfl) (y_load1 one_26 (et g0 rfl) (atS (k19.cell (show _ = some (Value.int .u64 (cG f 244 : Nat)) from rfl)))) ?_
                                                  refine p_step (by exact rfl) (y_add (et (gS rfl (gS rfl g0)) rfl) (et g0 rfl) (wrapU_addN uk64 ?_)) ?_
                                                  omega
                                                  refine p_step (by exact rfl) (y_nil (et (gS rfl (gS rfl (gS rfl (gS rfl (gS rfl (gS rfl g0)))))) rfl)) ?_
                                                  refine p_step (by exact rfl) (y_fld fld_71_7 (et g0 rfl)) ?_
                                                  refine p_effN (by exact rfl) (e_store sz_26 (et g0 rfl) (cellsV (et (gS rfl (gS rfl g0)) rfl) rfl) rfl (by intro v hv; simp at hv; subst hv; rfl) hX.ex.vl.kC (by rw [hX.ex.vl.size]; omega)) (fun v69 w69 h69 => ?_)
                                                  obtain ⟨rfl, x69⟩ := h69
                                                  have hv69 := hX.stGas hsf2 hph2 (p := f2.gas + cG f 244) (c' := c') (by omega) (by omega) (by omega) x69
                                                  replace k9 := k9.ch x69.ch (by intro hm; first | omega | (subst hm; omega))
                                                  replace k19 := k19.ch x69.ch (by intro hm; first | omega | (subst hm; omega))
                                                  replace k23 := k23.ch x69.ch (by intro hm; first | omega | (subst hm; omega))
                                                  replace hX := hv69
                                                  replace U := U.cc x69.ch (by intro b hb; exact .inl trivial)
                                                  obtain ⟨f3, hf3⟩ : ∃ f3 : YF, f3 = { f2 with gas := f2.gas + cG f 244 } := ⟨_, rfl⟩
                                                  obtain ⟨s3, hs3⟩ : ∃ s3 : YSt, s3 = { s2 with frames := low ++ [f3] } := ⟨_, rfl⟩
                                                  replace hX := hX.reS (show s3 = { s2 with frames := low ++ [{ f2 with gas := f2.gas + cG f 244 }] } by rw [hs3, hf3])
                                                  have hsf3 : s3.frames = low ++ [f3] := by rw [hs3]
                                                  have hph3 : s3.phase = 1 := by rw [hs3]; exact hph2
                                                  have hsk3 : f3.stack = f.stack := by first | (rw [hf3]; done) | (rw [hf3]; exact hsk2)
                                                  refine ⟨.inl rfl, ?_⟩
                                                  refine p_nil ?_
                                                  refine hK67 _ _ ?_
                                                  refine fg3 0 2 5 (gS rfl (gS rfl (gS rfl (gS rfl (gS rfl (gS rfl (gS rfl (gS rfl (gS rfl (gS rfl (gS rfl (gS rfl (gS rfl (gS rfl g0)))))))))))))) (gS rfl (gS rfl (gS rfl (gS rfl (gS rfl (gS rfl (gS rfl (gS rfl (gS rfl (gS rfl (gS rfl (gS rfl (gS rfl g0))))))))))))) (gS rfl (gS rfl (gS rfl (gS rfl (gS rfl (gS rfl (gS rfl (gS rfl (gS rfl (gS rfl g0)))))))))) (fun g => ?_)
                                                  refine c_seq (fun K70 hK70 => ?_)
                                                  exact (by
                                                    refine c_region ?_
                                                    refine l_step (y_moveV (et (gS rfl (gS rfl g0)) rfl)) ?_
                                                    refine l_step (y_moveV (et (gS rfl (gS rfl g0)) rfl)) ?_
                                                    refine l_step (y_moveV (et (gS rfl (gS rfl g0)) rfl)) ?_
                                                    refine l_step (y_add (et g0 rfl) rfl (addIN (x := 2) (y := 4) ?_)) ?_
                                                    omega
                                                    refine l_step (y_conv Hvaa.underlying3 Hvaa.underlying67 (et g0 rfl) (wrapU_id uk16 ?_)) ?_
                                                    omega
                                                    refine l_step (y_bld bN bld65_z) ?_
                                                    refine l_eff (e_callV cal_259 (aC (et (gS rfl (gS rfl (gS rfl (gS rfl (gS rfl g0))))) rfl) (aC (et (gS rfl (gS rfl (gS rfl (gS rfl g0)))) rfl) (aC (et (gS rfl g0) rfl) (aC rfl (aC (et g0 rfl) (aC (v := .int .u16 ((1 : Nat) : Int)) rfl aN)))))) (m_settle1 hX.ex hsf3 hph3 rfl 6 _ 1 (by rw [hsk3]; omega) (by decide) (by rw [hf3, hf2]; show f.pc + 1 ≤ 560; omega) (by rw [hsk3]; omega))) (fun v71 w71 h71 => ?_)
                                                    obtain ⟨rfl, cs71, y71⟩ := h71
                                                    replace k9 := k9.ch y71.et.go.ch (by intro hm; (have e0 := hm); omega)
                                                    replace k19 := k19.ch y71.et.go.ch (by intro hm; (have e0 := hm); omega)
                                                    replace k23 := k23.ch y71.et.go.ch (by intro hm; (have e0 := hm); omega)
                                                    replace hX := hX.trans y71
                                                    replace U := U.cc y71.et.go.ch (by intro b hb; exact .inl trivial)
                                                    refine l_nil ?_
                                                    refine hK70 _ _ ?_
                                                    refine fg0 (fun g => ?_)
                                                    refine c_ret ?_
                                                    repeat with_reducible refine then_ret ?_
                                                    refine ret0 rfl ?_
                                                    have hfl : cFail { s with ret := [] } f 244 low.length := .inr (by show (acctAt s.now.accts f.self).bal < cV f 244; rw [show cV f 244 = 0 from rfl]; exact hfb)
                                                    rw [set_ans, hf3, hf2, hs3, hs2, hs1, hs0] at hX
                                                    rw [show callY { s with ret := [] } f 244 low = { cS { s with ret := [] } f with frames := low ++ [cBack f 244] } from if_pos hfl]
                                                    refine ⟨rfl, XO.of hX ?_⟩
                                                    rw [hms]
                                                    show _ = (low ++ [cBack f 244]).map _
                                                    rw [List.map_append, List.map_append]
                                                    rfl))
                                              · skip
                                                rw [hac2, hse2] at cB8
                                                have hfb : ¬ (acctAt s.now.accts f.self).bal < 0 := of_decide_eq_false cB8
                                                refine c_skip ?_
                                                refine hK54 _ _ ?_
                                                refine fg5 0 2 3 4 5 (gS rfl (gS rfl (gS rfl (gS rfl (gS rfl g0))))) (gS rfl (gS rfl (gS rfl (gS rfl g0)))) (gS rfl (gS rfl (gS rfl g0))) (gS rfl (gS rfl g0)) (gS rfl g0) (fun g => ?_)
                                                refine c_seq (fun K72 hK72 => ?_)
                                                exact (by
                                                  refine c_region ?_
                                                  refine l_step (y_moveV (et (gS rfl (gS rfl (gS rfl (gS rfl g0)))) rfl)) ?_
                                                  refine l_step (y_moveV (et (gS rfl (gS rfl (gS rfl (gS rfl (gS rfl g0))))) rfl)) ?_
                                                  refine l_step (y_moveV (et (gS rfl (gS rfl (gS rfl (gS rfl (gS rfl g0))))) rfl)) ?_
                                                  refine l_step (y_moveV (et (gS rfl (gS rfl (gS rfl g0))) rfl)) ?_
                                                  have hB2 := hX.ex.fbT hsf2
                                                  refine l_eff (e_callV cal_264 (aC (et (gS rfl (gS rfl g0)) rfl) (aC (et (gS rfl g0) rfl) (aC (et g0 rfl) aN))) (m_arg hX.ex hsf2 hph2 rfl 2 (by decide))) (fun v73 w73 h73 => ?_)
                                                  obtain ⟨rfl, u73⟩ := h73
                                                  replace k9 := k9.up u73
                                                  replace k19 := k19.up u73
                                                  replace k23 := k23.up u73
                                                  replace hX := hX.up u73
                                                  replace U := U.tr u73
                                                  refine l_step (y_moveV (et (gS rfl (gS rfl (gS rfl (gS rfl (gS rfl (gS rfl (gS rfl (gS rfl (gS rfl g0))))))))) rfl)) ?_
                                                  refine l_step (y_moveV (et (gS rfl (gS rfl (gS rfl (gS rfl (gS rfl (gS rfl (gS rfl (gS rfl (gS rfl g0))))))))) rfl)) ?_
                                                  refine l_step (y_moveV (et (gS rfl (gS rfl (gS rfl (gS rfl (gS rfl (gS rfl (gS rfl g0))))))) rfl)) ?_
                                                  refine l_step (y_add (et g0 rfl) rfl (addIN (x := 2) (y := 1) ?_)) ?_
                                                  omega
                                                  refine l_eff (e_callV cal_264 (aC (et (gS rfl (gS rfl (gS rfl g0))) rfl) (aC (et (gS rfl (gS rfl g0)) rfl) (aC (et g0 rfl) aN))) (m_arg hX.ex hsf2 hph2 rfl (2 + 1) (by decide))) (fun v74 w74 h74 => ?_)
                                                  obtain ⟨rfl, u74⟩ := h74
                                                  replace k9 := k9.up u74
                                                  replace k19 := k19.up u74
                                                  replace k23 := k23.up u74
                                                  replace hX := hX.up u74
                                                  replace U := U.tr u74
                                                  refine l_eff (e_callV cal_292 (aC (et (gS rfl (gS rfl (gS rfl (gS rfl (gS rfl (gS rfl (gS rfl (gS rfl (gS rfl g0))))))))) rfl) (aC (et (gS rfl (gS rfl (gS rfl (gS rfl (gS rfl g0))))) rfl) (aC (et g0 rfl) aN))) (m_read hX.ex hsf2 hph2 hms8 _ _ (argN_lt hB2 _) (argN_lt hB2 _) (by rw [hsk2]; exact hrd))) (fun v75 w75 h75 => ?_)
                                                  obtain ⟨H75, vb7, rfl, g75, bv7⟩ := h75
                                                  have nh9 : ¬ H75.has b9 := g75.nb (fun hh => by have := hfz.lt hh; omega) k9.lt
                                                  have nh19 : ¬ H75.has b19 := g75.nb (fun hh => by have := hfz.lt hh; omega) k19.lt
                                                  have nh23 : ¬ H75.has b23 := g75.nb (fun hh => by have := hfz.lt hh; omega) k23.lt
                                                  replace k9 := k9.ch g75.ch (by intro hm; exact hm.elim)
                                                  replace k19 := k19.ch g75.ch (by intro hm; exact hm.elim)
                                                  replace k23 := k23.ch g75.ch (by intro hm; exact hm.elim)
                                                  replace hX := hX.gn g75
                                                  replace U := U.cc g75.ch (by intro b hb; exact .inl trivial)
                                                  rw [hsk2] at bv7
                                                  obtain ⟨ca7, cc7, rfl⟩ := bv7.sl
                                                  exact (by
                                                    refine l_step (y_moveV (et g0 rfl)) ?_
                                                    refine l_step (y_ext (et g0 rfl) rfl) ?_
                                                    refine l_step (y_ext (et (gS rfl g0) rfl) rfl) ?_
                                                    refine l_step (y_assignV (et (gS rfl g0) rfl)) ?_
                                                    refine l_step (y_assignV (et (gS rfl g0) rfl)) ?_
                                                    refine l_nil ?_
                                                    refine hK72 _ _ ?_
                                                    refine fg7 0 2 3 4 5 7 8 (gS rfl (gS rfl (gS rfl (gS rfl (gS rfl (gS rfl (gS rfl (gS rfl (gS rfl (gS rfl (gS rfl (gS rfl (gS rfl (gS rfl (gS rfl (gS rfl (gS rfl (gS rfl (gS rfl (gS rfl g0)))))))))))))))))))) (gS rfl (gS rfl (gS rfl (gS rfl (gS rfl (gS rfl (gS rfl (gS rfl (gS rfl (gS rfl (gS rfl (gS rfl (gS rfl (gS rfl (gS rfl (gS rfl (gS rfl (gS rfl (gS rfl g0))))))))))))))))))) (gS rfl (gS rfl (gS rfl (gS rfl (gS rfl (gS rfl (gS rfl (gS rfl (gS rfl (gS rfl (gS rfl (gS rfl (gS rfl (gS rfl (gS rfl (gS rfl (gS rfl (gS rfl g0)))))))))))))))))) (gS rfl (gS rfl (gS rfl (gS rfl (gS rfl (gS rfl (gS rfl (gS rfl (gS rfl (gS rfl (gS rfl (gS rfl (gS rfl (gS rfl (gS rfl (gS rfl (gS rfl g0))))))))))))))))) (gS rfl (gS rfl (gS rfl (gS rfl (gS rfl (gS rfl (gS rfl (gS rfl (gS rfl (gS rfl (gS rfl (gS rfl (gS rfl (gS rfl (gS rfl (gS rfl g0)))))))))))))))) (gS rfl g0) g0 (fun g => ?_)
                                                    refine c_seq (fun K76 hK76 => ?_)
                                                    refine c_seq (fun K77 hK77 => ?_)
                                                    exact (by
                                                      refine c_region ?_
                                                      refine l_step (y_moveV (et g0 rfl)) ?_
                                                      refine l_step (y_not (et g0 rfl)) ?_
                                                      refine l_nil ?_
                                                      refine hK77 _ _ ?_
                                                      refine fg7 0 2 3 4 5 7 156 (gS rfl (gS rfl (gS rfl (gS rfl (gS rfl (gS rfl (gS rfl (gS rfl g0)))))))) (gS rfl (gS rfl (gS rfl (gS rfl (gS rfl (gS rfl (gS rfl g0))))))) (gS rfl (gS rfl (gS rfl (gS rfl (gS rfl (gS rfl g0)))))) (gS rfl (gS rfl (gS rfl (gS rfl (gS rfl g0))))) (gS rfl (gS rfl (gS rfl (gS rfl g0)))) (gS rfl (gS rfl (gS rfl g0))) g0 (fun g => ?_)
                                                      refine c_false (et g0 rfl) (by rfl) ?_
                                                      refine c_skip ?_
                                                      refine hK76 _ _ ?_
                                                      refine fg6 0 2 3 4 5 7 (gS rfl (gS rfl (gS rfl (gS rfl (gS rfl (gS rfl g0)))))) (gS rfl (gS rfl (gS rfl (gS rfl (gS rfl g0))))) (gS rfl (gS rfl (gS rfl (gS rfl g0)))) (gS rfl (gS rfl (gS rfl g0))) (gS rfl (gS rfl g0)) (gS rfl g0) (fun g => ?_)
                                                      refine c_seq (fun K79 hK79 => ?_)
                                                      exact (by
                                                        refine c_region ?_
                                                        refine l_step (y_moveV (et g0 rfl)) ?_
                                                        refine l_step (y_fld fld_71_13 (et (gS rfl (gS rfl (gS rfl g0))) rfl)) ?_
                                                        refine l_effN (e_store sz_38 (et g0 rfl) (cellsV (et (gS rfl g0) rfl) rfl) rfl (by first | exact one_bL _ | exact one_uL _ | (intro v hv; simp at hv; subst hv; rfl)) k19 (by (rw [List.size_toArray, fcv_len rfl]; decide))) (fun v80 w80 h80 => ?_)
                                                        obtain ⟨rfl, x80⟩ := h80
                                                        replace k9 := k9.ch x80.ch (by omega)
                                                        replace k23 := k23.ch x80.ch (by omega)
                                                        replace hX := hX.ch x80.ch (by first | omega | (intro b hb; first | (subst hb; first | exact ⟨by omega, fun hh => by have := hfz.lt hh; omega, by omega⟩ | exact ⟨by omega, by assumption, by omega⟩) | (rcases hb with hb | hb <;> (subst hb; first | exact ⟨by omega, fun hh => by have := hfz.lt hh; omega, by omega⟩ | exact ⟨by omega, by assumption, by omega⟩))))
                                                        replace k19 := x80.blk
                                                        replace U := U.st x80 (.inr f19)
                                                        replace k19 := Blk.fin (q := _) k19
                                                        refine l_nil ?_
                                                        refine hK79 _ _ ?_
                                                        refine fg5 0 2 3 4 5 (gS rfl (gS rfl (gS rfl (gS rfl (gS rfl (gS rfl (gS rfl g0))))))) (gS rfl (gS rfl (gS rfl (gS rfl (gS rfl (gS rfl g0)))))) (gS rfl (gS rfl (gS rfl (gS rfl (gS rfl g0))))) (gS rfl (gS rfl (gS rfl (gS rfl g0)))) (gS rfl (gS rfl (gS rfl g0))) (fun g => ?_)
                                                        refine c_seq (fun K81 hK81 => ?_)
                                                        exact (by
                                                          refine c_region ?_
                                                          refine l_step (y_loadB agg_25 sz_25 (et (gS rfl (gS rfl g0)) rfl) (by rw [List.size_toArray, length_bL, length_be]) (at1B k9)) ?_
                                                          refine l_eff (e_callV cal_102 (aC (et g0 rfl) aN) (mach_nativeAt (ctT f) _ (Nat.mod_lt _ A160_pos))) (fun v82 w82 h82 => ?_)
                                                          obtain ⟨rfl, u82⟩ := h82
                                                          replace k9 := k9.up u82
                                                          replace k19 := k19.up u82
                                                          replace k23 := k23.up u82
                                                          replace hX := hX.up u82
                                                          replace U := U.tr u82
                                                          refine l_step (y_fld fld_71_2 (et (gS rfl (gS rfl (gS rfl g0))) rfl)) ?_
                                                          refine l_effN (e_store sz_5 (et g0 rfl) (cellsV (et (gS rfl g0) rfl) rfl) rfl (by first | exact one_bL _ | exact one_uL _ | (intro v hv; simp at hv; subst hv; rfl)) k19 (by (rw [List.size_toArray, fcv_len rfl]; decide))) (fun v83 w83 h83 => ?_)
                                                          obtain ⟨rfl, x83⟩ := h83
                                                          replace k9 := k9.ch x83.ch (by omega)
                                                          replace k23 := k23.ch x83.ch (by omega)
                                                          replace hX := hX.ch x83.ch (by first | omega | (intro b hb; first | (subst hb; first | exact ⟨by omega, fun hh => by have := hfz.lt hh; omega, by omega⟩ | exact ⟨by omega, by assumption, by omega⟩) | (rcases hb with hb | hb <;> (subst hb; first | exact ⟨by omega, fun hh => by have := hfz.lt hh; omega, by omega⟩ | exact ⟨by omega, by assumption, by omega⟩))))
                                                          replace k19 := x83.blk
                                                          replace U := U.st x83 (.inr f19)
                                                          replace k19 := Blk.fnt (q := natAt (ctT f)) k19
                                                          replace k19 : Blk w83 b19 (fcv (cFr 3 f.static f.value f.self f.caller (cG f 244) (natAt (ctT f)) [] []) (.slice none 0 0) (.slice ca7 (rdN f.mem (argN f.stack 2) (argN f.stack (2 + 1))).length cc7) 0 0 0 (List.replicate 8 0)).toArray := k19
                                                          refine l_nil ?_
                                                          refine hK81 _ _ ?_
                                                          refine fg5 0 2 3 4 5 (gS rfl (gS rfl (gS rfl (gS rfl (gS rfl (gS rfl (gS rfl g0))))))) (gS rfl (gS rfl (gS rfl (gS rfl (gS rfl (gS rfl g0)))))) (gS rfl (gS rfl (gS rfl (gS rfl (gS rfl g0))))) (gS rfl (gS rfl (gS rfl (gS rfl g0)))) (gS rfl (gS rfl (gS rfl g0))) (fun g => ?_)
                                                          refine c_seq (fun K84 hK84 => ?_)
                                                          refine c_seq (fun K85 hK85 => ?_)
                                                          exact (by
                                                            refine c_region ?_
                                                            refine l_step (y_fld fld_71_2 (et (gS rfl g0) rfl)) ?_
                                                            refine l_step (y_load1 one_5 (et g0 rfl) (at1 (k19.cell (show _ = some (Value.int .u8 (natAt (ctT f) : Nat)) from rfl)))) ?_
                                                            refine l_step (y_eql (et g0 rfl) rfl) ?_
                                                            refine l_nil ?_
                                                            refine hK85 _ _ ?_
                                                            refine fg6 0 2 3 4 5 166 (gS rfl (gS rfl (gS rfl (gS rfl (gS rfl (gS rfl (gS rfl g0))))))) (gS rfl (gS rfl (gS rfl (gS rfl (gS rfl (gS rfl g0)))))) (gS rfl (gS rfl (gS rfl (gS rfl (gS rfl g0))))) (gS rfl (gS rfl (gS rfl (gS rfl g0)))) (gS rfl (gS rfl (gS rfl g0))) g0 (fun g => ?_)
                                                            refine c_cond (et g0 rfl) (fun cB10 => ?_) (fun cB10 => ?_)
                                                            · skip
                                                              
                                                              have hnt : natAt (ctT f) = 0 := by have := of_decide_eq_true cB10; omega
                                                              exact (by
                                                                refine c_draw Up 7 [(0, true), (1, true), (2, true), (3, true), (4, true), (5, false), (6, true), (7, false)] (by kernel_rfl) (fun w87 hu => ⟨Up.refl _, ?_⟩)
                                                                replace k9 := k9.up hu
                                                                replace k19 := k19.up hu
                                                                replace k23 := k23.up hu
                                                                replace hX := hX.up hu
                                                                replace U := U.tr hu
                                                                have SU := Up.refl w87
                                                                refine p_step (by exact rfl) (y_moveV (et (gS rfl (gS rfl (gS rfl (gS rfl (gS rfl g0))))) rfl)) ?_
                                                                refine p_step (by exact rfl) (y_nil (et g0 rfl)) ?_
                                                                refine p_step (by exact rfl) (y_fld fld_75_0 (et g0 rfl)) ?_
                                                                refine p_step (by exact rfl) (y_load1 one_59 (et g0 rfl) (atS (hX.ex.vl.c1 hX.ex.lx.pS rfl))) ?_
                                                                refine p_step (by exact rfl) (y_loadB agg_25 sz_25 (et (gS rfl (gS rfl (gS rfl (gS rfl (gS rfl (gS rfl (gS rfl g0))))))) rfl) (by rw [List.size_toArray, length_bL, length_be]) (atSB k9)) ?_
                                                                refine p_eff (by exact rfl) (e_callV cal_103 (aC (et (gS rfl g0) rfl) (aC (et g0 rfl) aN)) (hX.ex.codeC (ctT f) (Nat.mod_lt _ A160_pos))) (fun v88 w88 h88 => ?_)
                                                                obtain ⟨H88, ca9, cc9, rfl, g88, bv9⟩ := h88
                                                                have nh9 : ¬ H88.has b9 := g88.nb nh9 k9.lt
                                                                have nh19 : ¬ H88.has b19 := g88.nb nh19 k19.lt
                                                                have nh23 : ¬ H88.has b23 := g88.nb nh23 k23.lt
                                                                replace k9 := k9.ch g88.ch (by intro hm; exact hm.elim)
                                                                replace k19 := k19.ch g88.ch (by intro hm; exact hm.elim)
                                                                replace k23 := k23.ch g88.ch (by intro hm; exact hm.elim)
                                                                replace hX := hX.gn g88
                                                                replace U := U.cc g88.ch (by intro b hb; exact .inl trivial)
                                                                rw [hac2] at bv9
                                                                replace SU := SU.cc g88.ch (by intro b hb; first | exact .inl hb | exact hb.elim | omega)
                                                                refine ⟨.inr SU, ?_⟩
                                                                refine p_step (by exact rfl) (y_fld fld_71_12 (et (gS rfl (gS rfl (gS rfl (gS rfl (gS rfl (gS rfl (gS rfl (gS rfl g0)))))))) rfl)) ?_
                                                                refine p_effN (by exact rfl) (e_store sz_38 (et g0 rfl) (cellsV (et (gS rfl g0) rfl) rfl) rfl (by first | exact one_bL _ | exact one_uL _ | (intro v hv; simp at hv; subst hv; rfl)) k19 (by (rw [List.size_toArray, fcv_len rfl]; decide))) (fun v89 w89 h89 => ?_)
                                                                obtain ⟨rfl, x89⟩ := h89
                                                                replace k9 := k9.ch x89.ch (by omega)
                                                                replace k23 := k23.ch x89.ch (by omega)
                                                                replace hX := hX.ch x89.ch (by first | omega | (intro b hb; first | (subst hb; first | exact ⟨by omega, fun hh => by have := hfz.lt hh; omega, by omega⟩ | exact ⟨by omega, by assumption, by omega⟩) | (rcases hb with hb | hb <;> (subst hb; first | exact ⟨by omega, fun hh => by have := hfz.lt hh; omega, by omega⟩ | exact ⟨by omega, by assumption, by omega⟩))))
                                                                replace k19 := x89.blk
                                                                replace U := U.st x89 (.inr f19)
                                                                refine ⟨.inl rfl, ?_⟩
                                                                replace k19 := Blk.fco (q := _) k19
                                                                refine p_nil ?_
                                                                refine hK84 _ _ ?_
                                                                refine fg4 0 2 4 5 (gS rfl (gS rfl (gS rfl (gS rfl (gS rfl (gS rfl (gS rfl (gS rfl (gS rfl (gS rfl (gS rfl (gS rfl g0)))))))))))) (gS rfl (gS rfl (gS rfl (gS rfl (gS rfl (gS rfl (gS rfl (gS rfl (gS rfl (gS rfl (gS rfl g0))))))))))) (gS rfl (gS rfl (gS rfl (gS rfl (gS rfl (gS rfl (gS rfl (gS rfl (gS rfl g0))))))))) (gS rfl (gS rfl (gS rfl (gS rfl (gS rfl (gS rfl (gS rfl (gS rfl g0)))))))) (fun g => ?_)
                                                                refine c_seq (fun K90 hK90 => ?_)
                                                                exact (by
                                                                  refine c_region ?_
                                                                  refine l_step (y_moveV (et (gS rfl (gS rfl g0)) rfl)) ?_
                                                                  refine l_step (y_nil (et g0 rfl)) ?_
                                                                  refine l_step (y_fld fld_71_15 (et g0 rfl)) ?_
                                                                  refine l_effN (e_store sz_60 (et g0 rfl) (cellsV rfl rfl) rfl (by intro v hv; simp at hv; subst hv; rfl) hX.ex.vl.kC (by rw [hX.ex.vl.size]; omega)) (fun v91 w91 h91 => ?_)
                                                                  obtain ⟨rfl, x91⟩ := h91
                                                                  have hv91 := hX.stOO hsf2 hph2 (p := 0) (by omega) (by omega) x91
                                                                  replace k9 := k9.ch x91.ch (by intro hm; first | omega | (subst hm; omega))
                                                                  replace k19 := k19.ch x91.ch (by intro hm; first | omega | (subst hm; omega))
                                                                  replace k23 := k23.ch x91.ch (by intro hm; first | omega | (subst hm; omega))
                                                                  replace hX := hv91
                                                                  replace U := U.cc x91.ch (by intro b hb; exact .inl trivial)
                                                                  obtain ⟨f4, hf4⟩ : ∃ f4 : YF, f4 = { f2 with outOff := 0 } := ⟨_, rfl⟩
                                                                  obtain ⟨s4, hs4⟩ : ∃ s4 : YSt, s4 = { s2 with frames := low ++ [f4] } := ⟨_, rfl⟩
                                                                  replace hX := hX.reS (show s4 = { s2 with frames := low ++ [{ f2 with outOff := 0 }] } by rw [hs4, hf4])
                                                                  have hsf4 : s4.frames = low ++ [f4] := by rw [hs4]
                                                                  have hph4 : s4.phase = 1 := by rw [hs4]; exact hph2
                                                                  have hsk4 : f4.stack = f.stack := by first | (rw [hf4]; done) | (rw [hf4]; exact hsk2)
                                                                  refine l_nil ?_
                                                                  refine hK90 _ _ ?_
                                                                  refine fg4 0 2 4 5 (gS rfl (gS rfl (gS rfl (gS rfl (gS rfl (gS rfl g0)))))) (gS rfl (gS rfl (gS rfl (gS rfl (gS rfl g0))))) (gS rfl (gS rfl (gS rfl (gS rfl g0)))) (gS rfl (gS rfl (gS rfl g0))) (fun g => ?_)
                                                                  refine c_seq (fun K92 hK92 => ?_)
                                                                  exact (by
                                                                    refine c_region ?_
                                                                    refine l_step (y_moveV (et (gS rfl (gS rfl g0)) rfl)) ?_
                                                                    refine l_step (y_nil (et g0 rfl)) ?_
                                                                    refine l_step (y_fld fld_71_16 (et g0 rfl)) ?_
                                                                    refine l_effN (e_store sz_60 (et g0 rfl) (cellsV rfl rfl) rfl (by intro v hv; simp at hv; subst hv; rfl) hX.ex.vl.kC (by rw [hX.ex.vl.size]; omega)) (fun v93 w93 h93 => ?_)
                                                                    obtain ⟨rfl, x93⟩ := h93
                                                                    have hv93 := hX.stOL hsf4 hph4 (p := 0) (by omega) (by omega) x93
                                                                    replace k9 := k9.ch x93.ch (by intro hm; first | omega | (subst hm; omega))
                                                                    replace k19 := k19.ch x93.ch (by intro hm; first | omega | (subst hm; omega))
                                                                    replace k23 := k23.ch x93.ch (by intro hm; first | omega | (subst hm; omega))
                                                                    replace hX := hv93
                                                                    replace U := U.cc x93.ch (by intro b hb; exact .inl trivial)
                                                                    obtain ⟨f5, hf5⟩ : ∃ f5 : YF, f5 = { f4 with outLen := 0 } := ⟨_, rfl⟩
                                                                    obtain ⟨s5, hs5⟩ : ∃ s5 : YSt, s5 = { s4 with frames := low ++ [f5] } := ⟨_, rfl⟩
                                                                    replace hX := hX.reS (show s5 = { s4 with frames := low ++ [{ f4 with outLen := 0 }] } by rw [hs5, hf5])
                                                                    have hsf5 : s5.frames = low ++ [f5] := by rw [hs5]
                                                                    have hph5 : s5.phase = 1 := by rw [hs5]; exact hph4
                                                                    have hsk5 : f5.stack = f.stack := by first | (rw [hf5]; done) | (rw [hf5]; exact hsk4)
                                                                    have hnw4 := hX.ex.vl.new
                                                                    have hfz4 := hX.ex.vl.fz
                                                                    refine l_nil ?_
                                                                    refine hK92 _ _ ?_
                                                                    refine fg4 0 2 4 5 (gS rfl (gS rfl (gS rfl (gS rfl (gS rfl (gS rfl g0)))))) (gS rfl (gS rfl (gS rfl (gS rfl (gS rfl g0))))) (gS rfl (gS rfl (gS rfl (gS rfl g0)))) (gS rfl (gS rfl (gS rfl g0))) (fun g => ?_)
                                                                    refine c_seq (fun K94 hK94 => ?_)
                                                                    refine c_seq (fun K95 hK95 => ?_)
                                                                    exact (by
                                                                      refine c_region ?_
                                                                      refine l_step (y_moveV (et (gS rfl (gS rfl (gS rfl g0))) rfl)) ?_
                                                                      refine l_step (y_moveV (et (gS rfl (gS rfl (gS rfl g0))) rfl)) ?_
                                                                      refine l_step (y_moveV (et (gS rfl (gS rfl g0)) rfl)) ?_
                                                                      refine l_step (y_add (et g0 rfl) rfl (addIN (x := 2) (y := 3) ?_)) ?_
                                                                      omega
                                                                      have hB5 := hX.ex.fbT hsf5
                                                                      refine l_eff (e_callV cal_264 (aC (et (gS rfl (gS rfl (gS rfl g0))) rfl) (aC (et (gS rfl (gS rfl g0)) rfl) (aC (et g0 rfl) aN))) (m_arg hX.ex hsf5 hph5 rfl (2 + 3) (by decide))) (fun v96 w96 h96 => ?_)
                                                                      obtain ⟨rfl, u96⟩ := h96
                                                                      replace k9 := k9.up u96
                                                                      replace k19 := k19.up u96
                                                                      replace k23 := k23.up u96
                                                                      replace hX := hX.up u96
                                                                      replace U := U.tr u96
                                                                      have hnw4 := hX.ex.vl.new
                                                                      have hfz4 := hX.ex.vl.fz
                                                                      refine l_eff (e_alloc zr_65) (fun v97 w97 h97 => ?_)
                                                                      obtain ⟨b97, rfl, n97⟩ := h97
                                                                      have d9_97 : b9 < b97 := Nat.lt_of_lt_of_le k9.lt n97.fresh
                                                                      have d19_97 : b19 < b97 := Nat.lt_of_lt_of_le k19.lt n97.fresh
                                                                      have d23_97 : b23 < b97 := Nat.lt_of_lt_of_le k23.lt n97.fresh
                                                                      have f97 : w.heap.size ≤ b97 := Nat.le_trans U.size n97.fresh
                                                                      replace k9 := k9.up n97.up
                                                                      replace k19 := k19.up n97.up
                                                                      replace k23 := k23.up n97.up
                                                                      replace hX := hX.up n97.up
                                                                      replace U := U.tr n97.up
                                                                      have k97 := n97.blk
                                                                      obtain ⟨zs97, hz97, k97⟩ : ∃ cs : Array Value, cs.size = 4 ∧ Blk w97 b97 cs := ⟨_, rfl, k97⟩
                                                                      have nc97 := hnw4 b97 n97.fresh
                                                                      have nh97 : ¬ H88.has b97 := fun hh => by have h9 := hfz4.lt hh; have h8 := n97.fresh; omega
                                                                      exact (by
                                                                        refine l_effN (e_store sz_65 (et g0 rfl) (cellsV (et (gS rfl g0) rfl) rfl) rfl (by exact one_uL _) k97 (by (first | (rw [hz97]; exact Nat.le_refl _) | (rw [List.size_toArray, wL_len]; exact Nat.le_refl _)))) (fun v98 w98 h98 => ?_)
                                                                        obtain ⟨rfl, x98⟩ := h98
                                                                        replace k9 := k9.ch x98.ch (by omega)
                                                                        replace k19 := k19.ch x98.ch (by omega)
                                                                        replace k23 := k23.ch x98.ch (by omega)
                                                                        replace hX := hX.ch x98.ch (by first | omega | (intro b hb; first | (subst hb; first | exact ⟨by omega, fun hh => by have := hfz.lt hh; omega, by omega⟩ | exact ⟨by omega, by assumption, by omega⟩) | (rcases hb with hb | hb <;> (subst hb; first | exact ⟨by omega, fun hh => by have := hfz.lt hh; omega, by omega⟩ | exact ⟨by omega, by assumption, by omega⟩))))
                                                                        replace k97 := x98.blk.full (by first | (rw [hz97]; rfl) | (rw [List.size_toArray, wL_len, wL_len]))
                                                                        replace U := U.st x98 (.inr f97)
                                                                        refine l_nil ?_
                                                                        refine hK95 _ _ ?_
                                                                        refine fg5 0 2 4 5 9 (gS rfl (gS rfl (gS rfl (gS rfl (gS rfl (gS rfl (gS rfl (gS rfl (gS rfl g0))))))))) (gS rfl (gS rfl (gS rfl (gS rfl (gS rfl (gS rfl (gS rfl (gS rfl g0)))))))) (gS rfl (gS rfl (gS rfl (gS rfl (gS rfl (gS rfl (gS rfl g0))))))) (gS rfl (gS rfl (gS rfl (gS rfl (gS rfl (gS rfl g0)))))) g0 (fun g => ?_)
                                                                        refine c_seq (fun K99 hK99 => ?_)
                                                                        exact (by
                                                                          refine c_region ?_
                                                                          refine l_step (y_loadB agg_65 sz_65 (et g0 rfl) rfl (at1B k97)) ?_
                                                                          refine l_eff (e_callV cal_78 (aC (et g0 rfl) aN) (isZero_spec _ _ (argN_lt hB5 _))) (fun v100 w100 h100 => ?_)
                                                                          obtain ⟨rfl, u100⟩ := h100
                                                                          replace k9 := k9.up u100
                                                                          replace k19 := k19.up u100
                                                                          replace k23 := k23.up u100
                                                                          replace k97 := k97.up u100
                                                                          replace hX := hX.up u100
                                                                          replace U := U.tr u100
                                                                          refine l_step (y_not (et g0 rfl)) ?_
                                                                          refine l_nil ?_
                                                                          refine hK99 _ _ ?_
                                                                          refine fg6 0 2 4 5 9 187 (gS rfl (gS rfl (gS rfl (gS rfl (gS rfl (gS rfl (gS rfl g0))))))) (gS rfl (gS rfl (gS rfl (gS rfl (gS rfl (gS rfl g0)))))) (gS rfl (gS rfl (gS rfl (gS rfl (gS rfl g0))))) (gS rfl (gS rfl (gS rfl (gS rfl g0)))) (gS rfl (gS rfl (gS rfl g0))) g0 (fun g => ?_)
                                                                          refine c_cond (et g0 rfl) (fun cB11 => ?_) (fun cB11 => ?_)
                                                                          · skip
                                                                            rw [hsk5] at cB11
                                                                            have hn0 : argN f.stack (2 + 3) ≠ 0 := by simpa using cB11
                                                                            have hou := hout hn0
                                                                            rw [hsk5] at k97
                                                                            refine c_seq (fun K102 hK102 => ?_)
                                                                            exact (by
                                                                              refine c_region ?_
                                                                              refine l_step (y_moveV (et (gS rfl (gS rfl (gS rfl (gS rfl g0)))) rfl)) ?_
                                                                              refine l_step (y_moveV (et (gS rfl (gS rfl (gS rfl (gS rfl (gS rfl (gS rfl g0)))))) rfl)) ?_
                                                                              refine l_step (y_moveV (et (gS rfl (gS rfl (gS rfl (gS rfl (gS rfl (gS rfl g0)))))) rfl)) ?_
                                                                              refine l_step (y_moveV (et (gS rfl (gS rfl (gS rfl (gS rfl (gS rfl g0))))) rfl)) ?_
                                                                              refine l_step (y_add (et g0 rfl) rfl (addIN (x := 2) (y := 2) ?_)) ?_
                                                                              omega
                                                                              refine l_eff (e_callV cal_264 (aC (et (gS rfl (gS rfl (gS rfl g0))) rfl) (aC (et (gS rfl (gS rfl g0)) rfl) (aC (et g0 rfl) aN))) (m_arg hX.ex hsf5 hph5 rfl (2 + 2) (by decide))) (fun v103 w103 h103 => ?_)
                                                                              obtain ⟨rfl, u103⟩ := h103
                                                                              replace k9 := k9.up u103
                                                                              replace k19 := k19.up u103
                                                                              replace k23 := k23.up u103
                                                                              replace k97 := k97.up u103
                                                                              replace hX := hX.up u103
                                                                              replace U := U.tr u103
                                                                              refine l_eff (e_callV cal_299 (aC (et g0 rfl) aN) (m_small _ _ (by rw [hsk5]; omega))) (fun v104 w104 h104 => ?_)
                                                                              obtain ⟨rfl, u104⟩ := h104
                                                                              replace k9 := k9.up u104
                                                                              replace k19 := k19.up u104
                                                                              replace k23 := k23.up u104
                                                                              replace k97 := k97.up u104
                                                                              replace hX := hX.up u104
                                                                              replace U := U.tr u104
                                                                              refine l_step (y_nil (et (gS rfl (gS rfl (gS rfl (gS rfl (gS rfl (gS rfl g0)))))) rfl)) ?_
                                                                              refine l_step (y_fld fld_71_15 (et g0 rfl)) ?_
                                                                              refine l_effN (e_store sz_60 (et g0 rfl) (cellsV (et (gS rfl (gS rfl g0)) rfl) rfl) rfl (by intro v hv; simp at hv; subst hv; rfl) hX.ex.vl.kC (by rw [hX.ex.vl.size]; omega)) (fun v105 w105 h105 => ?_)
                                                                              obtain ⟨rfl, x105⟩ := h105
                                                                              rw [hsk5] at x105
                                                                              have hv105 := hX.stOO hsf5 hph5 (p := argN f.stack (2 + 2)) (by omega) (by omega) x105
                                                                              replace k9 := k9.ch x105.ch (by intro hm; first | omega | (subst hm; omega))
                                                                              replace k19 := k19.ch x105.ch (by intro hm; first | omega | (subst hm; omega))
                                                                              replace k23 := k23.ch x105.ch (by intro hm; first | omega | (subst hm; omega))
                                                                              replace k97 := k97.ch x105.ch (by intro hm; first | omega | (subst hm; omega))
                                                                              replace hX := hv105
                                                                              replace U := U.cc x105.ch (by intro b hb; exact .inl trivial)
                                                                              obtain ⟨f6, hf6⟩ : ∃ f6 : YF, f6 = { f5 with outOff := argN f.stack (2 + 2) } := ⟨_, rfl⟩
                                                                              obtain ⟨s6, hs6⟩ : ∃ s6 : YSt, s6 = { s5 with frames := low ++ [f6] } := ⟨_, rfl⟩
                                                                              replace hX := hX.reS (show s6 = { s5 with frames := low ++ [{ f5 with outOff := argN f.stack (2 + 2) }] } by rw [hs6, hf6])
                                                                              have hsf6 : s6.frames = low ++ [f6] := by rw [hs6]
                                                                              have hph6 : s6.phase = 1 := by rw [hs6]; exact hph5
                                                                              have hsk6 : f6.stack = f.stack := by first | (rw [hf6]; done) | (rw [hf6]; exact hsk5)
                                                                              refine l_nil ?_
                                                                              refine hK102 _ _ ?_
                                                                              refine fg5 0 2 4 5 9 (gS rfl (gS rfl (gS rfl (gS rfl (gS rfl (gS rfl (gS rfl (gS rfl (gS rfl (gS rfl (gS rfl (gS rfl (gS rfl (gS rfl g0)))))))))))))) (gS rfl (gS rfl (gS rfl (gS rfl (gS rfl (gS rfl (gS rfl (gS rfl (gS rfl (gS rfl (gS rfl (gS rfl (gS rfl g0))))))))))))) (gS rfl (gS rfl (gS rfl (gS rfl (gS rfl (gS rfl (gS rfl (gS rfl (gS rfl (gS rfl (gS rfl (gS rfl g0)))))))))))) (gS rfl (gS rfl (gS rfl (gS rfl (gS rfl (gS rfl (gS rfl (gS rfl (gS rfl (gS rfl (gS rfl g0))))))))))) (gS rfl (gS rfl (gS rfl (gS rfl (gS rfl (gS rfl (gS rfl (gS rfl (gS rfl (gS rfl g0)))))))))) (fun g => ?_)
                                                                              refine c_region ?_
                                                                              exact (by
                                                                                refine l_step (y_moveV (et (gS rfl (gS rfl (gS rfl g0))) rfl)) ?_
                                                                                refine l_step (y_loadB agg_65 sz_65 (et (gS rfl g0) rfl) rfl (at1B k97)) ?_
                                                                                refine l_eff (e_callV cal_299 (aC (et g0 rfl) aN) (m_small _ _ (by omega))) (fun v106 w106 h106 => ?_)
                                                                                obtain ⟨rfl, u106⟩ := h106
                                                                                replace k9 := k9.up u106
                                                                                replace k19 := k19.up u106
                                                                                replace k23 := k23.up u106
                                                                                replace k97 := k97.up u106
                                                                                replace hX := hX.up u106
                                                                                replace U := U.tr u106
                                                                                refine l_step (y_nil (et (gS rfl (gS rfl g0)) rfl)) ?_
                                                                                refine l_step (y_fld fld_71_16 (et g0 rfl)) ?_
                                                                                refine l_effN (e_store sz_60 (et g0 rfl) (cellsV (et (gS rfl (gS rfl g0)) rfl) rfl) rfl (by intro v hv; simp at hv; subst hv; rfl) hX.ex.vl.kC (by rw [hX.ex.vl.size]; omega)) (fun v107 w107 h107 => ?_)
                                                                                obtain ⟨rfl, x107⟩ := h107
                                                                                have hv107 := hX.stOL hsf6 hph6 (p := argN f.stack (2 + 3)) (by omega) (by omega) x107
                                                                                replace k9 := k9.ch x107.ch (by intro hm; first | omega | (subst hm; omega))
                                                                                replace k19 := k19.ch x107.ch (by intro hm; first | omega | (subst hm; omega))
                                                                                replace k23 := k23.ch x107.ch (by intro hm; first | omega | (subst hm; omega))
                                                                                replace k97 := k97.ch x107.ch (by intro hm; first | omega | (subst hm; omega))
                                                                                replace hX := hv107
                                                                                replace U := U.cc x107.ch (by intro b hb; exact .inl trivial)
                                                                                obtain ⟨f7, hf7⟩ : ∃ f7 : YF, f7 = { f6 with outLen := argN f.stack (2 + 3) } := ⟨_, rfl⟩
                                                                                obtain ⟨s7, hs7⟩ : ∃ s7 : YSt, s7 = { s6 with frames := low ++ [f7] } := ⟨_, rfl⟩
                                                                                replace hX := hX.reS (show s7 = { s6 with frames := low ++ [{ f6 with outLen := argN f.stack (2 + 3) }] } by rw [hs7, hf7])
                                                                                have hsf7 : s7.frames = low ++ [f7] := by rw [hs7]
                                                                                have hph7 : s7.phase = 1 := by rw [hs7]; exact hph6
                                                                                have hsk7 : f7.stack = f.stack := by first | (rw [hf7]; done) | (rw [hf7]; exact hsk6)
                                                                                refine l_nil ?_
                                                                                refine hK94 _ _ ?_
                                                                                refine fg4 0 2 4 5 (gS rfl (gS rfl (gS rfl (gS rfl (gS rfl (gS rfl (gS rfl (gS rfl (gS rfl g0))))))))) (gS rfl (gS rfl (gS rfl (gS rfl (gS rfl (gS rfl (gS rfl (gS rfl g0)))))))) (gS rfl (gS rfl (gS rfl (gS rfl (gS rfl (gS rfl (gS rfl g0))))))) (gS rfl (gS rfl (gS rfl (gS rfl (gS rfl (gS rfl g0)))))) (fun g => ?_)
                                                                                refine c_seq (fun K108 hK108 => ?_)
                                                                                exact (by
                                                                                  refine c_region ?_
                                                                                  refine l_step (y_moveV (et (gS rfl (gS rfl (gS rfl g0))) rfl)) ?_
                                                                                  refine l_step (y_moveV (et (gS rfl (gS rfl (gS rfl g0))) rfl)) ?_
                                                                                  refine l_step (y_moveV (et (gS rfl (gS rfl g0)) rfl)) ?_
                                                                                  refine l_step (y_add (et g0 rfl) rfl (addIN (x := 2) (y := 4) ?_)) ?_
                                                                                  omega
                                                                                  refine l_step (y_conv Hvaa.underlying3 Hvaa.underlying67 (et g0 rfl) (wrapU_id uk16 ?_)) ?_
                                                                                  omega
                                                                                  refine l_step (y_bld bN bld65_z) ?_
                                                                                  refine l_eff (e_callV cal_259 (aC (et (gS rfl (gS rfl (gS rfl (gS rfl (gS rfl g0))))) rfl) (aC (et (gS rfl (gS rfl (gS rfl (gS rfl g0)))) rfl) (aC (et (gS rfl g0) rfl) (aC rfl (aC (et g0 rfl) (aC (v := .int .u16 ((0 : Nat) : Int)) rfl aN)))))) (m_settle0 hX.ex hsf7 hph7 rfl 6 0 0 (by rw [hsk7]; omega) (by decide) (by rw [hf7, hf6, hf5, hf4, hf2]; show f.pc + 0 ≤ 560; omega))) (fun v109 w109 h109 => ?_)
                                                                                  obtain ⟨rfl, cs109, y109⟩ := h109
                                                                                  replace k9 := k9.ch y109.et.go.ch (by intro hm; (have e0 := hm); omega)
                                                                                  replace k19 := k19.ch y109.et.go.ch (by intro hm; (have e0 := hm); omega)
                                                                                  replace k23 := k23.ch y109.et.go.ch (by intro hm; (have e0 := hm); omega)
                                                                                  replace k97 := k97.ch y109.et.go.ch (by intro hm; (have e0 := hm); omega)
                                                                                  replace hX := hX.trans y109
                                                                                  replace U := U.cc y109.et.go.ch (by intro b hb; exact .inl trivial)
                                                                                  have ew : setF f7 6 false 0 0 = cWait f 244 := by rw [hf7, hf6, hf5, hf4, hf2]; exact cwait_1 (q := 244) (tk := 6) (i := 2) (show tkN 244 = 6 from rfl) rfl hn0
                                                                                  rw [ew] at hX
                                                                                  obtain ⟨s9, hs9⟩ : ∃ s9 : YSt, s9 = { cS { s with ret := [] } f with frames := low ++ [cWait f 244] } := ⟨_, rfl⟩
                                                                                  replace hX := hX.reS (show s9 = { s7 with frames := low ++ [cWait f 244] } by rw [hs9, hs7, hs6, hs5, hs4, hs2, hs1, hs0])
                                                                                  have hac9 : s9.now.accts = s.now.accts := by rw [hs9]; rfl
                                                                                  refine l_nil ?_
                                                                                  refine hK108 _ _ ?_
                                                                                  refine fg2 0 4 (gS rfl (gS rfl (gS rfl (gS rfl (gS rfl (gS rfl (gS rfl (gS rfl (gS rfl (gS rfl g0)))))))))) (gS rfl (gS rfl (gS rfl (gS rfl (gS rfl (gS rfl (gS rfl (gS rfl g0)))))))) (fun g => ?_)
                                                                                  refine c_region ?_
                                                                                  refine l_step (y_moveV (et (gS rfl g0) rfl)) ?_
                                                                                  rw [hac2] at k19
                                                                                  have euu : (cChild { s with ret := [] } f 244) = { cFr 3 f.static f.value f.self f.caller (cG f 244) (natAt (ctT f)) [] [] with code := cCode { s with ret := [] } f, input := (rdN f.mem (argN f.stack 2) (argN f.stack (2 + 1))) } := rfl
                                                                                  have ecd : cCode { s with ret := [] } f = (acctAt s.now.accts (ctT f)).code := if_pos hnt
                                                                                  have hbc : BV H88 (.slice ca9 (cChild { s with ret := [] } f 244).code.length cc9) (cChild { s with ret := [] } f 244).code := by
                                                                                    show BV _ (.slice ca9 (cCode { s with ret := [] } f).length cc9) (cCode { s with ret := [] } f)
                                                                                    rw [ecd]
                                                                                    exact bv9
                                                                                  have hbi : BV H88 (.slice ca7 (cChild { s with ret := [] } f 244).input.length cc7) (cChild { s with ret := [] } f 244).input := (bv7.mono g88.le)
                                                                                  replace k19 : Blk w109 b19 (fcv (cChild { s with ret := [] } f 244) (.slice ca9 (cChild { s with ret := [] } f 244).code.length cc9) (.slice ca7 (cChild { s with ret := [] } f 244).input.length cc7) 0 0 0 (List.replicate 8 0)).toArray := by
                                                                                    show Blk _ _ (fcv (cChild { s with ret := [] } f 244) (.slice ca9 (cCode { s with ret := [] } f).length cc9) (.slice ca7 (rdN f.mem (argN f.stack 2) (argN f.stack (2 + 1))).length cc7) 0 0 0 (List.replicate 8 0)).toArray
                                                                                    rw [ecd, euu, fcv_ci]
                                                                                    exact k19
                                                                                  have hU : EFB (cChild { s with ret := [] } f 244) := ⟨by show 3 < 8; decide, natAt_lt _, Nat.zero_le _, Nat.zero_le _, fun _ h => absurd h (List.not_mem_nil), by show cG f 244 ≤ 1048576; omega, by show f.self < A160; exact hB.self, by show f.caller < A160; exact hB.caller, by show f.value < W256; exact hB.value, by show (cCode { s with ret := [] } f).length ≤ 512; rw [ecd]; exact hcl, by show (rdN f.mem (argN f.stack 2) (argN f.stack (2 + 1))).length ≤ 717280; exact hrl, Nat.zero_le _, Nat.zero_le _, hbc.dig, hbi.dig⟩
                                                                                  have hmk : 100 * V15.marks.length + (gasS s9 + (c1 + (sentN f.gas (argN f.stack 0)))) ≤ 1048576 := by
                                                                                    rw [hmr, hs9, gas_top (s := { cS { s with ret := [] } f with frames := low ++ [cWait f 244] }) (low := low) (f := cWait f 244) rfl]
                                                                                    have h8 := hE.px.pot.m
                                                                                    rw [gas_top hs] at h8
                                                                                    show 100 * V.marks.length + ((low.map (·.gas)).sum + (f.gas - (sentN f.gas (argN f.stack 0))) + (c1 + (sentN f.gas (argN f.stack 0)))) ≤ _
                                                                                    omega
                                                                                  have hcc := call_slack f 244 (by decide) hc3 (by intro _ h; exact absurd rfl h)
                                                                                  have hle : (cChild { s with ret := [] } f 244).kind ≠ 3 → (cChild { s with ret := [] } f 244).kind ≠ 7 → (cChild { s with ret := [] } f 244).value ≤ (acctAt (entA1 s9.now (cChild { s with ret := [] } f 244)) (cChild { s with ret := [] } f 244).caller).bal := by
                                                                                    intro h1 h2
                                                                                    rw [show entA1 s9.now (cChild { s with ret := [] } f 244) = s9.now.accts from if_neg (by show ¬ crN 3 = true; decide), hac9]
                                                                                    exact absurd rfl h1
                                                                                  have hov9 : (cChild { s with ret := [] } f 244).kind ≠ 3 → (cChild { s with ret := [] } f 244).kind ≠ 7 → (cChild { s with ret := [] } f 244).value ≠ 0 → (acctAt (takeB (entA1 s9.now (cChild { s with ret := [] } f 244)) (cChild { s with ret := [] } f 244).caller (cChild { s with ret := [] } f 244).value) (cChild { s with ret := [] } f 244).self).bal + (cChild { s with ret := [] } f 244).value < W256 := by
                                                                                    intro h1 h2 h3
                                                                                    rw [show entA1 s9.now (cChild { s with ret := [] } f 244) = s9.now.accts from if_neg (by show ¬ crN 3 = true; decide), hac9]
                                                                                    exact absurd rfl h1
                                                                                  have hph9 : s9.phase = 1 := by rw [hs9]; exact hp
                                                                                  have hap9 : s9.applied ≤ 4 := by rw [hs9]; exact hap
                                                                                  have hl9 : s9.frames.length ≤ 6 := by rw [hs9]; show (low ++ [_]).length ≤ 6; rw [List.length_append, List.length_singleton]; omega
                                                                                  have hm9 : ms.length ≤ 6 := by rw [hms, List.length_map, List.length_append, List.length_singleton]; omega
                                                                                  refine l_step (y_loadB agg_71 sz_71 (et (gS rfl g0) rfl) (by rw [List.size_toArray, fcv_len rfl]) (at1B k19)) ?_
                                                                                  exact (by
                                                                                    refine l_eff (e_callV cal_105 (aC (et (gS rfl g0) rfl) (aC (et g0 rfl) aN)) (m_enter hX.ex (by omega) hl9 hm9 (u := (cChild { s with ret := [] } f 244)) hbc hbi hU rfl (c' := c') hap9 hmk hcc hhf.1 hhf.2 hle hov9 (hX.ex.limR hph9) (hX.ex.madR hph9) (hX.ex.orgR hph9))) (fun v110 w110 h110 => ?_)
                                                                                    obtain ⟨rfl, cl110, cs110, V110, y110⟩ := h110
                                                                                    replace k9 := k9.ch y110.et.go.ch (by intro hm; (have e0 := hm); omega)
                                                                                    replace k19 := k19.ch y110.et.go.ch (by intro hm; (have e0 := hm); omega)
                                                                                    replace k23 := k23.ch y110.et.go.ch (by intro hm; (have e0 := hm); omega)
                                                                                    replace k97 := k97.ch y110.et.go.ch (by intro hm; (have e0 := hm); omega)
                                                                                    replace hX := hX.trans y110
                                                                                    replace U := U.cc y110.et.go.ch (by intro b hb; exact .inl trivial)
                                                                                    refine l_nil ?_
                                                                                    refine end0 rfl ?_
                                                                                    have hnf : ¬ cFail { s with ret := [] } f 244 low.length := by
                                                                                      intro h9
                                                                                      rcases h9 with h9 | h9
                                                                                      · exact hd6 h9
                                                                                      · exact hfb h9
                                                                                    rw [show callY { s with ret := [] } f 244 low = entY { cS { s with ret := [] } f with frames := low ++ [cWait f 244] } (cChild { s with ret := [] } f 244) from if_neg hnf]
                                                                                    rw [hs9] at hX
                                                                                    rw [show ({ entY { cS { s with ret := [] } f with frames := low ++ [cWait f 244] } (cChild { s with ret := [] } f 244) with phase := 1 } : YSt) = entY { cS { s with ret := [] } f with frames := low ++ [cWait f 244] } (cChild { s with ret := [] } f 244) from ph1 hp] at hX
                                                                                    refine ⟨rfl, XO.of hX ?_⟩
                                                                                    rw [hms]
                                                                                    show _ = ((low ++ [cWait f 244]) ++ [_]).map _
                                                                                    rw [List.map_append, List.map_append, List.map_append]
                                                                                    rfl))))
                                                                          · skip
                                                                            rw [hsk5] at cB11
                                                                            have hn0 : argN f.stack (2 + 3) = 0 := by simpa using cB11
                                                                            refine c_skip ?_
                                                                            refine hK94 _ _ ?_
                                                                            refine fg4 0 2 4 5 (gS rfl (gS rfl (gS rfl (gS rfl (gS rfl g0))))) (gS rfl (gS rfl (gS rfl (gS rfl g0)))) (gS rfl (gS rfl (gS rfl g0))) (gS rfl (gS rfl g0)) (fun g => ?_)
                                                                            refine c_seq (fun K111 hK111 => ?_)
                                                                            exact (by
                                                                              refine c_region ?_
                                                                              refine l_step (y_moveV (et (gS rfl (gS rfl (gS rfl g0))) rfl)) ?_
                                                                              refine l_step (y_moveV (et (gS rfl (gS rfl (gS rfl g0))) rfl)) ?_
                                                                              refine l_step (y_moveV (et (gS rfl (gS rfl g0)) rfl)) ?_
                                                                              refine l_step (y_add (et g0 rfl) rfl (addIN (x := 2) (y := 4) ?_)) ?_
                                                                              omega
                                                                              refine l_step (y_conv Hvaa.underlying3 Hvaa.underlying67 (et g0 rfl) (wrapU_id uk16 ?_)) ?_
                                                                              omega
                                                                              refine l_step (y_bld bN bld65_z) ?_
                                                                              refine l_eff (e_callV cal_259 (aC (et (gS rfl (gS rfl (gS rfl (gS rfl (gS rfl g0))))) rfl) (aC (et (gS rfl (gS rfl (gS rfl (gS rfl g0)))) rfl) (aC (et (gS rfl g0) rfl) (aC rfl (aC (et g0 rfl) (aC (v := .int .u16 ((0 : Nat) : Int)) rfl aN)))))) (m_settle0 hX.ex hsf5 hph5 rfl 6 0 0 (by rw [hsk5]; omega) (by decide) (by rw [hf5, hf4, hf2]; show f.pc + 0 ≤ 560; omega))) (fun v112 w112 h112 => ?_)
                                                                              obtain ⟨rfl, cs112, y112⟩ := h112
                                                                              replace k9 := k9.ch y112.et.go.ch (by intro hm; (have e0 := hm); omega)
                                                                              replace k19 := k19.ch y112.et.go.ch (by intro hm; (have e0 := hm); omega)
                                                                              replace k23 := k23.ch y112.et.go.ch (by intro hm; (have e0 := hm); omega)
                                                                              replace k97 := k97.ch y112.et.go.ch (by intro hm; (have e0 := hm); omega)
                                                                              replace hX := hX.trans y112
                                                                              replace U := U.cc y112.et.go.ch (by intro b hb; exact .inl trivial)
                                                                              have ew : setF f5 6 false 0 0 = cWait f 244 := by rw [hf5, hf4, hf2]; exact cwait_0 (q := 244) (tk := 6) (i := 2) (show tkN 244 = 6 from rfl) rfl hn0
                                                                              rw [ew] at hX
                                                                              obtain ⟨s9, hs9⟩ : ∃ s9 : YSt, s9 = { cS { s with ret := [] } f with frames := low ++ [cWait f 244] } := ⟨_, rfl⟩
                                                                              replace hX := hX.reS (show s9 = { s5 with frames := low ++ [cWait f 244] } by rw [hs9, hs5, hs4, hs2, hs1, hs0])
                                                                              have hac9 : s9.now.accts = s.now.accts := by rw [hs9]; rfl
                                                                              refine l_nil ?_
                                                                              refine hK111 _ _ ?_
                                                                              refine fg2 0 4 (gS rfl (gS rfl (gS rfl (gS rfl (gS rfl (gS rfl (gS rfl (gS rfl (gS rfl (gS rfl g0)))))))))) (gS rfl (gS rfl (gS rfl (gS rfl (gS rfl (gS rfl (gS rfl (gS rfl g0)))))))) (fun g => ?_)
                                                                              refine c_region ?_
                                                                              refine l_step (y_moveV (et (gS rfl g0) rfl)) ?_
                                                                              rw [hac2] at k19
                                                                              have euu : (cChild { s with ret := [] } f 244) = { cFr 3 f.static f.value f.self f.caller (cG f 244) (natAt (ctT f)) [] [] with code := cCode { s with ret := [] } f, input := (rdN f.mem (argN f.stack 2) (argN f.stack (2 + 1))) } := rfl
                                                                              have ecd : cCode { s with ret := [] } f = (acctAt s.now.accts (ctT f)).code := if_pos hnt
                                                                              have hbc : BV H88 (.slice ca9 (cChild { s with ret := [] } f 244).code.length cc9) (cChild { s with ret := [] } f 244).code := by
                                                                                show BV _ (.slice ca9 (cCode { s with ret := [] } f).length cc9) (cCode { s with ret := [] } f)
                                                                                rw [ecd]
                                                                                exact bv9
                                                                              have hbi : BV H88 (.slice ca7 (cChild { s with ret := [] } f 244).input.length cc7) (cChild { s with ret := [] } f 244).input := (bv7.mono g88.le)
                                                                              replace k19 : Blk w112 b19 (fcv (cChild { s with ret := [] } f 244) (.slice ca9 (cChild { s with ret := [] } f 244).code.length cc9) (.slice ca7 (cChild { s with ret := [] } f 244).input.length cc7) 0 0 0 (List.replicate 8 0)).toArray := by
                                                                                show Blk _ _ (fcv (cChild { s with ret := [] } f 244) (.slice ca9 (cCode { s with ret := [] } f).length cc9) (.slice ca7 (rdN f.mem (argN f.stack 2) (argN f.stack (2 + 1))).length cc7) 0 0 0 (List.replicate 8 0)).toArray
                                                                                rw [ecd, euu, fcv_ci]
                                                                                exact k19
                                                                              have hU : EFB (cChild { s with ret := [] } f 244) := ⟨by show 3 < 8; decide, natAt_lt _, Nat.zero_le _, Nat.zero_le _, fun _ h => absurd h (List.not_mem_nil), by show cG f 244 ≤ 1048576; omega, by show f.self < A160; exact hB.self, by show f.caller < A160; exact hB.caller, by show f.value < W256; exact hB.value, by show (cCode { s with ret := [] } f).length ≤ 512; rw [ecd]; exact hcl, by show (rdN f.mem (argN f.stack 2) (argN f.stack (2 + 1))).length ≤ 717280; exact hrl, Nat.zero_le _, Nat.zero_le _, hbc.dig, hbi.dig⟩
                                                                              have hmk : 100 * V15.marks.length + (gasS s9 + (c1 + (sentN f.gas (argN f.stack 0)))) ≤ 1048576 := by
                                                                                rw [hmr, hs9, gas_top (s := { cS { s with ret := [] } f with frames := low ++ [cWait f 244] }) (low := low) (f := cWait f 244) rfl]
                                                                                have h8 := hE.px.pot.m
                                                                                rw [gas_top hs] at h8
                                                                                show 100 * V.marks.length + ((low.map (·.gas)).sum + (f.gas - (sentN f.gas (argN f.stack 0))) + (c1 + (sentN f.gas (argN f.stack 0)))) ≤ _
                                                                                omega
                                                                              have hcc := call_slack f 244 (by decide) hc3 (by intro _ h; exact absurd rfl h)
                                                                              have hle : (cChild { s with ret := [] } f 244).kind ≠ 3 → (cChild { s with ret := [] } f 244).kind ≠ 7 → (cChild { s with ret := [] } f 244).value ≤ (acctAt (entA1 s9.now (cChild { s with ret := [] } f 244)) (cChild { s with ret := [] } f 244).caller).bal := by
                                                                                intro h1 h2
                                                                                rw [show entA1 s9.now (cChild { s with ret := [] } f 244) = s9.now.accts from if_neg (by show ¬ crN 3 = true; decide), hac9]
                                                                                exact absurd rfl h1
                                                                              have hov9 : (cChild { s with ret := [] } f 244).kind ≠ 3 → (cChild { s with ret := [] } f 244).kind ≠ 7 → (cChild { s with ret := [] } f 244).value ≠ 0 → (acctAt (takeB (entA1 s9.now (cChild { s with ret := [] } f 244)) (cChild { s with ret := [] } f 244).caller (cChild { s with ret := [] } f 244).value) (cChild { s with ret := [] } f 244).self).bal + (cChild { s with ret := [] } f 244).value < W256 := by
                                                                                intro h1 h2 h3
                                                                                rw [show entA1 s9.now (cChild { s with ret := [] } f 244) = s9.now.accts from if_neg (by show ¬ crN 3 = true; decide), hac9]
                                                                                exact absurd rfl h1
                                                                              have hph9 : s9.phase = 1 := by rw [hs9]; exact hp
                                                                              have hap9 : s9.applied ≤ 4 := by rw [hs9]; exact hap
                                                                              have hl9 : s9.frames.length ≤ 6 := by rw [hs9]; show (low ++ [_]).length ≤ 6; rw [List.length_append, List.length_singleton]; omega
                                                                              have hm9 : ms.length ≤ 6 := by rw [hms, List.length_map, List.length_append, List.length_singleton]; omega
                                                                              refine l_step (y_loadB agg_71 sz_71 (et (gS rfl g0) rfl) (by rw [List.size_toArray, fcv_len rfl]) (at1B k19)) ?_
                                                                              exact (by
                                                                                refine l_eff (e_callV cal_105 (aC (et (gS rfl g0) rfl) (aC (et g0 rfl) aN)) (m_enter hX.ex (by omega) hl9 hm9 (u := (cChild { s with ret := [] } f 244)) hbc hbi hU rfl (c' := c') hap9 hmk hcc hhf.1 hhf.2 hle hov9 (hX.ex.limR hph9) (hX.ex.madR hph9) (hX.ex.orgR hph9))) (fun v113 w113 h113 => ?_)
                                                                                obtain ⟨rfl, cl113, cs113, V113, y113⟩ := h113
                                                                                replace k9 := k9.ch y113.et.go.ch (by intro hm; (have e0 := hm); omega)
                                                                                replace k19 := k19.ch y113.et.go.ch (by intro hm; (have e0 := hm); omega)
                                                                                replace k23 := k23.ch y113.et.go.ch (by intro hm; (have e0 := hm); omega)
                                                                                replace k97 := k97.ch y113.et.go.ch (by intro hm; (have e0 := hm); omega)
                                                                                replace hX := hX.trans y113
                                                                                replace U := U.cc y113.et.go.ch (by intro b hb; exact .inl trivial)
                                                                                refine l_nil ?_
                                                                                refine end0 rfl ?_
                                                                                have hnf : ¬ cFail { s with ret := [] } f 244 low.length := by
                                                                                  intro h9
                                                                                  rcases h9 with h9 | h9
                                                                                  · exact hd6 h9
                                                                                  · exact hfb h9
                                                                                rw [show callY { s with ret := [] } f 244 low = entY { cS { s with ret := [] } f with frames := low ++ [cWait f 244] } (cChild { s with ret := [] } f 244) from if_neg hnf]
                                                                                rw [hs9] at hX
                                                                                rw [show ({ entY { cS { s with ret := [] } f with frames := low ++ [cWait f 244] } (cChild { s with ret := [] } f 244) with phase := 1 } : YSt) = entY { cS { s with ret := [] } f with frames := low ++ [cWait f 244] } (cChild { s with ret := [] } f 244) from ph1 hp] at hX
                                                                                refine ⟨rfl, XO.of hX ?_⟩
                                                                                rw [hms]
                                                                                show _ = ((low ++ [cWait f 244]) ++ [_]).map _
                                                                                rw [List.map_append, List.map_append, List.map_append]
                                                                                rfl))))))))
                                                            · skip
                                                              
                                                              have hnt : natAt (ctT f) ≠ 0 := by have := of_decide_eq_false cB10; omega
                                                              refine c_skip ?_
                                                              refine hK84 _ _ ?_
                                                              refine fg4 0 2 4 5 (gS rfl (gS rfl (gS rfl (gS rfl (gS rfl g0))))) (gS rfl (gS rfl (gS rfl (gS rfl g0)))) (gS rfl (gS rfl g0)) (gS rfl g0) (fun g => ?_)
                                                              refine c_seq (fun K114 hK114 => ?_)
                                                              exact (by
                                                                refine c_region ?_
                                                                refine l_step (y_moveV (et (gS rfl (gS rfl g0)) rfl)) ?_
                                                                refine l_step (y_nil (et g0 rfl)) ?_
                                                                refine l_step (y_fld fld_71_15 (et g0 rfl)) ?_
                                                                refine l_effN (e_store sz_60 (et g0 rfl) (cellsV rfl rfl) rfl (by intro v hv; simp at hv; subst hv; rfl) hX.ex.vl.kC (by rw [hX.ex.vl.size]; omega)) (fun v115 w115 h115 => ?_)
                                                                obtain ⟨rfl, x115⟩ := h115
                                                                have hv115 := hX.stOO hsf2 hph2 (p := 0) (by omega) (by omega) x115
                                                                replace k9 := k9.ch x115.ch (by intro hm; first | omega | (subst hm; omega))
                                                                replace k19 := k19.ch x115.ch (by intro hm; first | omega | (subst hm; omega))
                                                                replace k23 := k23.ch x115.ch (by intro hm; first | omega | (subst hm; omega))
                                                                replace hX := hv115
                                                                replace U := U.cc x115.ch (by intro b hb; exact .inl trivial)
                                                                obtain ⟨f4, hf4⟩ : ∃ f4 : YF, f4 = { f2 with outOff := 0 } := ⟨_, rfl⟩
                                                                obtain ⟨s4, hs4⟩ : ∃ s4 : YSt, s4 = { s2 with frames := low ++ [f4] } := ⟨_, rfl⟩
                                                                replace hX := hX.reS (show s4 = { s2 with frames := low ++ [{ f2 with outOff := 0 }] } by rw [hs4, hf4])
                                                                have hsf4 : s4.frames = low ++ [f4] := by rw [hs4]
                                                                have hph4 : s4.phase = 1 := by rw [hs4]; exact hph2
                                                                have hsk4 : f4.stack = f.stack := by first | (rw [hf4]; done) | (rw [hf4]; exact hsk2)
                                                                refine l_nil ?_
                                                                refine hK114 _ _ ?_
                                                                refine fg4 0 2 4 5 (gS rfl (gS rfl (gS rfl (gS rfl (gS rfl (gS rfl g0)))))) (gS rfl (gS rfl (gS rfl (gS rfl (gS rfl g0))))) (gS rfl (gS rfl (gS rfl (gS rfl g0)))) (gS rfl (gS rfl (gS rfl g0))) (fun g => ?_)
                                                                refine c_seq (fun K116 hK116 => ?_)
                                                                exact (by
                                                                  refine c_region ?_
                                                                  refine l_step (y_moveV (et (gS rfl (gS rfl g0)) rfl)) ?_
                                                                  refine l_step (y_nil (et g0 rfl)) ?_
                                                                  refine l_step (y_fld fld_71_16 (et g0 rfl)) ?_
                                                                  refine l_effN (e_store sz_60 (et g0 rfl) (cellsV rfl rfl) rfl (by intro v hv; simp at hv; subst hv; rfl) hX.ex.vl.kC (by rw [hX.ex.vl.size]; omega)) (fun v117 w117 h117 => ?_)
                                                                  obtain ⟨rfl, x117⟩ := h117
                                                                  have hv117 := hX.stOL hsf4 hph4 (p := 0) (by omega) (by omega) x117
                                                                  replace k9 := k9.ch x117.ch (by intro hm; first | omega | (subst hm; omega))
                                                                  replace k19 := k19.ch x117.ch (by intro hm; first | omega | (subst hm; omega))
                                                                  replace k23 := k23.ch x117.ch (by intro hm; first | omega | (subst hm; omega))
                                                                  replace hX := hv117
                                                                  replace U := U.cc x117.ch (by intro b hb; exact .inl trivial)
                                                                  obtain ⟨f5, hf5⟩ : ∃ f5 : YF, f5 = { f4 with outLen := 0 } := ⟨_, rfl⟩
                                                                  obtain ⟨s5, hs5⟩ : ∃ s5 : YSt, s5 = { s4 with frames := low ++ [f5] } := ⟨_, rfl⟩
                                                                  replace hX := hX.reS (show s5 = { s4 with frames := low ++ [{ f4 with outLen := 0 }] } by rw [hs5, hf5])
                                                                  have hsf5 : s5.frames = low ++ [f5] := by rw [hs5]
                                                                  have hph5 : s5.phase = 1 := by rw [hs5]; exact hph4
                                                                  have hsk5 : f5.stack = f.stack := by first | (rw [hf5]; done) | (rw [hf5]; exact hsk4)
                                                                  have hnw4 := hX.ex.vl.new
                                                                  have hfz4 := hX.ex.vl.fz
                                                                  refine l_nil ?_
                                                                  refine hK116 _ _ ?_
                                                                  refine fg4 0 2 4 5 (gS rfl (gS rfl (gS rfl (gS rfl (gS rfl (gS rfl g0)))))) (gS rfl (gS rfl (gS rfl (gS rfl (gS rfl g0))))) (gS rfl (gS rfl (gS rfl (gS rfl g0)))) (gS rfl (gS rfl (gS rfl g0))) (fun g => ?_)
                                                                  refine c_seq (fun K118 hK118 => ?_)
                                                                  refine c_seq (fun K119 hK119 => ?_)
                                                                  exact (by
                                                                    refine c_region ?_
                                                                    refine l_step (y_moveV (et (gS rfl (gS rfl (gS rfl g0))) rfl)) ?_
                                                                    refine l_step (y_moveV (et (gS rfl (gS rfl (gS rfl g0))) rfl)) ?_
                                                                    refine l_step (y_moveV (et (gS rfl (gS rfl g0)) rfl)) ?_
                                                                    refine l_step (y_add (et g0 rfl) rfl (addIN (x := 2) (y := 3) ?_)) ?_
                                                                    omega
                                                                    have hB5 := hX.ex.fbT hsf5
                                                                    refine l_eff (e_callV cal_264 (aC (et (gS rfl (gS rfl (gS rfl g0))) rfl) (aC (et (gS rfl (gS rfl g0)) rfl) (aC (et g0 rfl) aN))) (m_arg hX.ex hsf5 hph5 rfl (2 + 3) (by decide))) (fun v120 w120 h120 => ?_)
                                                                    obtain ⟨rfl, u120⟩ := h120
                                                                    replace k9 := k9.up u120
                                                                    replace k19 := k19.up u120
                                                                    replace k23 := k23.up u120
                                                                    replace hX := hX.up u120
                                                                    replace U := U.tr u120
                                                                    have hnw4 := hX.ex.vl.new
                                                                    have hfz4 := hX.ex.vl.fz
                                                                    refine l_eff (e_alloc zr_65) (fun v121 w121 h121 => ?_)
                                                                    obtain ⟨b121, rfl, n121⟩ := h121
                                                                    have d9_121 : b9 < b121 := Nat.lt_of_lt_of_le k9.lt n121.fresh
                                                                    have d19_121 : b19 < b121 := Nat.lt_of_lt_of_le k19.lt n121.fresh
                                                                    have d23_121 : b23 < b121 := Nat.lt_of_lt_of_le k23.lt n121.fresh
                                                                    have f121 : w.heap.size ≤ b121 := Nat.le_trans U.size n121.fresh
                                                                    replace k9 := k9.up n121.up
                                                                    replace k19 := k19.up n121.up
                                                                    replace k23 := k23.up n121.up
                                                                    replace hX := hX.up n121.up
                                                                    replace U := U.tr n121.up
                                                                    have k121 := n121.blk
                                                                    obtain ⟨zs121, hz121, k121⟩ : ∃ cs : Array Value, cs.size = 4 ∧ Blk w121 b121 cs := ⟨_, rfl, k121⟩
                                                                    have nc121 := hnw4 b121 n121.fresh
                                                                    have nh121 : ¬ H75.has b121 := fun hh => by have h9 := hfz4.lt hh; have h8 := n121.fresh; omega
                                                                    exact (by
                                                                      refine l_effN (e_store sz_65 (et g0 rfl) (cellsV (et (gS rfl g0) rfl) rfl) rfl (by exact one_uL _) k121 (by (first | (rw [hz121]; exact Nat.le_refl _) | (rw [List.size_toArray, wL_len]; exact Nat.le_refl _)))) (fun v122 w122 h122 => ?_)
                                                                      obtain ⟨rfl, x122⟩ := h122
                                                                      replace k9 := k9.ch x122.ch (by omega)
                                                                      replace k19 := k19.ch x122.ch (by omega)
                                                                      replace k23 := k23.ch x122.ch (by omega)
                                                                      replace hX := hX.ch x122.ch (by first | omega | (intro b hb; first | (subst hb; first | exact ⟨by omega, fun hh => by have := hfz.lt hh; omega, by omega⟩ | exact ⟨by omega, by assumption, by omega⟩) | (rcases hb with hb | hb <;> (subst hb; first | exact ⟨by omega, fun hh => by have := hfz.lt hh; omega, by omega⟩ | exact ⟨by omega, by assumption, by omega⟩))))
                                                                      replace k121 := x122.blk.full (by first | (rw [hz121]; rfl) | (rw [List.size_toArray, wL_len, wL_len]))
                                                                      replace U := U.st x122 (.inr f121)
                                                                      refine l_nil ?_
                                                                      refine hK119 _ _ ?_
                                                                      refine fg5 0 2 4 5 9 (gS rfl (gS rfl (gS rfl (gS rfl (gS rfl (gS rfl (gS rfl (gS rfl (gS rfl g0))))))))) (gS rfl (gS rfl (gS rfl (gS rfl (gS rfl (gS rfl (gS rfl (gS rfl g0)))))))) (gS rfl (gS rfl (gS rfl (gS rfl (gS rfl (gS rfl (gS rfl g0))))))) (gS rfl (gS rfl (gS rfl (gS rfl (gS rfl (gS rfl g0)))))) g0 (fun g => ?_)
                                                                      refine c_seq (fun K123 hK123 => ?_)
                                                                      exact (by
                                                                        refine c_region ?_
                                                                        refine l_step (y_loadB agg_65 sz_65 (et g0 rfl) rfl (at1B k121)) ?_
                                                                        refine l_eff (e_callV cal_78 (aC (et g0 rfl) aN) (isZero_spec _ _ (argN_lt hB5 _))) (fun v124 w124 h124 => ?_)
                                                                        obtain ⟨rfl, u124⟩ := h124
                                                                        replace k9 := k9.up u124
                                                                        replace k19 := k19.up u124
                                                                        replace k23 := k23.up u124
                                                                        replace k121 := k121.up u124
                                                                        replace hX := hX.up u124
                                                                        replace U := U.tr u124
                                                                        refine l_step (y_not (et g0 rfl)) ?_
                                                                        refine l_nil ?_
                                                                        refine hK123 _ _ ?_
                                                                        refine fg6 0 2 4 5 9 187 (gS rfl (gS rfl (gS rfl (gS rfl (gS rfl (gS rfl (gS rfl g0))))))) (gS rfl (gS rfl (gS rfl (gS rfl (gS rfl (gS rfl g0)))))) (gS rfl (gS rfl (gS rfl (gS rfl (gS rfl g0))))) (gS rfl (gS rfl (gS rfl (gS rfl g0)))) (gS rfl (gS rfl (gS rfl g0))) g0 (fun g => ?_)
                                                                        refine c_cond (et g0 rfl) (fun cB11 => ?_) (fun cB11 => ?_)
                                                                        · skip
                                                                          rw [hsk5] at cB11
                                                                          have hn0 : argN f.stack (2 + 3) ≠ 0 := by simpa using cB11
                                                                          have hou := hout hn0
                                                                          rw [hsk5] at k121
                                                                          refine c_seq (fun K126 hK126 => ?_)
                                                                          exact (by
                                                                            refine c_region ?_
                                                                            refine l_step (y_moveV (et (gS rfl (gS rfl (gS rfl (gS rfl g0)))) rfl)) ?_
                                                                            refine l_step (y_moveV (et (gS rfl (gS rfl (gS rfl (gS rfl (gS rfl (gS rfl g0)))))) rfl)) ?_
                                                                            refine l_step (y_moveV (et (gS rfl (gS rfl (gS rfl (gS rfl (gS rfl (gS rfl g0)))))) rfl)) ?_
                                                                            refine l_step (y_moveV (et (gS rfl (gS rfl (gS rfl (gS rfl (gS rfl g0))))) rfl)) ?_
                                                                            refine l_step (y_add (et g0 rfl) rfl (addIN (x := 2) (y := 2) ?_)) ?_
                                                                            omega
                                                                            refine l_eff (e_callV cal_264 (aC (et (gS rfl (gS rfl (gS rfl g0))) rfl) (aC (et (gS rfl (gS rfl g0)) rfl) (aC (et g0 rfl) aN))) (m_arg hX.ex hsf5 hph5 rfl (2 + 2) (by decide))) (fun v127 w127 h127 => ?_)
                                                                            obtain ⟨rfl, u127⟩ := h127
                                                                            replace k9 := k9.up u127
                                                                            replace k19 := k19.up u127
                                                                            replace k23 := k23.up u127
                                                                            replace k121 := k121.up u127
                                                                            replace hX := hX.up u127
                                                                            replace U := U.tr u127
                                                                            refine l_eff (e_callV cal_299 (aC (et g0 rfl) aN) (m_small _ _ (by rw [hsk5]; omega))) (fun v128 w128 h128 => ?_)
                                                                            obtain ⟨rfl, u128⟩ := h128
                                                                            replace k9 := k9.up u128
                                                                            replace k19 := k19.up u128
                                                                            replace k23 := k23.up u128
                                                                            replace k121 := k121.up u128
                                                                            replace hX := hX.up u128
                                                                            replace U := U.tr u128
                                                                            refine l_step (y_nil (et (gS rfl (gS rfl (gS rfl (gS rfl (gS rfl (gS rfl g0)))))) rfl)) ?_
                                                                            refine l_step (y_fld fld_71_15 (et g0 rfl)) ?_
                                                                            refine l_effN (e_store sz_60 (et g0 rfl) (cellsV (et (gS rfl (gS rfl g0)) rfl) rfl) rfl (by intro v hv; simp at hv; subst hv; rfl) hX.ex.vl.kC (by rw [hX.ex.vl.size]; omega)) (fun v129 w129 h129 => ?_)
                                                                            obtain ⟨rfl, x129⟩ := h129
                                                                            rw [hsk5] at x129
                                                                            have hv129 := hX.stOO hsf5 hph5 (p := argN f.stack (2 + 2)) (by omega) (by omega) x129
                                                                            replace k9 := k9.ch x129.ch (by intro hm; first | omega | (subst hm; omega))
                                                                            replace k19 := k19.ch x129.ch (by intro hm; first | omega | (subst hm; omega))
                                                                            replace k23 := k23.ch x129.ch (by intro hm; first | omega | (subst hm; omega))
                                                                            replace k121 := k121.ch x129.ch (by intro hm; first | omega | (subst hm; omega))
                                                                            replace hX := hv129
                                                                            replace U := U.cc x129.ch (by intro b hb; exact .inl trivial)
                                                                            obtain ⟨f6, hf6⟩ : ∃ f6 : YF, f6 = { f5 with outOff := argN f.stack (2 + 2) } := ⟨_, rfl⟩
                                                                            obtain ⟨s6, hs6⟩ : ∃ s6 : YSt, s6 = { s5 with frames := low ++ [f6] } := ⟨_, rfl⟩
                                                                            replace hX := hX.reS (show s6 = { s5 with frames := low ++ [{ f5 with outOff := argN f.stack (2 + 2) }] } by rw [hs6, hf6])
                                                                            have hsf6 : s6.frames = low ++ [f6] := by rw [hs6]
                                                                            have hph6 : s6.phase = 1 := by rw [hs6]; exact hph5
                                                                            have hsk6 : f6.stack = f.stack := by first | (rw [hf6]; done) | (rw [hf6]; exact hsk5)
                                                                            refine l_nil ?_
                                                                            refine hK126 _ _ ?_
                                                                            refine fg5 0 2 4 5 9 (gS rfl (gS rfl (gS rfl (gS rfl (gS rfl (gS rfl (gS rfl (gS rfl (gS rfl (gS rfl (gS rfl (gS rfl (gS rfl (gS rfl g0)))))))))))))) (gS rfl (gS rfl (gS rfl (gS rfl (gS rfl (gS rfl (gS rfl (gS rfl (gS rfl (gS rfl (gS rfl (gS rfl (gS rfl g0))))))))))))) (gS rfl (gS rfl (gS rfl (gS rfl (gS rfl (gS rfl (gS rfl (gS rfl (gS rfl (gS rfl (gS rfl (gS rfl g0)))))))))))) (gS rfl (gS rfl (gS rfl (gS rfl (gS rfl (gS rfl (gS rfl (gS rfl (gS rfl (gS rfl (gS rfl g0))))))))))) (gS rfl (gS rfl (gS rfl (gS rfl (gS rfl (gS rfl (gS rfl (gS rfl (gS rfl (gS rfl g0)))))))))) (fun g => ?_)
                                                                            refine c_region ?_
                                                                            exact (by
                                                                              refine l_step (y_moveV (et (gS rfl (gS rfl (gS rfl g0))) rfl)) ?_
                                                                              refine l_step (y_loadB agg_65 sz_65 (et (gS rfl g0) rfl) rfl (at1B k121)) ?_
                                                                              refine l_eff (e_callV cal_299 (aC (et g0 rfl) aN) (m_small _ _ (by omega))) (fun v130 w130 h130 => ?_)
                                                                              obtain ⟨rfl, u130⟩ := h130
                                                                              replace k9 := k9.up u130
                                                                              replace k19 := k19.up u130
                                                                              replace k23 := k23.up u130
                                                                              replace k121 := k121.up u130
                                                                              replace hX := hX.up u130
                                                                              replace U := U.tr u130
                                                                              refine l_step (y_nil (et (gS rfl (gS rfl g0)) rfl)) ?_
                                                                              refine l_step (y_fld fld_71_16 (et g0 rfl)) ?_
                                                                              refine l_effN (e_store sz_60 (et g0 rfl) (cellsV (et (gS rfl (gS rfl g0)) rfl) rfl) rfl (by intro v hv; simp at hv; subst hv; rfl) hX.ex.vl.kC (by rw [hX.ex.vl.size]; omega)) (fun v131 w131 h131 => ?_)
                                                                              obtain ⟨rfl, x131⟩ := h131
                                                                              have hv131 := hX.stOL hsf6 hph6 (p := argN f.stack (2 + 3)) (by omega) (by omega) x131
                                                                              replace k9 := k9.ch x131.ch (by intro hm; first | omega | (subst hm; omega))
                                                                              replace k19 := k19.ch x131.ch (by intro hm; first | omega | (subst hm; omega))
                                                                              replace k23 := k23.ch x131.ch (by intro hm; first | omega | (subst hm; omega))
                                                                              replace k121 := k121.ch x131.ch (by intro hm; first | omega | (subst hm; omega))
                                                                              replace hX := hv131
                                                                              replace U := U.cc x131.ch (by intro b hb; exact .inl trivial)
                                                                              obtain ⟨f7, hf7⟩ : ∃ f7 : YF, f7 = { f6 with outLen := argN f.stack (2 + 3) } := ⟨_, rfl⟩
                                                                              obtain ⟨s7, hs7⟩ : ∃ s7 : YSt, s7 = { s6 with frames := low ++ [f7] } := ⟨_, rfl⟩
                                                                              replace hX := hX.reS (show s7 = { s6 with frames := low ++ [{ f6 with outLen := argN f.stack (2 + 3) }] } by rw [hs7, hf7])
                                                                              have hsf7 : s7.frames = low ++ [f7] := by rw [hs7]
                                                                              have hph7 : s7.phase = 1 := by rw [hs7]; exact hph6
                                                                              have hsk7 : f7.stack = f.stack := by first | (rw [hf7]; done) | (rw [hf7]; exact hsk6)
                                                                              refine l_nil ?_
                                                                              refine hK118 _ _ ?_
                                                                              refine fg4 0 2 4 5 (gS rfl (gS rfl (gS rfl (gS rfl (gS rfl (gS rfl (gS rfl (gS rfl (gS rfl g0))))))))) (gS rfl (gS rfl (gS rfl (gS rfl (gS rfl (gS rfl (gS rfl (gS rfl g0)))))))) (gS rfl (gS rfl (gS rfl (gS rfl (gS rfl (gS rfl (gS rfl g0))))))) (gS rfl (gS rfl (gS rfl (gS rfl (gS rfl (gS rfl g0)))))) (fun g => ?_)
                                                                              refine c_seq (fun K132 hK132 => ?_)
                                                                              exact (by
                                                                                refine c_region ?_
                                                                                refine l_step (y_moveV (et (gS rfl (gS rfl (gS rfl g0))) rfl)) ?_
                                                                                refine l_step (y_moveV (et (gS rfl (gS rfl (gS rfl g0))) rfl)) ?_
                                                                                refine l_step (y_moveV (et (gS rfl (gS rfl g0)) rfl)) ?_
                                                                                refine l_step (y_add (et g0 rfl) rfl (addIN (x := 2) (y := 4) ?_)) ?_
                                                                                omega
                                                                                refine l_step (y_conv Hvaa.underlying3 Hvaa.underlying67 (et g0 rfl) (wrapU_id uk16 ?_)) ?_
                                                                                omega
                                                                                refine l_step (y_bld bN bld65_z) ?_
                                                                                refine l_eff (e_callV cal_259 (aC (et (gS rfl (gS rfl (gS rfl (gS rfl (gS rfl g0))))) rfl) (aC (et (gS rfl (gS rfl (gS rfl (gS rfl g0)))) rfl) (aC (et (gS rfl g0) rfl) (aC rfl (aC (et g0 rfl) (aC (v := .int .u16 ((0 : Nat) : Int)) rfl aN)))))) (m_settle0 hX.ex hsf7 hph7 rfl 6 0 0 (by rw [hsk7]; omega) (by decide) (by rw [hf7, hf6, hf5, hf4, hf2]; show f.pc + 0 ≤ 560; omega))) (fun v133 w133 h133 => ?_)
                                                                                obtain ⟨rfl, cs133, y133⟩ := h133
                                                                                replace k9 := k9.ch y133.et.go.ch (by intro hm; (have e0 := hm); omega)
                                                                                replace k19 := k19.ch y133.et.go.ch (by intro hm; (have e0 := hm); omega)
                                                                                replace k23 := k23.ch y133.et.go.ch (by intro hm; (have e0 := hm); omega)
                                                                                replace k121 := k121.ch y133.et.go.ch (by intro hm; (have e0 := hm); omega)
                                                                                replace hX := hX.trans y133
                                                                                replace U := U.cc y133.et.go.ch (by intro b hb; exact .inl trivial)
                                                                                have ew : setF f7 6 false 0 0 = cWait f 244 := by rw [hf7, hf6, hf5, hf4, hf2]; exact cwait_1 (q := 244) (tk := 6) (i := 2) (show tkN 244 = 6 from rfl) rfl hn0
                                                                                rw [ew] at hX
                                                                                obtain ⟨s9, hs9⟩ : ∃ s9 : YSt, s9 = { cS { s with ret := [] } f with frames := low ++ [cWait f 244] } := ⟨_, rfl⟩
                                                                                replace hX := hX.reS (show s9 = { s7 with frames := low ++ [cWait f 244] } by rw [hs9, hs7, hs6, hs5, hs4, hs2, hs1, hs0])
                                                                                have hac9 : s9.now.accts = s.now.accts := by rw [hs9]; rfl
                                                                                refine l_nil ?_
                                                                                refine hK132 _ _ ?_
                                                                                refine fg2 0 4 (gS rfl (gS rfl (gS rfl (gS rfl (gS rfl (gS rfl (gS rfl (gS rfl (gS rfl (gS rfl g0)))))))))) (gS rfl (gS rfl (gS rfl (gS rfl (gS rfl (gS rfl (gS rfl (gS rfl g0)))))))) (fun g => ?_)
                                                                                refine c_region ?_
                                                                                refine l_step (y_moveV (et (gS rfl g0) rfl)) ?_
                                                                                have euu : (cChild { s with ret := [] } f 244) = { cFr 3 f.static f.value f.self f.caller (cG f 244) (natAt (ctT f)) [] [] with code := cCode { s with ret := [] } f, input := (rdN f.mem (argN f.stack 2) (argN f.stack (2 + 1))) } := rfl
                                                                                have ecd : cCode { s with ret := [] } f = [] := if_neg hnt
                                                                                have hbc : BV H75 (.slice none (cChild { s with ret := [] } f 244).code.length 0) (cChild { s with ret := [] } f 244).code := by
                                                                                  show BV _ (.slice none (cCode { s with ret := [] } f).length 0) (cCode { s with ret := [] } f)
                                                                                  rw [ecd]
                                                                                  exact (BV.nil _)
                                                                                have hbi : BV H75 (.slice ca7 (cChild { s with ret := [] } f 244).input.length cc7) (cChild { s with ret := [] } f 244).input := bv7
                                                                                replace k19 : Blk w133 b19 (fcv (cChild { s with ret := [] } f 244) (.slice none (cChild { s with ret := [] } f 244).code.length 0) (.slice ca7 (cChild { s with ret := [] } f 244).input.length cc7) 0 0 0 (List.replicate 8 0)).toArray := by
                                                                                  show Blk _ _ (fcv (cChild { s with ret := [] } f 244) (.slice none (cCode { s with ret := [] } f).length 0) (.slice ca7 (rdN f.mem (argN f.stack 2) (argN f.stack (2 + 1))).length cc7) 0 0 0 (List.replicate 8 0)).toArray
                                                                                  rw [ecd, euu, fcv_ci]
                                                                                  exact k19
                                                                                have hU : EFB (cChild { s with ret := [] } f 244) := ⟨by show 3 < 8; decide, natAt_lt _, Nat.zero_le _, Nat.zero_le _, fun _ h => absurd h (List.not_mem_nil), by show cG f 244 ≤ 1048576; omega, by show f.self < A160; exact hB.self, by show f.caller < A160; exact hB.caller, by show f.value < W256; exact hB.value, by show (cCode { s with ret := [] } f).length ≤ 512; rw [ecd]; exact Nat.zero_le _, by show (rdN f.mem (argN f.stack 2) (argN f.stack (2 + 1))).length ≤ 717280; exact hrl, Nat.zero_le _, Nat.zero_le _, hbc.dig, hbi.dig⟩
                                                                                have hmk : 100 * V15.marks.length + (gasS s9 + (c1 + (sentN f.gas (argN f.stack 0)))) ≤ 1048576 := by
                                                                                  rw [hmr, hs9, gas_top (s := { cS { s with ret := [] } f with frames := low ++ [cWait f 244] }) (low := low) (f := cWait f 244) rfl]
                                                                                  have h8 := hE.px.pot.m
                                                                                  rw [gas_top hs] at h8
                                                                                  show 100 * V.marks.length + ((low.map (·.gas)).sum + (f.gas - (sentN f.gas (argN f.stack 0))) + (c1 + (sentN f.gas (argN f.stack 0)))) ≤ _
                                                                                  omega
                                                                                have hcc := call_slack f 244 (by decide) hc3 (by intro _ h; exact absurd rfl h)
                                                                                have hle : (cChild { s with ret := [] } f 244).kind ≠ 3 → (cChild { s with ret := [] } f 244).kind ≠ 7 → (cChild { s with ret := [] } f 244).value ≤ (acctAt (entA1 s9.now (cChild { s with ret := [] } f 244)) (cChild { s with ret := [] } f 244).caller).bal := by
                                                                                  intro h1 h2
                                                                                  rw [show entA1 s9.now (cChild { s with ret := [] } f 244) = s9.now.accts from if_neg (by show ¬ crN 3 = true; decide), hac9]
                                                                                  exact absurd rfl h1
                                                                                have hov9 : (cChild { s with ret := [] } f 244).kind ≠ 3 → (cChild { s with ret := [] } f 244).kind ≠ 7 → (cChild { s with ret := [] } f 244).value ≠ 0 → (acctAt (takeB (entA1 s9.now (cChild { s with ret := [] } f 244)) (cChild { s with ret := [] } f 244).caller (cChild { s with ret := [] } f 244).value) (cChild { s with ret := [] } f 244).self).bal + (cChild { s with ret := [] } f 244).value < W256 := by
                                                                                  intro h1 h2 h3
                                                                                  rw [show entA1 s9.now (cChild { s with ret := [] } f 244) = s9.now.accts from if_neg (by show ¬ crN 3 = true; decide), hac9]
                                                                                  exact absurd rfl h1
                                                                                have hph9 : s9.phase = 1 := by rw [hs9]; exact hp
                                                                                have hap9 : s9.applied ≤ 4 := by rw [hs9]; exact hap
                                                                                have hl9 : s9.frames.length ≤ 6 := by rw [hs9]; show (low ++ [_]).length ≤ 6; rw [List.length_append, List.length_singleton]; omega
                                                                                have hm9 : ms.length ≤ 6 := by rw [hms, List.length_map, List.length_append, List.length_singleton]; omega
                                                                                refine l_step (y_loadB agg_71 sz_71 (et (gS rfl g0) rfl) (by rw [List.size_toArray, fcv_len rfl]) (at1B k19)) ?_
                                                                                exact (by
                                                                                  refine l_eff (e_callV cal_105 (aC (et (gS rfl g0) rfl) (aC (et g0 rfl) aN)) (m_enter hX.ex (by omega) hl9 hm9 (u := (cChild { s with ret := [] } f 244)) hbc hbi hU rfl (c' := c') hap9 hmk hcc hhf.1 hhf.2 hle hov9 (hX.ex.limR hph9) (hX.ex.madR hph9) (hX.ex.orgR hph9))) (fun v134 w134 h134 => ?_)
                                                                                  obtain ⟨rfl, cl134, cs134, V134, y134⟩ := h134
                                                                                  replace k9 := k9.ch y134.et.go.ch (by intro hm; (have e0 := hm); omega)
                                                                                  replace k19 := k19.ch y134.et.go.ch (by intro hm; (have e0 := hm); omega)
                                                                                  replace k23 := k23.ch y134.et.go.ch (by intro hm; (have e0 := hm); omega)
                                                                                  replace k121 := k121.ch y134.et.go.ch (by intro hm; (have e0 := hm); omega)
                                                                                  replace hX := hX.trans y134
                                                                                  replace U := U.cc y134.et.go.ch (by intro b hb; exact .inl trivial)
                                                                                  refine l_nil ?_
                                                                                  refine end0 rfl ?_
                                                                                  have hnf : ¬ cFail { s with ret := [] } f 244 low.length := by
                                                                                    intro h9
                                                                                    rcases h9 with h9 | h9
                                                                                    · exact hd6 h9
                                                                                    · exact hfb h9
                                                                                  rw [show callY { s with ret := [] } f 244 low = entY { cS { s with ret := [] } f with frames := low ++ [cWait f 244] } (cChild { s with ret := [] } f 244) from if_neg hnf]
                                                                                  rw [hs9] at hX
                                                                                  rw [show ({ entY { cS { s with ret := [] } f with frames := low ++ [cWait f 244] } (cChild { s with ret := [] } f 244) with phase := 1 } : YSt) = entY { cS { s with ret := [] } f with frames := low ++ [cWait f 244] } (cChild { s with ret := [] } f 244) from ph1 hp] at hX
                                                                                  refine ⟨rfl, XO.of hX ?_⟩
                                                                                  rw [hms]
                                                                                  show _ = ((low ++ [cWait f 244]) ++ [_]).map _
                                                                                  rw [List.map_append, List.map_append, List.map_append]
                                                                                  rfl))))
                                                                        · skip
                                                                          rw [hsk5] at cB11
                                                                          have hn0 : argN f.stack (2 + 3) = 0 := by simpa using cB11
                                                                          refine c_skip ?_
                                                                          refine hK118 _ _ ?_
                                                                          refine fg4 0 2 4 5 (gS rfl (gS rfl (gS rfl (gS rfl (gS rfl g0))))) (gS rfl (gS rfl (gS rfl (gS rfl g0)))) (gS rfl (gS rfl (gS rfl g0))) (gS rfl (gS rfl g0)) (fun g => ?_)
                                                                          refine c_seq (fun K135 hK135 => ?_)
                                                                          exact (by
                                                                            refine c_region ?_
                                                                            refine l_step (y_moveV (et (gS rfl (gS rfl (gS rfl g0))) rfl)) ?_
                                                                            refine l_step (y_moveV (et (gS rfl (gS rfl (gS rfl g0))) rfl)) ?_
                                                                            refine l_step (y_moveV (et (gS rfl (gS rfl g0)) rfl)) ?_
                                                                            refine l_step (y_add (et g0 rfl) rfl (addIN (x := 2) (y := 4) ?_)) ?_
                                                                            omega
                                                                            refine l_step (y_conv Hvaa.underlying3 Hvaa.underlying67 (et g0 rfl) (wrapU_id uk16 ?_)) ?_
                                                                            omega
                                                                            refine l_step (y_bld bN bld65_z) ?_
                                                                            refine l_eff (e_callV cal_259 (aC (et (gS rfl (gS rfl (gS rfl (gS rfl (gS rfl g0))))) rfl) (aC (et (gS rfl (gS rfl (gS rfl (gS rfl g0)))) rfl) (aC (et (gS rfl g0) rfl) (aC rfl (aC (et g0 rfl) (aC (v := .int .u16 ((0 : Nat) : Int)) rfl aN)))))) (m_settle0 hX.ex hsf5 hph5 rfl 6 0 0 (by rw [hsk5]; omega) (by decide) (by rw [hf5, hf4, hf2]; show f.pc + 0 ≤ 560; omega))) (fun v136 w136 h136 => ?_)
                                                                            obtain ⟨rfl, cs136, y136⟩ := h136
                                                                            replace k9 := k9.ch y136.et.go.ch (by intro hm; (have e0 := hm); omega)
                                                                            replace k19 := k19.ch y136.et.go.ch (by intro hm; (have e0 := hm); omega)
                                                                            replace k23 := k23.ch y136.et.go.ch (by intro hm; (have e0 := hm); omega)
                                                                            replace k121 := k121.ch y136.et.go.ch (by intro hm; (have e0 := hm); omega)
                                                                            replace hX := hX.trans y136
                                                                            replace U := U.cc y136.et.go.ch (by intro b hb; exact .inl trivial)
                                                                            have ew : setF f5 6 false 0 0 = cWait f 244 := by rw [hf5, hf4, hf2]; exact cwait_0 (q := 244) (tk := 6) (i := 2) (show tkN 244 = 6 from rfl) rfl hn0
                                                                            rw [ew] at hX
                                                                            obtain ⟨s9, hs9⟩ : ∃ s9 : YSt, s9 = { cS { s with ret := [] } f with frames := low ++ [cWait f 244] } := ⟨_, rfl⟩
                                                                            replace hX := hX.reS (show s9 = { s5 with frames := low ++ [cWait f 244] } by rw [hs9, hs5, hs4, hs2, hs1, hs0])
                                                                            have hac9 : s9.now.accts = s.now.accts := by rw [hs9]; rfl
                                                                            refine l_nil ?_
                                                                            refine hK135 _ _ ?_
                                                                            refine fg2 0 4 (gS rfl (gS rfl (gS rfl (gS rfl (gS rfl (gS rfl (gS rfl (gS rfl (gS rfl (gS rfl g0)))))))))) (gS rfl (gS rfl (gS rfl (gS rfl (gS rfl (gS rfl (gS rfl (gS rfl g0)))))))) (fun g => ?_)
                                                                            refine c_region ?_
                                                                            refine l_step (y_moveV (et (gS rfl g0) rfl)) ?_
                                                                            have euu : (cChild { s with ret := [] } f 244) = { cFr 3 f.static f.value f.self f.caller (cG f 244) (natAt (ctT f)) [] [] with code := cCode { s with ret := [] } f, input := (rdN f.mem (argN f.stack 2) (argN f.stack (2 + 1))) } := rfl
                                                                            have ecd : cCode { s with ret := [] } f = [] := if_neg hnt
                                                                            have hbc : BV H75 (.slice none (cChild { s with ret := [] } f 244).code.length 0) (cChild { s with ret := [] } f 244).code := by
                                                                              show BV _ (.slice none (cCode { s with ret := [] } f).length 0) (cCode { s with ret := [] } f)
                                                                              rw [ecd]
                                                                              exact (BV.nil _)
                                                                            have hbi : BV H75 (.slice ca7 (cChild { s with ret := [] } f 244).input.length cc7) (cChild { s with ret := [] } f 244).input := bv7
                                                                            replace k19 : Blk w136 b19 (fcv (cChild { s with ret := [] } f 244) (.slice none (cChild { s with ret := [] } f 244).code.length 0) (.slice ca7 (cChild { s with ret := [] } f 244).input.length cc7) 0 0 0 (List.replicate 8 0)).toArray := by
                                                                              show Blk _ _ (fcv (cChild { s with ret := [] } f 244) (.slice none (cCode { s with ret := [] } f).length 0) (.slice ca7 (rdN f.mem (argN f.stack 2) (argN f.stack (2 + 1))).length cc7) 0 0 0 (List.replicate 8 0)).toArray
                                                                              rw [ecd, euu, fcv_ci]
                                                                              exact k19
                                                                            have hU : EFB (cChild { s with ret := [] } f 244) := ⟨by show 3 < 8; decide, natAt_lt _, Nat.zero_le _, Nat.zero_le _, fun _ h => absurd h (List.not_mem_nil), by show cG f 244 ≤ 1048576; omega, by show f.self < A160; exact hB.self, by show f.caller < A160; exact hB.caller, by show f.value < W256; exact hB.value, by show (cCode { s with ret := [] } f).length ≤ 512; rw [ecd]; exact Nat.zero_le _, by show (rdN f.mem (argN f.stack 2) (argN f.stack (2 + 1))).length ≤ 717280; exact hrl, Nat.zero_le _, Nat.zero_le _, hbc.dig, hbi.dig⟩
                                                                            have hmk : 100 * V15.marks.length + (gasS s9 + (c1 + (sentN f.gas (argN f.stack 0)))) ≤ 1048576 := by
                                                                              rw [hmr, hs9, gas_top (s := { cS { s with ret := [] } f with frames := low ++ [cWait f 244] }) (low := low) (f := cWait f 244) rfl]
                                                                              have h8 := hE.px.pot.m
                                                                              rw [gas_top hs] at h8
                                                                              show 100 * V.marks.length + ((low.map (·.gas)).sum + (f.gas - (sentN f.gas (argN f.stack 0))) + (c1 + (sentN f.gas (argN f.stack 0)))) ≤ _
                                                                              omega
                                                                            have hcc := call_slack f 244 (by decide) hc3 (by intro _ h; exact absurd rfl h)
                                                                            have hle : (cChild { s with ret := [] } f 244).kind ≠ 3 → (cChild { s with ret := [] } f 244).kind ≠ 7 → (cChild { s with ret := [] } f 244).value ≤ (acctAt (entA1 s9.now (cChild { s with ret := [] } f 244)) (cChild { s with ret := [] } f 244).caller).bal := by
                                                                              intro h1 h2
                                                                              rw [show entA1 s9.now (cChild { s with ret := [] } f 244) = s9.now.accts from if_neg (by show ¬ crN 3 = true; decide), hac9]
                                                                              exact absurd rfl h1
                                                                            have hov9 : (cChild { s with ret := [] } f 244).kind ≠ 3 → (cChild { s with ret := [] } f 244).kind ≠ 7 → (cChild { s with ret := [] } f 244).value ≠ 0 → (acctAt (takeB (entA1 s9.now (cChild { s with ret := [] } f 244)) (cChild { s with ret := [] } f 244).caller (cChild { s with ret := [] } f 244).value) (cChild { s with ret := [] } f 244).self).bal + (cChild { s with ret := [] } f 244).value < W256 := by
                                                                              intro h1 h2 h3
                                                                              rw [show entA1 s9.now (cChild { s with ret := [] } f 244) = s9.now.accts from if_neg (by show ¬ crN 3 = true; decide), hac9]
                                                                              exact absurd rfl h1
                                                                            have hph9 : s9.phase = 1 := by rw [hs9]; exact hp
                                                                            have hap9 : s9.applied ≤ 4 := by rw [hs9]; exact hap
                                                                            have hl9 : s9.frames.length ≤ 6 := by rw [hs9]; show (low ++ [_]).length ≤ 6; rw [List.length_append, List.length_singleton]; omega
                                                                            have hm9 : ms.length ≤ 6 := by rw [hms, List.length_map, List.length_append, List.length_singleton]; omega
                                                                            refine l_step (y_loadB agg_71 sz_71 (et (gS rfl g0) rfl) (by rw [List.size_toArray, fcv_len rfl]) (at1B k19)) ?_
                                                                            exact (by
                                                                              refine l_eff (e_callV cal_105 (aC (et (gS rfl g0) rfl) (aC (et g0 rfl) aN)) (m_enter hX.ex (by omega) hl9 hm9 (u := (cChild { s with ret := [] } f 244)) hbc hbi hU rfl (c' := c') hap9 hmk hcc hhf.1 hhf.2 hle hov9 (hX.ex.limR hph9) (hX.ex.madR hph9) (hX.ex.orgR hph9))) (fun v137 w137 h137 => ?_)
                                                                              obtain ⟨rfl, cl137, cs137, V137, y137⟩ := h137
                                                                              replace k9 := k9.ch y137.et.go.ch (by intro hm; (have e0 := hm); omega)
                                                                              replace k19 := k19.ch y137.et.go.ch (by intro hm; (have e0 := hm); omega)
                                                                              replace k23 := k23.ch y137.et.go.ch (by intro hm; (have e0 := hm); omega)
                                                                              replace k121 := k121.ch y137.et.go.ch (by intro hm; (have e0 := hm); omega)
                                                                              replace hX := hX.trans y137
                                                                              replace U := U.cc y137.et.go.ch (by intro b hb; exact .inl trivial)
                                                                              refine l_nil ?_
                                                                              refine end0 rfl ?_
                                                                              have hnf : ¬ cFail { s with ret := [] } f 244 low.length := by
                                                                                intro h9
                                                                                rcases h9 with h9 | h9
                                                                                · exact hd6 h9
                                                                                · exact hfb h9
                                                                              rw [show callY { s with ret := [] } f 244 low = entY { cS { s with ret := [] } f with frames := low ++ [cWait f 244] } (cChild { s with ret := [] } f 244) from if_neg hnf]
                                                                              rw [hs9] at hX
                                                                              rw [show ({ entY { cS { s with ret := [] } f with frames := low ++ [cWait f 244] } (cChild { s with ret := [] } f 244) with phase := 1 } : YSt) = entY { cS { s with ret := [] } f with frames := low ++ [cWait f 244] } (cChild { s with ret := [] } f 244) from ph1 hp] at hX
                                                                              refine ⟨rfl, XO.of hX ?_⟩
                                                                              rw [hms]
                                                                              show _ = ((low ++ [cWait f 244]) ++ [_]).map _
                                                                              rw [List.map_append, List.map_append, List.map_append]
                                                                              rfl))))))))))))))))))))))))))))))))))
end Go.Proofs.YgvaawGreat
