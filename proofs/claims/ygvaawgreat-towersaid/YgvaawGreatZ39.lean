import Derived.Test.YgvaawGreatZ36
set_option maxRecDepth 100000
set_option maxHeartbeats 4000000
set_option linter.unusedSimpArgs false
set_option linter.unusedVariables false
namespace Go.Proofs.YgvaawGreat
open Go
theorem m_opCall250 {w : World} {H : Store} {col : Nat → Nat} {bc : Nat} {cs : Array Value} {V : EV} {s : YSt} {sn : List Nat} {sv : List AW} {ms : List (List Nat)} {c : Nat} {low : List YF} {f : YF} (hE : EX w H col bc cs V s sn sv ms c) (hs : s.frames = low ++ [f]) (hp : s.phase = 1) (hms : ms = (low ++ [f]).map (fun g => g.mem)) (hap : s.applied ≤ 4) (hpar : Par low) (hq : opcN f = 250) (hpc9 : f.pc < 512) (htk9 : 6 ≤ f.stack.length) (hrd : argN f.stack (2 + 1) ≠ 0 → argN f.stack 2 + argN f.stack (2 + 1) ≤ f.mem.length) (hout : argN f.stack (2 + 3) ≠ 0 → argN f.stack (2 + 2) + argN f.stack (2 + 3) ≤ f.mem.length) {c' c1 : Nat} (hc1 : c1 + 100 ≤ c) (hc2 : (ctT f) ∉ s.now.warmA → c1 + 2600 ≤ c) (hc3 : c' + (if cV f 250 ≠ 0 then 2350 else 0) ≤ c1) :
    Ret 203 [.pointer (some ⟨bc, 0, none⟩)] w (fun v w' => v = .tuple #[] ∧ XO w H col w' bc (callY { s with ret := [] } f 250 low) c') := by
  obtain ⟨n9, hn9, hR⟩ := hE.topF hs
  have hB := hE.fbT hs
  have h6 := hE.six hs
  have htop := hE.cTop hs
  have hphs := hE.cPh hp
  have hbp := hB.pc
  have hbs := hB.stk
  have hbg := hB.gas
  have hbc9 := hB.code
  have hnw := hE.vl.new
  have hfz := hE.vl.fz
  have hcC := hE.vl.colC
  have hbc0 := hE.vl.kC.lt
  have hX := XT.refl hE
  have hms8 : ms = low.map (fun g => g.mem) ++ [f.mem] := by rw [hms]; simp
  have hsk : f.stack = f.stack := rfl
  have hml := hE.memLe hms8
  have hrl := rd_len hrd hml
  have hcl := hE.codeLen (ctT f)
  have hpt := hE.px.pot.t
  rw [gas_top hs] at hpt
  have hcs : cG f 250 ≤ sentN f.gas (argN f.stack 0) + (if cV f 250 ≠ 0 then 2350 else 0) := by
    unfold cG cSent
    by_cases h9 : cV f 250 = 0
    · rw [if_pos h9]; omega
    · rw [if_neg h9, if_pos h9]; omega
  refine enter (n := 212) Hvaa.func203 rfl rfl (Nat.le_of_ble_eq_true rfl) ?_
  have U : Ch (fun _ => True) w w := Ch.refl _ w
  refine c_seq (fun K1 hK1 => ?_)
  exact (by
    refine c_region ?_
    refine l_step (y_moveV (et g0 rfl)) ?_
    refine l_eff (e_callV cal_183 (aC (et g0 rfl) aN) (m_running hX.ex hs hp)) (fun v2 w2 h2 => ?_)
    obtain ⟨rfl, u2⟩ := h2
    replace hX := hX.up u2
    replace U := U.tr u2
    refine l_step (y_assignV (et g0 rfl)) ?_
    refine l_nil ?_
    refine hK1 _ _ ?_
    refine fg2 0 2 (gS rfl (gS rfl (gS rfl g0))) g0 (fun g => ?_)
    refine c_seq (fun K3 hK3 => ?_)
    refine c_seq (fun K4 hK4 => ?_)
    exact (by
      refine c_region ?_
      refine l_step (y_moveV (et g0 rfl)) ?_
      refine l_step (y_eqlNil Hvaa.underlying276 (et g0 rfl) rfl) ?_
      refine l_nil ?_
      refine hK4 _ _ ?_
      refine fg3 0 2 13 (gS rfl (gS rfl (gS rfl g0))) (gS rfl (gS rfl g0)) g0 (fun g => ?_)
      refine c_false (et g0 rfl) rfl ?_
      refine c_skip ?_
      refine hK3 _ _ ?_
      refine fg2 0 2 (gS rfl (gS rfl g0)) (gS rfl g0) (fun g => ?_)
      refine c_seq (fun K6 hK6 => ?_)
      exact (by
        refine c_region ?_
        refine l_step (y_moveV (et (gS rfl g0) rfl)) ?_
        refine l_step (y_moveV (et (gS rfl g0) rfl)) ?_
        refine l_eff (e_callV cal_264 (aC (et (gS rfl g0) rfl) (aC (et g0 rfl) (aC (v := .int .i64 ((1 : Nat) : Int)) rfl aN))) (m_arg hX.ex hs hp (by first | exact hpf | rfl) _ (by decide))) (fun v7 w7 h7 => ?_)
        obtain ⟨rfl, u7⟩ := h7
        replace hX := hX.up u7
        replace U := U.tr u7
        refine l_eff (e_callV cal_293 (aC (et g0 rfl) aN) (mach_addrOf _ _ (argN_lt hB _))) (fun v8 w8 h8 => ?_)
        obtain ⟨rfl, u8⟩ := h8
        replace hX := hX.up u8
        replace U := U.tr u8
        refine l_eff (e_alloc zr_25) (fun v9 w9 h9 => ?_)
        obtain ⟨b9, rfl, n9⟩ := h9
        have f9 : w.heap.size ≤ b9 := Nat.le_trans U.size n9.fresh
        replace hX := hX.up n9.up
        replace U := U.tr n9.up
        have k9 := n9.blk
        obtain ⟨zs9, hz9, k9⟩ : ∃ cs : Array Value, cs.size = 20 ∧ Blk w9 b9 cs := ⟨_, rfl, k9⟩
        have nc9 : col b9 = 0 := hnw _ f9
        refine l_effN (e_store sz_25 (et g0 rfl) (cellsV (et (gS rfl g0) rfl) rfl) (by rw [length_bL, length_be]) (by exact one_bL _) k9 (by (rw [hz9]; exact Nat.le_refl _))) (fun v10 w10 h10 => ?_)
        obtain ⟨rfl, x10⟩ := h10
        replace hX := hX.ch x10.ch (by first | omega | (intro b hb; first | (subst hb; first | exact ⟨by omega, fun hh => by have := hfz.lt hh; omega, by omega⟩ | exact ⟨by omega, by assumption, by omega⟩) | (rcases hb with hb | hb <;> (subst hb; first | exact ⟨by omega, fun hh => by have := hfz.lt hh; omega, by omega⟩ | exact ⟨by omega, by assumption, by omega⟩))))
        replace k9 := x10.blk.full (by rw [hz9, length_bL, length_be])
        replace U := U.st x10 (.inr f9)
        refine l_nil ?_
        refine hK6 _ _ ?_
        refine fg3 0 2 3 (gS rfl (gS rfl (gS rfl (gS rfl (gS rfl (gS rfl g0)))))) (gS rfl (gS rfl (gS rfl (gS rfl (gS rfl g0))))) g0 (fun g => ?_)
        refine c_seq (fun K11 hK11 => ?_)
        exact (by
          refine c_region ?_
          refine l_step (y_moveV (et (gS rfl (gS rfl g0)) rfl)) ?_
          refine l_step (y_nil (et g0 rfl)) ?_
          refine l_step (y_fld fld_75_5 (et g0 rfl)) ?_
          refine l_effN (e_store sz_38 (et g0 rfl) (cellsV rfl rfl) rfl (by intro v hv; simp at hv; subst hv; rfl) hX.ex.vl.kC (by rw [hX.ex.vl.size]; omega)) (fun v12 w12 h12 => ?_)
          obtain ⟨rfl, x12⟩ := h12
          have hv12 := hX.stRt (l := []) (by omega) (BV.nil _) x12
          replace k9 := k9.ch x12.ch (by intro hm; first | omega | (subst hm; omega))
          replace hX := hv12
          replace U := U.cc x12.ch (by intro b hb; exact .inl trivial)
          obtain ⟨s0, hs0⟩ : ∃ s0 : YSt, s0 = { s with ret := [] } := ⟨_, rfl⟩
          replace hX := hX.reS hs0
          have hsf0 : s0.frames = low ++ [f] := by rw [hs0]; exact hs
          have hph0 : s0.phase = 1 := by rw [hs0]; exact hp
          have hap0 : s0.applied ≤ 4 := by rw [hs0]; exact hap
          refine l_nil ?_
          refine hK11 _ _ ?_
          refine fg3 0 2 3 (gS rfl (gS rfl (gS rfl (gS rfl (gS rfl g0))))) (gS rfl (gS rfl (gS rfl (gS rfl g0)))) (gS rfl (gS rfl (gS rfl g0))) (fun g => ?_)
          refine c_seq (fun K13 hK13 => ?_)
          refine c_seq (fun K14 hK14 => ?_)
          exact (by
            refine c_region ?_
            refine l_step (y_moveV (et (gS rfl (gS rfl g0)) rfl)) ?_
            refine l_step (y_loadB agg_25 sz_25 (et (gS rfl g0) rfl) (by rw [List.size_toArray, length_bL, length_be]) (at1B k9)) ?_
            refine l_eff (e_callV cal_294 (aC (et (gS rfl g0) rfl) (aC (et g0 rfl) aN)) (m_warmAcctM hX.ex hsf0 hph0 (ctT f) (Nat.mod_lt _ A160_pos) hap0 (c' := c1) (by omega) (by rw [hs0]; exact hc2))) (fun v15 w15 h15 => ?_)
            obtain ⟨rfl, cl15, cs15, V15, y15, mr15⟩ := h15
            have nc9 := (y15.et.col b9 k9.lt).trans nc9
            have kp15 := hX.ex.vl.kC
            replace k9 := k9.ch y15.et.go.ch (by intro hm; (have e0 := hm); omega)
            replace hX := hX.trans y15
            replace U := U.cc y15.et.go.ch (by intro b hb; exact .inl trivial)
            obtain ⟨s1, hs1⟩ : ∃ s1 : YSt, s1 = cS s0 f := ⟨_, rfl⟩
            replace hX := hX.reS hs1
            have hsf1 : s1.frames = low ++ [f] := by rw [hs1]; exact hsf0
            have hph1 : s1.phase = 1 := by rw [hs1]; exact hph0
            have hac : s1.now.accts = s.now.accts := by rw [hs1, hs0]; rfl
            have hap1 : s1.applied ≤ 4 := by rw [hs1]; exact hap0
            have hnw1 := hX.ex.vl.new
            have hfz1 := hX.ex.vl.fz
            have hht : hasA V15 (ctT f) := hX.ex.hasW (by rw [hs1]; exact (mem_withA _ _ _).2 (.inl rfl))
            have hhf := hX.ex.px.has f (by rw [hsf1]; simp)
            obtain ⟨n8, hn8, hR1⟩ := hX.ex.topF hsf1
            have hmr := mr15
            refine l_step (y_not (et g0 rfl)) ?_
            refine l_nil ?_
            refine hK14 _ _ ?_
            refine fg4 0 2 3 24 (gS rfl (gS rfl (gS rfl (gS rfl (gS rfl (gS rfl g0)))))) (gS rfl (gS rfl (gS rfl (gS rfl (gS rfl g0))))) (gS rfl (gS rfl (gS rfl (gS rfl g0)))) g0 (fun g => ?_)
            refine c_false (et g0 rfl) (by rfl) ?_
            refine c_skip ?_
            refine hK13 _ _ ?_
            refine fg3 0 2 3 (gS rfl (gS rfl (gS rfl g0))) (gS rfl (gS rfl g0)) (gS rfl g0) (fun g => ?_)
            refine c_seq (fun K17 hK17 => ?_)
            exact (by
              refine c_draw Up 11 [(0, true), (1, true), (2, true), (3, true), (4, true), (5, true), (6, true), (7, true), (8, true), (9, true), (10, false), (11, false)] (by kernel_rfl) (fun w18 hu => ⟨Up.refl _, ?_⟩)
              replace k9 := k9.up hu
              replace hX := hX.up hu
              replace U := U.tr hu
              have SU := Up.refl w18
              refine p_step (by exact rfl) (y_moveV (et (gS rfl g0) rfl)) ?_
              refine p_step (by exact rfl) (y_nil (et g0 rfl)) ?_
              refine p_step (by exact rfl) (y_fld fld_71_3 (et g0 rfl)) ?_
              refine p_step (by exact rfl) (y_load1 one_4 (et g0 rfl) (atS (hX.ex.vl.c1 (hR1.r1 3 _ rfl) (by omega)))) ?_
              refine p_step (by exact rfl) (y_loadB agg_25 sz_25 (et (gS rfl (gS rfl (gS rfl (gS rfl g0)))) rfl) (by rw [List.size_toArray, length_bL, length_be]) (atSB k9)) ?_
              refine p_step (by exact rfl) (y_moveV (et (gS rfl (gS rfl (gS rfl (gS rfl (gS rfl (gS rfl g0)))))) rfl)) ?_
              refine p_step (by exact rfl) (y_nil (et g0 rfl)) ?_
              refine p_step (by exact rfl) (y_fld fld_71_9 (et g0 rfl)) ?_
              refine p_step (by exact rfl) (y_loadR agg_25 sz_25 (et g0 rfl) (by rw [length_bL, length_be]) (atSR (hX.ex.vl.kC.rowO hR1.r2 (by omega)))) ?_
              refine p_step (by exact rfl) ((y_bldMC (et (gS rfl (gS rfl (gS rfl (gS rfl (gS rfl g0))))) rfl) (et (gS rfl (gS rfl (gS rfl (gS rfl g0)))) rfl) (et g0 rfl))) ?_
              have hnwN := hX.ex.vl.new
              have hfzN := hX.ex.vl.fz
              refine p_eff (by exact rfl) (e_alloc zr_71) (fun v19 w19 h19 => ?_)
              obtain ⟨b19, rfl, n19⟩ := h19
              have d9_19 : b9 < b19 := Nat.lt_of_lt_of_le k9.lt n19.fresh
              have f19 : w.heap.size ≤ b19 := Nat.le_trans U.size n19.fresh
              have fS19 := Nat.le_trans SU.size n19.fresh
              replace k9 := k9.up n19.up
              replace hX := hX.up n19.up
              replace U := U.tr n19.up
              have k19 := n19.blk
              obtain ⟨zs19, hz19, k19⟩ : ∃ cs : Array Value, cs.size = 65 ∧ Blk w19 b19 cs := ⟨_, rfl, k19⟩
              refine ⟨.inr (SU.tr n19.up), ?_⟩
              replace SU := SU.tr n19.up
              have nc19 := hnwN b19 n19.fresh
              have nh19 : ¬ H.has b19 := fun hh => by have h9 := hfzN.lt hh; have h8 := n19.fresh; omega
              exact (by
                refine p_effN (by exact rfl) (e_store sz_71 (et g0 rfl) (cellsV (et (gS rfl g0) rfl) rfl) (fcv_len rfl) (by exact fcv_one) k19 (by (rw [hz19]; exact Nat.le_refl _))) (fun v20 w20 h20 => ?_)
                obtain ⟨rfl, x20⟩ := h20
                replace k9 := k9.ch x20.ch (by omega)
                replace hX := hX.ch x20.ch (by first | omega | (intro b hb; first | (subst hb; first | exact ⟨by omega, fun hh => by have := hfz.lt hh; omega, by omega⟩ | exact ⟨by omega, by assumption, by omega⟩) | (rcases hb with hb | hb <;> (subst hb; first | exact ⟨by omega, fun hh => by have := hfz.lt hh; omega, by omega⟩ | exact ⟨by omega, by assumption, by omega⟩))))
                replace k19 := x20.blk.full (by rw [hz19, fcv_len rfl])
                replace U := U.st x20 (.inr f19)
                refine ⟨.inl rfl, ?_⟩
                refine p_nil ?_
                refine hK17 _ _ ?_
                refine fg4 0 2 3 4 (gS rfl (gS rfl (gS rfl (gS rfl (gS rfl (gS rfl (gS rfl (gS rfl (gS rfl (gS rfl (gS rfl (gS rfl (gS rfl g0))))))))))))) (gS rfl (gS rfl (gS rfl (gS rfl (gS rfl (gS rfl (gS rfl (gS rfl (gS rfl (gS rfl (gS rfl (gS rfl g0)))))))))))) (gS rfl (gS rfl (gS rfl (gS rfl (gS rfl (gS rfl (gS rfl (gS rfl (gS rfl (gS rfl (gS rfl g0))))))))))) g0 (fun g => ?_)
                refine c_seq (fun K21 hK21 => ?_)
                exact (by
                  refine c_region ?_
                  refine l_step y_assignC ?_
                  refine l_nil ?_
                  refine hK21 _ _ ?_
                  refine c_seq (fun K22 hK22 => ?_)
                  exact (by
                    refine c_region ?_
                    refine l_step (y_bld bN bld65_z) ?_
                    have hnwN := hX.ex.vl.new
                    have hfzN := hX.ex.vl.fz
                    refine l_eff (e_alloc zr_65) (fun v23 w23 h23 => ?_)
                    obtain ⟨b23, rfl, n23⟩ := h23
                    have d9_23 : b9 < b23 := Nat.lt_of_lt_of_le k9.lt n23.fresh
                    have d19_23 : b19 < b23 := Nat.lt_of_lt_of_le k19.lt n23.fresh
                    have f23 : w.heap.size ≤ b23 := Nat.le_trans U.size n23.fresh
                    replace k9 := k9.up n23.up
                    replace k19 := k19.up n23.up
                    replace hX := hX.up n23.up
                    replace U := U.tr n23.up
                    have k23 := n23.blk
                    obtain ⟨zs23, hz23, k23⟩ : ∃ cs : Array Value, cs.size = 4 ∧ Blk w23 b23 cs := ⟨_, rfl, k23⟩
                    have nc23 := hnwN b23 n23.fresh
                    have nh23 : ¬ H.has b23 := fun hh => by have h9 := hfzN.lt hh; have h8 := n23.fresh; omega
                    refine l_effN (e_store sz_65 (et g0 rfl) (cellsV (et (gS rfl g0) rfl) rfl) rfl (by exact one_uL _) k23 (by (first | (rw [hz23]; exact Nat.le_refl _) | (rw [List.size_toArray, wL_len]; exact Nat.le_refl _)))) (fun v24 w24 h24 => ?_)
                    obtain ⟨rfl, x24⟩ := h24
                    replace k9 := k9.ch x24.ch (by omega)
                    replace k19 := k19.ch x24.ch (by omega)
                    replace hX := hX.ch x24.ch (by first | omega | (intro b hb; first | (subst hb; first | exact ⟨by omega, fun hh => by have := hfz.lt hh; omega, by omega⟩ | exact ⟨by omega, by assumption, by omega⟩) | (rcases hb with hb | hb <;> (subst hb; first | exact ⟨by omega, fun hh => by have := hfz.lt hh; omega, by omega⟩ | exact ⟨by omega, by assumption, by omega⟩))))
                    replace k23 := x24.blk.full (by first | (rw [hz23]; rfl) | (rw [List.size_toArray, wL_len, wL_len]))
                    replace U := U.st x24 (.inr f23)
                    refine l_nil ?_
                    refine hK22 _ _ ?_
                    refine fg6 0 2 3 4 5 6 (gS rfl (gS rfl (gS rfl (gS rfl (gS rfl (gS rfl g0)))))) (gS rfl (gS rfl (gS rfl (gS rfl (gS rfl g0))))) (gS rfl (gS rfl (gS rfl (gS rfl g0)))) (gS rfl (gS rfl (gS rfl g0))) (gS rfl (gS rfl g0)) g0 (fun g => ?_)
                    refine c_seq (fun K25 hK25 => ?_)
                    refine c_seq (fun K26 hK26 => ?_)
                    exact (by
                      refine c_region ?_
                      refine l_step (y_moveV (et (gS rfl (gS rfl (gS rfl (gS rfl (gS rfl g0))))) rfl)) ?_
                      refine l_eff (e_callV cal_108 (aC (et g0 rfl) aN) (m_opcode hX.ex hsf1 hph1)) (fun v27 w27 h27 => ?_)
                      obtain ⟨rfl, u27⟩ := h27
                      replace k9 := k9.up u27
                      replace k19 := k19.up u27
                      replace k23 := k23.up u27
                      replace hX := hX.up u27
                      replace U := U.tr u27
                      refine l_nil ?_
                      refine hK26 _ _ ?_
                      refine fg7 0 2 3 4 5 6 39 (gS rfl (gS rfl (gS rfl (gS rfl (gS rfl (gS rfl (gS rfl g0))))))) (gS rfl (gS rfl (gS rfl (gS rfl (gS rfl (gS rfl g0)))))) (gS rfl (gS rfl (gS rfl (gS rfl (gS rfl g0))))) (gS rfl (gS rfl (gS rfl (gS rfl g0)))) (gS rfl (gS rfl (gS rfl g0))) (gS rfl (gS rfl g0)) g0 (fun g => ?_)
                      refine c_block (fun Q28 hQ28 => ?_)
                      refine c_seq (fun K29 hK29 => ?_)
                      exact (by
                        refine c_region ?_
                        refine l_step (y_eql (et g0 rfl) rfl) ?_
                        refine l_step (y_assignV (et g0 rfl)) ?_
                        refine l_nil ?_
                        refine hK29 _ _ ?_
                        refine fg8 0 2 3 4 5 6 39 40 (gS rfl (gS rfl (gS rfl (gS rfl (gS rfl (gS rfl (gS rfl (gS rfl g0)))))))) (gS rfl (gS rfl (gS rfl (gS rfl (gS rfl (gS rfl (gS rfl g0))))))) (gS rfl (gS rfl (gS rfl (gS rfl (gS rfl (gS rfl g0)))))) (gS rfl (gS rfl (gS rfl (gS rfl (gS rfl g0))))) (gS rfl (gS rfl (gS rfl (gS rfl g0)))) (gS rfl (gS rfl (gS rfl g0))) (gS rfl (gS rfl g0)) g0 (fun g => ?_)
                        refine c_false (et g0 rfl) (by (exact decide_eq_false (by omega))) ?_
                        refine c_seq (fun K31 hK31 => ?_)
                        exact (by
                          refine c_region ?_
                          refine l_step (y_eql (et (gS rfl g0) rfl) rfl) ?_
                          refine l_step (y_assignV (et g0 rfl)) ?_
                          refine l_nil ?_
                          refine hK31 _ _ ?_
                          refine fg8 0 2 3 4 5 6 39 47 (gS rfl (gS rfl (gS rfl (gS rfl (gS rfl (gS rfl (gS rfl (gS rfl (gS rfl g0))))))))) (gS rfl (gS rfl (gS rfl (gS rfl (gS rfl (gS rfl (gS rfl (gS rfl g0)))))))) (gS rfl (gS rfl (gS rfl (gS rfl (gS rfl (gS rfl (gS rfl g0))))))) (gS rfl (gS rfl (gS rfl (gS rfl (gS rfl (gS rfl g0)))))) (gS rfl (gS rfl (gS rfl (gS rfl (gS rfl g0))))) (gS rfl (gS rfl (gS rfl (gS rfl g0)))) (gS rfl (gS rfl (gS rfl g0))) g0 (fun g => ?_)
                          refine c_false (et g0 rfl) (by (exact decide_eq_false (by omega))) ?_
                          refine c_seq (fun K33 hK33 => ?_)
                          exact (by
                            refine c_region ?_
                            refine l_step (y_eql (et (gS rfl g0) rfl) rfl) ?_
                            refine l_step (y_assignV (et g0 rfl)) ?_
                            refine l_nil ?_
                            refine hK33 _ _ ?_
                            refine fg8 0 2 3 4 5 6 39 60 (gS rfl (gS rfl (gS rfl (gS rfl (gS rfl (gS rfl (gS rfl (gS rfl (gS rfl g0))))))))) (gS rfl (gS rfl (gS rfl (gS rfl (gS rfl (gS rfl (gS rfl (gS rfl g0)))))))) (gS rfl (gS rfl (gS rfl (gS rfl (gS rfl (gS rfl (gS rfl g0))))))) (gS rfl (gS rfl (gS rfl (gS rfl (gS rfl (gS rfl g0)))))) (gS rfl (gS rfl (gS rfl (gS rfl (gS rfl g0))))) (gS rfl (gS rfl (gS rfl (gS rfl g0)))) (gS rfl (gS rfl (gS rfl g0))) g0 (fun g => ?_)
                            refine c_false (et g0 rfl) (by (exact decide_eq_false (by omega))) ?_
                            refine c_seq (fun K35 hK35 => ?_)
                            exact (by
                              refine c_region ?_
                              refine l_step (y_eql (et (gS rfl g0) rfl) rfl) ?_
                              refine l_step (y_assignV (et g0 rfl)) ?_
                              refine l_nil ?_
                              refine hK35 _ _ ?_
                              refine fg7 0 2 3 4 5 6 78 (gS rfl (gS rfl (gS rfl (gS rfl (gS rfl (gS rfl (gS rfl (gS rfl (gS rfl g0))))))))) (gS rfl (gS rfl (gS rfl (gS rfl (gS rfl (gS rfl (gS rfl (gS rfl g0)))))))) (gS rfl (gS rfl (gS rfl (gS rfl (gS rfl (gS rfl (gS rfl g0))))))) (gS rfl (gS rfl (gS rfl (gS rfl (gS rfl (gS rfl g0)))))) (gS rfl (gS rfl (gS rfl (gS rfl (gS rfl g0))))) (gS rfl (gS rfl (gS rfl (gS rfl g0)))) g0 (fun g => ?_)
                              refine c_true (et g0 rfl) (by (exact decide_eq_true (by omega))) ?_
                              refine c_seq (fun K37 hK37 => ?_)
                              exact (by
                                refine c_region ?_
                                refine l_step (y_fld fld_71_0 (et (gS rfl (gS rfl (gS rfl g0))) rfl)) ?_
                                refine l_effN (e_store sz_5 (et g0 rfl) (cellsV rfl rfl) rfl (by first | exact one_bL _ | exact one_uL _ | (intro v hv; simp at hv; subst hv; rfl)) k19 (by (rw [List.size_toArray, fcv_len rfl]; decide))) (fun v38 w38 h38 => ?_)
                                obtain ⟨rfl, x38⟩ := h38
                                replace k9 := k9.ch x38.ch (by omega)
                                replace k23 := k23.ch x38.ch (by omega)
                                replace hX := hX.ch x38.ch (by first | omega | (intro b hb; first | (subst hb; first | exact ⟨by omega, fun hh => by have := hfz.lt hh; omega, by omega⟩ | exact ⟨by omega, by assumption, by omega⟩) | (rcases hb with hb | hb <;> (subst hb; first | exact ⟨by omega, fun hh => by have := hfz.lt hh; omega, by omega⟩ | exact ⟨by omega, by assumption, by omega⟩))))
                                replace k19 := x38.blk
                                replace U := U.st x38 (.inr f19)
                                replace k19 := Blk.fkd (q := 4) k19
                                refine l_nil ?_
                                refine hK37 _ _ ?_
                                refine fg6 0 2 3 4 5 6 (gS rfl (gS rfl (gS rfl (gS rfl (gS rfl (gS rfl (gS rfl g0))))))) (gS rfl (gS rfl (gS rfl (gS rfl (gS rfl (gS rfl g0)))))) (gS rfl (gS rfl (gS rfl (gS rfl (gS rfl g0))))) (gS rfl (gS rfl (gS rfl (gS rfl g0)))) (gS rfl (gS rfl (gS rfl g0))) (gS rfl (gS rfl g0)) (fun g => ?_)
                                refine c_region ?_
                                refine l_step (y_fld fld_71_3 (et (gS rfl (gS rfl g0)) rfl)) ?_
                                refine l_effN (e_store sz_4 (et g0 rfl) (cellsV rfl rfl) rfl (by first | exact one_bL _ | exact one_uL _ | (intro v hv; simp at hv; subst hv; rfl)) k19 (by (rw [List.size_toArray, fcv_len rfl]; decide))) (fun v39 w39 h39 => ?_)
                                obtain ⟨rfl, x39⟩ := h39
                                replace k9 := k9.ch x39.ch (by omega)
                                replace k23 := k23.ch x39.ch (by omega)
                                replace hX := hX.ch x39.ch (by first | omega | (intro b hb; first | (subst hb; first | exact ⟨by omega, fun hh => by have := hfz.lt hh; omega, by omega⟩ | exact ⟨by omega, by assumption, by omega⟩) | (rcases hb with hb | hb <;> (subst hb; first | exact ⟨by omega, fun hh => by have := hfz.lt hh; omega, by omega⟩ | exact ⟨by omega, by assumption, by omega⟩))))
                                replace k19 := x39.blk
                                replace U := U.st x39 (.inr f19)
                                replace k19 := Blk.fst (q := true) k19
                                refine l_nil ?_
                                refine hQ28 _ _ _ (in_normal ?_)
                                refine hK25 _ _ ?_
                                refine fg6 0 2 3 4 5 6 (gS rfl (gS rfl (gS rfl (gS rfl (gS rfl (gS rfl g0)))))) (gS rfl (gS rfl (gS rfl (gS rfl (gS rfl g0))))) (gS rfl (gS rfl (gS rfl (gS rfl g0)))) (gS rfl (gS rfl (gS rfl g0))) (gS rfl (gS rfl g0)) (gS rfl g0) (fun g => ?_)
                                refine c_seq (fun K40 hK40 => ?_)
                                exact (by
                                  refine c_draw Up 9 [(0, true), (1, true), (2, true), (3, true), (4, true), (5, true), (6, false), (7, false), (8, true), (9, false)] (by kernel_rfl) (fun w41 hu => ⟨Up.refl _, ?_⟩)
                                  replace k9 := k9.up hu
                                  replace k19 := k19.up hu
                                  replace k23 := k23.up hu
                                  replace hX := hX.up hu
                                  replace U := U.tr hu
                                  have SU := Up.refl w41
                                  refine p_step (by exact rfl) (y_moveV (et (gS rfl (gS rfl (gS rfl (gS rfl g0)))) rfl)) ?_
                                  refine p_step (by exact rfl) (y_nil (et g0 rfl)) ?_
                                  refine p_step (by exact rfl) (y_fld fld_71_7 (et g0 rfl)) ?_
                                  refine p_step (by exact rfl) (y_load1 one_26 (et g0 rfl) (atS (hX.ex.vl.c1 (hR1.r1 7 _ rfl) (by omega)))) ?_
                                  refine p_step (by exact rfl) (y_moveV (et (gS rfl (gS rfl (gS rfl (gS rfl (gS rfl (gS rfl (gS rfl (gS rfl (gS rfl g0))))))))) rfl)) ?_
                                  refine p_step (by exact rfl) (y_moveV (et (gS rfl (gS rfl (gS rfl (gS rfl (gS rfl (gS rfl (gS rfl (gS rfl (gS rfl g0))))))))) rfl)) ?_
                                  refine p_eff (by exact rfl) (e_callV cal_264 (aC (et (gS rfl g0) rfl) (aC (et g0 rfl) (aC (v := .int .i64 ((0 : Nat) : Int)) rfl aN))) (m_arg hX.ex hsf1 hph1 rfl 0 (by decide))) (fun v42 w42 h42 => ?_)
                                  obtain ⟨rfl, u42⟩ := h42
                                  replace k9 := k9.up u42
                                  replace k19 := k19.up u42
                                  replace k23 := k23.up u42
                                  replace hX := hX.up u42
                                  replace U := U.tr u42
                                  refine ⟨.inr (SU.tr u42), ?_⟩
                                  replace SU := SU.tr u42
                                  refine p_eff (by exact rfl) (e_callV cal_315 (aC (et (gS rfl (gS rfl (gS rfl g0))) rfl) (aC (et g0 rfl) aN)) (mach_sentGas _ _ _ (by omega) (argN_lt hB _))) (fun v43 w43 h43 => ?_)
                                  obtain ⟨rfl, u43⟩ := h43
                                  replace k9 := k9.up u43
                                  replace k19 := k19.up u43
                                  replace k23 := k23.up u43
                                  replace hX := hX.up u43
                                  replace U := U.tr u43
                                  refine ⟨.inr (SU.tr u43), ?_⟩
                                  replace SU := SU.tr u43
                                  exact (by
                                    refine p_step (by exact rfl) (y_fld fld_71_7 (et (gS rfl (gS rfl (gS rfl (gS rfl (gS rfl (gS rfl (gS rfl (gS rfl (gS rfl (gS rfl g0)))))))))) rfl)) ?_
                                    refine p_effN (by exact rfl) (e_store sz_26 (et g0 rfl) (cellsV (et (gS rfl g0) rfl) rfl) rfl (by first | exact one_bL _ | exact one_uL _ | (intro v hv; simp at hv; subst hv; rfl)) k19 (by (rw [List.size_toArray, fcv_len rfl]; decide))) (fun v44 w44 h44 => ?_)
                                    obtain ⟨rfl, x44⟩ := h44
                                    replace k9 := k9.ch x44.ch (by omega)
                                    replace k23 := k23.ch x44.ch (by omega)
                                    replace hX := hX.ch x44.ch (by first | omega | (intro b hb; first | (subst hb; first | exact ⟨by omega, fun hh => by have := hfz.lt hh; omega, by omega⟩ | exact ⟨by omega, by assumption, by omega⟩) | (rcases hb with hb | hb <;> (subst hb; first | exact ⟨by omega, fun hh => by have := hfz.lt hh; omega, by omega⟩ | exact ⟨by omega, by assumption, by omega⟩))))
                                    replace k19 := x44.blk
                                    replace U := U.st x44 (.inr f19)
                                    refine ⟨.inl rfl, ?_⟩
                                    replace k19 := Blk.fgs (q := _) k19
                                    replace k19 : Blk w44 b19 (fcv (cFr 4 true 0 (ctT f) f.self (sentN f.gas (argN f.stack 0)) 0 [] []) (.slice none 0 0) (.slice none 0 0) 0 0 0 (List.replicate 8 0)).toArray := k19
                                    have hsl := sent_le f.gas (argN f.stack 0)
                                    refine p_nil ?_
                                    refine hK40 _ _ ?_
                                    refine fg6 0 2 3 4 5 6 (gS rfl (gS rfl (gS rfl (gS rfl (gS rfl (gS rfl (gS rfl (gS rfl (gS rfl (gS rfl (gS rfl (gS rfl (gS rfl (gS rfl g0)))))))))))))) (gS rfl (gS rfl (gS rfl (gS rfl (gS rfl (gS rfl (gS rfl (gS rfl (gS rfl (gS rfl (gS rfl (gS rfl (gS rfl g0))))))))))))) (gS rfl (gS rfl (gS rfl (gS rfl (gS rfl (gS rfl (gS rfl (gS rfl (gS rfl (gS rfl (gS rfl (gS rfl g0)))))))))))) (gS rfl (gS rfl (gS rfl (gS rfl (gS rfl (gS rfl (gS rfl (gS rfl (gS rfl (gS rfl (gS rfl g0))))))))))) (gS rfl (gS rfl (gS rfl (gS rfl (gS rfl (gS rfl (gS rfl (gS rfl (gS rfl (gS rfl g0)))))))))) (gS rfl (gS rfl (gS rfl (gS rfl (gS rfl (gS rfl (gS rfl (gS rfl (gS rfl g0))))))))) (fun g => ?_)
                                    refine c_seq (fun K45 hK45 => ?_)
                                    exact (by
                                      refine c_draw Up 9 [(0, true), (1, true), (2, true), (3, true), (4, true), (5, true), (6, true), (7, true), (8, true), (9, false)] (by kernel_rfl) (fun w46 hu => ⟨Up.refl _, ?_⟩)
                                      replace k9 := k9.up hu
                                      replace k19 := k19.up hu
                                      replace k23 := k23.up hu
                                      replace hX := hX.up hu
                                      replace U := U.tr hu
                                      have SU := Up.refl w46
                                      refine p_step (by exact rfl) (y_moveV (et (gS rfl (gS rfl (gS rfl (gS rfl g0)))) rfl)) ?_
                                      refine p_step (by exact rfl) (y_nil (et g0 rfl)) ?_
                                      refine p_step (by exact rfl) (y_fld fld_71_7 (et g0 rfl)) ?_
                                      refine p_step (by exact rfl) (y_load1 one_26 (et g0 rfl) (atS (hX.ex.vl.c1 (hR1.r1 7 _ rfl) (by omega)))) ?_
                                      refine p_step (by exact rfl) (y_fld fld_71_7 (et (gS rfl (gS rfl (gS rfl (gS rfl (gS rfl (gS rfl g0)))))) rfl)) ?_
                                      refine p_step (by exact rfl) (y_load1 one_26 (et g0 rfl) (atS (k19.cell (show _ = some (Value.int .u64 ((sentN f.gas (argN f.stack 0)) : Nat)) from rfl)))) ?_
                                      refine p_step (by exact rfl) (y_sub (et (gS rfl (gS rfl g0)) rfl) (et g0 rfl) (wrapU_subN uk64 ?_ ?_)) ?_
                                      omega
                                      omega
                                      refine p_step (by exact rfl) (y_nil (et (gS rfl (gS rfl (gS rfl (gS rfl (gS rfl (gS rfl g0)))))) rfl)) ?_
                                      refine p_step (by exact rfl) (y_fld fld_71_7 (et g0 rfl)) ?_
                                      refine p_effN (by exact rfl) (e_store sz_26 (et g0 rfl) (cellsV (et (gS rfl (gS rfl g0)) rfl) rfl) rfl (by intro v hv; simp at hv; subst hv; rfl) hX.ex.vl.kC (by rw [hX.ex.vl.size]; omega)) (fun v47 w47 h47 => ?_)
                                      obtain ⟨rfl, x47⟩ := h47
                                      have hv47 := hX.stGas hsf1 hph1 (p := f.gas - (sentN f.gas (argN f.stack 0))) (c' := c1 + (sentN f.gas (argN f.stack 0))) (by omega) (by omega) (by omega) x47
                                      replace k9 := k9.ch x47.ch (by intro hm; first | omega | (subst hm; omega))
                                      replace k19 := k19.ch x47.ch (by intro hm; first | omega | (subst hm; omega))
                                      replace k23 := k23.ch x47.ch (by intro hm; first | omega | (subst hm; omega))
                                      replace hX := hv47
                                      replace U := U.cc x47.ch (by intro b hb; exact .inl trivial)
                                      have hsk : f.stack = f.stack := rfl
                                      obtain ⟨f2, hf2⟩ : ∃ f2 : YF, f2 = { f with gas := f.gas - (sentN f.gas (argN f.stack 0)) } := ⟨_, rfl⟩
                                      obtain ⟨s2, hs2⟩ : ∃ s2 : YSt, s2 = { s1 with frames := low ++ [f2] } := ⟨_, rfl⟩
                                      replace hX := hX.reS (show s2 = { s1 with frames := low ++ [{ f with gas := f.gas - (sentN f.gas (argN f.stack 0)) }] } by rw [hs2, hf2])
                                      have hsf2 : s2.frames = low ++ [f2] := by rw [hs2]
                                      have hph2 : s2.phase = 1 := by rw [hs2]; exact hph1
                                      have hsk2 : f2.stack = f.stack := by first | (rw [hf2]; done) | (rw [hf2]; exact hsk)
                                      obtain ⟨n7, hn7, hR2⟩ := hX.ex.topF hsf2
                                      have hg2 : f2.gas = f.gas - (sentN f.gas (argN f.stack 0)) := by rw [hf2]
                                      have hse2 : f2.self = f.self := by rw [hf2]
                                      have hac2 : s2.now.accts = s.now.accts := by rw [hs2]; exact hac
                                      have hap2 : s2.applied ≤ 4 := by rw [hs2]; exact hap1
                                      refine ⟨.inl rfl, ?_⟩
                                      refine p_nil ?_
                                      refine hK45 _ _ ?_
                                      refine fg6 0 2 3 4 5 6 (gS rfl (gS rfl (gS rfl (gS rfl (gS rfl (gS rfl (gS rfl (gS rfl (gS rfl (gS rfl (gS rfl (gS rfl (gS rfl (gS rfl g0)))))))))))))) (gS rfl (gS rfl (gS rfl (gS rfl (gS rfl (gS rfl (gS rfl (gS rfl (gS rfl (gS rfl (gS rfl (gS rfl (gS rfl g0))))))))))))) (gS rfl (gS rfl (gS rfl (gS rfl (gS rfl (gS rfl (gS rfl (gS rfl (gS rfl (gS rfl (gS rfl (gS rfl g0)))))))))))) (gS rfl (gS rfl (gS rfl (gS rfl (gS rfl (gS rfl (gS rfl (gS rfl (gS rfl (gS rfl (gS rfl g0))))))))))) (gS rfl (gS rfl (gS rfl (gS rfl (gS rfl (gS rfl (gS rfl (gS rfl (gS rfl (gS rfl g0)))))))))) (gS rfl (gS rfl (gS rfl (gS rfl (gS rfl (gS rfl (gS rfl (gS rfl (gS rfl g0))))))))) (fun g => ?_)
                                      refine c_seq (fun K48 hK48 => ?_)
                                      refine c_seq (fun K49 hK49 => ?_)
                                      exact (by
                                        refine c_region ?_
                                        refine l_step (y_loadB agg_65 sz_65 (et g0 rfl) rfl (at1B k23)) ?_
                                        refine l_eff (e_callV cal_78 (aC (et g0 rfl) aN) (isZero_spec _ _ (by decide))) (fun v50 w50 h50 => ?_)
                                        obtain ⟨rfl, u50⟩ := h50
                                        replace k9 := k9.up u50
                                        replace k19 := k19.up u50
                                        replace k23 := k23.up u50
                                        replace hX := hX.up u50
                                        replace U := U.tr u50
                                        refine l_step (y_not (et g0 rfl)) ?_
                                        refine l_nil ?_
                                        refine hK49 _ _ ?_
                                        refine fg7 0 2 3 4 5 6 102 (gS rfl (gS rfl (gS rfl (gS rfl (gS rfl (gS rfl (gS rfl (gS rfl g0)))))))) (gS rfl (gS rfl (gS rfl (gS rfl (gS rfl (gS rfl (gS rfl g0))))))) (gS rfl (gS rfl (gS rfl (gS rfl (gS rfl (gS rfl g0)))))) (gS rfl (gS rfl (gS rfl (gS rfl (gS rfl g0))))) (gS rfl (gS rfl (gS rfl (gS rfl g0)))) (gS rfl (gS rfl (gS rfl g0))) g0 (fun g => ?_)
                                        refine c_false (et g0 rfl) (by rfl) ?_
                                        refine c_skip ?_
                                        refine hK48 _ _ ?_
                                        refine fg6 0 2 3 4 5 6 (gS rfl (gS rfl (gS rfl (gS rfl (gS rfl (gS rfl g0)))))) (gS rfl (gS rfl (gS rfl (gS rfl (gS rfl g0))))) (gS rfl (gS rfl (gS rfl (gS rfl g0)))) (gS rfl (gS rfl (gS rfl g0))) (gS rfl (gS rfl g0)) (gS rfl g0) (fun g => ?_)
                                        refine c_seq (fun K52 hK52 => ?_)
                                        refine c_seq (fun K53 hK53 => ?_)
                                        exact (by
                                          refine c_draw Up 18 [(0, true), (1, true), (2, true), (3, true), (4, true), (5, true), (6, true), (7, true), (8, true), (9, true), (10, true), (11, true), (12, true), (13, true), (15, true), (14, false), (16, false), (17, true)] (by kernel_rfl) (fun w54 hu => ⟨Up.refl _, ?_⟩)
                                          replace k9 := k9.up hu
                                          replace k19 := k19.up hu
                                          replace k23 := k23.up hu
                                          replace hX := hX.up hu
                                          replace U := U.tr hu
                                          have SU := Up.refl w54
                                          refine p_step (by exact rfl) (y_moveV (et (gS rfl (gS rfl (gS rfl (gS rfl (gS rfl g0))))) rfl)) ?_
                                          refine p_step (by exact rfl) (y_nil (et g0 rfl)) ?_
                                          refine p_step (by exact rfl) (y_fld fld_75_4 (et g0 rfl)) ?_
                                          have e7 : cG f 250 = (sentN f.gas (argN f.stack 0)) := by unfold cG; rw [show cV f 250 = 0 from rfl, if_pos rfl]; rfl
                                          rw [← e7] at k19
                                          have hcg : cG f 250 ≤ (sentN f.gas (argN f.stack 0)) + 2300 := by rw [e7]; omega
                                          refine p_step (by exact rfl) (y_load1 one_73 (et g0 rfl) (atS (hX.ex.vl.c1 (hX.ex.cTop hsf2) (by omega)))) ?_
                                          refine p_step (by exact rfl) (y_geq (et g0 rfl) rfl) ?_
                                          refine p_step (by exact rfl) (y_moveV (et g0 rfl)) ?_
                                          refine gsplitP (i := 112) g0 (fun q55 => ?_) (fun q55 => ?_)
                                          · skip
                                            have hd6 : 6 ≤ low.length := by have := of_decide_eq_true q55; omega
                                            refine p_gskip (j := 5) (t := 112) (by exact rfl) (by exact rfl) (by exact rfl) (et g0 rfl) rfl rfl ?_
                                            refine p_gskip (j := 5) (t := 112) (by exact rfl) (by exact rfl) (by exact rfl) (et (gS rfl g0) rfl) rfl rfl ?_
                                            refine p_gskip (j := 5) (t := 112) (by exact rfl) (by exact rfl) (by exact rfl) (et (gS rfl (gS rfl g0)) rfl) rfl rfl ?_
                                            refine p_gskip (j := 5) (t := 112) (by exact rfl) (by exact rfl) (by exact rfl) (et (gS rfl (gS rfl (gS rfl g0))) rfl) rfl rfl ?_
                                            refine p_gskip (j := 5) (t := 112) (by exact rfl) (by exact rfl) (by exact rfl) (et (gS rfl (gS rfl (gS rfl (gS rfl g0)))) rfl) rfl rfl ?_
                                            refine p_gskip (j := 5) (t := 112) (by exact rfl) (by exact rfl) (by exact rfl) (et (gS rfl (gS rfl (gS rfl (gS rfl (gS rfl g0))))) rfl) rfl rfl ?_
                                            refine p_gskip (j := 5) (t := 112) (by exact rfl) (by exact rfl) (by exact rfl) (et (gS rfl (gS rfl (gS rfl (gS rfl (gS rfl (gS rfl g0)))))) rfl) rfl rfl ?_
                                            refine p_gskip (j := 5) (t := 112) (by exact rfl) (by exact rfl) (by exact rfl) (et (gS rfl (gS rfl (gS rfl (gS rfl (gS rfl (gS rfl (gS rfl g0))))))) rfl) rfl rfl ?_
                                            refine p_gskip (j := 5) (t := 112) (by exact rfl) (by exact rfl) (by exact rfl) (et (gS rfl (gS rfl (gS rfl (gS rfl (gS rfl (gS rfl (gS rfl (gS rfl g0)))))))) rfl) rfl rfl ?_
                                            refine p_geskip (j := 5) (t := 112) (by exact rfl) (by exact rfl) (by exact rfl) (et (gS rfl (gS rfl (gS rfl (gS rfl (gS rfl (gS rfl (gS rfl (gS rfl (gS rfl g0))))))))) rfl) rfl rfl ⟨.inr SU, ?_⟩
                                            refine p_geskip (j := 5) (t := 112) (by exact rfl) (by exact rfl) (by exact rfl) (et (gS rfl (gS rfl (gS rfl (gS rfl (gS rfl (gS rfl (gS rfl (gS rfl (gS rfl (gS rfl g0)))))))))) rfl) rfl rfl ⟨.inr SU, ?_⟩
                                            refine p_step (by exact rfl) (y_pickT (et (gS rfl (gS rfl (gS rfl (gS rfl (gS rfl (gS rfl (gS rfl (gS rfl (gS rfl (gS rfl (gS rfl g0))))))))))) rfl) rfl) ?_
                                            refine p_nil ?_
                                            refine hK53 _ _ ?_
                                            refine fg6 0 2 3 4 5 124 (gS rfl (gS rfl (gS rfl (gS rfl (gS rfl (gS rfl (gS rfl (gS rfl (gS rfl (gS rfl (gS rfl (gS rfl (gS rfl (gS rfl (gS rfl (gS rfl (gS rfl (gS rfl (gS rfl (gS rfl (gS rfl (gS rfl (gS rfl (gS rfl g0)))))))))))))))))))))))) (gS rfl (gS rfl (gS rfl (gS rfl (gS rfl (gS rfl (gS rfl (gS rfl (gS rfl (gS rfl (gS rfl (gS rfl (gS rfl (gS rfl (gS rfl (gS rfl (gS rfl (gS rfl (gS rfl (gS rfl (gS rfl (gS rfl (gS rfl g0))))))))))))))))))))))) (gS rfl (gS rfl (gS rfl (gS rfl (gS rfl (gS rfl (gS rfl (gS rfl (gS rfl (gS rfl (gS rfl (gS rfl (gS rfl (gS rfl (gS rfl (gS rfl (gS rfl (gS rfl (gS rfl (gS rfl (gS rfl (gS rfl g0)))))))))))))))))))))) (gS rfl (gS rfl (gS rfl (gS rfl (gS rfl (gS rfl (gS rfl (gS rfl (gS rfl (gS rfl (gS rfl (gS rfl (gS rfl (gS rfl (gS rfl (gS rfl (gS rfl (gS rfl (gS rfl (gS rfl (gS rfl g0))))))))))))))))))))) (gS rfl (gS rfl (gS rfl (gS rfl (gS rfl (gS rfl (gS rfl (gS rfl (gS rfl (gS rfl (gS rfl (gS rfl (gS rfl (gS rfl (gS rfl (gS rfl (gS rfl (gS rfl (gS rfl (gS rfl g0)))))))))))))))))))) g0 (fun g => ?_)
                                            refine c_true (et g0 rfl) rfl ?_
                                            refine c_seq (fun K57 hK57 => ?_)
                                            exact (by
                                              refine c_draw Up 9 [(0, true), (1, true), (2, true), (3, true), (4, true), (5, true), (6, true), (7, true), (8, true), (9, false)] (by kernel_rfl) (fun w58 hu => ⟨Up.refl _, ?_⟩)
                                              replace k9 := k9.up hu
                                              replace k19 := k19.up hu
                                              replace k23 := k23.up hu
                                              replace hX := hX.up hu
                                              replace U := U.tr hu
                                              have SU := Up.refl w58
                                              refine p_step (by exact rfl) (y_moveV (et (gS rfl (gS rfl (gS rfl (gS rfl g0)))) rfl)) ?_
                                              refine p_step (by exact rfl) (y_nil (et g0 rfl)) ?_
                                              refine p_step (by exact rfl) (y_fld fld_71_7 (et g0 rfl)) ?_
                                              refine p_step (by exact rfl) (y_load1 one_26 (et g0 rfl) (atS (hX.ex.vl.c1 (hR2.r1 7 _ rfl) (by omega)))) ?_
                                              refine p_step (by exact rfl) (y_fld fld_71_7 (et (gS rfl (gS rfl (gS rfl (gS rfl (gS rfl (gS rfl g0)))))) rfl)) ?_
                                              refine p_step (by exact rfl) (y_load1 one_26 (et g0 rfl) (atS (k19.cell (show _ = some (Value.int .u64 (cG f 250 : Nat)) from rfl)))) ?_
                                              refine p_step (by exact rfl) (y_add (et (gS rfl (gS rfl g0)) rfl) (et g0 rfl) (wrapU_addN uk64 ?_)) ?_
                                              omega
                                              refine p_step (by exact rfl) (y_nil (et (gS rfl (gS rfl (gS rfl (gS rfl (gS rfl (gS rfl g0)))))) rfl)) ?_
                                              refine p_step (by exact rfl) (y_fld fld_71_7 (et g0 rfl)) ?_
                                              refine p_effN (by exact rfl) (e_store sz_26 (et g0 rfl) (cellsV (et (gS rfl (gS rfl g0)) rfl) rfl) rfl (by intro v hv; simp at hv; subst hv; rfl) hX.ex.vl.kC (by rw [hX.ex.vl.size]; omega)) (fun v59 w59 h59 => ?_)
                                              obtain ⟨rfl, x59⟩ := h59
                                              have hv59 := hX.stGas hsf2 hph2 (p := f2.gas + cG f 250) (c' := c') (by omega) (by omega) (by omega) x59
                                              replace k9 := k9.ch x59.ch (by intro hm; first | omega | (subst hm; omega))
                                              replace k19 := k19.ch x59.ch (by intro hm; first | omega | (subst hm; omega))
                                              replace k23 := k23.ch x59.ch (by intro hm; first | omega | (subst hm; omega))
                                              replace hX := hv59
                                              replace U := U.cc x59.ch (by intro b hb; exact .inl trivial)
                                              obtain ⟨f3, hf3⟩ : ∃ f3 : YF, f3 = { f2 with gas := f2.gas + cG f 250 } := ⟨_, rfl⟩
                                              obtain ⟨s3, hs3⟩ : ∃ s3 : YSt, s3 = { s2 with frames := low ++ [f3] } := ⟨_, rfl⟩
                                              replace hX := hX.reS (show s3 = { s2 with frames := low ++ [{ f2 with gas := f2.gas + cG f 250 }] } by rw [hs3, hf3])
                                              have hsf3 : s3.frames = low ++ [f3] := by rw [hs3]
                                              have hph3 : s3.phase = 1 := by rw [hs3]; exact hph2
                                              have hsk3 : f3.stack = f.stack := by first | (rw [hf3]; done) | (rw [hf3]; exact hsk2)
                                              refine ⟨.inl rfl, ?_⟩
                                              refine p_nil ?_
                                              refine hK57 _ _ ?_
                                              refine fg3 0 2 5 (gS rfl (gS rfl (gS rfl (gS rfl (gS rfl (gS rfl (gS rfl (gS rfl (gS rfl (gS rfl (gS rfl (gS rfl (gS rfl (gS rfl g0)))))))))))))) (gS rfl (gS rfl (gS rfl (gS rfl (gS rfl (gS rfl (gS rfl (gS rfl (gS rfl (gS rfl (gS rfl (gS rfl (gS rfl g0))))))))))))) (gS rfl (gS rfl (gS rfl (gS rfl (gS rfl (gS rfl (gS rfl (gS rfl (gS rfl (gS rfl g0)))))))))) (fun g => ?_)
                                              refine c_seq (fun K60 hK60 => ?_)
                                              exact (by
                                                refine c_region ?_
                                                refine l_step (y_moveV (et (gS rfl (gS rfl g0)) rfl)) ?_
                                                refine l_step (y_moveV (et (gS rfl (gS rfl g0)) rfl)) ?_
                                                refine l_step (y_moveV (et (gS rfl (gS rfl g0)) rfl)) ?_
                                                refine l_step (y_add (et g0 rfl) rfl (addIN (x := 2) (y := 4) ?_)) ?_
                                                omega
                                                refine l_step (y_conv Hvaa.underlying3 Hvaa.underlying67 (et g0 rfl) (wrapU_id uk16 ?_)) ?_
                                                omega
                                                refine l_step (y_bld bN bld65_z) ?_
                                                refine l_eff (e_callV cal_259 (aC (et (gS rfl (gS rfl (gS rfl (gS rfl (gS rfl g0))))) rfl) (aC (et (gS rfl (gS rfl (gS rfl (gS rfl g0)))) rfl) (aC (et (gS rfl g0) rfl) (aC rfl (aC (et g0 rfl) (aC (v := .int .u16 ((1 : Nat) : Int)) rfl aN)))))) (m_settle1 hX.ex hsf3 hph3 rfl 6 _ 1 (by rw [hsk3]; omega) (by decide) (by rw [hf3, hf2]; show f.pc + 1 ≤ 560; omega) (by rw [hsk3]; omega))) (fun v61 w61 h61 => ?_)
                                                obtain ⟨rfl, cs61, y61⟩ := h61
                                                replace k9 := k9.ch y61.et.go.ch (by intro hm; (have e0 := hm); omega)
                                                replace k19 := k19.ch y61.et.go.ch (by intro hm; (have e0 := hm); omega)
                                                replace k23 := k23.ch y61.et.go.ch (by intro hm; (have e0 := hm); omega)
                                                replace hX := hX.trans y61
                                                replace U := U.cc y61.et.go.ch (by intro b hb; exact .inl trivial)
                                                refine l_nil ?_
                                                refine hK60 _ _ ?_
                                                refine fg0 (fun g => ?_)
                                                refine c_ret ?_
                                                repeat with_reducible refine then_ret ?_
                                                refine ret0 rfl ?_
                                                have hfl : cFail { s with ret := [] } f 250 low.length := .inl hd6
                                                rw [set_ans, hf3, hf2, hs3, hs2, hs1, hs0] at hX
                                                rw [show callY { s with ret := [] } f 250 low = { cS { s with ret := [] } f with frames := low ++ [cBack f 250] } from if_pos hfl]
                                                refine ⟨rfl, XO.of hX ?_⟩
                                                rw [hms]
                                                show _ = (low ++ [cBack f 250]).map _
                                                rw [List.map_append, List.map_append]
                                                rfl))
                                          · skip
                                            have hd6 : ¬ 6 ≤ low.length := by have := of_decide_eq_false q55; omega
                                            refine p_gstep (j := 5) (t := 112) (by exact rfl) (by exact rfl) (by exact rfl) (et g0 rfl) rfl (y_moveV (et (gS rfl (gS rfl (gS rfl (gS rfl (gS rfl (gS rfl (gS rfl (gS rfl (gS rfl (gS rfl (gS rfl (gS rfl g0)))))))))))) rfl)) ?_
                                            refine p_gstep (j := 5) (t := 112) (by exact rfl) (by exact rfl) (by exact rfl) (et (gS rfl g0) rfl) rfl (y_nil (et g0 rfl)) ?_
                                            refine p_gstep (j := 5) (t := 112) (by exact rfl) (by exact rfl) (by exact rfl) (et (gS rfl (gS rfl g0)) rfl) rfl (y_fld fld_75_0 (et g0 rfl)) ?_
                                            refine p_gstep (j := 5) (t := 112) (by exact rfl) (by exact rfl) (by exact rfl) (et (gS rfl (gS rfl (gS rfl g0))) rfl) rfl (y_load1 one_59 (et g0 rfl) (atS (hX.ex.vl.c1 hX.ex.lx.pS rfl))) ?_
                                            refine p_gstep (j := 5) (t := 112) (by exact rfl) (by exact rfl) (by exact rfl) (et (gS rfl (gS rfl (gS rfl (gS rfl g0)))) rfl) rfl (y_moveV (et (gS rfl (gS rfl (gS rfl (gS rfl (gS rfl (gS rfl (gS rfl (gS rfl (gS rfl (gS rfl (gS rfl (gS rfl (gS rfl (gS rfl (gS rfl g0))))))))))))))) rfl)) ?_
                                            refine p_gstep (j := 5) (t := 112) (by exact rfl) (by exact rfl) (by exact rfl) (et (gS rfl (gS rfl (gS rfl (gS rfl (gS rfl g0))))) rfl) rfl (y_nil (et g0 rfl)) ?_
                                            refine p_gstep (j := 5) (t := 112) (by exact rfl) (by exact rfl) (by exact rfl) (et (gS rfl (gS rfl (gS rfl (gS rfl (gS rfl (gS rfl g0)))))) rfl) rfl (y_fld fld_71_9 (et g0 rfl)) ?_
                                            refine p_gstep (j := 5) (t := 112) (by exact rfl) (by exact rfl) (by exact rfl) (et (gS rfl (gS rfl (gS rfl (gS rfl (gS rfl (gS rfl (gS rfl g0))))))) rfl) rfl (y_loadR agg_25 sz_25 (et g0 rfl) (by rw [length_bL, length_be]) (atSR (hX.ex.vl.kC.rowO hR2.r2 (by omega)))) ?_
                                            refine p_gstep (j := 5) (t := 112) (by exact rfl) (by exact rfl) (by exact rfl) (et (gS rfl (gS rfl (gS rfl (gS rfl (gS rfl (gS rfl (gS rfl (gS rfl g0)))))))) rfl) rfl (y_loadB agg_65 sz_65 (et (gS rfl (gS rfl (gS rfl (gS rfl (gS rfl (gS rfl (gS rfl (gS rfl (gS rfl (gS rfl (gS rfl (gS rfl (gS rfl (gS rfl (gS rfl g0))))))))))))))) rfl) rfl (atSB k23)) ?_
                                            have hB2s : f2.self < A160 := by rw [hse2]; exact hB.self
                                            have hbal2 : (acctAt s2.now.accts f2.self).bal < W256 := by have h9 := hX.ex.balt f2.self; rw [hX.ex.bl] at h9; exact h9
                                            refine p_geff (j := 5) (t := 112) (by exact rfl) (by exact rfl) (by exact rfl) (et (gS rfl (gS rfl (gS rfl (gS rfl (gS rfl (gS rfl (gS rfl (gS rfl (gS rfl g0))))))))) rfl) rfl (e_callV cal_99 (aC (et (gS rfl (gS rfl (gS rfl (gS rfl (gS rfl g0))))) rfl) (aC (et (gS rfl g0) rfl) aN)) (hX.ex.balC f2.self hB2s)) (fun v62 w62 h62 => ?_)
                                            obtain ⟨rfl, u62⟩ := h62
                                            replace k9 := k9.up u62
                                            replace k19 := k19.up u62
                                            replace k23 := k23.up u62
                                            replace hX := hX.up u62
                                            replace U := U.tr u62
                                            refine ⟨.inr (SU.tr u62), ?_⟩
                                            replace SU := SU.tr u62
                                            refine p_geff (j := 5) (t := 112) (by exact rfl) (by exact rfl) (by exact rfl) (et (gS rfl (gS rfl (gS rfl (gS rfl (gS rfl (gS rfl (gS rfl (gS rfl (gS rfl (gS rfl g0)))))))))) rfl) rfl (e_callV cal_112 (aC (et g0 rfl) (aC (et (gS rfl g0) rfl) aN)) (lt_spec _ _ _ hbal2 (by decide))) (fun v63 w63 h63 => ?_)
                                            obtain ⟨rfl, u63⟩ := h63
                                            replace k9 := k9.up u63
                                            replace k19 := k19.up u63
                                            replace k23 := k23.up u63
                                            replace hX := hX.up u63
                                            replace U := U.tr u63
                                            refine ⟨.inr (SU.tr u63), ?_⟩
                                            replace SU := SU.tr u63
                                            refine p_step (by exact rfl) (y_pickF (et (gS rfl (gS rfl (gS rfl (gS rfl (gS rfl (gS rfl (gS rfl (gS rfl (gS rfl (gS rfl (gS rfl g0))))))))))) rfl) (et g0 rfl)) ?_
                                            refine p_nil ?_
                                            refine hK53 _ _ ?_
                                            refine fg6 0 2 3 4 5 124 (gS rfl (gS rfl (gS rfl (gS rfl (gS rfl (gS rfl (gS rfl (gS rfl (gS rfl (gS rfl (gS rfl (gS rfl (gS rfl (gS rfl (gS rfl (gS rfl (gS rfl (gS rfl (gS rfl (gS rfl (gS rfl (gS rfl (gS rfl (gS rfl g0)))))))))))))))))))))))) (gS rfl (gS rfl (gS rfl (gS rfl (gS rfl (gS rfl (gS rfl (gS rfl (gS rfl (gS rfl (gS rfl (gS rfl (gS rfl (gS rfl (gS rfl (gS rfl (gS rfl (gS rfl (gS rfl (gS rfl (gS rfl (gS rfl (gS rfl g0))))))))))))))))))))))) (gS rfl (gS rfl (gS rfl (gS rfl (gS rfl (gS rfl (gS rfl (gS rfl (gS rfl (gS rfl (gS rfl (gS rfl (gS rfl (gS rfl (gS rfl (gS rfl (gS rfl (gS rfl (gS rfl (gS rfl (gS rfl (gS rfl g0)))))))))))))))))))))) (gS rfl (gS rfl (gS rfl (gS rfl (gS rfl (gS rfl (gS rfl (gS rfl (gS rfl (gS rfl (gS rfl (gS rfl (gS rfl (gS rfl (gS rfl (gS rfl (gS rfl (gS rfl (gS rfl (gS rfl (gS rfl g0))))))))))))))))))))) (gS rfl (gS rfl (gS rfl (gS rfl (gS rfl (gS rfl (gS rfl (gS rfl (gS rfl (gS rfl (gS rfl (gS rfl (gS rfl (gS rfl (gS rfl (gS rfl (gS rfl (gS rfl (gS rfl (gS rfl g0)))))))))))))))))))) g0 (fun g => ?_)
                                            refine c_cond (et g0 rfl) (fun cB8 => ?_) (fun cB8 => ?_)
                                            · skip
                                              rw [hac2, hse2] at cB8
                                              have hfb : (acctAt s.now.accts f.self).bal < 0 := of_decide_eq_true cB8
                                              refine c_seq (fun K65 hK65 => ?_)
                                              exact (by
                                                refine c_draw Up 9 [(0, true), (1, true), (2, true), (3, true), (4, true), (5, true), (6, true), (7, true), (8, true), (9, false)] (by kernel_rfl) (fun w66 hu => ⟨Up.refl _, ?_⟩)
                                                replace k9 := k9.up hu
                                                replace k19 := k19.up hu
                                                replace k23 := k23.up hu
                                                replace hX := hX.up hu
                                                replace U := U.tr hu
                                                have SU := Up.refl w66
                                                refine p_step (by exact rfl) (y_moveV (et (gS rfl (gS rfl (gS rfl (gS rfl g0)))) rfl)) ?_
                                                refine p_step (by exact rfl) (y_nil (et g0 rfl)) ?_
                                                refine p_step (by exact rfl) (y_fld fld_71_7 (et g0 rfl)) ?_
                                                refine p_step (by exact rfl) (y_load1 one_26 (et g0 rfl) (atS (hX.ex.vl.c1 (hR2.r1 7 _ rfl) (by omega)))) ?_
                                                refine p_step (by exact rfl) (y_fld fld_71_7 (et (gS rfl (gS rfl (gS rfl (gS rfl (gS rfl (gS rfl g0)))))) rfl)) ?_
                                                refine p_step (by exact rfl) (y_load1 one_26 (et g0 rfl) (atS (k19.cell (show _ = some (Value.int .u64 (cG f 250 : Nat)) from rfl)))) ?_
                                                refine p_step (by exact rfl) (y_add (et (gS rfl (gS rfl g0)) rfl) (et g0 rfl) (wrapU_addN uk64 ?_)) ?_
                                                omega
                                                refine p_step (by exact rfl) (y_nil (et (gS rfl (gS rfl (gS rfl (gS rfl (gS rfl (gS rfl g0)))))) rfl)) ?_
                                                refine p_step (by exact rfl) (y_fld fld_71_7 (et g0 rfl)) ?_
                                                refine p_effN (by exact rfl) (e_store sz_26 (et g0 rfl) (cellsV (et (gS rfl (gS rfl g0)) rfl) rfl) rfl (by intro v hv; simp at hv; subst hv; rfl) hX.ex.vl.kC (by rw [hX.ex.vl.size]; omega)) (fun v67 w67 h67 => ?_)
                                                obtain ⟨rfl, x67⟩ := h67
                                                have hv67 := hX.stGas hsf2 hph2 (p := f2.gas + cG f 250) (c' := c') (by omega) (by omega) (by omega) x67
                                                replace k9 := k9.ch x67.ch (by intro hm; first | omega | (subst hm; omega))
                                                replace k19 := k19.ch x67.ch (by intro hm; first | omega | (subst hm; omega))
                                                replace k23 := k23.ch x67.ch (by intro hm; first | omega | (subst hm; omega))
                                                replace hX := hv67
                                                replace U := U.cc x67.ch (by intro b hb; exact .inl trivial)
                                                obtain ⟨f3, hf3⟩ : ∃ f3 : YF, f3 = { f2 with gas := f2.gas + cG f 250 } := ⟨_, rfl⟩
                                                obtain ⟨s3, hs3⟩ : ∃ s3 : YSt, s3 = { s2 with frames := low ++ [f3] } := ⟨_, rfl⟩
                                                replace hX := hX.reS (show s3 = { s2 with frames := low ++ [{ f2 with gas := f2.gas + cG f 250 }] } by rw [hs3, hf3])
                                                have hsf3 : s3.frames = low ++ [f3] := by rw [hs3]
                                                have hph3 : s3.phase = 1 := by rw [hs3]; exact hph2
                                                have hsk3 : f3.stack = f.stack := by first | (rw [hf3]; done) | (rw [hf3]; exact hsk2)
                                                refine ⟨.inl rfl, ?_⟩
                                                refine p_nil ?_
                                                refine hK65 _ _ ?_
                                                refine fg3 0 2 5 (gS rfl (gS rfl (gS rfl (gS rfl (gS rfl (gS rfl (gS rfl (gS rfl (gS rfl (gS rfl (gS rfl (gS rfl (gS rfl (gS rfl g0)))))))))))))) (gS rfl (gS rfl (gS rfl (gS rfl (gS rfl (gS rfl (gS rfl (gS rfl (gS rfl (gS rfl (gS rfl (gS rfl (gS rfl g0))))))))))))) (gS rfl (gS rfl (gS rfl (gS rfl (gS rfl (gS rfl (gS rfl (gS rfl (gS rfl (gS rfl g0)))))))))) (fun g => ?_)
                                                refine c_seq (fun K68 hK68 => ?_)
                                                exact (by
                                                  refine c_region ?_
                                                  refine l_step (y_moveV (et (gS rfl (gS rfl g0)) rfl)) ?_
                                                  refine l_step (y_moveV (et (gS rfl (gS rfl g0)) rfl)) ?_
                                                  refine l_step (y_moveV (et (gS rfl (gS rfl g0)) rfl)) ?_
                                                  refine l_step (y_add (et g0 rfl) rfl (addIN (x := 2) (y := 4) ?_)) ?_
                                                  omega
                                                  refine l_step (y_conv Hvaa.underlying3 Hvaa.underlying67 (et g0 rfl) (wrapU_id uk16 ?_)) ?_
                                                  omega
                                                  refine l_step (y_bld bN bld65_z) ?_
                                                  refine l_eff (e_callV cal_259 (aC (et (gS rfl (gS rfl (gS rfl (gS rfl (gS rfl g0))))) rfl) (aC (et (gS rfl (gS rfl (gS rfl (gS rfl g0)))) rfl) (aC (et (gS rfl g0) rfl) (aC rfl (aC (et g0 rfl) (aC (v := .int .u16 ((1 : Nat) : Int)) rfl aN)))))) (m_settle1 hX.ex hsf3 hph3 rfl 6 _ 1 (by rw [hsk3]; omega) (by decide) (by rw [hf3, hf2]; show f.pc + 1 ≤ 560; omega) (by rw [hsk3]; omega))) (fun v69 w69 h69 => ?_)
                                                  obtain ⟨rfl, cs69, y69⟩ := h69
                                                  replace k9 := k9.ch y69.et.go.ch (by intro hm; (have e0 := hm); omega)
                                                  replace k19 := k19.ch y69.et.go.ch (by intro hm; (have e0 := hm); omega)
                                                  replace k23 := k23.ch y69.et.go.ch (by intro hm; (have e0 := hm); omega)
                                                  replace hX := hX.trans y69
                                                  replace U := U.cc y69.et.go.ch (by intro b hb; exact .inl trivial)
                                                  refine l_nil ?_
                                                  refine hK68 _ _ ?_
                                                  refine fg0 (fun g => ?_)
                                                  refine c_ret ?_
                                                  repeat with_reducible refine then_ret ?_
                                                  refine ret0 rfl ?_
                                                  have hfl : cFail { s with ret := [] } f 250 low.length := .inr (by show (acctAt s.now.accts f.self).bal < cV f 250; rw [show cV f 250 = 0 from rfl]; exact hfb)
                                                  rw [set_ans, hf3, hf2, hs3, hs2, hs1, hs0] at hX
                                                  rw [show callY { s with ret := [] } f 250 low = { cS { s with ret := [] } f with frames := low ++ [cBack f 250] } from if_pos hfl]
                                                  refine ⟨rfl, XO.of hX ?_⟩
                                                  rw [hms]
                                                  show _ = (low ++ [cBack f 250]).map _
                                                  rw [List.map_append, List.map_append]
                                                  rfl))
                                            · skip
                                              rw [hac2, hse2] at cB8
                                              have hfb : ¬ (acctAt s.now.accts f.self).bal < 0 := of_decide_eq_false cB8
                                              refine c_skip ?_
                                              refine hK52 _ _ ?_
                                              refine fg5 0 2 3 4 5 (gS rfl (gS rfl (gS rfl (gS rfl (gS rfl g0))))) (gS rfl (gS rfl (gS rfl (gS rfl g0)))) (gS rfl (gS rfl (gS rfl g0))) (gS rfl (gS rfl g0)) (gS rfl g0) (fun g => ?_)
                                              refine c_seq (fun K70 hK70 => ?_)
                                              exact (by
                                                refine c_region ?_
                                                refine l_step (y_moveV (et (gS rfl (gS rfl (gS rfl (gS rfl g0)))) rfl)) ?_
                                                refine l_step (y_moveV (et (gS rfl (gS rfl (gS rfl (gS rfl (gS rfl g0))))) rfl)) ?_
                                                refine l_step (y_moveV (et (gS rfl (gS rfl (gS rfl (gS rfl (gS rfl g0))))) rfl)) ?_
                                                refine l_step (y_moveV (et (gS rfl (gS rfl (gS rfl g0))) rfl)) ?_
                                                have hB2 := hX.ex.fbT hsf2
                                                refine l_eff (e_callV cal_264 (aC (et (gS rfl (gS rfl g0)) rfl) (aC (et (gS rfl g0) rfl) (aC (et g0 rfl) aN))) (m_arg hX.ex hsf2 hph2 rfl 2 (by decide))) (fun v71 w71 h71 => ?_)
                                                obtain ⟨rfl, u71⟩ := h71
                                                replace k9 := k9.up u71
                                                replace k19 := k19.up u71
                                                replace k23 := k23.up u71
                                                replace hX := hX.up u71
                                                replace U := U.tr u71
                                                refine l_step (y_moveV (et (gS rfl (gS rfl (gS rfl (gS rfl (gS rfl (gS rfl (gS rfl (gS rfl (gS rfl g0))))))))) rfl)) ?_
                                                refine l_step (y_moveV (et (gS rfl (gS rfl (gS rfl (gS rfl (gS rfl (gS rfl (gS rfl (gS rfl (gS rfl g0))))))))) rfl)) ?_
                                                refine l_step (y_moveV (et (gS rfl (gS rfl (gS rfl (gS rfl (gS rfl (gS rfl (gS rfl g0))))))) rfl)) ?_
                                                refine l_step (y_add (et g0 rfl) rfl (addIN (x := 2) (y := 1) ?_)) ?_
                                                omega
                                                refine l_eff (e_callV cal_264 (aC (et (gS rfl (gS rfl (gS rfl g0))) rfl) (aC (et (gS rfl (gS rfl g0)) rfl) (aC (et g0 rfl) aN))) (m_arg hX.ex hsf2 hph2 rfl (2 + 1) (by decide))) (fun v72 w72 h72 => ?_)
                                                obtain ⟨rfl, u72⟩ := h72
                                                replace k9 := k9.up u72
                                                replace k19 := k19.up u72
                                                replace k23 := k23.up u72
                                                replace hX := hX.up u72
                                                replace U := U.tr u72
                                                refine l_eff (e_callV cal_292 (aC (et (gS rfl (gS rfl (gS rfl (gS rfl (gS rfl (gS rfl (gS rfl (gS rfl (gS rfl g0))))))))) rfl) (aC (et (gS rfl (gS rfl (gS rfl (gS rfl (gS rfl g0))))) rfl) (aC (et g0 rfl) aN))) (m_read hX.ex hsf2 hph2 hms8 _ _ (argN_lt hB2 _) (argN_lt hB2 _) (by rw [hsk2]; exact hrd))) (fun v73 w73 h73 => ?_)
                                                obtain ⟨H73, vb7, rfl, g73, bv7⟩ := h73
                                                have nh9 : ¬ H73.has b9 := g73.nb (fun hh => by have := hfz.lt hh; omega) k9.lt
                                                have nh19 : ¬ H73.has b19 := g73.nb (fun hh => by have := hfz.lt hh; omega) k19.lt
                                                have nh23 : ¬ H73.has b23 := g73.nb (fun hh => by have := hfz.lt hh; omega) k23.lt
                                                replace k9 := k9.ch g73.ch (by intro hm; exact hm.elim)
                                                replace k19 := k19.ch g73.ch (by intro hm; exact hm.elim)
                                                replace k23 := k23.ch g73.ch (by intro hm; exact hm.elim)
                                                replace hX := hX.gn g73
                                                replace U := U.cc g73.ch (by intro b hb; exact .inl trivial)
                                                rw [hsk2] at bv7
                                                obtain ⟨ca7, cc7, rfl⟩ := bv7.sl
                                                exact (by
                                                  refine l_step (y_moveV (et g0 rfl)) ?_
                                                  refine l_step (y_ext (et g0 rfl) rfl) ?_
                                                  refine l_step (y_ext (et (gS rfl g0) rfl) rfl) ?_
                                                  refine l_step (y_assignV (et (gS rfl g0) rfl)) ?_
                                                  refine l_step (y_assignV (et (gS rfl g0) rfl)) ?_
                                                  refine l_nil ?_
                                                  refine hK70 _ _ ?_
                                                  refine fg7 0 2 3 4 5 7 8 (gS rfl (gS rfl (gS rfl (gS rfl (gS rfl (gS rfl (gS rfl (gS rfl (gS rfl (gS rfl (gS rfl (gS rfl (gS rfl (gS rfl (gS rfl (gS rfl (gS rfl (gS rfl (gS rfl (gS rfl g0)))))))))))))))))))) (gS rfl (gS rfl (gS rfl (gS rfl (gS rfl (gS rfl (gS rfl (gS rfl (gS rfl (gS rfl (gS rfl (gS rfl (gS rfl (gS rfl (gS rfl (gS rfl (gS rfl (gS rfl (gS rfl g0))))))))))))))))))) (gS rfl (gS rfl (gS rfl (gS rfl (gS rfl (gS rfl (gS rfl (gS rfl (gS rfl (gS rfl (gS rfl (gS rfl (gS rfl (gS rfl (gS rfl (gS rfl (gS rfl (gS rfl g0)))))))))))))))))) (gS rfl (gS rfl (gS rfl (gS rfl (gS rfl (gS rfl (gS rfl (gS rfl (gS rfl (gS rfl (gS rfl (gS rfl (gS rfl (gS rfl (gS rfl (gS rfl (gS rfl g0))))))))))))))))) (gS rfl (gS rfl (gS rfl (gS rfl (gS rfl (gS rfl (gS rfl (gS rfl (gS rfl (gS rfl (gS rfl (gS rfl (gS rfl (gS rfl (gS rfl (gS rfl g0)))))))))))))))) (gS rfl g0) g0 (fun g => ?_)
                                                  refine c_seq (fun K74 hK74 => ?_)
                                                  refine c_seq (fun K75 hK75 => ?_)
                                                  exact (by
                                                    refine c_region ?_
                                                    refine l_step (y_moveV (et g0 rfl)) ?_
                                                    refine l_step (y_not (et g0 rfl)) ?_
                                                    refine l_nil ?_
                                                    refine hK75 _ _ ?_
                                                    refine fg7 0 2 3 4 5 7 156 (gS rfl (gS rfl (gS rfl (gS rfl (gS rfl (gS rfl (gS rfl (gS rfl g0)))))))) (gS rfl (gS rfl (gS rfl (gS rfl (gS rfl (gS rfl (gS rfl g0))))))) (gS rfl (gS rfl (gS rfl (gS rfl (gS rfl (gS rfl g0)))))) (gS rfl (gS rfl (gS rfl (gS rfl (gS rfl g0))))) (gS rfl (gS rfl (gS rfl (gS rfl g0)))) (gS rfl (gS rfl (gS rfl g0))) g0 (fun g => ?_)
                                                    refine c_false (et g0 rfl) (by rfl) ?_
                                                    refine c_skip ?_
                                                    refine hK74 _ _ ?_
                                                    refine fg6 0 2 3 4 5 7 (gS rfl (gS rfl (gS rfl (gS rfl (gS rfl (gS rfl g0)))))) (gS rfl (gS rfl (gS rfl (gS rfl (gS rfl g0))))) (gS rfl (gS rfl (gS rfl (gS rfl g0)))) (gS rfl (gS rfl (gS rfl g0))) (gS rfl (gS rfl g0)) (gS rfl g0) (fun g => ?_)
                                                    refine c_seq (fun K77 hK77 => ?_)
                                                    exact (by
                                                      refine c_region ?_
                                                      refine l_step (y_moveV (et g0 rfl)) ?_
                                                      refine l_step (y_fld fld_71_13 (et (gS rfl (gS rfl (gS rfl g0))) rfl)) ?_
                                                      refine l_effN (e_store sz_38 (et g0 rfl) (cellsV (et (gS rfl g0) rfl) rfl) rfl (by first | exact one_bL _ | exact one_uL _ | (intro v hv; simp at hv; subst hv; rfl)) k19 (by (rw [List.size_toArray, fcv_len rfl]; decide))) (fun v78 w78 h78 => ?_)
                                                      obtain ⟨rfl, x78⟩ := h78
                                                      replace k9 := k9.ch x78.ch (by omega)
                                                      replace k23 := k23.ch x78.ch (by omega)
                                                      replace hX := hX.ch x78.ch (by first | omega | (intro b hb; first | (subst hb; first | exact ⟨by omega, fun hh => by have := hfz.lt hh; omega, by omega⟩ | exact ⟨by omega, by assumption, by omega⟩) | (rcases hb with hb | hb <;> (subst hb; first | exact ⟨by omega, fun hh => by have := hfz.lt hh; omega, by omega⟩ | exact ⟨by omega, by assumption, by omega⟩))))
                                                      replace k19 := x78.blk
                                                      replace U := U.st x78 (.inr f19)
                                                      replace k19 := Blk.fin (q := _) k19
                                                      refine l_nil ?_
                                                      refine hK77 _ _ ?_
                                                      refine fg5 0 2 3 4 5 (gS rfl (gS rfl (gS rfl (gS rfl (gS rfl (gS rfl (gS rfl g0))))))) (gS rfl (gS rfl (gS rfl (gS rfl (gS rfl (gS rfl g0)))))) (gS rfl (gS rfl (gS rfl (gS rfl (gS rfl g0))))) (gS rfl (gS rfl (gS rfl (gS rfl g0)))) (gS rfl (gS rfl (gS rfl g0))) (fun g => ?_)
                                                      refine c_seq (fun K79 hK79 => ?_)
                                                      exact (by
                                                        refine c_region ?_
                                                        refine l_step (y_loadB agg_25 sz_25 (et (gS rfl (gS rfl g0)) rfl) (by rw [List.size_toArray, length_bL, length_be]) (at1B k9)) ?_
                                                        refine l_eff (e_callV cal_102 (aC (et g0 rfl) aN) (mach_nativeAt (ctT f) _ (Nat.mod_lt _ A160_pos))) (fun v80 w80 h80 => ?_)
                                                        obtain ⟨rfl, u80⟩ := h80
                                                        replace k9 := k9.up u80
                                                        replace k19 := k19.up u80
                                                        replace k23 := k23.up u80
                                                        replace hX := hX.up u80
                                                        replace U := U.tr u80
                                                        refine l_step (y_fld fld_71_2 (et (gS rfl (gS rfl (gS rfl g0))) rfl)) ?_
                                                        refine l_effN (e_store sz_5 (et g0 rfl) (cellsV (et (gS rfl g0) rfl) rfl) rfl (by first | exact one_bL _ | exact one_uL _ | (intro v hv; simp at hv; subst hv; rfl)) k19 (by (rw [List.size_toArray, fcv_len rfl]; decide))) (fun v81 w81 h81 => ?_)
                                                        obtain ⟨rfl, x81⟩ := h81
                                                        replace k9 := k9.ch x81.ch (by omega)
                                                        replace k23 := k23.ch x81.ch (by omega)
                                                        replace hX := hX.ch x81.ch (by first | omega | (intro b hb; first | (subst hb; first | exact ⟨by omega, fun hh => by have := hfz.lt hh; omega, by omega⟩ | exact ⟨by omega, by assumption, by omega⟩) | (rcases hb with hb | hb <;> (subst hb; first | exact ⟨by omega, fun hh => by have := hfz.lt hh; omega, by omega⟩ | exact ⟨by omega, by assumption, by omega⟩))))
                                                        replace k19 := x81.blk
                                                        replace U := U.st x81 (.inr f19)
                                                        replace k19 := Blk.fnt (q := natAt (ctT f)) k19
                                                        replace k19 : Blk w81 b19 (fcv (cFr 4 true 0 (ctT f) f.self (cG f 250) (natAt (ctT f)) [] []) (.slice none 0 0) (.slice ca7 (rdN f.mem (argN f.stack 2) (argN f.stack (2 + 1))).length cc7) 0 0 0 (List.replicate 8 0)).toArray := k19
                                                        refine l_nil ?_
                                                        refine hK79 _ _ ?_
                                                        refine fg5 0 2 3 4 5 (gS rfl (gS rfl (gS rfl (gS rfl (gS rfl (gS rfl (gS rfl g0))))))) (gS rfl (gS rfl (gS rfl (gS rfl (gS rfl (gS rfl g0)))))) (gS rfl (gS rfl (gS rfl (gS rfl (gS rfl g0))))) (gS rfl (gS rfl (gS rfl (gS rfl g0)))) (gS rfl (gS rfl (gS rfl g0))) (fun g => ?_)
                                                        refine c_seq (fun K82 hK82 => ?_)
                                                        refine c_seq (fun K83 hK83 => ?_)
                                                        exact (by
                                                          refine c_region ?_
                                                          refine l_step (y_fld fld_71_2 (et (gS rfl g0) rfl)) ?_
                                                          refine l_step (y_load1 one_5 (et g0 rfl) (at1 (k19.cell (show _ = some (Value.int .u8 (natAt (ctT f) : Nat)) from rfl)))) ?_
                                                          refine l_step (y_eql (et g0 rfl) rfl) ?_
                                                          refine l_nil ?_
                                                          refine hK83 _ _ ?_
                                                          refine fg6 0 2 3 4 5 166 (gS rfl (gS rfl (gS rfl (gS rfl (gS rfl (gS rfl (gS rfl g0))))))) (gS rfl (gS rfl (gS rfl (gS rfl (gS rfl (gS rfl g0)))))) (gS rfl (gS rfl (gS rfl (gS rfl (gS rfl g0))))) (gS rfl (gS rfl (gS rfl (gS rfl g0)))) (gS rfl (gS rfl (gS rfl g0))) g0 (fun g => ?_)
                                                          refine c_cond (et g0 rfl) (fun cB10 => ?_) (fun cB10 => ?_)
                                                          · skip
                                                            
                                                            have hnt : natAt (ctT f) = 0 := by have := of_decide_eq_true cB10; omega
                                                            exact (by
                                                              refine c_draw Up 7 [(0, true), (1, true), (2, true), (3, true), (4, true), (5, false), (6, true), (7, false)] (by kernel_rfl) (fun w85 hu => ⟨Up.refl _, ?_⟩)
                                                              replace k9 := k9.up hu
                                                              replace k19 := k19.up hu
                                                              replace k23 := k23.up hu
                                                              replace hX := hX.up hu
                                                              replace U := U.tr hu
                                                              have SU := Up.refl w85
                                                              refine p_step (by exact rfl) (y_moveV (et (gS rfl (gS rfl (gS rfl (gS rfl (gS rfl g0))))) rfl)) ?_
                                                              refine p_step (by exact rfl) (y_nil (et g0 rfl)) ?_
                                                              refine p_step (by exact rfl) (y_fld fld_75_0 (et g0 rfl)) ?_
                                                              refine p_step (by exact rfl) (y_load1 one_59 (et g0 rfl) (atS (hX.ex.vl.c1 hX.ex.lx.pS rfl))) ?_
                                                              refine p_step (by exact rfl) (y_loadB agg_25 sz_25 (et (gS rfl (gS rfl (gS rfl (gS rfl (gS rfl (gS rfl (gS rfl g0))))))) rfl) (by rw [List.size_toArray, length_bL, length_be]) (atSB k9)) ?_
                                                              refine p_eff (by exact rfl) (e_callV cal_103 (aC (et (gS rfl g0) rfl) (aC (et g0 rfl) aN)) (hX.ex.codeC (ctT f) (Nat.mod_lt _ A160_pos))) (fun v86 w86 h86 => ?_)
                                                              obtain ⟨H86, ca9, cc9, rfl, g86, bv9⟩ := h86
                                                              have nh9 : ¬ H86.has b9 := g86.nb nh9 k9.lt
                                                              have nh19 : ¬ H86.has b19 := g86.nb nh19 k19.lt
                                                              have nh23 : ¬ H86.has b23 := g86.nb nh23 k23.lt
                                                              replace k9 := k9.ch g86.ch (by intro hm; exact hm.elim)
                                                              replace k19 := k19.ch g86.ch (by intro hm; exact hm.elim)
                                                              replace k23 := k23.ch g86.ch (by intro hm; exact hm.elim)
                                                              replace hX := hX.gn g86
                                                              replace U := U.cc g86.ch (by intro b hb; exact .inl trivial)
                                                              rw [hac2] at bv9
                                                              replace SU := SU.cc g86.ch (by intro b hb; first | exact .inl hb | exact hb.elim | omega)
                                                              refine ⟨.inr SU, ?_⟩
                                                              refine p_step (by exact rfl) (y_fld fld_71_12 (et (gS rfl (gS rfl (gS rfl (gS rfl (gS rfl (gS rfl (gS rfl (gS rfl g0)))))))) rfl)) ?_
                                                              refine p_effN (by exact rfl) (e_store sz_38 (et g0 rfl) (cellsV (et (gS rfl g0) rfl) rfl) rfl (by first | exact one_bL _ | exact one_uL _ | (intro v hv; simp at hv; subst hv; rfl)) k19 (by (rw [List.size_toArray, fcv_len rfl]; decide))) (fun v87 w87 h87 => ?_)
                                                              obtain ⟨rfl, x87⟩ := h87
                                                              replace k9 := k9.ch x87.ch (by omega)
                                                              replace k23 := k23.ch x87.ch (by omega)
                                                              replace hX := hX.ch x87.ch (by first | omega | (intro b hb; first | (subst hb; first | exact ⟨by omega, fun hh => by have := hfz.lt hh; omega, by omega⟩ | exact ⟨by omega, by assumption, by omega⟩) | (rcases hb with hb | hb <;> (subst hb; first | exact ⟨by omega, fun hh => by have := hfz.lt hh; omega, by omega⟩ | exact ⟨by omega, by assumption, by omega⟩))))
                                                              replace k19 := x87.blk
                                                              replace U := U.st x87 (.inr f19)
                                                              refine ⟨.inl rfl, ?_⟩
                                                              replace k19 := Blk.fco (q := _) k19
                                                              refine p_nil ?_
                                                              refine hK82 _ _ ?_
                                                              refine fg4 0 2 4 5 (gS rfl (gS rfl (gS rfl (gS rfl (gS rfl (gS rfl (gS rfl (gS rfl (gS rfl (gS rfl (gS rfl (gS rfl g0)))))))))))) (gS rfl (gS rfl (gS rfl (gS rfl (gS rfl (gS rfl (gS rfl (gS rfl (gS rfl (gS rfl (gS rfl g0))))))))))) (gS rfl (gS rfl (gS rfl (gS rfl (gS rfl (gS rfl (gS rfl (gS rfl (gS rfl g0))))))))) (gS rfl (gS rfl (gS rfl (gS rfl (gS rfl (gS rfl (gS rfl (gS rfl g0)))))))) (fun g => ?_)
                                                              refine c_seq (fun K88 hK88 => ?_)
                                                              exact (by
                                                                refine c_region ?_
                                                                refine l_step (y_moveV (et (gS rfl (gS rfl g0)) rfl)) ?_
                                                                refine l_step (y_nil (et g0 rfl)) ?_
                                                                refine l_step (y_fld fld_71_15 (et g0 rfl)) ?_
                                                                refine l_effN (e_store sz_60 (et g0 rfl) (cellsV rfl rfl) rfl (by intro v hv; simp at hv; subst hv; rfl) hX.ex.vl.kC (by rw [hX.ex.vl.size]; omega)) (fun v89 w89 h89 => ?_)
                                                                obtain ⟨rfl, x89⟩ := h89
                                                                have hv89 := hX.stOO hsf2 hph2 (p := 0) (by omega) (by omega) x89
                                                                replace k9 := k9.ch x89.ch (by intro hm; first | omega | (subst hm; omega))
                                                                replace k19 := k19.ch x89.ch (by intro hm; first | omega | (subst hm; omega))
                                                                replace k23 := k23.ch x89.ch (by intro hm; first | omega | (subst hm; omega))
                                                                replace hX := hv89
                                                                replace U := U.cc x89.ch (by intro b hb; exact .inl trivial)
                                                                obtain ⟨f4, hf4⟩ : ∃ f4 : YF, f4 = { f2 with outOff := 0 } := ⟨_, rfl⟩
                                                                obtain ⟨s4, hs4⟩ : ∃ s4 : YSt, s4 = { s2 with frames := low ++ [f4] } := ⟨_, rfl⟩
                                                                replace hX := hX.reS (show s4 = { s2 with frames := low ++ [{ f2 with outOff := 0 }] } by rw [hs4, hf4])
                                                                have hsf4 : s4.frames = low ++ [f4] := by rw [hs4]
                                                                have hph4 : s4.phase = 1 := by rw [hs4]; exact hph2
                                                                have hsk4 : f4.stack = f.stack := by first | (rw [hf4]; done) | (rw [hf4]; exact hsk2)
                                                                refine l_nil ?_
                                                                refine hK88 _ _ ?_
                                                                refine fg4 0 2 4 5 (gS rfl (gS rfl (gS rfl (gS rfl (gS rfl (gS rfl g0)))))) (gS rfl (gS rfl (gS rfl (gS rfl (gS rfl g0))))) (gS rfl (gS rfl (gS rfl (gS rfl g0)))) (gS rfl (gS rfl (gS rfl g0))) (fun g => ?_)
                                                                refine c_seq (fun K90 hK90 => ?_)
                                                                exact (by
                                                                  refine c_region ?_
                                                                  refine l_step (y_moveV (et (gS rfl (gS rfl g0)) rfl)) ?_
                                                                  refine l_step (y_nil (et g0 rfl)) ?_
                                                                  refine l_step (y_fld fld_71_16 (et g0 rfl)) ?_
                                                                  refine l_effN (e_store sz_60 (et g0 rfl) (cellsV rfl rfl) rfl (by intro v hv; simp at hv; subst hv; rfl) hX.ex.vl.kC (by rw [hX.ex.vl.size]; omega)) (fun v91 w91 h91 => ?_)
                                                                  obtain ⟨rfl, x91⟩ := h91
                                                                  have hv91 := hX.stOL hsf4 hph4 (p := 0) (by omega) (by omega) x91
                                                                  replace k9 := k9.ch x91.ch (by intro hm; first | omega | (subst hm; omega))
                                                                  replace k19 := k19.ch x91.ch (by intro hm; first | omega | (subst hm; omega))
                                                                  replace k23 := k23.ch x91.ch (by intro hm; first | omega | (subst hm; omega))
                                                                  replace hX := hv91
                                                                  replace U := U.cc x91.ch (by intro b hb; exact .inl trivial)
                                                                  obtain ⟨f5, hf5⟩ : ∃ f5 : YF, f5 = { f4 with outLen := 0 } := ⟨_, rfl⟩
                                                                  obtain ⟨s5, hs5⟩ : ∃ s5 : YSt, s5 = { s4 with frames := low ++ [f5] } := ⟨_, rfl⟩
                                                                  replace hX := hX.reS (show s5 = { s4 with frames := low ++ [{ f4 with outLen := 0 }] } by rw [hs5, hf5])
                                                                  have hsf5 : s5.frames = low ++ [f5] := by rw [hs5]
                                                                  have hph5 : s5.phase = 1 := by rw [hs5]; exact hph4
                                                                  have hsk5 : f5.stack = f.stack := by first | (rw [hf5]; done) | (rw [hf5]; exact hsk4)
                                                                  have hnw4 := hX.ex.vl.new
                                                                  have hfz4 := hX.ex.vl.fz
                                                                  refine l_nil ?_
                                                                  refine hK90 _ _ ?_
                                                                  refine fg4 0 2 4 5 (gS rfl (gS rfl (gS rfl (gS rfl (gS rfl (gS rfl g0)))))) (gS rfl (gS rfl (gS rfl (gS rfl (gS rfl g0))))) (gS rfl (gS rfl (gS rfl (gS rfl g0)))) (gS rfl (gS rfl (gS rfl g0))) (fun g => ?_)
                                                                  refine c_seq (fun K92 hK92 => ?_)
                                                                  refine c_seq (fun K93 hK93 => ?_)
                                                                  exact (by
                                                                    refine c_region ?_
                                                                    refine l_step (y_moveV (et (gS rfl (gS rfl (gS rfl g0))) rfl)) ?_
                                                                    refine l_step (y_moveV (et (gS rfl (gS rfl (gS rfl g0))) rfl)) ?_
                                                                    refine l_step (y_moveV (et (gS rfl (gS rfl g0)) rfl)) ?_
                                                                    refine l_step (y_add (et g0 rfl) rfl (addIN (x := 2) (y := 3) ?_)) ?_
                                                                    omega
                                                                    have hB5 := hX.ex.fbT hsf5
                                                                    refine l_eff (e_callV cal_264 (aC (et (gS rfl (gS rfl (gS rfl g0))) rfl) (aC (et (gS rfl (gS rfl g0)) rfl) (aC (et g0 rfl) aN))) (m_arg hX.ex hsf5 hph5 rfl (2 + 3) (by decide))) (fun v94 w94 h94 => ?_)
                                                                    obtain ⟨rfl, u94⟩ := h94
                                                                    replace k9 := k9.up u94
                                                                    replace k19 := k19.up u94
                                                                    replace k23 := k23.up u94
                                                                    replace hX := hX.up u94
                                                                    replace U := U.tr u94
                                                                    have hnw4 := hX.ex.vl.new
                                                                    have hfz4 := hX.ex.vl.fz
                                                                    refine l_eff (e_alloc zr_65) (fun v95 w95 h95 => ?_)
                                                                    obtain ⟨b95, rfl, n95⟩ := h95
                                                                    have d9_95 : b9 < b95 := Nat.lt_of_lt_of_le k9.lt n95.fresh
                                                                    have d19_95 : b19 < b95 := Nat.lt_of_lt_of_le k19.lt n95.fresh
                                                                    have d23_95 : b23 < b95 := Nat.lt_of_lt_of_le k23.lt n95.fresh
                                                                    have f95 : w.heap.size ≤ b95 := Nat.le_trans U.size n95.fresh
                                                                    replace k9 := k9.up n95.up
                                                                    replace k19 := k19.up n95.up
                                                                    replace k23 := k23.up n95.up
                                                                    replace hX := hX.up n95.up
                                                                    replace U := U.tr n95.up
                                                                    have k95 := n95.blk
                                                                    obtain ⟨zs95, hz95, k95⟩ : ∃ cs : Array Value, cs.size = 4 ∧ Blk w95 b95 cs := ⟨_, rfl, k95⟩
                                                                    have nc95 := hnw4 b95 n95.fresh
                                                                    have nh95 : ¬ H86.has b95 := fun hh => by have h9 := hfz4.lt hh; have h8 := n95.fresh; omega
                                                                    exact (by
                                                                      refine l_effN (e_store sz_65 (et g0 rfl) (cellsV (et (gS rfl g0) rfl) rfl) rfl (by exact one_uL _) k95 (by (first | (rw [hz95]; exact Nat.le_refl _) | (rw [List.size_toArray, wL_len]; exact Nat.le_refl _)))) (fun v96 w96 h96 => ?_)
                                                                      obtain ⟨rfl, x96⟩ := h96
                                                                      replace k9 := k9.ch x96.ch (by omega)
                                                                      replace k19 := k19.ch x96.ch (by omega)
                                                                      replace k23 := k23.ch x96.ch (by omega)
                                                                      replace hX := hX.ch x96.ch (by first | omega | (intro b hb; first | (subst hb; first | exact ⟨by omega, fun hh => by have := hfz.lt hh; omega, by omega⟩ | exact ⟨by omega, by assumption, by omega⟩) | (rcases hb with hb | hb <;> (subst hb; first | exact ⟨by omega, fun hh => by have := hfz.lt hh; omega, by omega⟩ | exact ⟨by omega, by assumption, by omega⟩))))
                                                                      replace k95 := x96.blk.full (by first | (rw [hz95]; rfl) | (rw [List.size_toArray, wL_len, wL_len]))
                                                                      replace U := U.st x96 (.inr f95)
                                                                      refine l_nil ?_
                                                                      refine hK93 _ _ ?_
                                                                      refine fg5 0 2 4 5 9 (gS rfl (gS rfl (gS rfl (gS rfl (gS rfl (gS rfl (gS rfl (gS rfl (gS rfl g0))))))))) (gS rfl (gS rfl (gS rfl (gS rfl (gS rfl (gS rfl (gS rfl (gS rfl g0)))))))) (gS rfl (gS rfl (gS rfl (gS rfl (gS rfl (gS rfl (gS rfl g0))))))) (gS rfl (gS rfl (gS rfl (gS rfl (gS rfl (gS rfl g0)))))) g0 (fun g => ?_)
                                                                      refine c_seq (fun K97 hK97 => ?_)
                                                                      exact (by
                                                                        refine c_region ?_
                                                                        refine l_step (y_loadB agg_65 sz_65 (et g0 rfl) rfl (at1B k95)) ?_
                                                                        refine l_eff (e_callV cal_78 (aC (et g0 rfl) aN) (isZero_spec _ _ (argN_lt hB5 _))) (fun v98 w98 h98 => ?_)
                                                                        obtain ⟨rfl, u98⟩ := h98
                                                                        replace k9 := k9.up u98
                                                                        replace k19 := k19.up u98
                                                                        replace k23 := k23.up u98
                                                                        replace k95 := k95.up u98
                                                                        replace hX := hX.up u98
                                                                        replace U := U.tr u98
                                                                        refine l_step (y_not (et g0 rfl)) ?_
                                                                        refine l_nil ?_
                                                                        refine hK97 _ _ ?_
                                                                        refine fg6 0 2 4 5 9 187 (gS rfl (gS rfl (gS rfl (gS rfl (gS rfl (gS rfl (gS rfl g0))))))) (gS rfl (gS rfl (gS rfl (gS rfl (gS rfl (gS rfl g0)))))) (gS rfl (gS rfl (gS rfl (gS rfl (gS rfl g0))))) (gS rfl (gS rfl (gS rfl (gS rfl g0)))) (gS rfl (gS rfl (gS rfl g0))) g0 (fun g => ?_)
                                                                        refine c_cond (et g0 rfl) (fun cB11 => ?_) (fun cB11 => ?_)
                                                                        · skip
                                                                          rw [hsk5] at cB11
                                                                          have hn0 : argN f.stack (2 + 3) ≠ 0 := by simpa using cB11
                                                                          have hou := hout hn0
                                                                          rw [hsk5] at k95
                                                                          refine c_seq (fun K100 hK100 => ?_)
                                                                          exact (by
                                                                            refine c_region ?_
                                                                            refine l_step (y_moveV (et (gS rfl (gS rfl (gS rfl (gS rfl g0)))) rfl)) ?_
                                                                            refine l_step (y_moveV (et (gS rfl (gS rfl (gS rfl (gS rfl (gS rfl (gS rfl g0)))))) rfl)) ?_
                                                                            refine l_step (y_moveV (et (gS rfl (gS rfl (gS rfl (gS rfl (gS rfl (gS rfl g0)))))) rfl)) ?_
                                                                            refine l_step (y_moveV (et (gS rfl (gS rfl (gS rfl (gS rfl (gS rfl g0))))) rfl)) ?_
                                                                            refine l_step (y_add (et g0 rfl) rfl (addIN (x := 2) (y := 2) ?_)) ?_
                                                                            omega
                                                                            refine l_eff (e_callV cal_264 (aC (et (gS rfl (gS rfl (gS rfl g0))) rfl) (aC (et (gS rfl (gS rfl g0)) rfl) (aC (et g0 rfl) aN))) (m_arg hX.ex hsf5 hph5 rfl (2 + 2) (by decide))) (fun v101 w101 h101 => ?_)
                                                                            obtain ⟨rfl, u101⟩ := h101
                                                                            replace k9 := k9.up u101
                                                                            replace k19 := k19.up u101
                                                                            replace k23 := k23.up u101
                                                                            replace k95 := k95.up u101
                                                                            replace hX := hX.up u101
                                                                            replace U := U.tr u101
                                                                            refine l_eff (e_callV cal_299 (aC (et g0 rfl) aN) (m_small _ _ (by rw [hsk5]; omega))) (fun v102 w102 h102 => ?_)
                                                                            obtain ⟨rfl, u102⟩ := h102
                                                                            replace k9 := k9.up u102
                                                                            replace k19 := k19.up u102
                                                                            replace k23 := k23.up u102
                                                                            replace k95 := k95.up u102
                                                                            replace hX := hX.up u102
                                                                            replace U := U.tr u102
                                                                            refine l_step (y_nil (et (gS rfl (gS rfl (gS rfl (gS rfl (gS rfl (gS rfl g0)))))) rfl)) ?_
                                                                            refine l_step (y_fld fld_71_15 (et g0 rfl)) ?_
                                                                            refine l_effN (e_store sz_60 (et g0 rfl) (cellsV (et (gS rfl (gS rfl g0)) rfl) rfl) rfl (by intro v hv; simp at hv; subst hv; rfl) hX.ex.vl.kC (by rw [hX.ex.vl.size]; omega)) (fun v103 w103 h103 => ?_)
                                                                            obtain ⟨rfl, x103⟩ := h103
                                                                            rw [hsk5] at x103
                                                                            have hv103 := hX.stOO hsf5 hph5 (p := argN f.stack (2 + 2)) (by omega) (by omega) x103
                                                                            replace k9 := k9.ch x103.ch (by intro hm; first | omega | (subst hm; omega))
                                                                            replace k19 := k19.ch x103.ch (by intro hm; first | omega | (subst hm; omega))
                                                                            replace k23 := k23.ch x103.ch (by intro hm; first | omega | (subst hm; omega))
                                                                            replace k95 := k95.ch x103.ch (by intro hm; first | omega | (subst hm; omega))
                                                                            replace hX := hv103
                                                                            replace U := U.cc x103.ch (by intro b hb; exact .inl trivial)
                                                                            obtain ⟨f6, hf6⟩ : ∃ f6 : YF, f6 = { f5 with outOff := argN f.stack (2 + 2) } := ⟨_, rfl⟩
                                                                            obtain ⟨s6, hs6⟩ : ∃ s6 : YSt, s6 = { s5 with frames := low ++ [f6] } := ⟨_, rfl⟩
                                                                            replace hX := hX.reS (show s6 = { s5 with frames := low ++ [{ f5 with outOff := argN f.stack (2 + 2) }] } by rw [hs6, hf6])
                                                                            have hsf6 : s6.frames = low ++ [f6] := by rw [hs6]
                                                                            have hph6 : s6.phase = 1 := by rw [hs6]; exact hph5
                                                                            have hsk6 : f6.stack = f.stack := by first | (rw [hf6]; done) | (rw [hf6]; exact hsk5)
                                                                            refine l_nil ?_
                                                                            refine hK100 _ _ ?_
                                                                            refine fg5 0 2 4 5 9 (gS rfl (gS rfl (gS rfl (gS rfl (gS rfl (gS rfl (gS rfl (gS rfl (gS rfl (gS rfl (gS rfl (gS rfl (gS rfl (gS rfl g0)))))))))))))) (gS rfl (gS rfl (gS rfl (gS rfl (gS rfl (gS rfl (gS rfl (gS rfl (gS rfl (gS rfl (gS rfl (gS rfl (gS rfl g0))))))))))))) (gS rfl (gS rfl (gS rfl (gS rfl (gS rfl (gS rfl (gS rfl (gS rfl (gS rfl (gS rfl (gS rfl (gS rfl g0)))))))))))) (gS rfl (gS rfl (gS rfl (gS rfl (gS rfl (gS rfl (gS rfl (gS rfl (gS rfl (gS rfl (gS rfl g0))))))))))) (gS rfl (gS rfl (gS rfl (gS rfl (gS rfl (gS rfl (gS rfl (gS rfl (gS rfl (gS rfl g0)))))))))) (fun g => ?_)
                                                                            refine c_region ?_
                                                                            exact (by
                                                                              refine l_step (y_moveV (et (gS rfl (gS rfl (gS rfl g0))) rfl)) ?_
                                                                              refine l_step (y_loadB agg_65 sz_65 (et (gS rfl g0) rfl) rfl (at1B k95)) ?_
                                                                              refine l_eff (e_callV cal_299 (aC (et g0 rfl) aN) (m_small _ _ (by omega))) (fun v104 w104 h104 => ?_)
                                                                              obtain ⟨rfl, u104⟩ := h104
                                                                              replace k9 := k9.up u104
                                                                              replace k19 := k19.up u104
                                                                              replace k23 := k23.up u104
                                                                              replace k95 := k95.up u104
                                                                              replace hX := hX.up u104
                                                                              replace U := U.tr u104
                                                                              refine l_step (y_nil (et (gS rfl (gS rfl g0)) rfl)) ?_
                                                                              refine l_step (y_fld fld_71_16 (et g0 rfl)) ?_
                                                                              refine l_effN (e_store sz_60 (et g0 rfl) (cellsV (et (gS rfl (gS rfl g0)) rfl) rfl) rfl (by intro v hv; simp at hv; subst hv; rfl) hX.ex.vl.kC (by rw [hX.ex.vl.size]; omega)) (fun v105 w105 h105 => ?_)
                                                                              obtain ⟨rfl, x105⟩ := h105
                                                                              have hv105 := hX.stOL hsf6 hph6 (p := argN f.stack (2 + 3)) (by omega) (by omega) x105
                                                                              replace k9 := k9.ch x105.ch (by intro hm; first | omega | (subst hm; omega))
                                                                              replace k19 := k19.ch x105.ch (by intro hm; first | omega | (subst hm; omega))
                                                                              replace k23 := k23.ch x105.ch (by intro hm; first | omega | (subst hm; omega))
                                                                              replace k95 := k95.ch x105.ch (by intro hm; first | omega | (subst hm; omega))
                                                                              replace hX := hv105
                                                                              replace U := U.cc x105.ch (by intro b hb; exact .inl trivial)
                                                                              obtain ⟨f7, hf7⟩ : ∃ f7 : YF, f7 = { f6 with outLen := argN f.stack (2 + 3) } := ⟨_, rfl⟩
                                                                              obtain ⟨s7, hs7⟩ : ∃ s7 : YSt, s7 = { s6 with frames := low ++ [f7] } := ⟨_, rfl⟩
                                                                              replace hX := hX.reS (show s7 = { s6 with frames := low ++ [{ f6 with outLen := argN f.stack (2 + 3) }] } by rw [hs7, hf7])
                                                                              have hsf7 : s7.frames = low ++ [f7] := by rw [hs7]
                                                                              have hph7 : s7.phase = 1 := by rw [hs7]; exact hph6
                                                                              have hsk7 : f7.stack = f.stack := by first | (rw [hf7]; done) | (rw [hf7]; exact hsk6)
                                                                              refine l_nil ?_
                                                                              refine hK92 _ _ ?_
                                                                              refine fg4 0 2 4 5 (gS rfl (gS rfl (gS rfl (gS rfl (gS rfl (gS rfl (gS rfl (gS rfl (gS rfl g0))))))))) (gS rfl (gS rfl (gS rfl (gS rfl (gS rfl (gS rfl (gS rfl (gS rfl g0)))))))) (gS rfl (gS rfl (gS rfl (gS rfl (gS rfl (gS rfl (gS rfl g0))))))) (gS rfl (gS rfl (gS rfl (gS rfl (gS rfl (gS rfl g0)))))) (fun g => ?_)
                                                                              refine c_seq (fun K106 hK106 => ?_)
                                                                              exact (by
                                                                                refine c_region ?_
                                                                                refine l_step (y_moveV (et (gS rfl (gS rfl (gS rfl g0))) rfl)) ?_
                                                                                refine l_step (y_moveV (et (gS rfl (gS rfl (gS rfl g0))) rfl)) ?_
                                                                                refine l_step (y_moveV (et (gS rfl (gS rfl g0)) rfl)) ?_
                                                                                refine l_step (y_add (et g0 rfl) rfl (addIN (x := 2) (y := 4) ?_)) ?_
                                                                                omega
                                                                                refine l_step (y_conv Hvaa.underlying3 Hvaa.underlying67 (et g0 rfl) (wrapU_id uk16 ?_)) ?_
                                                                                omega
                                                                                refine l_step (y_bld bN bld65_z) ?_
                                                                                refine l_eff (e_callV cal_259 (aC (et (gS rfl (gS rfl (gS rfl (gS rfl (gS rfl g0))))) rfl) (aC (et (gS rfl (gS rfl (gS rfl (gS rfl g0)))) rfl) (aC (et (gS rfl g0) rfl) (aC rfl (aC (et g0 rfl) (aC (v := .int .u16 ((0 : Nat) : Int)) rfl aN)))))) (m_settle0 hX.ex hsf7 hph7 rfl 6 0 0 (by rw [hsk7]; omega) (by decide) (by rw [hf7, hf6, hf5, hf4, hf2]; show f.pc + 0 ≤ 560; omega))) (fun v107 w107 h107 => ?_)
                                                                                obtain ⟨rfl, cs107, y107⟩ := h107
                                                                                replace k9 := k9.ch y107.et.go.ch (by intro hm; (have e0 := hm); omega)
                                                                                replace k19 := k19.ch y107.et.go.ch (by intro hm; (have e0 := hm); omega)
                                                                                replace k23 := k23.ch y107.et.go.ch (by intro hm; (have e0 := hm); omega)
                                                                                replace k95 := k95.ch y107.et.go.ch (by intro hm; (have e0 := hm); omega)
                                                                                replace hX := hX.trans y107
                                                                                replace U := U.cc y107.et.go.ch (by intro b hb; exact .inl trivial)
                                                                                have ew : setF f7 6 false 0 0 = cWait f 250 := by rw [hf7, hf6, hf5, hf4, hf2]; exact cwait_1 (q := 250) (tk := 6) (i := 2) (show tkN 250 = 6 from rfl) rfl hn0
                                                                                rw [ew] at hX
                                                                                obtain ⟨s9, hs9⟩ : ∃ s9 : YSt, s9 = { cS { s with ret := [] } f with frames := low ++ [cWait f 250] } := ⟨_, rfl⟩
                                                                                replace hX := hX.reS (show s9 = { s7 with frames := low ++ [cWait f 250] } by rw [hs9, hs7, hs6, hs5, hs4, hs2, hs1, hs0])
                                                                                have hac9 : s9.now.accts = s.now.accts := by rw [hs9]; rfl
                                                                                refine l_nil ?_
                                                                                refine hK106 _ _ ?_
                                                                                refine fg2 0 4 (gS rfl (gS rfl (gS rfl (gS rfl (gS rfl (gS rfl (gS rfl (gS rfl (gS rfl (gS rfl g0)))))))))) (gS rfl (gS rfl (gS rfl (gS rfl (gS rfl (gS rfl (gS rfl (gS rfl g0)))))))) (fun g => ?_)
                                                                                refine c_region ?_
                                                                                refine l_step (y_moveV (et (gS rfl g0) rfl)) ?_
                                                                                rw [hac2] at k19
                                                                                have euu : (cChild { s with ret := [] } f 250) = { cFr 4 true 0 (ctT f) f.self (cG f 250) (natAt (ctT f)) [] [] with code := cCode { s with ret := [] } f, input := (rdN f.mem (argN f.stack 2) (argN f.stack (2 + 1))) } := rfl
                                                                                have ecd : cCode { s with ret := [] } f = (acctAt s.now.accts (ctT f)).code := if_pos hnt
                                                                                have hbc : BV H86 (.slice ca9 (cChild { s with ret := [] } f 250).code.length cc9) (cChild { s with ret := [] } f 250).code := by
                                                                                  show BV _ (.slice ca9 (cCode { s with ret := [] } f).length cc9) (cCode { s with ret := [] } f)
                                                                                  rw [ecd]
                                                                                  exact bv9
                                                                                have hbi : BV H86 (.slice ca7 (cChild { s with ret := [] } f 250).input.length cc7) (cChild { s with ret := [] } f 250).input := (bv7.mono g86.le)
                                                                                replace k19 : Blk w107 b19 (fcv (cChild { s with ret := [] } f 250) (.slice ca9 (cChild { s with ret := [] } f 250).code.length cc9) (.slice ca7 (cChild { s with ret := [] } f 250).input.length cc7) 0 0 0 (List.replicate 8 0)).toArray := by
                                                                                  show Blk _ _ (fcv (cChild { s with ret := [] } f 250) (.slice ca9 (cCode { s with ret := [] } f).length cc9) (.slice ca7 (rdN f.mem (argN f.stack 2) (argN f.stack (2 + 1))).length cc7) 0 0 0 (List.replicate 8 0)).toArray
                                                                                  rw [ecd, euu, fcv_ci]
                                                                                  exact k19
                                                                                have hU : EFB (cChild { s with ret := [] } f 250) := ⟨by show 4 < 8; decide, natAt_lt _, Nat.zero_le _, Nat.zero_le _, fun _ h => absurd h (List.not_mem_nil), by show cG f 250 ≤ 1048576; omega, by show (ctT f) < A160; exact (Nat.mod_lt _ A160_pos), by show f.self < A160; exact hB.self, by show 0 < W256; exact (by decide), by show (cCode { s with ret := [] } f).length ≤ 512; rw [ecd]; exact hcl, by show (rdN f.mem (argN f.stack 2) (argN f.stack (2 + 1))).length ≤ 717280; exact hrl, Nat.zero_le _, Nat.zero_le _, hbc.dig, hbi.dig⟩
                                                                                have hmk : 100 * V15.marks.length + (gasS s9 + (c1 + (sentN f.gas (argN f.stack 0)))) ≤ 1048576 := by
                                                                                  rw [hmr, hs9, gas_top (s := { cS { s with ret := [] } f with frames := low ++ [cWait f 250] }) (low := low) (f := cWait f 250) rfl]
                                                                                  have h8 := hE.px.pot.m
                                                                                  rw [gas_top hs] at h8
                                                                                  show 100 * V.marks.length + ((low.map (·.gas)).sum + (f.gas - (sentN f.gas (argN f.stack 0))) + (c1 + (sentN f.gas (argN f.stack 0)))) ≤ _
                                                                                  omega
                                                                                have hcc := call_slack f 250 (by decide) hc3 (by intro h _ _; exact h)
                                                                                have hle : (cChild { s with ret := [] } f 250).kind ≠ 3 → (cChild { s with ret := [] } f 250).kind ≠ 7 → (cChild { s with ret := [] } f 250).value ≤ (acctAt (entA1 s9.now (cChild { s with ret := [] } f 250)) (cChild { s with ret := [] } f 250).caller).bal := by
                                                                                  intro h1 h2
                                                                                  rw [show entA1 s9.now (cChild { s with ret := [] } f 250) = s9.now.accts from if_neg (by show ¬ crN 4 = true; decide), hac9]
                                                                                  exact Nat.zero_le _
                                                                                have hov9 : (cChild { s with ret := [] } f 250).kind ≠ 3 → (cChild { s with ret := [] } f 250).kind ≠ 7 → (cChild { s with ret := [] } f 250).value ≠ 0 → (acctAt (takeB (entA1 s9.now (cChild { s with ret := [] } f 250)) (cChild { s with ret := [] } f 250).caller (cChild { s with ret := [] } f 250).value) (cChild { s with ret := [] } f 250).self).bal + (cChild { s with ret := [] } f 250).value < W256 := by
                                                                                  intro h1 h2 h3
                                                                                  rw [show entA1 s9.now (cChild { s with ret := [] } f 250) = s9.now.accts from if_neg (by show ¬ crN 4 = true; decide), hac9]
                                                                                  exact absurd rfl h3
                                                                                have hph9 : s9.phase = 1 := by rw [hs9]; exact hp
                                                                                have hap9 : s9.applied ≤ 4 := by rw [hs9]; exact hap
                                                                                have hl9 : s9.frames.length ≤ 6 := by rw [hs9]; show (low ++ [_]).length ≤ 6; rw [List.length_append, List.length_singleton]; omega
                                                                                have hm9 : ms.length ≤ 6 := by rw [hms, List.length_map, List.length_append, List.length_singleton]; omega
                                                                                refine l_step (y_loadB agg_71 sz_71 (et (gS rfl g0) rfl) (by rw [List.size_toArray, fcv_len rfl]) (at1B k19)) ?_
                                                                                exact (by
                                                                                  refine l_eff (e_callV cal_105 (aC (et (gS rfl g0) rfl) (aC (et g0 rfl) aN)) (m_enter hX.ex (by omega) hl9 hm9 (u := (cChild { s with ret := [] } f 250)) hbc hbi hU rfl (c' := c') hap9 hmk hcc hht hhf.1 hle hov9 (hX.ex.limR hph9) (hX.ex.madR hph9) (hX.ex.orgR hph9))) (fun v108 w108 h108 => ?_)
                                                                                  obtain ⟨rfl, cl108, cs108, V108, y108⟩ := h108
                                                                                  replace k9 := k9.ch y108.et.go.ch (by intro hm; (have e0 := hm); omega)
                                                                                  replace k19 := k19.ch y108.et.go.ch (by intro hm; (have e0 := hm); omega)
                                                                                  replace k23 := k23.ch y108.et.go.ch (by intro hm; (have e0 := hm); omega)
                                                                                  replace k95 := k95.ch y108.et.go.ch (by intro hm; (have e0 := hm); omega)
                                                                                  replace hX := hX.trans y108
                                                                                  replace U := U.cc y108.et.go.ch (by intro b hb; exact .inl trivial)
                                                                                  refine l_nil ?_
                                                                                  refine end0 rfl ?_
                                                                                  have hnf : ¬ cFail { s with ret := [] } f 250 low.length := by
                                                                                    intro h9
                                                                                    rcases h9 with h9 | h9
                                                                                    · exact hd6 h9
                                                                                    · exact hfb h9
                                                                                  rw [show callY { s with ret := [] } f 250 low = entY { cS { s with ret := [] } f with frames := low ++ [cWait f 250] } (cChild { s with ret := [] } f 250) from if_neg hnf]
                                                                                  rw [hs9] at hX
                                                                                  rw [show ({ entY { cS { s with ret := [] } f with frames := low ++ [cWait f 250] } (cChild { s with ret := [] } f 250) with phase := 1 } : YSt) = entY { cS { s with ret := [] } f with frames := low ++ [cWait f 250] } (cChild { s with ret := [] } f 250) from ph1 hp] at hX
                                                                                  refine ⟨rfl, XO.of hX ?_⟩
                                                                                  rw [hms]
                                                                                  show _ = ((low ++ [cWait f 250]) ++ [_]).map _
                                                                                  rw [List.map_append, List.map_append, List.map_append]
                                                                                  rfl))))
                                                                        · skip
                                                                          rw [hsk5] at cB11
                                                                          have hn0 : argN f.stack (2 + 3) = 0 := by simpa using cB11
                                                                          refine c_skip ?_
                                                                          refine hK92 _ _ ?_
                                                                          refine fg4 0 2 4 5 (gS rfl (gS rfl (gS rfl (gS rfl (gS rfl g0))))) (gS rfl (gS rfl (gS rfl (gS rfl g0)))) (gS rfl (gS rfl (gS rfl g0))) (gS rfl (gS rfl g0)) (fun g => ?_)
                                                                          refine c_seq (fun K109 hK109 => ?_)
                                                                          exact (by
                                                                            refine c_region ?_
                                                                            refine l_step (y_moveV (et (gS rfl (gS rfl (gS rfl g0))) rfl)) ?_
                                                                            refine l_step (y_moveV (et (gS rfl (gS rfl (gS rfl g0))) rfl)) ?_
                                                                            refine l_step (y_moveV (et (gS rfl (gS rfl g0)) rfl)) ?_
                                                                            refine l_step (y_add (et g0 rfl) rfl (addIN (x := 2) (y := 4) ?_)) ?_
                                                                            omega
                                                                            refine l_step (y_conv Hvaa.underlying3 Hvaa.underlying67 (et g0 rfl) (wrapU_id uk16 ?_)) ?_
                                                                            omega
                                                                            refine l_step (y_bld bN bld65_z) ?_
                                                                            refine l_eff (e_callV cal_259 (aC (et (gS rfl (gS rfl (gS rfl (gS rfl (gS rfl g0))))) rfl) (aC (et (gS rfl (gS rfl (gS rfl (gS rfl g0)))) rfl) (aC (et (gS rfl g0) rfl) (aC rfl (aC (et g0 rfl) (aC (v := .int .u16 ((0 : Nat) : Int)) rfl aN)))))) (m_settle0 hX.ex hsf5 hph5 rfl 6 0 0 (by rw [hsk5]; omega) (by decide) (by rw [hf5, hf4, hf2]; show f.pc + 0 ≤ 560; omega))) (fun v110 w110 h110 => ?_)
                                                                            obtain ⟨rfl, cs110, y110⟩ := h110
                                                                            replace k9 := k9.ch y110.et.go.ch (by intro hm; (have e0 := hm); omega)
                                                                            replace k19 := k19.ch y110.et.go.ch (by intro hm; (have e0 := hm); omega)
                                                                            replace k23 := k23.ch y110.et.go.ch (by intro hm; (have e0 := hm); omega)
                                                                            replace k95 := k95.ch y110.et.go.ch (by intro hm; (have e0 := hm); omega)
                                                                            replace hX := hX.trans y110
                                                                            replace U := U.cc y110.et.go.ch (by intro b hb; exact .inl trivial)
                                                                            have ew : setF f5 6 false 0 0 = cWait f 250 := by rw [hf5, hf4, hf2]; exact cwait_0 (q := 250) (tk := 6) (i := 2) (show tkN 250 = 6 from rfl) rfl hn0
                                                                            rw [ew] at hX
                                                                            obtain ⟨s9, hs9⟩ : ∃ s9 : YSt, s9 = { cS { s with ret := [] } f with frames := low ++ [cWait f 250] } := ⟨_, rfl⟩
                                                                            replace hX := hX.reS (show s9 = { s5 with frames := low ++ [cWait f 250] } by rw [hs9, hs5, hs4, hs2, hs1, hs0])
                                                                            have hac9 : s9.now.accts = s.now.accts := by rw [hs9]; rfl
                                                                            refine l_nil ?_
                                                                            refine hK109 _ _ ?_
                                                                            refine fg2 0 4 (gS rfl (gS rfl (gS rfl (gS rfl (gS rfl (gS rfl (gS rfl (gS rfl (gS rfl (gS rfl g0)))))))))) (gS rfl (gS rfl (gS rfl (gS rfl (gS rfl (gS rfl (gS rfl (gS rfl g0)))))))) (fun g => ?_)
                                                                            refine c_region ?_
                                                                            refine l_step (y_moveV (et (gS rfl g0) rfl)) ?_
                                                                            rw [hac2] at k19
                                                                            have euu : (cChild { s with ret := [] } f 250) = { cFr 4 true 0 (ctT f) f.self (cG f 250) (natAt (ctT f)) [] [] with code := cCode { s with ret := [] } f, input := (rdN f.mem (argN f.stack 2) (argN f.stack (2 + 1))) } := rfl
                                                                            have ecd : cCode { s with ret := [] } f = (acctAt s.now.accts (ctT f)).code := if_pos hnt
                                                                            have hbc : BV H86 (.slice ca9 (cChild { s with ret := [] } f 250).code.length cc9) (cChild { s with ret := [] } f 250).code := by
                                                                              show BV _ (.slice ca9 (cCode { s with ret := [] } f).length cc9) (cCode { s with ret := [] } f)
                                                                              rw [ecd]
                                                                              exact bv9
                                                                            have hbi : BV H86 (.slice ca7 (cChild { s with ret := [] } f 250).input.length cc7) (cChild { s with ret := [] } f 250).input := (bv7.mono g86.le)
                                                                            replace k19 : Blk w110 b19 (fcv (cChild { s with ret := [] } f 250) (.slice ca9 (cChild { s with ret := [] } f 250).code.length cc9) (.slice ca7 (cChild { s with ret := [] } f 250).input.length cc7) 0 0 0 (List.replicate 8 0)).toArray := by
                                                                              show Blk _ _ (fcv (cChild { s with ret := [] } f 250) (.slice ca9 (cCode { s with ret := [] } f).length cc9) (.slice ca7 (rdN f.mem (argN f.stack 2) (argN f.stack (2 + 1))).length cc7) 0 0 0 (List.replicate 8 0)).toArray
                                                                              rw [ecd, euu, fcv_ci]
                                                                              exact k19
                                                                            have hU : EFB (cChild { s with ret := [] } f 250) := ⟨by show 4 < 8; decide, natAt_lt _, Nat.zero_le _, Nat.zero_le _, fun _ h => absurd h (List.not_mem_nil), by show cG f 250 ≤ 1048576; omega, by show (ctT f) < A160; exact (Nat.mod_lt _ A160_pos), by show f.self < A160; exact hB.self, by show 0 < W256; exact (by decide), by show (cCode { s with ret := [] } f).length ≤ 512; rw [ecd]; exact hcl, by show (rdN f.mem (argN f.stack 2) (argN f.stack (2 + 1))).length ≤ 717280; exact hrl, Nat.zero_le _, Nat.zero_le _, hbc.dig, hbi.dig⟩
                                                                            have hmk : 100 * V15.marks.length + (gasS s9 + (c1 + (sentN f.gas (argN f.stack 0)))) ≤ 1048576 := by
                                                                              rw [hmr, hs9, gas_top (s := { cS { s with ret := [] } f with frames := low ++ [cWait f 250] }) (low := low) (f := cWait f 250) rfl]
                                                                              have h8 := hE.px.pot.m
                                                                              rw [gas_top hs] at h8
                                                                              show 100 * V.marks.length + ((low.map (·.gas)).sum + (f.gas - (sentN f.gas (argN f.stack 0))) + (c1 + (sentN f.gas (argN f.stack 0)))) ≤ _
                                                                              omega
                                                                            have hcc := call_slack f 250 (by decide) hc3 (by intro h _ _; exact h)
                                                                            have hle : (cChild { s with ret := [] } f 250).kind ≠ 3 → (cChild { s with ret := [] } f 250).kind ≠ 7 → (cChild { s with ret := [] } f 250).value ≤ (acctAt (entA1 s9.now (cChild { s with ret := [] } f 250)) (cChild { s with ret := [] } f 250).caller).bal := by
                                                                              intro h1 h2
                                                                              rw [show entA1 s9.now (cChild { s with ret := [] } f 250) = s9.now.accts from if_neg (by show ¬ crN 4 = true; decide), hac9]
                                                                              exact Nat.zero_le _
                                                                            have hov9 : (cChild { s with ret := [] } f 250).kind ≠ 3 → (cChild { s with ret := [] } f 250).kind ≠ 7 → (cChild { s with ret := [] } f 250).value ≠ 0 → (acctAt (takeB (entA1 s9.now (cChild { s with ret := [] } f 250)) (cChild { s with ret := [] } f 250).caller (cChild { s with ret := [] } f 250).value) (cChild { s with ret := [] } f 250).self).bal + (cChild { s with ret := [] } f 250).value < W256 := by
                                                                              intro h1 h2 h3
                                                                              rw [show entA1 s9.now (cChild { s with ret := [] } f 250) = s9.now.accts from if_neg (by show ¬ crN 4 = true; decide), hac9]
                                                                              exact absurd rfl h3
                                                                            have hph9 : s9.phase = 1 := by rw [hs9]; exact hp
                                                                            have hap9 : s9.applied ≤ 4 := by rw [hs9]; exact hap
                                                                            have hl9 : s9.frames.length ≤ 6 := by rw [hs9]; show (low ++ [_]).length ≤ 6; rw [List.length_append, List.length_singleton]; omega
                                                                            have hm9 : ms.length ≤ 6 := by rw [hms, List.length_map, List.length_append, List.length_singleton]; omega
                                                                            refine l_step (y_loadB agg_71 sz_71 (et (gS rfl g0) rfl) (by rw [List.size_toArray, fcv_len rfl]) (at1B k19)) ?_
                                                                            exact (by
                                                                              refine l_eff (e_callV cal_105 (aC (et (gS rfl g0) rfl) (aC (et g0 rfl) aN)) (m_enter hX.ex (by omega) hl9 hm9 (u := (cChild { s with ret := [] } f 250)) hbc hbi hU rfl (c' := c') hap9 hmk hcc hht hhf.1 hle hov9 (hX.ex.limR hph9) (hX.ex.madR hph9) (hX.ex.orgR hph9))) (fun v111 w111 h111 => ?_)
                                                                              obtain ⟨rfl, cl111, cs111, V111, y111⟩ := h111
                                                                              replace k9 := k9.ch y111.et.go.ch (by intro hm; (have e0 := hm); omega)
                                                                              replace k19 := k19.ch y111.et.go.ch (by intro hm; (have e0 := hm); omega)
                                                                              replace k23 := k23.ch y111.et.go.ch (by intro hm; (have e0 := hm); omega)
                                                                              replace k95 := k95.ch y111.et.go.ch (by intro hm; (have e0 := hm); omega)
                                                                              replace hX := hX.trans y111
                                                                              replace U := U.cc y111.et.go.ch (by intro b hb; exact .inl trivial)
                                                                              refine l_nil ?_
                                                                              refine end0 rfl ?_
                                                                              have hnf : ¬ cFail { s with ret := [] } f 250 low.length := by
                                                                                intro h9
                                                                                rcases h9 with h9 | h9
                                                                                · exact hd6 h9
                                                                                · exact hfb h9
                                                                              rw [show callY { s with ret := [] } f 250 low = entY { cS { s with ret := [] } f with frames := low ++ [cWait f 250] } (cChild { s with ret := [] } f 250) from if_neg hnf]
                                                                              rw [hs9] at hX
                                                                              rw [show ({ entY { cS { s with ret := [] } f with frames := low ++ [cWait f 250] } (cChild { s with ret := [] } f 250) with phase := 1 } : YSt) = entY { cS { s with ret := [] } f with frames := low ++ [cWait f 250] } (cChild { s with ret := [] } f 250) from ph1 hp] at hX
                                                                              refine ⟨rfl, XO.of hX ?_⟩
                                                                              rw [hms]
                                                                              show _ = ((low ++ [cWait f 250]) ++ [_]).map _
                                                                              rw [List.map_append, List.map_append, List.map_append]
                                                                              rfl))))))))
                                                          · skip
                                                            
                                                            have hnt : natAt (ctT f) ≠ 0 := by have := of_decide_eq_false cB10; omega
                                                            refine c_skip ?_
                                                            refine hK82 _ _ ?_
                                                            refine fg4 0 2 4 5 (gS rfl (gS rfl (gS rfl (gS rfl (gS rfl g0))))) (gS rfl (gS rfl (gS rfl (gS rfl g0)))) (gS rfl (gS rfl g0)) (gS rfl g0) (fun g => ?_)
                                                            refine c_seq (fun K112 hK112 => ?_)
                                                            exact (by
                                                              refine c_region ?_
                                                              refine l_step (y_moveV (et (gS rfl (gS rfl g0)) rfl)) ?_
                                                              refine l_step (y_nil (et g0 rfl)) ?_
                                                              refine l_step (y_fld fld_71_15 (et g0 rfl)) ?_
                                                              refine l_effN (e_store sz_60 (et g0 rfl) (cellsV rfl rfl) rfl (by intro v hv; simp at hv; subst hv; rfl) hX.ex.vl.kC (by rw [hX.ex.vl.size]; omega)) (fun v113 w113 h113 => ?_)
                                                              obtain ⟨rfl, x113⟩ := h113
                                                              have hv113 := hX.stOO hsf2 hph2 (p := 0) (by omega) (by omega) x113
                                                              replace k9 := k9.ch x113.ch (by intro hm; first | omega | (subst hm; omega))
                                                              replace k19 := k19.ch x113.ch (by intro hm; first | omega | (subst hm; omega))
                                                              replace k23 := k23.ch x113.ch (by intro hm; first | omega | (subst hm; omega))
                                                              replace hX := hv113
                                                              replace U := U.cc x113.ch (by intro b hb; exact .inl trivial)
                                                              obtain ⟨f4, hf4⟩ : ∃ f4 : YF, f4 = { f2 with outOff := 0 } := ⟨_, rfl⟩
                                                              obtain ⟨s4, hs4⟩ : ∃ s4 : YSt, s4 = { s2 with frames := low ++ [f4] } := ⟨_, rfl⟩
                                                              replace hX := hX.reS (show s4 = { s2 with frames := low ++ [{ f2 with outOff := 0 }] } by rw [hs4, hf4])
                                                              have hsf4 : s4.frames = low ++ [f4] := by rw [hs4]
                                                              have hph4 : s4.phase = 1 := by rw [hs4]; exact hph2
                                                              have hsk4 : f4.stack = f.stack := by first | (rw [hf4]; done) | (rw [hf4]; exact hsk2)
                                                              refine l_nil ?_
                                                              refine hK112 _ _ ?_
                                                              refine fg4 0 2 4 5 (gS rfl (gS rfl (gS rfl (gS rfl (gS rfl (gS rfl g0)))))) (gS rfl (gS rfl (gS rfl (gS rfl (gS rfl g0))))) (gS rfl (gS rfl (gS rfl (gS rfl g0)))) (gS rfl (gS rfl (gS rfl g0))) (fun g => ?_)
                                                              refine c_seq (fun K114 hK114 => ?_)
                                                              exact (by
                                                                refine c_region ?_
                                                                refine l_step (y_moveV (et (gS rfl (gS rfl g0)) rfl)) ?_
                                                                refine l_step (y_nil (et g0 rfl)) ?_
                                                                refine l_step (y_fld fld_71_16 (et g0 rfl)) ?_
                                                                refine l_effN (e_store sz_60 (et g0 rfl) (cellsV rfl rfl) rfl (by intro v hv; simp at hv; subst hv; rfl) hX.ex.vl.kC (by rw [hX.ex.vl.size]; omega)) (fun v115 w115 h115 => ?_)
                                                                obtain ⟨rfl, x115⟩ := h115
                                                                have hv115 := hX.stOL hsf4 hph4 (p := 0) (by omega) (by omega) x115
                                                                replace k9 := k9.ch x115.ch (by intro hm; first | omega | (subst hm; omega))
                                                                replace k19 := k19.ch x115.ch (by intro hm; first | omega | (subst hm; omega))
                                                                replace k23 := k23.ch x115.ch (by intro hm; first | omega | (subst hm; omega))
                                                                replace hX := hv115
                                                                replace U := U.cc x115.ch (by intro b hb; exact .inl trivial)
                                                                obtain ⟨f5, hf5⟩ : ∃ f5 : YF, f5 = { f4 with outLen := 0 } := ⟨_, rfl⟩
                                                                obtain ⟨s5, hs5⟩ : ∃ s5 : YSt, s5 = { s4 with frames := low ++ [f5] } := ⟨_, rfl⟩
                                                                replace hX := hX.reS (show s5 = { s4 with frames := low ++ [{ f4 with outLen := 0 }] } by rw [hs5, hf5])
                                                                have hsf5 : s5.frames = low ++ [f5] := by rw [hs5]
                                                                have hph5 : s5.phase = 1 := by rw [hs5]; exact hph4
                                                                have hsk5 : f5.stack = f.stack := by first | (rw [hf5]; done) | (rw [hf5]; exact hsk4)
                                                                have hnw4 := hX.ex.vl.new
                                                                have hfz4 := hX.ex.vl.fz
                                                                refine l_nil ?_
                                                                refine hK114 _ _ ?_
                                                                refine fg4 0 2 4 5 (gS rfl (gS rfl (gS rfl (gS rfl (gS rfl (gS rfl g0)))))) (gS rfl (gS rfl (gS rfl (gS rfl (gS rfl g0))))) (gS rfl (gS rfl (gS rfl (gS rfl g0)))) (gS rfl (gS rfl (gS rfl g0))) (fun g => ?_)
                                                                refine c_seq (fun K116 hK116 => ?_)
                                                                refine c_seq (fun K117 hK117 => ?_)
                                                                exact (by
                                                                  refine c_region ?_
                                                                  refine l_step (y_moveV (et (gS rfl (gS rfl (gS rfl g0))) rfl)) ?_
                                                                  refine l_step (y_moveV (et (gS rfl (gS rfl (gS rfl g0))) rfl)) ?_
                                                                  refine l_step (y_moveV (et (gS rfl (gS rfl g0)) rfl)) ?_
                                                                  refine l_step (y_add (et g0 rfl) rfl (addIN (x := 2) (y := 3) ?_)) ?_
                                                                  omega
                                                                  have hB5 := hX.ex.fbT hsf5
                                                                  refine l_eff (e_callV cal_264 (aC (et (gS rfl (gS rfl (gS rfl g0))) rfl) (aC (et (gS rfl (gS rfl g0)) rfl) (aC (et g0 rfl) aN))) (m_arg hX.ex hsf5 hph5 rfl (2 + 3) (by decide))) (fun v118 w118 h118 => ?_)
                                                                  obtain ⟨rfl, u118⟩ := h118
                                                                  replace k9 := k9.up u118
                                                                  replace k19 := k19.up u118
                                                                  replace k23 := k23.up u118
                                                                  replace hX := hX.up u118
                                                                  replace U := U.tr u118
                                                                  have hnw4 := hX.ex.vl.new
                                                                  have hfz4 := hX.ex.vl.fz
                                                                  refine l_eff (e_alloc zr_65) (fun v119 w119 h119 => ?_)
                                                                  obtain ⟨b119, rfl, n119⟩ := h119
                                                                  have d9_119 : b9 < b119 := Nat.lt_of_lt_of_le k9.lt n119.fresh
                                                                  have d19_119 : b19 < b119 := Nat.lt_of_lt_of_le k19.lt n119.fresh
                                                                  have d23_119 : b23 < b119 := Nat.lt_of_lt_of_le k23.lt n119.fresh
                                                                  have f119 : w.heap.size ≤ b119 := Nat.le_trans U.size n119.fresh
                                                                  replace k9 := k9.up n119.up
                                                                  replace k19 := k19.up n119.up
                                                                  replace k23 := k23.up n119.up
                                                                  replace hX := hX.up n119.up
                                                                  replace U := U.tr n119.up
                                                                  have k119 := n119.blk
                                                                  obtain ⟨zs119, hz119, k119⟩ : ∃ cs : Array Value, cs.size = 4 ∧ Blk w119 b119 cs := ⟨_, rfl, k119⟩
                                                                  have nc119 := hnw4 b119 n119.fresh
                                                                  have nh119 : ¬ H73.has b119 := fun hh => by have h9 := hfz4.lt hh; have h8 := n119.fresh; omega
                                                                  exact (by
                                                                    refine l_effN (e_store sz_65 (et g0 rfl) (cellsV (et (gS rfl g0) rfl) rfl) rfl (by exact one_uL _) k119 (by (first | (rw [hz119]; exact Nat.le_refl _) | (rw [List.size_toArray, wL_len]; exact Nat.le_refl _)))) (fun v120 w120 h120 => ?_)
                                                                    obtain ⟨rfl, x120⟩ := h120
                                                                    replace k9 := k9.ch x120.ch (by omega)
                                                                    replace k19 := k19.ch x120.ch (by omega)
                                                                    replace k23 := k23.ch x120.ch (by omega)
                                                                    replace hX := hX.ch x120.ch (by first | omega | (intro b hb; first | (subst hb; first | exact ⟨by omega, fun hh => by have := hfz.lt hh; omega, by omega⟩ | exact ⟨by omega, by assumption, by omega⟩) | (rcases hb with hb | hb <;> (subst hb; first | exact ⟨by omega, fun hh => by have := hfz.lt hh; omega, by omega⟩ | exact ⟨by omega, by assumption, by omega⟩))))
                                                                    replace k119 := x120.blk.full (by first | (rw [hz119]; rfl) | (rw [List.size_toArray, wL_len, wL_len]))
                                                                    replace U := U.st x120 (.inr f119)
                                                                    refine l_nil ?_
                                                                    refine hK117 _ _ ?_
                                                                    refine fg5 0 2 4 5 9 (gS rfl (gS rfl (gS rfl (gS rfl (gS rfl (gS rfl (gS rfl (gS rfl (gS rfl g0))))))))) (gS rfl (gS rfl (gS rfl (gS rfl (gS rfl (gS rfl (gS rfl (gS rfl g0)))))))) (gS rfl (gS rfl (gS rfl (gS rfl (gS rfl (gS rfl (gS rfl g0))))))) (gS rfl (gS rfl (gS rfl (gS rfl (gS rfl (gS rfl g0)))))) g0 (fun g => ?_)
                                                                    refine c_seq (fun K121 hK121 => ?_)
                                                                    exact (by
                                                                      refine c_region ?_
                                                                      refine l_step (y_loadB agg_65 sz_65 (et g0 rfl) rfl (at1B k119)) ?_
                                                                      refine l_eff (e_callV cal_78 (aC (et g0 rfl) aN) (isZero_spec _ _ (argN_lt hB5 _))) (fun v122 w122 h122 => ?_)
                                                                      obtain ⟨rfl, u122⟩ := h122
                                                                      replace k9 := k9.up u122
                                                                      replace k19 := k19.up u122
                                                                      replace k23 := k23.up u122
                                                                      replace k119 := k119.up u122
                                                                      replace hX := hX.up u122
                                                                      replace U := U.tr u122
                                                                      refine l_step (y_not (et g0 rfl)) ?_
                                                                      refine l_nil ?_
                                                                      refine hK121 _ _ ?_
                                                                      refine fg6 0 2 4 5 9 187 (gS rfl (gS rfl (gS rfl (gS rfl (gS rfl (gS rfl (gS rfl g0))))))) (gS rfl (gS rfl (gS rfl (gS rfl (gS rfl (gS rfl g0)))))) (gS rfl (gS rfl (gS rfl (gS rfl (gS rfl g0))))) (gS rfl (gS rfl (gS rfl (gS rfl g0)))) (gS rfl (gS rfl (gS rfl g0))) g0 (fun g => ?_)
                                                                      refine c_cond (et g0 rfl) (fun cB11 => ?_) (fun cB11 => ?_)
                                                                      · skip
                                                                        rw [hsk5] at cB11
                                                                        have hn0 : argN f.stack (2 + 3) ≠ 0 := by simpa using cB11
                                                                        have hou := hout hn0
                                                                        rw [hsk5] at k119
                                                                        refine c_seq (fun K124 hK124 => ?_)
                                                                        exact (by
                                                                          refine c_region ?_
                                                                          refine l_step (y_moveV (et (gS rfl (gS rfl (gS rfl (gS rfl g0)))) rfl)) ?_
                                                                          refine l_step (y_moveV (et (gS rfl (gS rfl (gS rfl (gS rfl (gS rfl (gS rfl g0)))))) rfl)) ?_
                                                                          refine l_step (y_moveV (et (gS rfl (gS rfl (gS rfl (gS rfl (gS rfl (gS rfl g0)))))) rfl)) ?_
                                                                          refine l_step (y_moveV (et (gS rfl (gS rfl (gS rfl (gS rfl (gS rfl g0))))) rfl)) ?_
                                                                          refine l_step (y_add (et g0 rfl) rfl (addIN (x := 2) (y := 2) ?_)) ?_
                                                                          omega
                                                                          refine l_eff (e_callV cal_264 (aC (et (gS rfl (gS rfl (gS rfl g0))) rfl) (aC (et (gS rfl (gS rfl g0)) rfl) (aC (et g0 rfl) aN))) (m_arg hX.ex hsf5 hph5 rfl (2 + 2) (by decide))) (fun v125 w125 h125 => ?_)
                                                                          obtain ⟨rfl, u125⟩ := h125
                                                                          replace k9 := k9.up u125
                                                                          replace k19 := k19.up u125
                                                                          replace k23 := k23.up u125
                                                                          replace k119 := k119.up u125
                                                                          replace hX := hX.up u125
                                                                          replace U := U.tr u125
                                                                          refine l_eff (e_callV cal_299 (aC (et g0 rfl) aN) (m_small _ _ (by rw [hsk5]; omega))) (fun v126 w126 h126 => ?_)
                                                                          obtain ⟨rfl, u126⟩ := h126
                                                                          replace k9 := k9.up u126
                                                                          replace k19 := k19.up u126
                                                                          replace k23 := k23.up u126
                                                                          replace k119 := k119.up u126
                                                                          replace hX := hX.up u126
                                                                          replace U := U.tr u126
                                                                          refine l_step (y_nil (et (gS rfl (gS rfl (gS rfl (gS rfl (gS rfl (gS rfl g0)))))) rfl)) ?_
                                                                          refine l_step (y_fld fld_71_15 (et g0 rfl)) ?_
                                                                          refine l_effN (e_store sz_60 (et g0 rfl) (cellsV (et (gS rfl (gS rfl g0)) rfl) rfl) rfl (by intro v hv; simp at hv; subst hv; rfl) hX.ex.vl.kC (by rw [hX.ex.vl.size]; omega)) (fun v127 w127 h127 => ?_)
                                                                          obtain ⟨rfl, x127⟩ := h127
                                                                          rw [hsk5] at x127
                                                                          have hv127 := hX.stOO hsf5 hph5 (p := argN f.stack (2 + 2)) (by omega) (by omega) x127
                                                                          replace k9 := k9.ch x127.ch (by intro hm; first | omega | (subst hm; omega))
                                                                          replace k19 := k19.ch x127.ch (by intro hm; first | omega | (subst hm; omega))
                                                                          replace k23 := k23.ch x127.ch (by intro hm; first | omega | (subst hm; omega))
                                                                          replace k119 := k119.ch x127.ch (by intro hm; first | omega | (subst hm; omega))
                                                                          replace hX := hv127
                                                                          replace U := U.cc x127.ch (by intro b hb; exact .inl trivial)
                                                                          obtain ⟨f6, hf6⟩ : ∃ f6 : YF, f6 = { f5 with outOff := argN f.stack (2 + 2) } := ⟨_, rfl⟩
                                                                          obtain ⟨s6, hs6⟩ : ∃ s6 : YSt, s6 = { s5 with frames := low ++ [f6] } := ⟨_, rfl⟩
                                                                          replace hX := hX.reS (show s6 = { s5 with frames := low ++ [{ f5 with outOff := argN f.stack (2 + 2) }] } by rw [hs6, hf6])
                                                                          have hsf6 : s6.frames = low ++ [f6] := by rw [hs6]
                                                                          have hph6 : s6.phase = 1 := by rw [hs6]; exact hph5
                                                                          have hsk6 : f6.stack = f.stack := by first | (rw [hf6]; done) | (rw [hf6]; exact hsk5)
                                                                          refine l_nil ?_
                                                                          refine hK124 _ _ ?_
                                                                          refine fg5 0 2 4 5 9 (gS rfl (gS rfl (gS rfl (gS rfl (gS rfl (gS rfl (gS rfl (gS rfl (gS rfl (gS rfl (gS rfl (gS rfl (gS rfl (gS rfl g0)))))))))))))) (gS rfl (gS rfl (gS rfl (gS rfl (gS rfl (gS rfl (gS rfl (gS rfl (gS rfl (gS rfl (gS rfl (gS rfl (gS rfl g0))))))))))))) (gS rfl (gS rfl (gS rfl (gS rfl (gS rfl (gS rfl (gS rfl (gS rfl (gS rfl (gS rfl (gS rfl (gS rfl g0)))))))))))) (gS rfl (gS rfl (gS rfl (gS rfl (gS rfl (gS rfl (gS rfl (gS rfl (gS rfl (gS rfl (gS rfl g0))))))))))) (gS rfl (gS rfl (gS rfl (gS rfl (gS rfl (gS rfl (gS rfl (gS rfl (gS rfl (gS rfl g0)))))))))) (fun g => ?_)
                                                                          refine c_region ?_
                                                                          exact (by
                                                                            refine l_step (y_moveV (et (gS rfl (gS rfl (gS rfl g0))) rfl)) ?_
                                                                            refine l_step (y_loadB agg_65 sz_65 (et (gS rfl g0) rfl) rfl (at1B k119)) ?_
                                                                            refine l_eff (e_callV cal_299 (aC (et g0 rfl) aN) (m_small _ _ (by omega))) (fun v128 w128 h128 => ?_)
                                                                            obtain ⟨rfl, u128⟩ := h128
                                                                            replace k9 := k9.up u128
                                                                            replace k19 := k19.up u128
                                                                            replace k23 := k23.up u128
                                                                            replace k119 := k119.up u128
                                                                            replace hX := hX.up u128
                                                                            replace U := U.tr u128
                                                                            refine l_step (y_nil (et (gS rfl (gS rfl g0)) rfl)) ?_
                                                                            refine l_step (y_fld fld_71_16 (et g0 rfl)) ?_
                                                                            refine l_effN (e_store sz_60 (et g0 rfl) (cellsV (et (gS rfl (gS rfl g0)) rfl) rfl) rfl (by intro v hv; simp at hv; subst hv; rfl) hX.ex.vl.kC (by rw [hX.ex.vl.size]; omega)) (fun v129 w129 h129 => ?_)
                                                                            obtain ⟨rfl, x129⟩ := h129
                                                                            have hv129 := hX.stOL hsf6 hph6 (p := argN f.stack (2 + 3)) (by omega) (by omega) x129
                                                                            replace k9 := k9.ch x129.ch (by intro hm; first | omega | (subst hm; omega))
                                                                            replace k19 := k19.ch x129.ch (by intro hm; first | omega | (subst hm; omega))
                                                                            replace k23 := k23.ch x129.ch (by intro hm; first | omega | (subst hm; omega))
                                                                            replace k119 := k119.ch x129.ch (by intro hm; first | omega | (subst hm; omega))
                                                                            replace hX := hv129
                                                                            replace U := U.cc x129.ch (by intro b hb; exact .inl trivial)
                                                                            obtain ⟨f7, hf7⟩ : ∃ f7 : YF, f7 = { f6 with outLen := argN f.stack (2 + 3) } := ⟨_, rfl⟩
                                                                            obtain ⟨s7, hs7⟩ : ∃ s7 : YSt, s7 = { s6 with frames := low ++ [f7] } := ⟨_, rfl⟩
                                                                            replace hX := hX.reS (show s7 = { s6 with frames := low ++ [{ f6 with outLen := argN f.stack (2 + 3) }] } by rw [hs7, hf7])
                                                                            have hsf7 : s7.frames = low ++ [f7] := by rw [hs7]
                                                                            have hph7 : s7.phase = 1 := by rw [hs7]; exact hph6
                                                                            have hsk7 : f7.stack = f.stack := by first | (rw [hf7]; done) | (rw [hf7]; exact hsk6)
                                                                            refine l_nil ?_
                                                                            refine hK116 _ _ ?_
                                                                            refine fg4 0 2 4 5 (gS rfl (gS rfl (gS rfl (gS rfl (gS rfl (gS rfl (gS rfl (gS rfl (gS rfl g0))))))))) (gS rfl (gS rfl (gS rfl (gS rfl (gS rfl (gS rfl (gS rfl (gS rfl g0)))))))) (gS rfl (gS rfl (gS rfl (gS rfl (gS rfl (gS rfl (gS rfl g0))))))) (gS rfl (gS rfl (gS rfl (gS rfl (gS rfl (gS rfl g0)))))) (fun g => ?_)
                                                                            refine c_seq (fun K130 hK130 => ?_)
                                                                            exact (by
                                                                              refine c_region ?_
                                                                              refine l_step (y_moveV (et (gS rfl (gS rfl (gS rfl g0))) rfl)) ?_
                                                                              refine l_step (y_moveV (et (gS rfl (gS rfl (gS rfl g0))) rfl)) ?_
                                                                              refine l_step (y_moveV (et (gS rfl (gS rfl g0)) rfl)) ?_
                                                                              refine l_step (y_add (et g0 rfl) rfl (addIN (x := 2) (y := 4) ?_)) ?_
                                                                              omega
                                                                              refine l_step (y_conv Hvaa.underlying3 Hvaa.underlying67 (et g0 rfl) (wrapU_id uk16 ?_)) ?_
                                                                              omega
                                                                              refine l_step (y_bld bN bld65_z) ?_
                                                                              refine l_eff (e_callV cal_259 (aC (et (gS rfl (gS rfl (gS rfl (gS rfl (gS rfl g0))))) rfl) (aC (et (gS rfl (gS rfl (gS rfl (gS rfl g0)))) rfl) (aC (et (gS rfl g0) rfl) (aC rfl (aC (et g0 rfl) (aC (v := .int .u16 ((0 : Nat) : Int)) rfl aN)))))) (m_settle0 hX.ex hsf7 hph7 rfl 6 0 0 (by rw [hsk7]; omega) (by decide) (by rw [hf7, hf6, hf5, hf4, hf2]; show f.pc + 0 ≤ 560; omega))) (fun v131 w131 h131 => ?_)
                                                                              obtain ⟨rfl, cs131, y131⟩ := h131
                                                                              replace k9 := k9.ch y131.et.go.ch (by intro hm; (have e0 := hm); omega)
                                                                              replace k19 := k19.ch y131.et.go.ch (by intro hm; (have e0 := hm); omega)
                                                                              replace k23 := k23.ch y131.et.go.ch (by intro hm; (have e0 := hm); omega)
                                                                              replace k119 := k119.ch y131.et.go.ch (by intro hm; (have e0 := hm); omega)
                                                                              replace hX := hX.trans y131
                                                                              replace U := U.cc y131.et.go.ch (by intro b hb; exact .inl trivial)
                                                                              have ew : setF f7 6 false 0 0 = cWait f 250 := by rw [hf7, hf6, hf5, hf4, hf2]; exact cwait_1 (q := 250) (tk := 6) (i := 2) (show tkN 250 = 6 from rfl) rfl hn0
                                                                              rw [ew] at hX
                                                                              obtain ⟨s9, hs9⟩ : ∃ s9 : YSt, s9 = { cS { s with ret := [] } f with frames := low ++ [cWait f 250] } := ⟨_, rfl⟩
                                                                              replace hX := hX.reS (show s9 = { s7 with frames := low ++ [cWait f 250] } by rw [hs9, hs7, hs6, hs5, hs4, hs2, hs1, hs0])
                                                                              have hac9 : s9.now.accts = s.now.accts := by rw [hs9]; rfl
                                                                              refine l_nil ?_
                                                                              refine hK130 _ _ ?_
                                                                              refine fg2 0 4 (gS rfl (gS rfl (gS rfl (gS rfl (gS rfl (gS rfl (gS rfl (gS rfl (gS rfl (gS rfl g0)))))))))) (gS rfl (gS rfl (gS rfl (gS rfl (gS rfl (gS rfl (gS rfl (gS rfl g0)))))))) (fun g => ?_)
                                                                              refine c_region ?_
                                                                              refine l_step (y_moveV (et (gS rfl g0) rfl)) ?_
                                                                              have euu : (cChild { s with ret := [] } f 250) = { cFr 4 true 0 (ctT f) f.self (cG f 250) (natAt (ctT f)) [] [] with code := cCode { s with ret := [] } f, input := (rdN f.mem (argN f.stack 2) (argN f.stack (2 + 1))) } := rfl
                                                                              have ecd : cCode { s with ret := [] } f = [] := if_neg hnt
                                                                              have hbc : BV H73 (.slice none (cChild { s with ret := [] } f 250).code.length 0) (cChild { s with ret := [] } f 250).code := by
                                                                                show BV _ (.slice none (cCode { s with ret := [] } f).length 0) (cCode { s with ret := [] } f)
                                                                                rw [ecd]
                                                                                exact (BV.nil _)
                                                                              have hbi : BV H73 (.slice ca7 (cChild { s with ret := [] } f 250).input.length cc7) (cChild { s with ret := [] } f 250).input := bv7
                                                                              replace k19 : Blk w131 b19 (fcv (cChild { s with ret := [] } f 250) (.slice none (cChild { s with ret := [] } f 250).code.length 0) (.slice ca7 (cChild { s with ret := [] } f 250).input.length cc7) 0 0 0 (List.replicate 8 0)).toArray := by
                                                                                show Blk _ _ (fcv (cChild { s with ret := [] } f 250) (.slice none (cCode { s with ret := [] } f).length 0) (.slice ca7 (rdN f.mem (argN f.stack 2) (argN f.stack (2 + 1))).length cc7) 0 0 0 (List.replicate 8 0)).toArray
                                                                                rw [ecd, euu, fcv_ci]
                                                                                exact k19
                                                                              have hU : EFB (cChild { s with ret := [] } f 250) := ⟨by show 4 < 8; decide, natAt_lt _, Nat.zero_le _, Nat.zero_le _, fun _ h => absurd h (List.not_mem_nil), by show cG f 250 ≤ 1048576; omega, by show (ctT f) < A160; exact (Nat.mod_lt _ A160_pos), by show f.self < A160; exact hB.self, by show 0 < W256; exact (by decide), by show (cCode { s with ret := [] } f).length ≤ 512; rw [ecd]; exact Nat.zero_le _, by show (rdN f.mem (argN f.stack 2) (argN f.stack (2 + 1))).length ≤ 717280; exact hrl, Nat.zero_le _, Nat.zero_le _, hbc.dig, hbi.dig⟩
                                                                              have hmk : 100 * V15.marks.length + (gasS s9 + (c1 + (sentN f.gas (argN f.stack 0)))) ≤ 1048576 := by
                                                                                rw [hmr, hs9, gas_top (s := { cS { s with ret := [] } f with frames := low ++ [cWait f 250] }) (low := low) (f := cWait f 250) rfl]
                                                                                have h8 := hE.px.pot.m
                                                                                rw [gas_top hs] at h8
                                                                                show 100 * V.marks.length + ((low.map (·.gas)).sum + (f.gas - (sentN f.gas (argN f.stack 0))) + (c1 + (sentN f.gas (argN f.stack 0)))) ≤ _
                                                                                omega
                                                                              have hcc := call_slack f 250 (by decide) hc3 (by intro h _ _; exact h)
                                                                              have hle : (cChild { s with ret := [] } f 250).kind ≠ 3 → (cChild { s with ret := [] } f 250).kind ≠ 7 → (cChild { s with ret := [] } f 250).value ≤ (acctAt (entA1 s9.now (cChild { s with ret := [] } f 250)) (cChild { s with ret := [] } f 250).caller).bal := by
                                                                                intro h1 h2
                                                                                rw [show entA1 s9.now (cChild { s with ret := [] } f 250) = s9.now.accts from if_neg (by show ¬ crN 4 = true; decide), hac9]
                                                                                exact Nat.zero_le _
                                                                              have hov9 : (cChild { s with ret := [] } f 250).kind ≠ 3 → (cChild { s with ret := [] } f 250).kind ≠ 7 → (cChild { s with ret := [] } f 250).value ≠ 0 → (acctAt (takeB (entA1 s9.now (cChild { s with ret := [] } f 250)) (cChild { s with ret := [] } f 250).caller (cChild { s with ret := [] } f 250).value) (cChild { s with ret := [] } f 250).self).bal + (cChild { s with ret := [] } f 250).value < W256 := by
                                                                                intro h1 h2 h3
                                                                                rw [show entA1 s9.now (cChild { s with ret := [] } f 250) = s9.now.accts from if_neg (by show ¬ crN 4 = true; decide), hac9]
                                                                                exact absurd rfl h3
                                                                              have hph9 : s9.phase = 1 := by rw [hs9]; exact hp
                                                                              have hap9 : s9.applied ≤ 4 := by rw [hs9]; exact hap
                                                                              have hl9 : s9.frames.length ≤ 6 := by rw [hs9]; show (low ++ [_]).length ≤ 6; rw [List.length_append, List.length_singleton]; omega
                                                                              have hm9 : ms.length ≤ 6 := by rw [hms, List.length_map, List.length_append, List.length_singleton]; omega
                                                                              refine l_step (y_loadB agg_71 sz_71 (et (gS rfl g0) rfl) (by rw [List.size_toArray, fcv_len rfl]) (at1B k19)) ?_
                                                                              exact (by
                                                                                refine l_eff (e_callV cal_105 (aC (et (gS rfl g0) rfl) (aC (et g0 rfl) aN)) (m_enter hX.ex (by omega) hl9 hm9 (u := (cChild { s with ret := [] } f 250)) hbc hbi hU rfl (c' := c') hap9 hmk hcc hht hhf.1 hle hov9 (hX.ex.limR hph9) (hX.ex.madR hph9) (hX.ex.orgR hph9))) (fun v132 w132 h132 => ?_)
                                                                                obtain ⟨rfl, cl132, cs132, V132, y132⟩ := h132
                                                                                replace k9 := k9.ch y132.et.go.ch (by intro hm; (have e0 := hm); omega)
                                                                                replace k19 := k19.ch y132.et.go.ch (by intro hm; (have e0 := hm); omega)
                                                                                replace k23 := k23.ch y132.et.go.ch (by intro hm; (have e0 := hm); omega)
                                                                                replace k119 := k119.ch y132.et.go.ch (by intro hm; (have e0 := hm); omega)
                                                                                replace hX := hX.trans y132
                                                                                replace U := U.cc y132.et.go.ch (by intro b hb; exact .inl trivial)
                                                                                refine l_nil ?_
                                                                                refine end0 rfl ?_
                                                                                have hnf : ¬ cFail { s with ret := [] } f 250 low.length := by
                                                                                  intro h9
                                                                                  rcases h9 with h9 | h9
                                                                                  · exact hd6 h9
                                                                                  · exact hfb h9
                                                                                rw [show callY { s with ret := [] } f 250 low = entY { cS { s with ret := [] } f with frames := low ++ [cWait f 250] } (cChild { s with ret := [] } f 250) from if_neg hnf]
                                                                                rw [hs9] at hX
                                                                                rw [show ({ entY { cS { s with ret := [] } f with frames := low ++ [cWait f 250] } (cChild { s with ret := [] } f 250) with phase := 1 } : YSt) = entY { cS { s with ret := [] } f with frames := low ++ [cWait f 250] } (cChild { s with ret := [] } f 250) from ph1 hp] at hX
                                                                                refine ⟨rfl, XO.of hX ?_⟩
                                                                                rw [hms]
                                                                                show _ = ((low ++ [cWait f 250]) ++ [_]).map _
                                                                                rw [List.map_append, List.map_append, List.map_append]
                                                                                rfl))))
                                                                      · skip
                                                                        rw [hsk5] at cB11
                                                                        have hn0 : argN f.stack (2 + 3) = 0 := by simpa using cB11
                                                                        refine c_skip ?_
                                                                        refine hK116 _ _ ?_
                                                                        refine fg4 0 2 4 5 (gS rfl (gS rfl (gS rfl (gS rfl (gS rfl g0))))) (gS rfl (gS rfl (gS rfl (gS rfl g0)))) (gS rfl (gS rfl (gS rfl g0))) (gS rfl (gS rfl g0)) (fun g => ?_)
                                                                        refine c_seq (fun K133 hK133 => ?_)
                                                                        exact (by
                                                                          refine c_region ?_
                                                                          refine l_step (y_moveV (et (gS rfl (gS rfl (gS rfl g0))) rfl)) ?_
                                                                          refine l_step (y_moveV (et (gS rfl (gS rfl (gS rfl g0))) rfl)) ?_
                                                                          refine l_step (y_moveV (et (gS rfl (gS rfl g0)) rfl)) ?_
                                                                          refine l_step (y_add (et g0 rfl) rfl (addIN (x := 2) (y := 4) ?_)) ?_
                                                                          omega
                                                                          refine l_step (y_conv Hvaa.underlying3 Hvaa.underlying67 (et g0 rfl) (wrapU_id uk16 ?_)) ?_
                                                                          omega
                                                                          refine l_step (y_bld bN bld65_z) ?_
                                                                          refine l_eff (e_callV cal_259 (aC (et (gS rfl (gS rfl (gS rfl (gS rfl (gS rfl g0))))) rfl) (aC (et (gS rfl (gS rfl (gS rfl (gS rfl g0)))) rfl) (aC (et (gS rfl g0) rfl) (aC rfl (aC (et g0 rfl) (aC (v := .int .u16 ((0 : Nat) : Int)) rfl aN)))))) (m_settle0 hX.ex hsf5 hph5 rfl 6 0 0 (by rw [hsk5]; omega) (by decide) (by rw [hf5, hf4, hf2]; show f.pc + 0 ≤ 560; omega))) (fun v134 w134 h134 => ?_)
                                                                          obtain ⟨rfl, cs134, y134⟩ := h134
                                                                          replace k9 := k9.ch y134.et.go.ch (by intro hm; (have e0 := hm); omega)
                                                                          replace k19 := k19.ch y134.et.go.ch (by intro hm; (have e0 := hm); omega)
                                                                          replace k23 := k23.ch y134.et.go.ch (by intro hm; (have e0 := hm); omega)
                                                                          replace k119 := k119.ch y134.et.go.ch (by intro hm; (have e0 := hm); omega)
                                                                          replace hX := hX.trans y134
                                                                          replace U := U.cc y134.et.go.ch (by intro b hb; exact .inl trivial)
                                                                          have ew : setF f5 6 false 0 0 = cWait f 250 := by rw [hf5, hf4, hf2]; exact cwait_0 (q := 250) (tk := 6) (i := 2) (show tkN 250 = 6 from rfl) rfl hn0
                                                                          rw [ew] at hX
                                                                          obtain ⟨s9, hs9⟩ : ∃ s9 : YSt, s9 = { cS { s with ret := [] } f with frames := low ++ [cWait f 250] } := ⟨_, rfl⟩
                                                                          replace hX := hX.reS (show s9 = { s5 with frames := low ++ [cWait f 250] } by rw [hs9, hs5, hs4, hs2, hs1, hs0])
                                                                          have hac9 : s9.now.accts = s.now.accts := by rw [hs9]; rfl
                                                                          refine l_nil ?_
                                                                          refine hK133 _ _ ?_
                                                                          refine fg2 0 4 (gS rfl (gS rfl (gS rfl (gS rfl (gS rfl (gS rfl (gS rfl (gS rfl (gS rfl (gS rfl g0)))))))))) (gS rfl (gS rfl (gS rfl (gS rfl (gS rfl (gS rfl (gS rfl (gS rfl g0)))))))) (fun g => ?_)
                                                                          refine c_region ?_
                                                                          refine l_step (y_moveV (et (gS rfl g0) rfl)) ?_
                                                                          have euu : (cChild { s with ret := [] } f 250) = { cFr 4 true 0 (ctT f) f.self (cG f 250) (natAt (ctT f)) [] [] with code := cCode { s with ret := [] } f, input := (rdN f.mem (argN f.stack 2) (argN f.stack (2 + 1))) } := rfl
                                                                          have ecd : cCode { s with ret := [] } f = [] := if_neg hnt
                                                                          have hbc : BV H73 (.slice none (cChild { s with ret := [] } f 250).code.length 0) (cChild { s with ret := [] } f 250).code := by
                                                                            show BV _ (.slice none (cCode { s with ret := [] } f).length 0) (cCode { s with ret := [] } f)
                                                                            rw [ecd]
                                                                            exact (BV.nil _)
                                                                          have hbi : BV H73 (.slice ca7 (cChild { s with ret := [] } f 250).input.length cc7) (cChild { s with ret := [] } f 250).input := bv7
                                                                          replace k19 : Blk w134 b19 (fcv (cChild { s with ret := [] } f 250) (.slice none (cChild { s with ret := [] } f 250).code.length 0) (.slice ca7 (cChild { s with ret := [] } f 250).input.length cc7) 0 0 0 (List.replicate 8 0)).toArray := by
                                                                            show Blk _ _ (fcv (cChild { s with ret := [] } f 250) (.slice none (cCode { s with ret := [] } f).length 0) (.slice ca7 (rdN f.mem (argN f.stack 2) (argN f.stack (2 + 1))).length cc7) 0 0 0 (List.replicate 8 0)).toArray
                                                                            rw [ecd, euu, fcv_ci]
                                                                            exact k19
                                                                          have hU : EFB (cChild { s with ret := [] } f 250) := ⟨by show 4 < 8; decide, natAt_lt _, Nat.zero_le _, Nat.zero_le _, fun _ h => absurd h (List.not_mem_nil), by show cG f 250 ≤ 1048576; omega, by show (ctT f) < A160; exact (Nat.mod_lt _ A160_pos), by show f.self < A160; exact hB.self, by show 0 < W256; exact (by decide), by show (cCode { s with ret := [] } f).length ≤ 512; rw [ecd]; exact Nat.zero_le _, by show (rdN f.mem (argN f.stack 2) (argN f.stack (2 + 1))).length ≤ 717280; exact hrl, Nat.zero_le _, Nat.zero_le _, hbc.dig, hbi.dig⟩
                                                                          have hmk : 100 * V15.marks.length + (gasS s9 + (c1 + (sentN f.gas (argN f.stack 0)))) ≤ 1048576 := by
                                                                            rw [hmr, hs9, gas_top (s := { cS { s with ret := [] } f with frames := low ++ [cWait f 250] }) (low := low) (f := cWait f 250) rfl]
                                                                            have h8 := hE.px.pot.m
                                                                            rw [gas_top hs] at h8
                                                                            show 100 * V.marks.length + ((low.map (·.gas)).sum + (f.gas - (sentN f.gas (argN f.stack 0))) + (c1 + (sentN f.gas (argN f.stack 0)))) ≤ _
                                                                            omega
                                                                          have hcc := call_slack f 250 (by decide) hc3 (by intro h _ _; exact h)
                                                                          have hle : (cChild { s with ret := [] } f 250).kind ≠ 3 → (cChild { s with ret := [] } f 250).kind ≠ 7 → (cChild { s with ret := [] } f 250).value ≤ (acctAt (entA1 s9.now (cChild { s with ret := [] } f 250)) (cChild { s with ret := [] } f 250).caller).bal := by
                                                                            intro h1 h2
                                                                            rw [show entA1 s9.now (cChild { s with ret := [] } f 250) = s9.now.accts from if_neg (by show ¬ crN 4 = true; decide), hac9]
                                                                            exact Nat.zero_le _
                                                                          have hov9 : (cChild { s with ret := [] } f 250).kind ≠ 3 → (cChild { s with ret := [] } f 250).kind ≠ 7 → (cChild { s with ret := [] } f 250).value ≠ 0 → (acctAt (takeB (entA1 s9.now (cChild { s with ret := [] } f 250)) (cChild { s with ret := [] } f 250).caller (cChild { s with ret := [] } f 250).value) (cChild { s with ret := [] } f 250).self).bal + (cChild { s with ret := [] } f 250).value < W256 := by
                                                                            intro h1 h2 h3
                                                                            rw [show entA1 s9.now (cChild { s with ret := [] } f 250) = s9.now.accts from if_neg (by show ¬ crN 4 = true; decide), hac9]
                                                                            exact absurd rfl h3
                                                                          have hph9 : s9.phase = 1 := by rw [hs9]; exact hp
                                                                          have hap9 : s9.applied ≤ 4 := by rw [hs9]; exact hap
                                                                          have hl9 : s9.frames.length ≤ 6 := by rw [hs9]; show (low ++ [_]).length ≤ 6; rw [List.length_append, List.length_singleton]; omega
                                                                          have hm9 : ms.length ≤ 6 := by rw [hms, List.length_map, List.length_append, List.length_singleton]; omega
                                                                          refine l_step (y_loadB agg_71 sz_71 (et (gS rfl g0) rfl) (by rw [List.size_toArray, fcv_len rfl]) (at1B k19)) ?_
                                                                          exact (by
                                                                            refine l_eff (e_callV cal_105 (aC (et (gS rfl g0) rfl) (aC (et g0 rfl) aN)) (m_enter hX.ex (by omega) hl9 hm9 (u := (cChild { s with ret := [] } f 250)) hbc hbi hU rfl (c' := c') hap9 hmk hcc hht hhf.1 hle hov9 (hX.ex.limR hph9) (hX.ex.madR hph9) (hX.ex.orgR hph9))) (fun v135 w135 h135 => ?_)
                                                                            obtain ⟨rfl, cl135, cs135, V135, y135⟩ := h135
                                                                            replace k9 := k9.ch y135.et.go.ch (by intro hm; (have e0 := hm); omega)
                                                                            replace k19 := k19.ch y135.et.go.ch (by intro hm; (have e0 := hm); omega)
                                                                            replace k23 := k23.ch y135.et.go.ch (by intro hm; (have e0 := hm); omega)
                                                                            replace k119 := k119.ch y135.et.go.ch (by intro hm; (have e0 := hm); omega)
                                                                            replace hX := hX.trans y135
                                                                            replace U := U.cc y135.et.go.ch (by intro b hb; exact .inl trivial)
                                                                            refine l_nil ?_
                                                                            refine end0 rfl ?_
                                                                            have hnf : ¬ cFail { s with ret := [] } f 250 low.length := by
                                                                              intro h9
                                                                              rcases h9 with h9 | h9
                                                                              · exact hd6 h9
                                                                              · exact hfb h9
                                                                            rw [show callY { s with ret := [] } f 250 low = entY { cS { s with ret := [] } f with frames := low ++ [cWait f 250] } (cChild { s with ret := [] } f 250) from if_neg hnf]
                                                                            rw [hs9] at hX
                                                                            rw [show ({ entY { cS { s with ret := [] } f with frames := low ++ [cWait f 250] } (cChild { s with ret := [] } f 250) with phase := 1 } : YSt) = entY { cS { s with ret := [] } f with frames := low ++ [cWait f 250] } (cChild { s with ret := [] } f 250) from ph1 hp] at hX
                                                                            refine ⟨rfl, XO.of hX ?_⟩
                                                                            rw [hms]
                                                                            show _ = ((low ++ [cWait f 250]) ++ [_]).map _
                                                                            rw [List.map_append, List.map_append, List.map_append]
                                                                            rfl)))))))))))))))))))))))))))))))))
end Go.Proofs.YgvaawGreat
