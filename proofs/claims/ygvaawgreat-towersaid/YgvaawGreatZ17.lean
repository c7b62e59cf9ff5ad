import Derived.Test.YgvaawGreatZ16
set_option maxRecDepth 100000
set_option maxHeartbeats 4000000
set_option linter.unusedSimpArgs false
set_option linter.unusedVariables false
namespace Go.Proofs.YgvaawGreat
open Go
theorem w0_put {x : Nat} (hx : x < 18446744073709551616) {o : Nat} (ho : o = 0) : spl (wL 0).toArray o [.int .u64 (x : Nat)] = (wL x).toArray := by
  subst ho
  have h0 : limb x 0 = x := by unfold limb; rw [Nat.pow_zero, Nat.div_one]; exact Nat.mod_eq_of_lt hx
  have hi : ∀ i, 1 ≤ i → limb x i = 0 := fun i hi => by
    unfold limb
    rw [Nat.div_eq_of_lt]
    exact Nat.lt_of_lt_of_le hx (Nat.le_self_pow (by omega) _)
  have e : wL x = uL [x, 0, 0, 0] := by
    unfold wL
    rw [h0, hi 1 (by decide), hi 2 (by decide), hi 3 (by decide)]
  rw [e]
  rfl
section
variable {w w' : World} {H : Store} {col : Nat → Nat} {bc : Nat} {cs : Array Value} {V : EV} {s : YSt} {sn : List Nat} {sv : List AW} {ms : List (List Nat)} {c : Nat}
theorem EX.codeC (hE : EX w H col bc cs V s sn sv ms c) (a : Nat) (ha : a < A160) : Ret 103 [.pointer (some ⟨bc, 2435, none⟩), aV a] w (fun v w' => ∃ H' ca cc, v = .slice ca (acctAt s.now.accts a).code.length cc ∧ Go No w H w' H' ∧ BV H' v (acctAt s.now.accts a).code) := by
  have h := v_code hE.vl hE.ok a ha
  rw [hE.cd] at h
  refine h.mono fun v w' h => ?_
  obtain ⟨H', g, n⟩ := h
  obtain ⟨ca, cc, e⟩ := n.sl
  exact ⟨H', ca, cc, e, g, n⟩
theorem EX.emC (hE : EX w H col bc cs V s sn sv ms c) (a : Nat) (ha : a < A160) : Ret 295 [.pointer (some ⟨bc, 2435, none⟩), aV a] w (fun v w' => v = .bool (emptyB (acctAt s.now.accts a)) ∧ Up w w') := by
  have h := v_isEmpty hE.vl hE.ok a ha
  rw [hE.em] at h
  exact h
theorem EX.codeLen (hE : EX w H col bc cs V s sn sv ms c) (a : Nat) : (acctAt s.now.accts a).code.length ≤ 512 := by
  rw [← hE.cd]
  show (ax V a).code.length ≤ 512
  by_cases h : hasA V a
  · obtain ⟨x, h1, h2⟩ := hasA_ix h
    obtain ⟨b, c', cap, vc, hA⟩ := hE.vl.acct h1
    rw [ax_eq hE.ok h1 h2]
    exact hA.ok.code
  · rw [ax_no h]
    exact Nat.zero_le _
end
theorem m_opBalance {w : World} {H : Store} {col : Nat → Nat} {bc : Nat} {cs : Array Value} {V : EV} {s : YSt} {sn : List Nat} {sv : List AW} {ms : List (List Nat)} {c : Nat} {low : List YF} {f : YF} (hE : EX w H col bc cs V s sn sv ms c) (hs : s.frames = low ++ [f]) (hp : s.phase = 1) (hq : opcN f = 49) (hpc9 : f.pc < 512) (htk9 : 1 ≤ f.stack.length) {c' : Nat} (hap : s.applied ≤ 4) (hc1 : c' ≤ c) (hc2 : argN f.stack 0 % A160 ∉ s.now.warmA → c' + 2600 ≤ c) :
    Ret 193 [.pointer (some ⟨bc, 0, none⟩)] w (fun v w' => v = .tuple #[] ∧ ∃ H' col' cs' V', XT w H col w' H' col' bc cs' V' { s with now := { s.now with warmA := withA s.now.warmA (argN f.stack 0 % A160) }, frames := low ++ [ansN f 1 (avN (acctAt s.now.accts (argN f.stack 0 % A160)) 49)] } sn sv ms c') := by
  obtain ⟨n9, hn9, hR⟩ := hE.topF hs
  have hB := hE.fbT hs
  have h6 := hE.six hs
  have htop := hE.cTop hs
  have hphs := hE.cPh hp
  have hbp := hB.pc
  have hbs := hB.stk
  have hbg := hB.gas
  have hbc9 := hB.code
  have hnw := hE.vl.new
  have hfz := hE.vl.fz
  have hcC := hE.vl.colC
  have hbc0 := hE.vl.kC.lt
  have hX := XT.refl hE
  refine enter (n := 62) Hvaa.func193 rfl rfl (Nat.le_of_ble_eq_true rfl) ?_
  have U : Ch (fun _ => True) w w := Ch.refl _ w
  refine c_seq (fun K1 hK1 => ?_)
  exact (by
    refine c_region ?_
    refine l_step (y_moveV (et g0 rfl)) ?_
    refine l_eff (e_callV cal_183 (aC (et g0 rfl) aN) (m_running hX.ex hs hp)) (fun v2 w2 h2 => ?_)
    obtain ⟨rfl, u2⟩ := h2
    replace hX := hX.up u2
    replace U := U.tr u2
    refine l_step (y_assignV (et g0 rfl)) ?_
    refine l_nil ?_
    refine hK1 _ _ ?_
    refine fg2 0 2 (gS rfl (gS rfl (gS rfl g0))) g0 (fun g => ?_)
    refine c_seq (fun K3 hK3 => ?_)
    refine c_seq (fun K4 hK4 => ?_)
    exact (by
      refine c_region ?_
      refine l_step (y_moveV (et g0 rfl)) ?_
      refine l_step (y_eqlNil Hvaa.underlying276 (et g0 rfl) rfl) ?_
      refine l_nil ?_
      refine hK4 _ _ ?_
      refine fg3 0 2 8 (gS rfl (gS rfl (gS rfl g0))) (gS rfl (gS rfl g0)) g0 (fun g => ?_)
      refine c_false (et g0 rfl) rfl ?_
      refine c_skip ?_
      refine hK3 _ _ ?_
      refine fg2 0 2 (gS rfl (gS rfl g0)) (gS rfl g0) (fun g => ?_)
      refine c_seq (fun K6 hK6 => ?_)
      exact (by
        refine c_region ?_
        refine l_step (y_moveV (et (gS rfl g0) rfl)) ?_
        refine l_step (y_moveV (et (gS rfl g0) rfl)) ?_
        refine l_eff (e_callV cal_264 (aC (et (gS rfl g0) rfl) (aC (et g0 rfl) (aC (v := .int .i64 ((0 : Nat) : Int)) rfl aN))) (m_arg hX.ex hs hp (by first | exact hpf | rfl) _ (by decide))) (fun v7 w7 h7 => ?_)
        obtain ⟨rfl, u7⟩ := h7
        replace hX := hX.up u7
        replace U := U.tr u7
        refine l_eff (e_callV cal_293 (aC (et g0 rfl) aN) (mach_addrOf _ _ (by first | exact argN_lt hB _ | exact hB.value | assumption | decide | exact Nat.mod_lt _ (by decide)))) (fun v8 w8 h8 => ?_)
        obtain ⟨rfl, u8⟩ := h8
        replace hX := hX.up u8
        replace U := U.tr u8
        refine l_eff (e_alloc zr_25) (fun v9 w9 h9 => ?_)
        obtain ⟨b9, rfl, n9⟩ := h9
        have f9 : w.heap.size ≤ b9 := Nat.le_trans U.size n9.fresh
        replace hX := hX.up n9.up
        replace U := U.tr n9.up
        have k9 := n9.blk
        obtain ⟨zs9, hz9, k9⟩ : ∃ cs : Array Value, cs.size = 20 ∧ Blk w9 b9 cs := ⟨_, rfl, k9⟩
        have nc9 : col b9 = 0 := hnw _ f9
        refine l_effN (e_store sz_25 (et g0 rfl) (cellsV (et (gS rfl g0) rfl) rfl) (by rw [length_bL, length_be]) (by exact one_bL _) k9 (by (rw [hz9]; exact Nat.le_refl _))) (fun v10 w10 h10 => ?_)
        obtain ⟨rfl, x10⟩ := h10
        replace hX := hX.ch x10.ch (by first | omega | (intro b hb; first | (subst hb; first | exact ⟨by omega, fun hh => by have := hfz.lt hh; omega, by omega⟩ | exact ⟨by omega, by assumption, by omega⟩) | (rcases hb with hb | hb <;> (subst hb; first | exact ⟨by omega, fun hh => by have := hfz.lt hh; omega, by omega⟩ | exact ⟨by omega, by assumption, by omega⟩))))
        replace k9 := x10.blk.full (by rw [hz9, length_bL, length_be])
        replace U := U.st x10 (.inr f9)
        refine l_nil ?_
        refine hK6 _ _ ?_
        refine fg3 0 2 3 (gS rfl (gS rfl (gS rfl (gS rfl (gS rfl (gS rfl g0)))))) (gS rfl (gS rfl (gS rfl (gS rfl (gS rfl g0))))) g0 (fun g => ?_)
        refine c_seq (fun K11 hK11 => ?_)
        refine c_seq (fun K12 hK12 => ?_)
        exact (by
          refine c_region ?_
          refine l_step (y_moveV (et (gS rfl (gS rfl g0)) rfl)) ?_
          refine l_step (y_loadB agg_25 sz_25 (et (gS rfl g0) rfl) (by rw [List.size_toArray, length_bL, length_be]) (at1B k9)) ?_
          refine l_eff (e_callV cal_294 (aC (et (gS rfl g0) rfl) (aC (et g0 rfl) aN)) (m_warmAcct hX.ex hs hp (argN f.stack 0 % A160) (Nat.mod_lt _ A160_pos) hap (c' := c') hc1 hc2)) (fun v13 w13 h13 => ?_)
          obtain ⟨rfl, cl13, cs13, V13, y13⟩ := h13
          have nc9 := (y13.et.col b9 k9.lt).trans nc9
          have kp13 := hX.ex.vl.kC
          replace k9 := k9.ch y13.et.go.ch (by intro hm; (have e0 := hm); omega)
          replace hX := hX.trans y13
          replace U := U.cc y13.et.go.ch (by intro b hb; exact .inl trivial)
          obtain ⟨s1, hs1⟩ : ∃ s1 : YSt, s1 = { s with now := { s.now with warmA := withA s.now.warmA (argN f.stack 0 % A160) } } := ⟨_, rfl⟩
          rw [← hs1] at hX
          have hsf : s1.frames = low ++ [f] := by rw [hs1]; exact hs
          have hph1 : s1.phase = 1 := by rw [hs1]; exact hp
          have hac : s1.now.accts = s.now.accts := by rw [hs1]
          have hnw1 := hX.ex.vl.new
          refine l_step (y_not (et g0 rfl)) ?_
          refine l_nil ?_
          refine hK12 _ _ ?_
          refine fg4 0 2 3 16 (gS rfl (gS rfl (gS rfl (gS rfl (gS rfl (gS rfl g0)))))) (gS rfl (gS rfl (gS rfl (gS rfl (gS rfl g0))))) (gS rfl (gS rfl (gS rfl (gS rfl g0)))) g0 (fun g => ?_)
          refine c_false (et g0 rfl) (by rfl) ?_
          refine c_skip ?_
          refine hK11 _ _ ?_
          refine fg3 0 2 3 (gS rfl (gS rfl (gS rfl g0))) (gS rfl (gS rfl g0)) (gS rfl g0) (fun g => ?_)
          refine c_seq (fun K15 hK15 => ?_)
          exact (by
            refine c_region ?_
            refine l_step (y_bld bN bld65_z) ?_
            refine l_eff (e_alloc zr_65) (fun v16 w16 h16 => ?_)
            obtain ⟨b16, rfl, n16⟩ := h16
            have d9_16 : b9 < b16 := Nat.lt_of_lt_of_le k9.lt n16.fresh
            have f16 : w.heap.size ≤ b16 := Nat.le_trans U.size n16.fresh
            replace k9 := k9.up n16.up
            replace hX := hX.up n16.up
            replace U := U.tr n16.up
            have k16 := n16.blk
            obtain ⟨zs16, hz16, k16⟩ : ∃ cs : Array Value, cs.size = 4 ∧ Blk w16 b16 cs := ⟨_, rfl, k16⟩
            have nc16 := hnw1 b16 n16.fresh
            refine l_effN (e_store sz_65 (et g0 rfl) (cellsV (et (gS rfl g0) rfl) rfl) rfl (by exact one_uL _) k16 (by (first | (rw [hz16]; exact Nat.le_refl _) | (rw [List.size_toArray, wL_len]; exact Nat.le_refl _)))) (fun v17 w17 h17 => ?_)
            obtain ⟨rfl, x17⟩ := h17
            replace k9 := k9.ch x17.ch (by omega)
            replace hX := hX.ch x17.ch (by first | omega | (intro b hb; first | (subst hb; first | exact ⟨by omega, fun hh => by have := hfz.lt hh; omega, by omega⟩ | exact ⟨by omega, by assumption, by omega⟩) | (rcases hb with hb | hb <;> (subst hb; first | exact ⟨by omega, fun hh => by have := hfz.lt hh; omega, by omega⟩ | exact ⟨by omega, by assumption, by omega⟩))))
            replace k16 := x17.blk.full (by first | (rw [hz16]; rfl) | (rw [List.size_toArray, wL_len, wL_len]))
            replace U := U.st x17 (.inr f16)
            refine l_nil ?_
            refine hK15 _ _ ?_
            refine fg4 0 2 3 4 (gS rfl (gS rfl (gS rfl (gS rfl g0)))) (gS rfl (gS rfl (gS rfl g0))) (gS rfl (gS rfl g0)) g0 (fun g => ?_)
            refine c_seq (fun K18 hK18 => ?_)
            refine c_seq (fun K19 hK19 => ?_)
            exact (by
              refine c_region ?_
              refine l_step (y_moveV (et (gS rfl (gS rfl (gS rfl g0))) rfl)) ?_
              refine l_eff (e_callV cal_108 (aC (et g0 rfl) aN) (m_opcode hX.ex hsf hph1)) (fun v20 w20 h20 => ?_)
              obtain ⟨rfl, u20⟩ := h20
              replace k9 := k9.up u20
              replace k16 := k16.up u20
              replace hX := hX.up u20
              replace U := U.tr u20
              refine l_nil ?_
              refine hK19 _ _ ?_
              refine fg5 0 2 3 4 21 (gS rfl (gS rfl (gS rfl (gS rfl (gS rfl g0))))) (gS rfl (gS rfl (gS rfl (gS rfl g0)))) (gS rfl (gS rfl (gS rfl g0))) (gS rfl (gS rfl g0)) g0 (fun g => ?_)
              refine c_block (fun Q21 hQ21 => ?_)
              refine c_seq (fun K22 hK22 => ?_)
              exact (by
                refine c_region ?_
                refine l_step (y_eql (et g0 rfl) rfl) ?_
                refine l_step (y_assignV (et g0 rfl)) ?_
                refine l_nil ?_
                refine hK22 _ _ ?_
                refine fg6 0 2 3 4 21 22 (gS rfl (gS rfl (gS rfl (gS rfl (gS rfl (gS rfl g0)))))) (gS rfl (gS rfl (gS rfl (gS rfl (gS rfl g0))))) (gS rfl (gS rfl (gS rfl (gS rfl g0)))) (gS rfl (gS rfl (gS rfl g0))) (gS rfl (gS rfl g0)) g0 (fun g => ?_)
                refine c_true (et g0 rfl) (by (exact decide_eq_true (by omega))) ?_
                exact (by
                  refine c_draw Up 6 [(0, true), (1, true), (2, true), (3, true), (4, true), (5, false), (6, false)] (by kernel_rfl) (fun w24 hu => ⟨Up.refl _, ?_⟩)
                  replace k9 := k9.up hu
                  replace k16 := k16.up hu
                  replace hX := hX.up hu
                  replace U := U.tr hu
                  have SU := Up.refl w24
                  refine p_step (by exact rfl) (y_moveV (et (gS rfl (gS rfl (gS rfl (gS rfl (gS rfl g0))))) rfl)) ?_
                  refine p_step (by exact rfl) (y_nil (et g0 rfl)) ?_
                  refine p_step (by exact rfl) (y_fld fld_75_0 (et g0 rfl)) ?_
                  refine p_step (by exact rfl) (y_load1 one_59 (et g0 rfl) (atS (hX.ex.vl.c1 hX.ex.lx.pS rfl))) ?_
                  refine p_step (by exact rfl) (y_loadB agg_25 sz_25 (et (gS rfl (gS rfl (gS rfl (gS rfl (gS rfl (gS rfl (gS rfl g0))))))) rfl) (by rw [List.size_toArray, length_bL, length_be]) (atSB k9)) ?_
                  refine p_eff (by exact rfl) (e_callV cal_99 (aC (et (gS rfl g0) rfl) (aC (et g0 rfl) aN)) (hX.ex.balC (argN f.stack 0 % A160) (Nat.mod_lt _ A160_pos))) (fun v25 w25 h25 => ?_)
                  obtain ⟨rfl, u25⟩ := h25
                  replace k9 := k9.up u25
                  replace k16 := k16.up u25
                  replace hX := hX.up u25
                  replace U := U.tr u25
                  refine ⟨.inr (SU.tr u25), ?_⟩
                  replace SU := SU.tr u25
                  refine p_effN (by exact rfl) (e_store sz_65 (et (gS rfl (gS rfl (gS rfl (gS rfl (gS rfl (gS rfl (gS rfl (gS rfl g0)))))))) rfl) (cellsV (et g0 rfl) rfl) rfl (by exact one_uL _) k16 (by (first | (rw [hz16]; exact Nat.le_refl _) | (rw [List.size_toArray, wL_len]; exact Nat.le_refl _)))) (fun v26 w26 h26 => ?_)
                  obtain ⟨rfl, x26⟩ := h26
                  replace k9 := k9.ch x26.ch (by omega)
                  replace hX := hX.ch x26.ch (by first | omega | (intro b hb; first | (subst hb; first | exact ⟨by omega, fun hh => by have := hfz.lt hh; omega, by omega⟩ | exact ⟨by omega, by assumption, by omega⟩) | (rcases hb with hb | hb <;> (subst hb; first | exact ⟨by omega, fun hh => by have := hfz.lt hh; omega, by omega⟩ | exact ⟨by omega, by assumption, by omega⟩))))
                  replace k16 := x26.blk.full (by first | (rw [hz16]; rfl) | (rw [List.size_toArray, wL_len, wL_len]))
                  replace U := U.st x26 (.inr f16)
                  refine ⟨.inl rfl, ?_⟩
                  refine p_nil ?_
                  refine hQ21 _ _ _ (in_normal ?_)
                  refine hK18 _ _ ?_
                  refine fg3 0 2 4 (gS rfl (gS rfl (gS rfl (gS rfl (gS rfl (gS rfl (gS rfl (gS rfl (gS rfl (gS rfl (gS rfl g0))))))))))) (gS rfl (gS rfl (gS rfl (gS rfl (gS rfl (gS rfl (gS rfl (gS rfl (gS rfl (gS rfl g0)))))))))) (gS rfl (gS rfl (gS rfl (gS rfl (gS rfl (gS rfl (gS rfl (gS rfl g0)))))))) (fun g => ?_)
                  refine c_region ?_
                  exact (by
                    refine l_step (y_moveV (et (gS rfl (gS rfl g0)) rfl)) ?_
                    refine l_step (y_moveV (et (gS rfl (gS rfl g0)) rfl)) ?_
                    refine l_step (y_loadB agg_65 sz_65 (et (gS rfl (gS rfl g0)) rfl) rfl (at1B k16)) ?_
                    have hx8 := hX.ex.balt (argN f.stack 0 % A160)
                    rw [hX.ex.bl] at hx8
                    refine l_eff (e_callV cal_259 (aC (et (gS rfl (gS rfl g0)) rfl) (aC (et (gS rfl g0) rfl) (aC (v := .int .u16 ((1 : Nat) : Int)) rfl (aC rfl (aC (et g0 rfl) (aC (v := .int .u16 ((1 : Nat) : Int)) rfl aN)))))) (m_settle1 hX.ex hsf hph1 rfl 1 _ 1 (by omega) hx8 (by omega) (by omega))) (fun v27 w27 h27 => ?_)
                    obtain ⟨rfl, cs27, y27⟩ := h27
                    replace k9 := k9.ch y27.et.go.ch (by intro hm; (have e0 := hm); omega)
                    replace k16 := k16.ch y27.et.go.ch (by intro hm; (have e0 := hm); omega)
                    replace hX := hX.trans y27
                    replace U := U.cc y27.et.go.ch (by intro b hb; exact .inl trivial)
                    refine l_nil ?_
                    refine end0 rfl ?_
                    rw [hs1] at hX
                    exact ⟨rfl, _, _, _, _, hX⟩)))))))))
theorem m_opCodeSize {w : World} {H : Store} {col : Nat → Nat} {bc : Nat} {cs : Array Value} {V : EV} {s : YSt} {sn : List Nat} {sv : List AW} {ms : List (List Nat)} {c : Nat} {low : List YF} {f : YF} (hE : EX w H col bc cs V s sn sv ms c) (hs : s.frames = low ++ [f]) (hp : s.phase = 1) (hq : opcN f = 59) (hpc9 : f.pc < 512) (htk9 : 1 ≤ f.stack.length) {c' : Nat} (hap : s.applied ≤ 4) (hc1 : c' ≤ c) (hc2 : argN f.stack 0 % A160 ∉ s.now.warmA → c' + 2600 ≤ c) :
    Ret 193 [.pointer (some ⟨bc, 0, none⟩)] w (fun v w' => v = .tuple #[] ∧ ∃ H' col' cs' V', XT w H col w' H' col' bc cs' V' { s with now := { s.now with warmA := withA s.now.warmA (argN f.stack 0 % A160) }, frames := low ++ [ansN f 1 (avN (acctAt s.now.accts (argN f.stack 0 % A160)) 59)] } sn sv ms c') := by
  obtain ⟨n9, hn9, hR⟩ := hE.topF hs
  have hB := hE.fbT hs
  have h6 := hE.six hs
  have htop := hE.cTop hs
  have hphs := hE.cPh hp
  have hbp := hB.pc
  have hbs := hB.stk
  have hbg := hB.gas
  have hbc9 := hB.code
  have hnw := hE.vl.new
  have hfz := hE.vl.fz
  have hcC := hE.vl.colC
  have hbc0 := hE.vl.kC.lt
  have hX := XT.refl hE
  refine enter (n := 62) Hvaa.func193 rfl rfl (Nat.le_of_ble_eq_true rfl) ?_
  have U : Ch (fun _ => True) w w := Ch.refl _ w
  refine c_seq (fun K1 hK1 => ?_)
  exact (by
    refine c_region ?_
    refine l_step (y_moveV (et g0 rfl)) ?_
    refine l_eff (e_callV cal_183 (aC (et g0 rfl) aN) (m_running hX.ex hs hp)) (fun v2 w2 h2 => ?_)
    obtain ⟨rfl, u2⟩ := h2
    replace hX := hX.up u2
    replace U := U.tr u2
    refine l_step (y_assignV (et g0 rfl)) ?_
    refine l_nil ?_
    refine hK1 _ _ ?_
    refine fg2 0 2 (gS rfl (gS rfl (gS rfl g0))) g0 (fun g => ?_)
    refine c_seq (fun K3 hK3 => ?_)
    refine c_seq (fun K4 hK4 => ?_)
    exact (by
      refine c_region ?_
      refine l_step (y_moveV (et g0 rfl)) ?_
      refine l_step (y_eqlNil Hvaa.underlying276 (et g0 rfl) rfl) ?_
      refine l_nil ?_
      refine hK4 _ _ ?_
      refine fg3 0 2 8 (gS rfl (gS rfl (gS rfl g0))) (gS rfl (gS rfl g0)) g0 (fun g => ?_)
      refine c_false (et g0 rfl) rfl ?_
      refine c_skip ?_
      refine hK3 _ _ ?_
      refine fg2 0 2 (gS rfl (gS rfl g0)) (gS rfl g0) (fun g => ?_)
      refine c_seq (fun K6 hK6 => ?_)
      exact (by
        refine c_region ?_
        refine l_step (y_moveV (et (gS rfl g0) rfl)) ?_
        refine l_step (y_moveV (et (gS rfl g0) rfl)) ?_
        refine l_eff (e_callV cal_264 (aC (et (gS rfl g0) rfl) (aC (et g0 rfl) (aC (v := .int .i64 ((0 : Nat) : Int)) rfl aN))) (m_arg hX.ex hs hp (by first | exact hpf | rfl) _ (by decide))) (fun v7 w7 h7 => ?_)
        obtain ⟨rfl, u7⟩ := h7
        replace hX := hX.up u7
        replace U := U.tr u7
        refine l_eff (e_callV cal_293 (aC (et g0 rfl) aN) (mach_addrOf _ _ (by first | exact argN_lt hB _ | exact hB.value | assumption | decide | exact Nat.mod_lt _ (by decide)))) (fun v8 w8 h8 => ?_)
        obtain ⟨rfl, u8⟩ := h8
        replace hX := hX.up u8
        replace U := U.tr u8
        refine l_eff (e_alloc zr_25) (fun v9 w9 h9 => ?_)
        obtain ⟨b9, rfl, n9⟩ := h9
        have f9 : w.heap.size ≤ b9 := Nat.le_trans U.size n9.fresh
        replace hX := hX.up n9.up
        replace U := U.tr n9.up
        have k9 := n9.blk
        obtain ⟨zs9, hz9, k9⟩ : ∃ cs : Array Value, cs.size = 20 ∧ Blk w9 b9 cs := ⟨_, rfl, k9⟩
        have nc9 : col b9 = 0 := hnw _ f9
        refine l_effN (e_store sz_25 (et g0 rfl) (cellsV (et (gS rfl g0) rfl) rfl) (by rw [length_bL, length_be]) (by exact one_bL _) k9 (by (rw [hz9]; exact Nat.le_refl _))) (fun v10 w10 h10 => ?_)
        obtain ⟨rfl, x10⟩ := h10
        replace hX := hX.ch x10.ch (by first | omega | (intro b hb; first | (subst hb; first | exact ⟨by omega, fun hh => by have := hfz.lt hh; omega, by omega⟩ | exact ⟨by omega, by assumption, by omega⟩) | (rcases hb with hb | hb <;> (subst hb; first | exact ⟨by omega, fun hh => by have := hfz.lt hh; omega, by omega⟩ | exact ⟨by omega, by assumption, by omega⟩))))
        replace k9 := x10.blk.full (by rw [hz9, length_bL, length_be])
        replace U := U.st x10 (.inr f9)
        refine l_nil ?_
        refine hK6 _ _ ?_
        refine fg3 0 2 3 (gS rfl (gS rfl (gS rfl (gS rfl (gS rfl (gS rfl g0)))))) (gS rfl (gS rfl (gS rfl (gS rfl (gS rfl g0))))) g0 (fun g => ?_)
        refine c_seq (fun K11 hK11 => ?_)
        refine c_seq (fun K12 hK12 => ?_)
        exact (by
          refine c_region ?_
          refine l_step (y_moveV (et (gS rfl (gS rfl g0)) rfl)) ?_
          refine l_step (y_loadB agg_25 sz_25 (et (gS rfl g0) rfl) (by rw [List.size_toArray, length_bL, length_be]) (at1B k9)) ?_
          refine l_eff (e_callV cal_294 (aC (et (gS rfl g0) rfl) (aC (et g0 rfl) aN)) (m_warmAcct hX.ex hs hp (argN f.stack 0 % A160) (Nat.mod_lt _ A160_pos) hap (c' := c') hc1 hc2)) (fun v13 w13 h13 => ?_)
          obtain ⟨rfl, cl13, cs13, V13, y13⟩ := h13
          have nc9 := (y13.et.col b9 k9.lt).trans nc9
          have kp13 := hX.ex.vl.kC
          replace k9 := k9.ch y13.et.go.ch (by intro hm; (have e0 := hm); omega)
          replace hX := hX.trans y13
          replace U := U.cc y13.et.go.ch (by intro b hb; exact .inl trivial)
          obtain ⟨s1, hs1⟩ : ∃ s1 : YSt, s1 = { s with now := { s.now with warmA := withA s.now.warmA (argN f.stack 0 % A160) } } := ⟨_, rfl⟩
          rw [← hs1] at hX
          have hsf : s1.frames = low ++ [f] := by rw [hs1]; exact hs
          have hph1 : s1.phase = 1 := by rw [hs1]; exact hp
          have hac : s1.now.accts = s.now.accts := by rw [hs1]
          have hnw1 := hX.ex.vl.new
          refine l_step (y_not (et g0 rfl)) ?_
          refine l_nil ?_
          refine hK12 _ _ ?_
          refine fg4 0 2 3 16 (gS rfl (gS rfl (gS rfl (gS rfl (gS rfl (gS rfl g0)))))) (gS rfl (gS rfl (gS rfl (gS rfl (gS rfl g0))))) (gS rfl (gS rfl (gS rfl (gS rfl g0)))) g0 (fun g => ?_)
          refine c_false (et g0 rfl) (by rfl) ?_
          refine c_skip ?_
          refine hK11 _ _ ?_
          refine fg3 0 2 3 (gS rfl (gS rfl (gS rfl g0))) (gS rfl (gS rfl g0)) (gS rfl g0) (fun g => ?_)
          refine c_seq (fun K15 hK15 => ?_)
          exact (by
            refine c_region ?_
            refine l_step (y_bld bN bld65_z) ?_
            refine l_eff (e_alloc zr_65) (fun v16 w16 h16 => ?_)
            obtain ⟨b16, rfl, n16⟩ := h16
            have d9_16 : b9 < b16 := Nat.lt_of_lt_of_le k9.lt n16.fresh
            have f16 : w.heap.size ≤ b16 := Nat.le_trans U.size n16.fresh
            replace k9 := k9.up n16.up
            replace hX := hX.up n16.up
            replace U := U.tr n16.up
            have k16 := n16.blk
            obtain ⟨zs16, hz16, k16⟩ : ∃ cs : Array Value, cs.size = 4 ∧ Blk w16 b16 cs := ⟨_, rfl, k16⟩
            have nc16 := hnw1 b16 n16.fresh
            refine l_effN (e_store sz_65 (et g0 rfl) (cellsV (et (gS rfl g0) rfl) rfl) rfl (by exact one_uL _) k16 (by (first | (rw [hz16]; exact Nat.le_refl _) | (rw [List.size_toArray, wL_len]; exact Nat.le_refl _)))) (fun v17 w17 h17 => ?_)
            obtain ⟨rfl, x17⟩ := h17
            replace k9 := k9.ch x17.ch (by omega)
            replace hX := hX.ch x17.ch (by first | omega | (intro b hb; first | (subst hb; first | exact ⟨by omega, fun hh => by have := hfz.lt hh; omega, by omega⟩ | exact ⟨by omega, by assumption, by omega⟩) | (rcases hb with hb | hb <;> (subst hb; first | exact ⟨by omega, fun hh => by have := hfz.lt hh; omega, by omega⟩ | exact ⟨by omega, by assumption, by omega⟩))))
            replace k16 := x17.blk.full (by first | (rw [hz16]; rfl) | (rw [List.size_toArray, wL_len, wL_len]))
            replace U := U.st x17 (.inr f16)
            refine l_nil ?_
            refine hK15 _ _ ?_
            refine fg4 0 2 3 4 (gS rfl (gS rfl (gS rfl (gS rfl g0)))) (gS rfl (gS rfl (gS rfl g0))) (gS rfl (gS rfl g0)) g0 (fun g => ?_)
            refine c_seq (fun K18 hK18 => ?_)
            refine c_seq (fun K19 hK19 => ?_)
            exact (by
              refine c_region ?_
              refine l_step (y_moveV (et (gS rfl (gS rfl (gS rfl g0))) rfl)) ?_
              refine l_eff (e_callV cal_108 (aC (et g0 rfl) aN) (m_opcode hX.ex hsf hph1)) (fun v20 w20 h20 => ?_)
              obtain ⟨rfl, u20⟩ := h20
              replace k9 := k9.up u20
              replace k16 := k16.up u20
              replace hX := hX.up u20
              replace U := U.tr u20
              refine l_nil ?_
              refine hK19 _ _ ?_
              refine fg5 0 2 3 4 21 (gS rfl (gS rfl (gS rfl (gS rfl (gS rfl g0))))) (gS rfl (gS rfl (gS rfl (gS rfl g0)))) (gS rfl (gS rfl (gS rfl g0))) (gS rfl (gS rfl g0)) g0 (fun g => ?_)
              refine c_block (fun Q21 hQ21 => ?_)
              refine c_seq (fun K22 hK22 => ?_)
              exact (by
                refine c_region ?_
                refine l_step (y_eql (et g0 rfl) rfl) ?_
                refine l_step (y_assignV (et g0 rfl)) ?_
                refine l_nil ?_
                refine hK22 _ _ ?_
                refine fg6 0 2 3 4 21 22 (gS rfl (gS rfl (gS rfl (gS rfl (gS rfl (gS rfl g0)))))) (gS rfl (gS rfl (gS rfl (gS rfl (gS rfl g0))))) (gS rfl (gS rfl (gS rfl (gS rfl g0)))) (gS rfl (gS rfl (gS rfl g0))) (gS rfl (gS rfl g0)) g0 (fun g => ?_)
                refine c_false (et g0 rfl) (by (exact decide_eq_false (by omega))) ?_
                refine c_seq (fun K24 hK24 => ?_)
                exact (by
                  refine c_region ?_
                  refine l_step (y_eql (et (gS rfl g0) rfl) rfl) ?_
                  refine l_step (y_assignV (et g0 rfl)) ?_
                  refine l_nil ?_
                  refine hK24 _ _ ?_
                  refine fg6 0 2 3 4 21 30 (gS rfl (gS rfl (gS rfl (gS rfl (gS rfl (gS rfl (gS rfl g0))))))) (gS rfl (gS rfl (gS rfl (gS rfl (gS rfl (gS rfl g0)))))) (gS rfl (gS rfl (gS rfl (gS rfl (gS rfl g0))))) (gS rfl (gS rfl (gS rfl (gS rfl g0)))) (gS rfl (gS rfl (gS rfl g0))) g0 (fun g => ?_)
                  refine c_true (et g0 rfl) (by (exact decide_eq_true (by omega))) ?_
                  exact (by
                    refine c_draw Up 9 [(0, true), (1, true), (2, true), (3, true), (4, true), (5, false), (6, true), (7, true), (8, true), (9, false)] (by kernel_rfl) (fun w26 hu => ⟨Up.refl _, ?_⟩)
                    replace k9 := k9.up hu
                    replace k16 := k16.up hu
                    replace hX := hX.up hu
                    replace U := U.tr hu
                    have SU := Up.refl w26
                    refine p_step (by exact rfl) (y_moveV (et (gS rfl (gS rfl (gS rfl (gS rfl (gS rfl g0))))) rfl)) ?_
                    refine p_step (by exact rfl) (y_nil (et g0 rfl)) ?_
                    refine p_step (by exact rfl) (y_fld fld_75_0 (et g0 rfl)) ?_
                    refine p_step (by exact rfl) (y_load1 one_59 (et g0 rfl) (atS (hX.ex.vl.c1 hX.ex.lx.pS rfl))) ?_
                    refine p_step (by exact rfl) (y_loadB agg_25 sz_25 (et (gS rfl (gS rfl (gS rfl (gS rfl (gS rfl (gS rfl (gS rfl g0))))))) rfl) (by rw [List.size_toArray, length_bL, length_be]) (atSB k9)) ?_
                    refine p_eff (by exact rfl) (e_callV cal_103 (aC (et (gS rfl g0) rfl) (aC (et g0 rfl) aN)) (hX.ex.codeC (argN f.stack 0 % A160) (Nat.mod_lt _ A160_pos))) (fun v27 w27 h27 => ?_)
                    obtain ⟨H27, ca9, cc9, rfl, g27, n27⟩ := h27
                    have nh9 : ¬ H27.has b9 := g27.nb (fun hh => by have := hfz.lt hh; omega) k9.lt
                    have nh16 : ¬ H27.has b16 := g27.nb (fun hh => by have := hfz.lt hh; omega) k16.lt
                    replace k9 := k9.ch g27.ch (by intro hm; exact hm.elim)
                    replace k16 := k16.ch g27.ch (by intro hm; exact hm.elim)
                    replace hX := hX.gn g27
                    replace U := U.cc g27.ch (by intro b hb; exact .inl trivial)
                    have hcl9 := hX.ex.codeLen (argN f.stack 0 % A160)
                    replace SU := SU.cc g27.ch (by intro b hb; first | exact .inl hb | exact hb.elim | omega)
                    refine ⟨.inr SU, ?_⟩
                    refine p_step (by exact rfl) (y_len Hvaa.underlying38 (et g0 rfl)) ?_
                    refine p_step (by exact rfl) (y_conv Hvaa.underlying3 Hvaa.underlying26 (et g0 rfl) (wrapU_id uk64 ?_)) ?_
                    omega
                    refine p_step (by exact rfl) (y_idxAC 0 0 Hvaa.underlying65 sz_26 (et (gS rfl (gS rfl (gS rfl (gS rfl (gS rfl (gS rfl (gS rfl (gS rfl (gS rfl (gS rfl g0)))))))))) rfl) rfl rfl rfl) ?_
                    refine p_effN (by exact rfl) (e_store sz_26 (et g0 rfl) (cellsV (et (gS rfl g0) rfl) rfl) rfl (by first | exact one_bL _ | exact one_uL _ | (intro v hv; simp at hv; subst hv; rfl)) k16 (by (rw [List.size_toArray, wL_len]; exact Nat.le_of_ble_eq_true rfl))) (fun v28 w28 h28 => ?_)
                    obtain ⟨rfl, x28⟩ := h28
                    replace k9 := k9.ch x28.ch (by omega)
                    replace hX := hX.ch x28.ch (by first | omega | (intro b hb; first | (subst hb; first | exact ⟨by omega, fun hh => by have := hfz.lt hh; omega, by omega⟩ | exact ⟨by omega, by assumption, by omega⟩) | (rcases hb with hb | hb <;> (subst hb; first | exact ⟨by omega, fun hh => by have := hfz.lt hh; omega, by omega⟩ | exact ⟨by omega, by assumption, by omega⟩))))
                    replace k16 := x28.blk
                    replace U := U.st x28 (.inr f16)
                    refine ⟨.inl rfl, ?_⟩
                    rw [w0_put (by omega) rfl] at k16
                    refine p_nil ?_
                    refine hQ21 _ _ _ (in_normal ?_)
                    refine hK18 _ _ ?_
                    refine fg3 0 2 4 (gS rfl (gS rfl (gS rfl (gS rfl (gS rfl (gS rfl (gS rfl (gS rfl (gS rfl (gS rfl (gS rfl (gS rfl (gS rfl (gS rfl g0)))))))))))))) (gS rfl (gS rfl (gS rfl (gS rfl (gS rfl (gS rfl (gS rfl (gS rfl (gS rfl (gS rfl (gS rfl (gS rfl (gS rfl g0))))))))))))) (gS rfl (gS rfl (gS rfl (gS rfl (gS rfl (gS rfl (gS rfl (gS rfl (gS rfl (gS rfl (gS rfl g0))))))))))) (fun g => ?_)
                    refine c_region ?_
                    exact (by
                      refine l_step (y_moveV (et (gS rfl (gS rfl g0)) rfl)) ?_
                      refine l_step (y_moveV (et (gS rfl (gS rfl g0)) rfl)) ?_
                      refine l_step (y_loadB agg_65 sz_65 (et (gS rfl (gS rfl g0)) rfl) rfl (at1B k16)) ?_
                      have hx8 : (acctAt s1.now.accts (argN f.stack 0 % A160)).code.length < W256 := Nat.lt_of_le_of_lt (show _ ≤ 512 by omega) (by decide)
                      refine l_eff (e_callV cal_259 (aC (et (gS rfl (gS rfl g0)) rfl) (aC (et (gS rfl g0) rfl) (aC (v := .int .u16 ((1 : Nat) : Int)) rfl (aC rfl (aC (et g0 rfl) (aC (v := .int .u16 ((1 : Nat) : Int)) rfl aN)))))) (m_settle1 hX.ex hsf hph1 rfl 1 _ 1 (by omega) hx8 (by omega) (by omega))) (fun v29 w29 h29 => ?_)
                      obtain ⟨rfl, cs29, y29⟩ := h29
                      replace k9 := k9.ch y29.et.go.ch (by intro hm; (have e0 := hm); omega)
                      replace k16 := k16.ch y29.et.go.ch (by intro hm; (have e0 := hm); omega)
                      replace hX := hX.trans y29
                      replace U := U.cc y29.et.go.ch (by intro b hb; exact .inl trivial)
                      refine l_nil ?_
                      refine end0 rfl ?_
                      rw [hs1] at hX
                      exact ⟨rfl, _, _, _, _, hX⟩))))))))))
theorem m_opCodeHash {w : World} {H : Store} {col : Nat → Nat} {bc : Nat} {cs : Array Value} {V : EV} {s : YSt} {sn : List Nat} {sv : List AW} {ms : List (List Nat)} {c : Nat} {low : List YF} {f : YF} (hE : EX w H col bc cs V s sn sv ms c) (hs : s.frames = low ++ [f]) (hp : s.phase = 1) (hq : opcN f = 63) (hpc9 : f.pc < 512) (htk9 : 1 ≤ f.stack.length) {c' : Nat} (hap : s.applied ≤ 4) (hc1 : c' ≤ c) (hc2 : argN f.stack 0 % A160 ∉ s.now.warmA → c' + 2600 ≤ c) :
    Ret 193 [.pointer (some ⟨bc, 0, none⟩)] w (fun v w' => v = .tuple #[] ∧ ∃ H' col' cs' V', XT w H col w' H' col' bc cs' V' { s with now := { s.now with warmA := withA s.now.warmA (argN f.stack 0 % A160) }, frames := low ++ [ansN f 1 (avN (acctAt s.now.accts (argN f.stack 0 % A160)) 63)] } sn sv ms c') := by
  obtain ⟨n9, hn9, hR⟩ := hE.topF hs
  have hB := hE.fbT hs
  have h6 := hE.six hs
  have htop := hE.cTop hs
  have hphs := hE.cPh hp
  have hbp := hB.pc
  have hbs := hB.stk
  have hbg := hB.gas
  have hbc9 := hB.code
  have hnw := hE.vl.new
  have hfz := hE.vl.fz
  have hcC := hE.vl.colC
  have hbc0 := hE.vl.kC.lt
  have hX := XT.refl hE
  refine enter (n := 62) Hvaa.func193 rfl rfl (Nat.le_of_ble_eq_true rfl) ?_
  have U : Ch (fun _ => True) w w := Ch.refl _ w
  refine c_seq (fun K1 hK1 => ?_)
  exact (by
    refine c_region ?_
    refine l_step (y_moveV (et g0 rfl)) ?_
    refine l_eff (e_callV cal_183 (aC (et g0 rfl) aN) (m_running hX.ex hs hp)) (fun v2 w2 h2 => ?_)
    obtain ⟨rfl, u2⟩ := h2
    replace hX := hX.up u2
    replace U := U.tr u2
    refine l_step (y_assignV (et g0 rfl)) ?_
    refine l_nil ?_
    refine hK1 _ _ ?_
    refine fg2 0 2 (gS rfl (gS rfl (gS rfl g0))) g0 (fun g => ?_)
    refine c_seq (fun K3 hK3 => ?_)
    refine c_seq (fun K4 hK4 => ?_)
    exact (by
      refine c_region ?_
      refine l_step (y_moveV (et g0 rfl)) ?_
      refine l_step (y_eqlNil Hvaa.underlying276 (et g0 rfl) rfl) ?_
      refine l_nil ?_
      refine hK4 _ _ ?_
      refine fg3 0 2 8 (gS rfl (gS rfl (gS rfl g0))) (gS rfl (gS rfl g0)) g0 (fun g => ?_)
      refine c_false (et g0 rfl) rfl ?_
      refine c_skip ?_
      refine hK3 _ _ ?_
      refine fg2 0 2 (gS rfl (gS rfl g0)) (gS rfl g0) (fun g => ?_)
      refine c_seq (fun K6 hK6 => ?_)
      exact (by
        refine c_region ?_
        refine l_step (y_moveV (et (gS rfl g0) rfl)) ?_
        refine l_step (y_moveV (et (gS rfl g0) rfl)) ?_
        refine l_eff (e_callV cal_264 (aC (et (gS rfl g0) rfl) (aC (et g0 rfl) (aC (v := .int .i64 ((0 : Nat) : Int)) rfl aN))) (m_arg hX.ex hs hp (by first | exact hpf | rfl) _ (by decide))) (fun v7 w7 h7 => ?_)
        obtain ⟨rfl, u7⟩ := h7
        replace hX := hX.up u7
        replace U := U.tr u7
        refine l_eff (e_callV cal_293 (aC (et g0 rfl) aN) (mach_addrOf _ _ (by first | exact argN_lt hB _ | exact hB.value | assumption | decide | exact Nat.mod_lt _ (by decide)))) (fun v8 w8 h8 => ?_)
        obtain ⟨rfl, u8⟩ := h8
        replace hX := hX.up u8
        replace U := U.tr u8
        refine l_eff (e_alloc zr_25) (fun v9 w9 h9 => ?_)
        obtain ⟨b9, rfl, n9⟩ := h9
        have f9 : w.heap.size ≤ b9 := Nat.le_trans U.size n9.fresh
        replace hX := hX.up n9.up
        replace U := U.tr n9.up
        have k9 := n9.blk
        obtain ⟨zs9, hz9, k9⟩ : ∃ cs : Array Value, cs.size = 20 ∧ Blk w9 b9 cs := ⟨_, rfl, k9⟩
        have nc9 : col b9 = 0 := hnw _ f9
        refine l_effN (e_store sz_25 (et g0 rfl) (cellsV (et (gS rfl g0) rfl) rfl) (by rw [length_bL, length_be]) (by exact one_bL _) k9 (by (rw [hz9]; exact Nat.le_refl _))) (fun v10 w10 h10 => ?_)
        obtain ⟨rfl, x10⟩ := h10
        replace hX := hX.ch x10.ch (by first | omega | (intro b hb; first | (subst hb; first | exact ⟨by omega, fun hh => by have := hfz.lt hh; omega, by omega⟩ | exact ⟨by omega, by assumption, by omega⟩) | (rcases hb with hb | hb <;> (subst hb; first | exact ⟨by omega, fun hh => by have := hfz.lt hh; omega, by omega⟩ | exact ⟨by omega, by assumption, by omega⟩))))
        replace k9 := x10.blk.full (by rw [hz9, length_bL, length_be])
        replace U := U.st x10 (.inr f9)
        refine l_nil ?_
        refine hK6 _ _ ?_
        refine fg3 0 2 3 (gS rfl (gS rfl (gS rfl (gS rfl (gS rfl (gS rfl g0)))))) (gS rfl (gS rfl (gS rfl (gS rfl (gS rfl g0))))) g0 (fun g => ?_)
        refine c_seq (fun K11 hK11 => ?_)
        refine c_seq (fun K12 hK12 => ?_)
        exact (by
          refine c_region ?_
          refine l_step (y_moveV (et (gS rfl (gS rfl g0)) rfl)) ?_
          refine l_step (y_loadB agg_25 sz_25 (et (gS rfl g0) rfl) (by rw [List.size_toArray, length_bL, length_be]) (at1B k9)) ?_
          refine l_eff (e_callV cal_294 (aC (et (gS rfl g0) rfl) (aC (et g0 rfl) aN)) (m_warmAcct hX.ex hs hp (argN f.stack 0 % A160) (Nat.mod_lt _ A160_pos) hap (c' := c') hc1 hc2)) (fun v13 w13 h13 => ?_)
          obtain ⟨rfl, cl13, cs13, V13, y13⟩ := h13
          have nc9 := (y13.et.col b9 k9.lt).trans nc9
          have kp13 := hX.ex.vl.kC
          replace k9 := k9.ch y13.et.go.ch (by intro hm; (have e0 := hm); omega)
          replace hX := hX.trans y13
          replace U := U.cc y13.et.go.ch (by intro b hb; exact .inl trivial)
          obtain ⟨s1, hs1⟩ : ∃ s1 : YSt, s1 = { s with now := { s.now with warmA := withA s.now.warmA (argN f.stack 0 % A160) } } := ⟨_, rfl⟩
          rw [← hs1] at hX
          have hsf : s1.frames = low ++ [f] := by rw [hs1]; exact hs
          have hph1 : s1.phase = 1 := by rw [hs1]; exact hp
          have hac : s1.now.accts = s.now.accts := by rw [hs1]
          have hnw1 := hX.ex.vl.new
          refine l_step (y_not (et g0 rfl)) ?_
          refine l_nil ?_
          refine hK12 _ _ ?_
          refine fg4 0 2 3 16 (gS rfl (gS rfl (gS rfl (gS rfl (gS rfl (gS rfl g0)))))) (gS rfl (gS rfl (gS rfl (gS rfl (gS rfl g0))))) (gS rfl (gS rfl (gS rfl (gS rfl g0)))) g0 (fun g => ?_)
          refine c_false (et g0 rfl) (by rfl) ?_
          refine c_skip ?_
          refine hK11 _ _ ?_
          refine fg3 0 2 3 (gS rfl (gS rfl (gS rfl g0))) (gS rfl (gS rfl g0)) (gS rfl g0) (fun g => ?_)
          refine c_seq (fun K15 hK15 => ?_)
          exact (by
            refine c_region ?_
            refine l_step (y_bld bN bld65_z) ?_
            refine l_eff (e_alloc zr_65) (fun v16 w16 h16 => ?_)
            obtain ⟨b16, rfl, n16⟩ := h16
            have d9_16 : b9 < b16 := Nat.lt_of_lt_of_le k9.lt n16.fresh
            have f16 : w.heap.size ≤ b16 := Nat.le_trans U.size n16.fresh
            replace k9 := k9.up n16.up
            replace hX := hX.up n16.up
            replace U := U.tr n16.up
            have k16 := n16.blk
            obtain ⟨zs16, hz16, k16⟩ : ∃ cs : Array Value, cs.size = 4 ∧ Blk w16 b16 cs := ⟨_, rfl, k16⟩
            have nc16 := hnw1 b16 n16.fresh
            refine l_effN (e_store sz_65 (et g0 rfl) (cellsV (et (gS rfl g0) rfl) rfl) rfl (by exact one_uL _) k16 (by (first | (rw [hz16]; exact Nat.le_refl _) | (rw [List.size_toArray, wL_len]; exact Nat.le_refl _)))) (fun v17 w17 h17 => ?_)
            obtain ⟨rfl, x17⟩ := h17
            replace k9 := k9.ch x17.ch (by omega)
            replace hX := hX.ch x17.ch (by first | omega | (intro b hb; first | (subst hb; first | exact ⟨by omega, fun hh => by have := hfz.lt hh; omega, by omega⟩ | exact ⟨by omega, by assumption, by omega⟩) | (rcases hb with hb | hb <;> (subst hb; first | exact ⟨by omega, fun hh => by have := hfz.lt hh; omega, by omega⟩ | exact ⟨by omega, by assumption, by omega⟩))))
            replace k16 := x17.blk.full (by first | (rw [hz16]; rfl) | (rw [List.size_toArray, wL_len, wL_len]))
            replace U := U.st x17 (.inr f16)
            refine l_nil ?_
            refine hK15 _ _ ?_
            refine fg4 0 2 3 4 (gS rfl (gS rfl (gS rfl (gS rfl g0)))) (gS rfl (gS rfl (gS rfl g0))) (gS rfl (gS rfl g0)) g0 (fun g => ?_)
            refine c_seq (fun K18 hK18 => ?_)
            refine c_seq (fun K19 hK19 => ?_)
            exact (by
              refine c_region ?_
              refine l_step (y_moveV (et (gS rfl (gS rfl (gS rfl g0))) rfl)) ?_
              refine l_eff (e_callV cal_108 (aC (et g0 rfl) aN) (m_opcode hX.ex hsf hph1)) (fun v20 w20 h20 => ?_)
              obtain ⟨rfl, u20⟩ := h20
              replace k9 := k9.up u20
              replace k16 := k16.up u20
              replace hX := hX.up u20
              replace U := U.tr u20
              refine l_nil ?_
              refine hK19 _ _ ?_
              refine fg5 0 2 3 4 21 (gS rfl (gS rfl (gS rfl (gS rfl (gS rfl g0))))) (gS rfl (gS rfl (gS rfl (gS rfl g0)))) (gS rfl (gS rfl (gS rfl g0))) (gS rfl (gS rfl g0)) g0 (fun g => ?_)
              refine c_block (fun Q21 hQ21 => ?_)
              refine c_seq (fun K22 hK22 => ?_)
              exact (by
                refine c_region ?_
                refine l_step (y_eql (et g0 rfl) rfl) ?_
                refine l_step (y_assignV (et g0 rfl)) ?_
                refine l_nil ?_
                refine hK22 _ _ ?_
                refine fg6 0 2 3 4 21 22 (gS rfl (gS rfl (gS rfl (gS rfl (gS rfl (gS rfl g0)))))) (gS rfl (gS rfl (gS rfl (gS rfl (gS rfl g0))))) (gS rfl (gS rfl (gS rfl (gS rfl g0)))) (gS rfl (gS rfl (gS rfl g0))) (gS rfl (gS rfl g0)) g0 (fun g => ?_)
                refine c_false (et g0 rfl) (by (exact decide_eq_false (by omega))) ?_
                refine c_seq (fun K24 hK24 => ?_)
                exact (by
                  refine c_region ?_
                  refine l_step (y_eql (et (gS rfl g0) rfl) rfl) ?_
                  refine l_step (y_assignV (et g0 rfl)) ?_
                  refine l_nil ?_
                  refine hK24 _ _ ?_
                  refine fg6 0 2 3 4 21 30 (gS rfl (gS rfl (gS rfl (gS rfl (gS rfl (gS rfl (gS rfl g0))))))) (gS rfl (gS rfl (gS rfl (gS rfl (gS rfl (gS rfl g0)))))) (gS rfl (gS rfl (gS rfl (gS rfl (gS rfl g0))))) (gS rfl (gS rfl (gS rfl (gS rfl g0)))) (gS rfl (gS rfl (gS rfl g0))) g0 (fun g => ?_)
                  refine c_false (et g0 rfl) (by (exact decide_eq_false (by omega))) ?_
                  refine c_seq (fun K26 hK26 => ?_)
                  exact (by
                    refine c_region ?_
                    refine l_step (y_eql (et (gS rfl g0) rfl) rfl) ?_
                    refine l_step (y_assignV (et g0 rfl)) ?_
                    refine l_nil ?_
                    refine hK26 _ _ ?_
                    refine fg5 0 2 3 4 41 (gS rfl (gS rfl (gS rfl (gS rfl (gS rfl (gS rfl (gS rfl g0))))))) (gS rfl (gS rfl (gS rfl (gS rfl (gS rfl (gS rfl g0)))))) (gS rfl (gS rfl (gS rfl (gS rfl (gS rfl g0))))) (gS rfl (gS rfl (gS rfl (gS rfl g0)))) g0 (fun g => ?_)
                    refine c_true (et g0 rfl) (by (exact decide_eq_true (by omega))) ?_
                    refine c_seq (fun K28 hK28 => ?_)
                    exact (by
                      refine c_draw Up 7 [(0, true), (1, true), (2, true), (3, true), (4, true), (5, false), (6, true)] (by kernel_rfl) (fun w29 hu => ⟨Up.refl _, ?_⟩)
                      replace k9 := k9.up hu
                      replace k16 := k16.up hu
                      replace hX := hX.up hu
                      replace U := U.tr hu
                      have SU := Up.refl w29
                      refine p_step (by exact rfl) (y_moveV (et (gS rfl (gS rfl (gS rfl (gS rfl g0)))) rfl)) ?_
                      refine p_step (by exact rfl) (y_nil (et g0 rfl)) ?_
                      refine p_step (by exact rfl) (y_fld fld_75_0 (et g0 rfl)) ?_
                      refine p_step (by exact rfl) (y_load1 one_59 (et g0 rfl) (atS (hX.ex.vl.c1 hX.ex.lx.pS rfl))) ?_
                      refine p_step (by exact rfl) (y_loadB agg_25 sz_25 (et (gS rfl (gS rfl (gS rfl (gS rfl (gS rfl (gS rfl g0)))))) rfl) (by rw [List.size_toArray, length_bL, length_be]) (atSB k9)) ?_
                      refine p_eff (by exact rfl) (e_callV cal_295 (aC (et (gS rfl g0) rfl) (aC (et g0 rfl) aN)) (hX.ex.emC (argN f.stack 0 % A160) (Nat.mod_lt _ A160_pos))) (fun v30 w30 h30 => ?_)
                      obtain ⟨rfl, u30⟩ := h30
                      replace k9 := k9.up u30
                      replace k16 := k16.up u30
                      replace hX := hX.up u30
                      replace U := U.tr u30
                      refine ⟨.inr (SU.tr u30), ?_⟩
                      replace SU := SU.tr u30
                      refine p_step (by exact rfl) (y_not (et g0 rfl)) ?_
                      refine p_nil ?_
                      refine hK28 _ _ ?_
                      refine fg5 0 2 3 4 49 (gS rfl (gS rfl (gS rfl (gS rfl (gS rfl (gS rfl (gS rfl (gS rfl (gS rfl (gS rfl (gS rfl g0))))))))))) (gS rfl (gS rfl (gS rfl (gS rfl (gS rfl (gS rfl (gS rfl (gS rfl (gS rfl (gS rfl g0)))))))))) (gS rfl (gS rfl (gS rfl (gS rfl (gS rfl (gS rfl (gS rfl (gS rfl (gS rfl g0))))))))) (gS rfl (gS rfl (gS rfl (gS rfl (gS rfl (gS rfl (gS rfl (gS rfl g0)))))))) g0 (fun g => ?_)
                      refine c_cond (et g0 rfl) (fun cB6 => ?_) (fun cB6 => ?_)
                      · skip
                        
                        have he9 : emptyB (acctAt s1.now.accts (argN f.stack 0 % A160)) = false := by simpa using cB6
                        exact (by
                          refine c_draw Up 8 [(0, true), (1, true), (2, true), (3, true), (4, true), (5, false), (6, false), (7, false), (8, false)] (by kernel_rfl) (fun w32 hu => ⟨Up.refl _, ?_⟩)
                          replace k9 := k9.up hu
                          replace k16 := k16.up hu
                          replace hX := hX.up hu
                          replace U := U.tr hu
                          have SU := Up.refl w32
                          refine p_step (by exact rfl) (y_moveV (et (gS rfl (gS rfl (gS rfl (gS rfl g0)))) rfl)) ?_
                          refine p_step (by exact rfl) (y_nil (et g0 rfl)) ?_
                          refine p_step (by exact rfl) (y_fld fld_75_0 (et g0 rfl)) ?_
                          refine p_step (by exact rfl) (y_load1 one_59 (et g0 rfl) (atS (hX.ex.vl.c1 hX.ex.lx.pS rfl))) ?_
                          refine p_step (by exact rfl) (y_loadB agg_25 sz_25 (et (gS rfl (gS rfl (gS rfl (gS rfl (gS rfl (gS rfl g0)))))) rfl) (by rw [List.size_toArray, length_bL, length_be]) (atSB k9)) ?_
                          refine p_eff (by exact rfl) (e_callV cal_103 (aC (et (gS rfl g0) rfl) (aC (et g0 rfl) aN)) (hX.ex.codeC (argN f.stack 0 % A160) (Nat.mod_lt _ A160_pos))) (fun v33 w33 h33 => ?_)
                          obtain ⟨H33, ca9, cc9, rfl, g33, n9⟩ := h33
                          have nh9 : ¬ H33.has b9 := g33.nb (fun hh => by have := hfz.lt hh; omega) k9.lt
                          have nh16 : ¬ H33.has b16 := g33.nb (fun hh => by have := hfz.lt hh; omega) k16.lt
                          replace k9 := k9.ch g33.ch (by intro hm; exact hm.elim)
                          replace k16 := k16.ch g33.ch (by intro hm; exact hm.elim)
                          replace hX := hX.gn g33
                          replace U := U.cc g33.ch (by intro b hb; exact .inl trivial)
                          replace SU := SU.cc g33.ch (by intro b hb; first | exact .inl hb | exact hb.elim | omega)
                          refine ⟨.inr SU, ?_⟩
                          refine p_eff (by exact rfl) (e_callV cal_166 (aC (et g0 rfl) aN) (m_kec hX.ex.vl.fz n9)) (fun v34 w34 h34 => ?_)
                          obtain ⟨rfl, u34⟩ := h34
                          replace k9 := k9.up u34
                          replace k16 := k16.up u34
                          replace hX := hX.up u34
                          replace U := U.tr u34
                          refine ⟨.inr (SU.tr u34), ?_⟩
                          replace SU := SU.tr u34
                          refine p_eff (by exact rfl) (e_callV cal_83 (aC (et g0 rfl) aN) (fromBytes_spec _ _)) (fun v35 w35 h35 => ?_)
                          obtain ⟨rfl, u35⟩ := h35
                          replace k9 := k9.up u35
                          replace k16 := k16.up u35
                          replace hX := hX.up u35
                          replace U := U.tr u35
                          refine ⟨.inr (SU.tr u35), ?_⟩
                          replace SU := SU.tr u35
                          exact (by
                            refine p_effN (by exact rfl) (e_store sz_65 (et (gS rfl (gS rfl (gS rfl (gS rfl (gS rfl (gS rfl (gS rfl (gS rfl (gS rfl g0))))))))) rfl) (cellsV (et g0 rfl) rfl) rfl (by exact one_uL _) k16 (by (first | (rw [hz16]; exact Nat.le_refl _) | (rw [List.size_toArray, wL_len]; exact Nat.le_refl _)))) (fun v36 w36 h36 => ?_)
                            obtain ⟨rfl, x36⟩ := h36
                            replace k9 := k9.ch x36.ch (by omega)
                            replace hX := hX.ch x36.ch (by first | omega | (intro b hb; first | (subst hb; first | exact ⟨by omega, fun hh => by have := hfz.lt hh; omega, by omega⟩ | exact ⟨by omega, by assumption, by omega⟩) | (rcases hb with hb | hb <;> (subst hb; first | exact ⟨by omega, fun hh => by have := hfz.lt hh; omega, by omega⟩ | exact ⟨by omega, by assumption, by omega⟩))))
                            replace k16 := x36.blk.full (by first | (rw [hz16]; rfl) | (rw [List.size_toArray, wL_len, wL_len]))
                            replace U := U.st x36 (.inr f16)
                            refine ⟨.inl rfl, ?_⟩
                            refine p_nil ?_
                            refine hQ21 _ _ _ (in_normal ?_)
                            refine hK18 _ _ ?_
                            refine fg3 0 2 4 (gS rfl (gS rfl (gS rfl (gS rfl (gS rfl (gS rfl (gS rfl (gS rfl (gS rfl (gS rfl (gS rfl (gS rfl g0)))))))))))) (gS rfl (gS rfl (gS rfl (gS rfl (gS rfl (gS rfl (gS rfl (gS rfl (gS rfl (gS rfl (gS rfl g0))))))))))) (gS rfl (gS rfl (gS rfl (gS rfl (gS rfl (gS rfl (gS rfl (gS rfl (gS rfl g0))))))))) (fun g => ?_)
                            refine c_region ?_
                            refine l_step (y_moveV (et (gS rfl (gS rfl g0)) rfl)) ?_
                            refine l_step (y_moveV (et (gS rfl (gS rfl g0)) rfl)) ?_
                            refine l_step (y_loadB agg_65 sz_65 (et (gS rfl (gS rfl g0)) rfl) rfl (at1B k16)) ?_
                            have hx8 := kec_lt (acctAt s1.now.accts (argN f.stack 0 % A160)).code
                            refine l_eff (e_callV cal_259 (aC (et (gS rfl (gS rfl g0)) rfl) (aC (et (gS rfl g0) rfl) (aC (v := .int .u16 ((1 : Nat) : Int)) rfl (aC rfl (aC (et g0 rfl) (aC (v := .int .u16 ((1 : Nat) : Int)) rfl aN)))))) (m_settle1 hX.ex hsf hph1 rfl 1 _ 1 (by omega) hx8 (by omega) (by omega))) (fun v37 w37 h37 => ?_)
                            obtain ⟨rfl, cs37, y37⟩ := h37
                            replace k9 := k9.ch y37.et.go.ch (by intro hm; (have e0 := hm); omega)
                            replace k16 := k16.ch y37.et.go.ch (by intro hm; (have e0 := hm); omega)
                            replace hX := hX.trans y37
                            replace U := U.cc y37.et.go.ch (by intro b hb; exact .inl trivial)
                            refine l_nil ?_
                            refine end0 rfl ?_
                            have e9 : kecN (acctAt s1.now.accts (argN f.stack 0 % A160)).code = avN (acctAt s.now.accts (argN f.stack 0 % A160)) 63 := by
                              unfold avN
                              rw [if_neg (by decide), if_neg (by decide), ← hac, he9]
                              rfl
                            rw [set_ans, e9, hs1] at hX
                            exact ⟨rfl, _, _, _, _, hX⟩))
                      · skip
                        
                        have he9 : emptyB (acctAt s1.now.accts (argN f.stack 0 % A160)) = true := by simpa using cB6
                        refine c_skip ?_
                        refine hQ21 _ _ _ (in_normal ?_)
                        refine hK18 _ _ ?_
                        refine fg3 0 2 4 (gS rfl (gS rfl (gS rfl (gS rfl g0)))) (gS rfl (gS rfl (gS rfl g0))) (gS rfl g0) (fun g => ?_)
                        refine c_region ?_
                        refine l_step (y_moveV (et (gS rfl (gS rfl g0)) rfl)) ?_
                        refine l_step (y_moveV (et (gS rfl (gS rfl g0)) rfl)) ?_
                        refine l_step (y_loadB agg_65 sz_65 (et (gS rfl (gS rfl g0)) rfl) rfl (at1B k16)) ?_
                        have hx8 : 0 < W256 := by decide
                        refine l_eff (e_callV cal_259 (aC (et (gS rfl (gS rfl g0)) rfl) (aC (et (gS rfl g0) rfl) (aC (v := .int .u16 ((1 : Nat) : Int)) rfl (aC rfl (aC (et g0 rfl) (aC (v := .int .u16 ((1 : Nat) : Int)) rfl aN)))))) (m_settle1 hX.ex hsf hph1 rfl 1 _ 1 (by omega) hx8 (by omega) (by omega))) (fun v38 w38 h38 => ?_)
                        obtain ⟨rfl, cs38, y38⟩ := h38
                        replace k9 := k9.ch y38.et.go.ch (by intro hm; (have e0 := hm); omega)
                        replace k16 := k16.ch y38.et.go.ch (by intro hm; (have e0 := hm); omega)
                        replace hX := hX.trans y38
                        replace U := U.cc y38.et.go.ch (by intro b hb; exact .inl trivial)
                        refine l_nil ?_
                        refine end0 rfl ?_
                        have e9 : 0 = avN (acctAt s.now.accts (argN f.stack 0 % A160)) 63 := by
                          unfold avN
                          rw [if_neg (by decide), if_neg (by decide), ← hac, he9]
                          rfl
                        rw [set_ans, e9, hs1] at hX
                        exact ⟨rfl, _, _, _, _, hX⟩))))))))))
end Go.Proofs.YgvaawGreat
