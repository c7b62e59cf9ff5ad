import Derived.Test.YgvaawGreatZ8
set_option maxRecDepth 100000
set_option maxHeartbeats 4000000
set_option linter.unusedSimpArgs false
set_option linter.unusedVariables false
namespace Go.Proofs.YgvaawGreat
open Go
theorem al_add (a b c : Nat) (w : World) (ha : a < W256) (hb : b < W256) : Ret 114 [wV a, wV b] w (fun v w' => v = wV (aluN 1 a b c) ∧ Up w w') := add_spec a b w ha hb
theorem al_mul (a b c : Nat) (w : World) (ha : a < W256) (hb : b < W256) : Ret 95 [wV a, wV b] w (fun v w' => v = wV (aluN 2 a b c) ∧ Up w w') := mul_spec a b w ha hb
theorem al_sub (a b c : Nat) (w : World) (ha : a < W256) (hb : b < W256) : Ret 98 [wV a, wV b] w (fun v w' => v = wV (aluN 3 a b c) ∧ Up w w') := by
  have e : aluN 3 a b c = (a + W256 - b) % W256 := by
    show (a + sgn b true) % W256 = _
    unfold sgn
    rw [if_pos rfl, Nat.add_mod_mod]
    congr 1
    omega
  rw [e]
  exact sub_spec a b w ha hb
theorem al_div (a b c : Nat) (w : World) (ha : a < W256) (hb : b < W256) : Ret 273 [wV a, wV b] w (fun v w' => v = wV (aluN 4 a b c) ∧ Up w w') := div_spec a b w ha hb
theorem al_sdiv (a b c : Nat) (w : World) (ha : a < W256) (hb : b < W256) : Ret 274 [wV a, wV b] w (fun v w' => v = wV (aluN 5 a b c) ∧ Up w w') := sdiv_spec a b w ha hb
theorem al_mod (a b c : Nat) (w : World) (ha : a < W256) (hb : b < W256) : Ret 275 [wV a, wV b] w (fun v w' => v = wV (aluN 6 a b c) ∧ Up w w') := mod_spec a b w ha hb
theorem al_smod (a b c : Nat) (w : World) (ha : a < W256) (hb : b < W256) : Ret 276 [wV a, wV b] w (fun v w' => v = wV (aluN 7 a b c) ∧ Up w w') := smod_spec a b w ha hb
theorem al_exp (a b c : Nat) (w : World) (ha : a < W256) (hb : b < W256) : Ret 277 [wV a, wV b] w (fun v w' => v = wV (aluN 10 a b c) ∧ Up w w') := exp_spec a b w ha hb
theorem al_sext (a b c : Nat) (w : World) (ha : a < W256) (hb : b < W256) : Ret 278 [wV a, wV b] w (fun v w' => v = wV (aluN 11 a b c) ∧ Up w w') := sext_spec a b w ha hb
theorem al_wand (a b c : Nat) (w : World) (ha : a < W256) (hb : b < W256) : Ret 284 [wV a, wV b] w (fun v w' => v = wV (aluN 22 a b c) ∧ Up w w') := wand_spec a b w ha hb
theorem al_wor (a b c : Nat) (w : World) (ha : a < W256) (hb : b < W256) : Ret 285 [wV a, wV b] w (fun v w' => v = wV (aluN 23 a b c) ∧ Up w w') := wor_spec a b w ha hb
theorem al_wxor (a b c : Nat) (w : World) (ha : a < W256) (hb : b < W256) : Ret 286 [wV a, wV b] w (fun v w' => v = wV (aluN 24 a b c) ∧ Up w w') := wxor_spec a b w ha hb
theorem al_byte (a b c : Nat) (w : World) (ha : a < W256) (hb : b < W256) : Ret 288 [wV a, wV b] w (fun v w' => v = wV (aluN 26 a b c) ∧ Up w w') := byte_spec a b w ha hb
theorem al_shl (a b c : Nat) (w : World) (ha : a < W256) (hb : b < W256) : Ret 289 [wV a, wV b] w (fun v w' => v = wV (aluN 27 a b c) ∧ Up w w') := shl_spec a b w ha hb
theorem al_shr (a b c : Nat) (w : World) (ha : a < W256) (hb : b < W256) : Ret 290 [wV a, wV b] w (fun v w' => v = wV (aluN 28 a b c) ∧ Up w w') := shr_spec a b w ha hb
theorem al_sar (a b c : Nat) (w : World) (ha : a < W256) (hb : b < W256) : Ret 291 [wV a, wV b] w (fun v w' => v = wV (aluN 29 a b c) ∧ Up w w') := sar_spec a b w ha hb
theorem al_addmod (a b c : Nat) (w : World) (ha : a < W256) (hb : b < W256) (hc : c < W256) : Ret 279 [wV a, wV b, wV c] w (fun v w' => v = wV (aluN 8 a b c) ∧ Up w w') := addmod_spec a b c w ha hb hc
theorem al_mulmod (a b c : Nat) (w : World) (ha : a < W256) (hb : b < W256) (hc : c < W256) : Ret 280 [wV a, wV b, wV c] w (fun v w' => v = wV (aluN 9 a b c) ∧ Up w w') := mulmod_spec a b c w ha hb hc
theorem al_not (a b c : Nat) (w : World) (ha : a < W256) : Ret 287 [wV a] w (fun v w' => v = wV (aluN 25 a b c) ∧ Up w w') := wnot_spec a w ha
theorem set_ans (f : YF) (tk x : Nat) : setF f tk true x 1 = ansN f tk x := rfl
theorem m_opPop {w : World} {H : Store} {col : Nat → Nat} {bc : Nat} {cs : Array Value} {V : EV} {s : YSt} {sn : List Nat} {sv : List AW} {ms : List (List Nat)} {c : Nat} {low : List YF} {f : YF} (hE : EX w H col bc cs V s sn sv ms c) (hs : s.frames = low ++ [f]) (hp : s.phase = 1) (hpc9 : f.pc < 512) (hst9 : 1 ≤ f.stack.length) :
    Ret 205 [.pointer (some ⟨bc, 0, none⟩)] w (fun v w' => v = .tuple #[] ∧ ∃ cs', XT w H col w' H col bc cs' V { s with frames := low ++ [setF f 1 false 0 1] } sn sv ms c) := by
  obtain ⟨n9, hn9, hR⟩ := hE.topF hs
  have hB := hE.fbT hs
  have h6 := hE.six hs
  have htop := hE.cTop hs
  have hphs := hE.cPh hp
  have hbp := hB.pc
  have hbs := hB.stk
  have hbg := hB.gas
  have hbc9 := hB.code
  have hnw := hE.vl.new
  have hfz := hE.vl.fz
  have hcC := hE.vl.colC
  have hbc0 := hE.vl.kC.lt
  have hX := XT.refl hE
  refine enter (n := 11) Hvaa.func205 rfl rfl (Nat.le_of_ble_eq_true rfl) ?_
  have U : Ch (fun _ => True) w w := Ch.refl _ w
  refine c_seq (fun K1 hK1 => ?_)
  exact (by
    refine c_region ?_
    refine l_step (y_moveV (et g0 rfl)) ?_
    refine l_eff (e_callV cal_183 (aC (et g0 rfl) aN) (m_running hX.ex hs hp)) (fun v2 w2 h2 => ?_)
    obtain ⟨rfl, u2⟩ := h2
    replace hX := hX.up u2
    replace U := U.tr u2
    refine l_step (y_assignV (et g0 rfl)) ?_
    refine l_nil ?_
    refine hK1 _ _ ?_
    refine fg2 0 2 (gS rfl (gS rfl (gS rfl g0))) g0 (fun g => ?_)
    refine c_seq (fun K3 hK3 => ?_)
    exact (by
      refine c_region ?_
      refine l_step (y_moveV (et g0 rfl)) ?_
      refine l_step (y_neqNil9 Hvaa.underlying276 (et g0 rfl) rfl) ?_
      refine l_nil ?_
      refine hK3 _ _ ?_
      refine fg3 0 2 6 (gS rfl (gS rfl (gS rfl g0))) (gS rfl (gS rfl g0)) g0 (fun g => ?_)
      refine c_true (et g0 rfl) (by rfl) ?_
      exact (by
        refine c_region ?_
        refine l_step (y_moveV (et (gS rfl (gS rfl g0)) rfl)) ?_
        refine l_step (y_moveV (et (gS rfl (gS rfl g0)) rfl)) ?_
        refine l_step (y_bld bN bld65_z) ?_
        refine l_eff (e_callV cal_259 (aC (et (gS rfl (gS rfl g0)) rfl) (aC (et (gS rfl g0) rfl) (aC (v := .int .u16 ((1 : Nat) : Int)) rfl (aC rfl (aC (et g0 rfl) (aC (v := .int .u16 ((1 : Nat) : Int)) rfl aN)))))) (m_settle0 hX.ex hs hp (by first | exact hpf | rfl) 1 0 1 (by omega) (by decide) (by omega))) (fun v5 w5 h5 => ?_)
        obtain ⟨rfl, cs5, y5⟩ := h5
        replace hX := hX.trans y5
        replace U := U.cc y5.et.go.ch (by intro b hb; exact .inl trivial)
        refine l_nil ?_
        refine end0 rfl ?_
        exact ⟨rfl, _, hX⟩)))
theorem m_opArith {w : World} {H : Store} {col : Nat → Nat} {bc : Nat} {cs : Array Value} {V : EV} {s : YSt} {sn : List Nat} {sv : List AW} {ms : List (List Nat)} {c : Nat} {low : List YF} {f : YF} (hE : EX w H col bc cs V s sn sv ms c) (hs : s.frames = low ++ [f]) (hp : s.phase = 1) {q : Nat} (hq : opcN f = q) (hpc9 : f.pc < 512) (hqq : 1 ≤ q ∧ q ≤ 11) (htk9 : (if q = 8 ∨ q = 9 then 3 else 2) ≤ f.stack.length) :
    Ret 189 [.pointer (some ⟨bc, 0, none⟩)] w (fun v w' => v = .tuple #[] ∧ ∃ cs', XT w H col w' H col bc cs' V { s with frames := low ++ [ansN f (if q = 8 ∨ q = 9 then 3 else 2) (aluN q (argN f.stack 0) (argN f.stack 1) (argN f.stack 2))] } sn sv ms c) := by
  obtain ⟨n9, hn9, hR⟩ := hE.topF hs
  have hB := hE.fbT hs
  have h6 := hE.six hs
  have htop := hE.cTop hs
  have hphs := hE.cPh hp
  have hbp := hB.pc
  have hbs := hB.stk
  have hbg := hB.gas
  have hbc9 := hB.code
  have hnw := hE.vl.new
  have hfz := hE.vl.fz
  have hcC := hE.vl.colC
  have hbc0 := hE.vl.kC.lt
  have hX := XT.refl hE
  refine enter (n := 86) Hvaa.func189 rfl rfl (Nat.le_of_ble_eq_true rfl) ?_
  have U : Ch (fun _ => True) w w := Ch.refl _ w
  refine c_seq (fun K1 hK1 => ?_)
  exact (by
    refine c_region ?_
    refine l_step (y_moveV (et g0 rfl)) ?_
    refine l_eff (e_callV cal_183 (aC (et g0 rfl) aN) (m_running hX.ex hs hp)) (fun v2 w2 h2 => ?_)
    obtain ⟨rfl, u2⟩ := h2
    replace hX := hX.up u2
    replace U := U.tr u2
    refine l_step (y_assignV (et g0 rfl)) ?_
    refine l_nil ?_
    refine hK1 _ _ ?_
    refine fg2 0 2 (gS rfl (gS rfl (gS rfl g0))) g0 (fun g => ?_)
    refine c_seq (fun K3 hK3 => ?_)
    refine c_seq (fun K4 hK4 => ?_)
    exact (by
      refine c_region ?_
      refine l_step (y_moveV (et g0 rfl)) ?_
      refine l_step (y_eqlNil Hvaa.underlying276 (et g0 rfl) rfl) ?_
      refine l_nil ?_
      refine hK4 _ _ ?_
      refine fg3 0 2 10 (gS rfl (gS rfl (gS rfl g0))) (gS rfl (gS rfl g0)) g0 (fun g => ?_)
      refine c_false (et g0 rfl) rfl ?_
      refine c_skip ?_
      refine hK3 _ _ ?_
      refine fg2 0 2 (gS rfl (gS rfl g0)) (gS rfl g0) (fun g => ?_)
      refine c_seq (fun K6 hK6 => ?_)
      exact (by
        refine c_region ?_
        refine l_step (y_moveV (et (gS rfl g0) rfl)) ?_
        refine l_step (y_moveV (et (gS rfl g0) rfl)) ?_
        refine l_eff (e_callV cal_264 (aC (et (gS rfl g0) rfl) (aC (et g0 rfl) (aC (v := .int .i64 ((0 : Nat) : Int)) rfl aN))) (m_arg hX.ex hs hp (by first | exact hpf | rfl) _ (by decide))) (fun v7 w7 h7 => ?_)
        obtain ⟨rfl, u7⟩ := h7
        replace hX := hX.up u7
        replace U := U.tr u7
        refine l_eff (e_alloc zr_65) (fun v8 w8 h8 => ?_)
        obtain ⟨b8, rfl, n8⟩ := h8
        have f8 : w.heap.size ≤ b8 := Nat.le_trans U.size n8.fresh
        replace hX := hX.up n8.up
        replace U := U.tr n8.up
        have k8 := n8.blk
        obtain ⟨zs8, hz8, k8⟩ : ∃ cs : Array Value, cs.size = 4 ∧ Blk w8 b8 cs := ⟨_, rfl, k8⟩
        have nc8 : col b8 = 0 := hnw _ f8
        refine l_effN (e_store sz_65 (et g0 rfl) (cellsV (et (gS rfl g0) rfl) rfl) rfl (by exact one_uL _) k8 (by (first | (rw [hz8]; exact Nat.le_refl _) | (rw [List.size_toArray, wL_len]; exact Nat.le_refl _)))) (fun v9 w9 h9 => ?_)
        obtain ⟨rfl, x9⟩ := h9
        replace hX := hX.ch x9.ch (by first | omega | (intro b hb; first | (subst hb; exact ⟨by omega, fun hh => by have := hfz.lt hh; omega, by omega⟩) | (rcases hb with hb | hb <;> (subst hb; exact ⟨by omega, fun hh => by have := hfz.lt hh; omega, by omega⟩))))
        replace k8 := x9.blk.full (by first | (rw [hz8]; rfl) | (rw [List.size_toArray, wL_len, wL_len]))
        replace U := U.st x9 (.inr f8)
        refine l_nil ?_
        refine hK6 _ _ ?_
        refine fg3 0 2 3 (gS rfl (gS rfl (gS rfl (gS rfl (gS rfl g0))))) (gS rfl (gS rfl (gS rfl (gS rfl g0)))) g0 (fun g => ?_)
        refine c_seq (fun K10 hK10 => ?_)
        exact (by
          refine c_region ?_
          refine l_step (y_moveV (et (gS rfl (gS rfl g0)) rfl)) ?_
          refine l_step (y_moveV (et (gS rfl (gS rfl g0)) rfl)) ?_
          refine l_eff (e_callV cal_264 (aC (et (gS rfl g0) rfl) (aC (et g0 rfl) (aC (v := .int .i64 ((1 : Nat) : Int)) rfl aN))) (m_arg hX.ex hs hp (by first | exact hpf | rfl) _ (by decide))) (fun v11 w11 h11 => ?_)
          obtain ⟨rfl, u11⟩ := h11
          replace k8 := k8.up u11
          replace hX := hX.up u11
          replace U := U.tr u11
          refine l_eff (e_alloc zr_65) (fun v12 w12 h12 => ?_)
          obtain ⟨b12, rfl, n12⟩ := h12
          have d8_12 : b8 < b12 := Nat.lt_of_lt_of_le k8.lt n12.fresh
          have f12 : w.heap.size ≤ b12 := Nat.le_trans U.size n12.fresh
          replace k8 := k8.up n12.up
          replace hX := hX.up n12.up
          replace U := U.tr n12.up
          have k12 := n12.blk
          obtain ⟨zs12, hz12, k12⟩ : ∃ cs : Array Value, cs.size = 4 ∧ Blk w12 b12 cs := ⟨_, rfl, k12⟩
          have nc12 : col b12 = 0 := hnw _ f12
          refine l_effN (e_store sz_65 (et g0 rfl) (cellsV (et (gS rfl g0) rfl) rfl) rfl (by exact one_uL _) k12 (by (first | (rw [hz12]; exact Nat.le_refl _) | (rw [List.size_toArray, wL_len]; exact Nat.le_refl _)))) (fun v13 w13 h13 => ?_)
          obtain ⟨rfl, x13⟩ := h13
          replace k8 := k8.ch x13.ch (by omega)
          replace hX := hX.ch x13.ch (by first | omega | (intro b hb; first | (subst hb; exact ⟨by omega, fun hh => by have := hfz.lt hh; omega, by omega⟩) | (rcases hb with hb | hb <;> (subst hb; exact ⟨by omega, fun hh => by have := hfz.lt hh; omega, by omega⟩))))
          replace k12 := x13.blk.full (by first | (rw [hz12]; rfl) | (rw [List.size_toArray, wL_len, wL_len]))
          replace U := U.st x13 (.inr f12)
          refine l_nil ?_
          refine hK10 _ _ ?_
          refine fg4 0 2 3 4 (gS rfl (gS rfl (gS rfl (gS rfl (gS rfl (gS rfl g0)))))) (gS rfl (gS rfl (gS rfl (gS rfl (gS rfl g0))))) (gS rfl (gS rfl (gS rfl (gS rfl g0)))) g0 (fun g => ?_)
          refine c_seq (fun K14 hK14 => ?_)
          exact (by
            refine c_region ?_
            refine l_step (y_bld bN bld65_z) ?_
            refine l_eff (e_alloc zr_65) (fun v15 w15 h15 => ?_)
            obtain ⟨b15, rfl, n15⟩ := h15
            have d8_15 : b8 < b15 := Nat.lt_of_lt_of_le k8.lt n15.fresh
            have d12_15 : b12 < b15 := Nat.lt_of_lt_of_le k12.lt n15.fresh
            have f15 : w.heap.size ≤ b15 := Nat.le_trans U.size n15.fresh
            replace k8 := k8.up n15.up
            replace k12 := k12.up n15.up
            replace hX := hX.up n15.up
            replace U := U.tr n15.up
            have k15 := n15.blk
            obtain ⟨zs15, hz15, k15⟩ : ∃ cs : Array Value, cs.size = 4 ∧ Blk w15 b15 cs := ⟨_, rfl, k15⟩
            have nc15 : col b15 = 0 := hnw _ f15
            refine l_effN (e_store sz_65 (et g0 rfl) (cellsV (et (gS rfl g0) rfl) rfl) rfl (by exact one_uL _) k15 (by (first | (rw [hz15]; exact Nat.le_refl _) | (rw [List.size_toArray, wL_len]; exact Nat.le_refl _)))) (fun v16 w16 h16 => ?_)
            obtain ⟨rfl, x16⟩ := h16
            replace k8 := k8.ch x16.ch (by omega)
            replace k12 := k12.ch x16.ch (by omega)
            replace hX := hX.ch x16.ch (by first | omega | (intro b hb; first | (subst hb; exact ⟨by omega, fun hh => by have := hfz.lt hh; omega, by omega⟩) | (rcases hb with hb | hb <;> (subst hb; exact ⟨by omega, fun hh => by have := hfz.lt hh; omega, by omega⟩))))
            replace k15 := x16.blk.full (by first | (rw [hz15]; rfl) | (rw [List.size_toArray, wL_len, wL_len]))
            replace U := U.st x16 (.inr f15)
            refine l_nil ?_
            refine hK14 _ _ ?_
            refine fg5 0 2 3 4 5 (gS rfl (gS rfl (gS rfl (gS rfl (gS rfl g0))))) (gS rfl (gS rfl (gS rfl (gS rfl g0)))) (gS rfl (gS rfl (gS rfl g0))) (gS rfl (gS rfl g0)) g0 (fun g => ?_)
            refine c_seq (fun K17 hK17 => ?_)
            exact (by
              refine c_region ?_
              refine l_step y_assignC ?_
              refine l_nil ?_
              refine hK17 _ _ ?_
              refine c_seq (fun K18 hK18 => ?_)
              refine c_seq (fun K19 hK19 => ?_)
              exact (by
                refine c_region ?_
                refine l_step (y_moveV (et (gS rfl (gS rfl (gS rfl (gS rfl (gS rfl g0))))) rfl)) ?_
                refine l_eff (e_callV cal_108 (aC (et g0 rfl) aN) (m_opcode hX.ex hs hp)) (fun v20 w20 h20 => ?_)
                obtain ⟨rfl, u20⟩ := h20
                replace k8 := k8.up u20
                replace k12 := k12.up u20
                replace k15 := k15.up u20
                replace hX := hX.up u20
                replace U := U.tr u20
                refine l_nil ?_
                refine hK19 _ _ ?_
                refine fg7 0 2 3 4 5 6 19 (gS rfl (gS rfl (gS rfl (gS rfl (gS rfl (gS rfl (gS rfl g0))))))) (gS rfl (gS rfl (gS rfl (gS rfl (gS rfl (gS rfl g0)))))) (gS rfl (gS rfl (gS rfl (gS rfl (gS rfl g0))))) (gS rfl (gS rfl (gS rfl (gS rfl g0)))) (gS rfl (gS rfl (gS rfl g0))) (gS rfl (gS rfl g0)) g0 (fun g => ?_)
                refine c_block (fun Q21 hQ21 => ?_)
                refine c_seq (fun K22 hK22 => ?_)
                exact (by
                  refine c_region ?_
                  refine l_step (y_eql (et g0 rfl) rfl) ?_
                  refine l_step (y_assignV (et g0 rfl)) ?_
                  refine l_nil ?_
                  refine hK22 _ _ ?_
                  refine fg8 0 2 3 4 5 6 19 20 (gS rfl (gS rfl (gS rfl (gS rfl (gS rfl (gS rfl (gS rfl (gS rfl g0)))))))) (gS rfl (gS rfl (gS rfl (gS rfl (gS rfl (gS rfl (gS rfl g0))))))) (gS rfl (gS rfl (gS rfl (gS rfl (gS rfl (gS rfl g0)))))) (gS rfl (gS rfl (gS rfl (gS rfl (gS rfl g0))))) (gS rfl (gS rfl (gS rfl (gS rfl g0)))) (gS rfl (gS rfl (gS rfl g0))) (gS rfl (gS rfl g0)) g0 (fun g => ?_)
                  refine c_cond (et g0 rfl) (fun cB2 => ?_) (fun cB2 => ?_)
                  · skip
                    
                    have hq2 : q = 1 := by have := of_decide_eq_true cB2; omega
                    subst hq2
                    have htk8 : 2 ≤ f.stack.length := htk9
                    exact (by
                      refine c_region ?_
                      refine l_step (y_loadB agg_65 sz_65 (et (gS rfl (gS rfl (gS rfl (gS rfl (gS rfl g0))))) rfl) rfl (at1B k8)) ?_
                      refine l_step (y_loadB agg_65 sz_65 (et (gS rfl (gS rfl (gS rfl (gS rfl (gS rfl g0))))) rfl) rfl (at1B k12)) ?_
                      refine l_eff (e_callV cal_114 (aC (et (gS rfl g0) rfl) (aC (et g0 rfl) aN)) (al_add _ _ (argN f.stack 2) _ (argN_lt hB _) (argN_lt hB _))) (fun v24 w24 h24 => ?_)
                      obtain ⟨rfl, u24⟩ := h24
                      replace k8 := k8.up u24
                      replace k12 := k12.up u24
                      replace k15 := k15.up u24
                      replace hX := hX.up u24
                      replace U := U.tr u24
                      refine l_effN (e_store sz_65 (et (gS rfl (gS rfl (gS rfl (gS rfl (gS rfl (gS rfl g0)))))) rfl) (cellsV (et g0 rfl) rfl) rfl (by exact one_uL _) k15 (by (first | (rw [hz15]; exact Nat.le_refl _) | (rw [List.size_toArray, wL_len]; exact Nat.le_refl _)))) (fun v25 w25 h25 => ?_)
                      obtain ⟨rfl, x25⟩ := h25
                      replace k8 := k8.ch x25.ch (by omega)
                      replace k12 := k12.ch x25.ch (by omega)
                      replace hX := hX.ch x25.ch (by first | omega | (intro b hb; first | (subst hb; exact ⟨by omega, fun hh => by have := hfz.lt hh; omega, by omega⟩) | (rcases hb with hb | hb <;> (subst hb; exact ⟨by omega, fun hh => by have := hfz.lt hh; omega, by omega⟩))))
                      replace k15 := x25.blk.full (by first | (rw [hz15]; rfl) | (rw [List.size_toArray, wL_len, wL_len]))
                      replace U := U.st x25 (.inr f15)
                      refine l_nil ?_
                      refine hQ21 _ _ _ (in_normal ?_)
                      refine hK18 _ _ ?_
                      refine fg4 0 2 5 6 (gS rfl (gS rfl (gS rfl (gS rfl (gS rfl (gS rfl (gS rfl (gS rfl (gS rfl (gS rfl g0)))))))))) (gS rfl (gS rfl (gS rfl (gS rfl (gS rfl (gS rfl (gS rfl (gS rfl (gS rfl g0))))))))) (gS rfl (gS rfl (gS rfl (gS rfl (gS rfl (gS rfl g0)))))) (gS rfl (gS rfl (gS rfl (gS rfl (gS rfl g0))))) (fun g => ?_)
                      refine c_region ?_
                      refine l_step (y_moveV (et (gS rfl (gS rfl (gS rfl g0))) rfl)) ?_
                      refine l_step (y_moveV (et (gS rfl (gS rfl (gS rfl g0))) rfl)) ?_
                      refine l_step (y_moveV (et (gS rfl (gS rfl g0)) rfl)) ?_
                      refine l_step (y_loadB agg_65 sz_65 (et (gS rfl (gS rfl (gS rfl (gS rfl g0)))) rfl) rfl (at1B k15)) ?_
                      refine l_eff (e_callV cal_259 (aC (et (gS rfl (gS rfl (gS rfl g0))) rfl) (aC (et (gS rfl (gS rfl g0)) rfl) (aC (et (gS rfl g0) rfl) (aC rfl (aC (et g0 rfl) (aC (v := .int .u16 ((1 : Nat) : Int)) rfl aN)))))) (m_settle1 hX.ex hs hp (by first | exact hpf | rfl) 2 _ 1 (by omega) (by first | exact aluN_lt _ _ _ _ (argN_lt hB _) (argN_lt hB _) (argN_lt hB _) | exact one_zero_lt _ | exact hx9 | decide) (by omega) (by omega))) (fun v26 w26 h26 => ?_)
                      obtain ⟨rfl, cs26, y26⟩ := h26
                      replace k8 := k8.ch y26.et.go.ch (by intro hm; (have e0 := hm); omega)
                      replace k12 := k12.ch y26.et.go.ch (by intro hm; (have e0 := hm); omega)
                      replace k15 := k15.ch y26.et.go.ch (by intro hm; (have e0 := hm); omega)
                      replace hX := hX.trans y26
                      replace U := U.cc y26.et.go.ch (by intro b hb; exact .inl trivial)
                      refine l_nil ?_
                      refine end0 rfl ?_
                      exact ⟨rfl, _, hX⟩)
                  · skip
                    
                    have hq2 : q ≠ 1 := by have := of_decide_eq_false cB2; omega
                    refine c_seq (fun K27 hK27 => ?_)
                    exact (by
                      refine c_region ?_
                      refine l_step (y_eql (et (gS rfl g0) rfl) rfl) ?_
                      refine l_step (y_assignV (et g0 rfl)) ?_
                      refine l_nil ?_
                      refine hK27 _ _ ?_
                      refine fg8 0 2 3 4 5 6 19 25 (gS rfl (gS rfl (gS rfl (gS rfl (gS rfl (gS rfl (gS rfl (gS rfl (gS rfl g0))))))))) (gS rfl (gS rfl (gS rfl (gS rfl (gS rfl (gS rfl (gS rfl (gS rfl g0)))))))) (gS rfl (gS rfl (gS rfl (gS rfl (gS rfl (gS rfl (gS rfl g0))))))) (gS rfl (gS rfl (gS rfl (gS rfl (gS rfl (gS rfl g0)))))) (gS rfl (gS rfl (gS rfl (gS rfl (gS rfl g0))))) (gS rfl (gS rfl (gS rfl (gS rfl g0)))) (gS rfl (gS rfl (gS rfl g0))) g0 (fun g => ?_)
                      refine c_cond (et g0 rfl) (fun cB3 => ?_) (fun cB3 => ?_)
                      · skip
                        
                        have hq3 : q = 2 := by have := of_decide_eq_true cB3; omega
                        subst hq3
                        have htk8 : 2 ≤ f.stack.length := htk9
                        exact (by
                          refine c_region ?_
                          refine l_step (y_loadB agg_65 sz_65 (et (gS rfl (gS rfl (gS rfl (gS rfl (gS rfl g0))))) rfl) rfl (at1B k8)) ?_
                          refine l_step (y_loadB agg_65 sz_65 (et (gS rfl (gS rfl (gS rfl (gS rfl (gS rfl g0))))) rfl) rfl (at1B k12)) ?_
                          refine l_eff (e_callV cal_95 (aC (et (gS rfl g0) rfl) (aC (et g0 rfl) aN)) (al_mul _ _ (argN f.stack 2) _ (argN_lt hB _) (argN_lt hB _))) (fun v29 w29 h29 => ?_)
                          obtain ⟨rfl, u29⟩ := h29
                          replace k8 := k8.up u29
                          replace k12 := k12.up u29
                          replace k15 := k15.up u29
                          replace hX := hX.up u29
                          replace U := U.tr u29
                          refine l_effN (e_store sz_65 (et (gS rfl (gS rfl (gS rfl (gS rfl (gS rfl (gS rfl g0)))))) rfl) (cellsV (et g0 rfl) rfl) rfl (by exact one_uL _) k15 (by (first | (rw [hz15]; exact Nat.le_refl _) | (rw [List.size_toArray, wL_len]; exact Nat.le_refl _)))) (fun v30 w30 h30 => ?_)
                          obtain ⟨rfl, x30⟩ := h30
                          replace k8 := k8.ch x30.ch (by omega)
                          replace k12 := k12.ch x30.ch (by omega)
                          replace hX := hX.ch x30.ch (by first | omega | (intro b hb; first | (subst hb; exact ⟨by omega, fun hh => by have := hfz.lt hh; omega, by omega⟩) | (rcases hb with hb | hb <;> (subst hb; exact ⟨by omega, fun hh => by have := hfz.lt hh; omega, by omega⟩))))
                          replace k15 := x30.blk.full (by first | (rw [hz15]; rfl) | (rw [List.size_toArray, wL_len, wL_len]))
                          replace U := U.st x30 (.inr f15)
                          refine l_nil ?_
                          refine hQ21 _ _ _ (in_normal ?_)
                          refine hK18 _ _ ?_
                          refine fg4 0 2 5 6 (gS rfl (gS rfl (gS rfl (gS rfl (gS rfl (gS rfl (gS rfl (gS rfl (gS rfl (gS rfl g0)))))))))) (gS rfl (gS rfl (gS rfl (gS rfl (gS rfl (gS rfl (gS rfl (gS rfl (gS rfl g0))))))))) (gS rfl (gS rfl (gS rfl (gS rfl (gS rfl (gS rfl g0)))))) (gS rfl (gS rfl (gS rfl (gS rfl (gS rfl g0))))) (fun g => ?_)
                          refine c_region ?_
                          refine l_step (y_moveV (et (gS rfl (gS rfl (gS rfl g0))) rfl)) ?_
                          refine l_step (y_moveV (et (gS rfl (gS rfl (gS rfl g0))) rfl)) ?_
                          refine l_step (y_moveV (et (gS rfl (gS rfl g0)) rfl)) ?_
                          refine l_step (y_loadB agg_65 sz_65 (et (gS rfl (gS rfl (gS rfl (gS rfl g0)))) rfl) rfl (at1B k15)) ?_
                          refine l_eff (e_callV cal_259 (aC (et (gS rfl (gS rfl (gS rfl g0))) rfl) (aC (et (gS rfl (gS rfl g0)) rfl) (aC (et (gS rfl g0) rfl) (aC rfl (aC (et g0 rfl) (aC (v := .int .u16 ((1 : Nat) : Int)) rfl aN)))))) (m_settle1 hX.ex hs hp (by first | exact hpf | rfl) 2 _ 1 (by omega) (by first | exact aluN_lt _ _ _ _ (argN_lt hB _) (argN_lt hB _) (argN_lt hB _) | exact one_zero_lt _ | exact hx9 | decide) (by omega) (by omega))) (fun v31 w31 h31 => ?_)
                          obtain ⟨rfl, cs31, y31⟩ := h31
                          replace k8 := k8.ch y31.et.go.ch (by intro hm; (have e0 := hm); omega)
                          replace k12 := k12.ch y31.et.go.ch (by intro hm; (have e0 := hm); omega)
                          replace k15 := k15.ch y31.et.go.ch (by intro hm; (have e0 := hm); omega)
                          replace hX := hX.trans y31
                          replace U := U.cc y31.et.go.ch (by intro b hb; exact .inl trivial)
                          refine l_nil ?_
                          refine end0 rfl ?_
                          exact ⟨rfl, _, hX⟩)
                      · skip
                        
                        have hq3 : q ≠ 2 := by have := of_decide_eq_false cB3; omega
                        refine c_seq (fun K32 hK32 => ?_)
                        exact (by
                          refine c_region ?_
                          refine l_step (y_eql (et (gS rfl g0) rfl) rfl) ?_
                          refine l_step (y_assignV (et g0 rfl)) ?_
                          refine l_nil ?_
                          refine hK32 _ _ ?_
                          refine fg8 0 2 3 4 5 6 19 30 (gS rfl (gS rfl (gS rfl (gS rfl (gS rfl (gS rfl (gS rfl (gS rfl (gS rfl g0))))))))) (gS rfl (gS rfl (gS rfl (gS rfl (gS rfl (gS rfl (gS rfl (gS rfl g0)))))))) (gS rfl (gS rfl (gS rfl (gS rfl (gS rfl (gS rfl (gS rfl g0))))))) (gS rfl (gS rfl (gS rfl (gS rfl (gS rfl (gS rfl g0)))))) (gS rfl (gS rfl (gS rfl (gS rfl (gS rfl g0))))) (gS rfl (gS rfl (gS rfl (gS rfl g0)))) (gS rfl (gS rfl (gS rfl g0))) g0 (fun g => ?_)
                          refine c_cond (et g0 rfl) (fun cB4 => ?_) (fun cB4 => ?_)
                          · skip
                            
                            have hq4 : q = 3 := by have := of_decide_eq_true cB4; omega
                            subst hq4
                            have htk8 : 2 ≤ f.stack.length := htk9
                            exact (by
                              refine c_region ?_
                              refine l_step (y_loadB agg_65 sz_65 (et (gS rfl (gS rfl (gS rfl (gS rfl (gS rfl g0))))) rfl) rfl (at1B k8)) ?_
                              refine l_step (y_loadB agg_65 sz_65 (et (gS rfl (gS rfl (gS rfl (gS rfl (gS rfl g0))))) rfl) rfl (at1B k12)) ?_
                              refine l_eff (e_callV cal_98 (aC (et (gS rfl g0) rfl) (aC (et g0 rfl) aN)) (al_sub _ _ (argN f.stack 2) _ (argN_lt hB _) (argN_lt hB _))) (fun v34 w34 h34 => ?_)
                              obtain ⟨rfl, u34⟩ := h34
                              replace k8 := k8.up u34
                              replace k12 := k12.up u34
                              replace k15 := k15.up u34
                              replace hX := hX.up u34
                              replace U := U.tr u34
                              refine l_effN (e_store sz_65 (et (gS rfl (gS rfl (gS rfl (gS rfl (gS rfl (gS rfl g0)))))) rfl) (cellsV (et g0 rfl) rfl) rfl (by exact one_uL _) k15 (by (first | (rw [hz15]; exact Nat.le_refl _) | (rw [List.size_toArray, wL_len]; exact Nat.le_refl _)))) (fun v35 w35 h35 => ?_)
                              obtain ⟨rfl, x35⟩ := h35
                              replace k8 := k8.ch x35.ch (by omega)
                              replace k12 := k12.ch x35.ch (by omega)
                              replace hX := hX.ch x35.ch (by first | omega | (intro b hb; first | (subst hb; exact ⟨by omega, fun hh => by have := hfz.lt hh; omega, by omega⟩) | (rcases hb with hb | hb <;> (subst hb; exact ⟨by omega, fun hh => by have := hfz.lt hh; omega, by omega⟩))))
                              replace k15 := x35.blk.full (by first | (rw [hz15]; rfl) | (rw [List.size_toArray, wL_len, wL_len]))
                              replace U := U.st x35 (.inr f15)
                              refine l_nil ?_
                              refine hQ21 _ _ _ (in_normal ?_)
                              refine hK18 _ _ ?_
                              refine fg4 0 2 5 6 (gS rfl (gS rfl (gS rfl (gS rfl (gS rfl (gS rfl (gS rfl (gS rfl (gS rfl (gS rfl g0)))))))))) (gS rfl (gS rfl (gS rfl (gS rfl (gS rfl (gS rfl (gS rfl (gS rfl (gS rfl g0))))))))) (gS rfl (gS rfl (gS rfl (gS rfl (gS rfl (gS rfl g0)))))) (gS rfl (gS rfl (gS rfl (gS rfl (gS rfl g0))))) (fun g => ?_)
                              refine c_region ?_
                              refine l_step (y_moveV (et (gS rfl (gS rfl (gS rfl g0))) rfl)) ?_
                              refine l_step (y_moveV (et (gS rfl (gS rfl (gS rfl g0))) rfl)) ?_
                              refine l_step (y_moveV (et (gS rfl (gS rfl g0)) rfl)) ?_
                              refine l_step (y_loadB agg_65 sz_65 (et (gS rfl (gS rfl (gS rfl (gS rfl g0)))) rfl) rfl (at1B k15)) ?_
                              refine l_eff (e_callV cal_259 (aC (et (gS rfl (gS rfl (gS rfl g0))) rfl) (aC (et (gS rfl (gS rfl g0)) rfl) (aC (et (gS rfl g0) rfl) (aC rfl (aC (et g0 rfl) (aC (v := .int .u16 ((1 : Nat) : Int)) rfl aN)))))) (m_settle1 hX.ex hs hp (by first | exact hpf | rfl) 2 _ 1 (by omega) (by first | exact aluN_lt _ _ _ _ (argN_lt hB _) (argN_lt hB _) (argN_lt hB _) | exact one_zero_lt _ | exact hx9 | decide) (by omega) (by omega))) (fun v36 w36 h36 => ?_)
                              obtain ⟨rfl, cs36, y36⟩ := h36
                              replace k8 := k8.ch y36.et.go.ch (by intro hm; (have e0 := hm); omega)
                              replace k12 := k12.ch y36.et.go.ch (by intro hm; (have e0 := hm); omega)
                              replace k15 := k15.ch y36.et.go.ch (by intro hm; (have e0 := hm); omega)
                              replace hX := hX.trans y36
                              replace U := U.cc y36.et.go.ch (by intro b hb; exact .inl trivial)
                              refine l_nil ?_
                              refine end0 rfl ?_
                              exact ⟨rfl, _, hX⟩)
                          · skip
                            
                            have hq4 : q ≠ 3 := by have := of_decide_eq_false cB4; omega
                            refine c_seq (fun K37 hK37 => ?_)
                            exact (by
                              refine c_region ?_
                              refine l_step (y_eql (et (gS rfl g0) rfl) rfl) ?_
                              refine l_step (y_assignV (et g0 rfl)) ?_
                              refine l_nil ?_
                              refine hK37 _ _ ?_
                              refine fg8 0 2 3 4 5 6 19 35 (gS rfl (gS rfl (gS rfl (gS rfl (gS rfl (gS rfl (gS rfl (gS rfl (gS rfl g0))))))))) (gS rfl (gS rfl (gS rfl (gS rfl (gS rfl (gS rfl (gS rfl (gS rfl g0)))))))) (gS rfl (gS rfl (gS rfl (gS rfl (gS rfl (gS rfl (gS rfl g0))))))) (gS rfl (gS rfl (gS rfl (gS rfl (gS rfl (gS rfl g0)))))) (gS rfl (gS rfl (gS rfl (gS rfl (gS rfl g0))))) (gS rfl (gS rfl (gS rfl (gS rfl g0)))) (gS rfl (gS rfl (gS rfl g0))) g0 (fun g => ?_)
                              refine c_cond (et g0 rfl) (fun cB5 => ?_) (fun cB5 => ?_)
                              · skip
                                
                                have hq5 : q = 4 := by have := of_decide_eq_true cB5; omega
                                subst hq5
                                have htk8 : 2 ≤ f.stack.length := htk9
                                exact (by
                                  refine c_region ?_
                                  refine l_step (y_loadB agg_65 sz_65 (et (gS rfl (gS rfl (gS rfl (gS rfl (gS rfl g0))))) rfl) rfl (at1B k8)) ?_
                                  refine l_step (y_loadB agg_65 sz_65 (et (gS rfl (gS rfl (gS rfl (gS rfl (gS rfl g0))))) rfl) rfl (at1B k12)) ?_
                                  refine l_eff (e_callV cal_273 (aC (et (gS rfl g0) rfl) (aC (et g0 rfl) aN)) (al_div _ _ (argN f.stack 2) _ (argN_lt hB _) (argN_lt hB _))) (fun v39 w39 h39 => ?_)
                                  obtain ⟨rfl, u39⟩ := h39
                                  replace k8 := k8.up u39
                                  replace k12 := k12.up u39
                                  replace k15 := k15.up u39
                                  replace hX := hX.up u39
                                  replace U := U.tr u39
                                  refine l_effN (e_store sz_65 (et (gS rfl (gS rfl (gS rfl (gS rfl (gS rfl (gS rfl g0)))))) rfl) (cellsV (et g0 rfl) rfl) rfl (by exact one_uL _) k15 (by (first | (rw [hz15]; exact Nat.le_refl _) | (rw [List.size_toArray, wL_len]; exact Nat.le_refl _)))) (fun v40 w40 h40 => ?_)
                                  obtain ⟨rfl, x40⟩ := h40
                                  replace k8 := k8.ch x40.ch (by omega)
                                  replace k12 := k12.ch x40.ch (by omega)
                                  replace hX := hX.ch x40.ch (by first | omega | (intro b hb; first | (subst hb; exact ⟨by omega, fun hh => by have := hfz.lt hh; omega, by omega⟩) | (rcases hb with hb | hb <;> (subst hb; exact ⟨by omega, fun hh => by have := hfz.lt hh; omega, by omega⟩))))
                                  replace k15 := x40.blk.full (by first | (rw [hz15]; rfl) | (rw [List.size_toArray, wL_len, wL_len]))
                                  replace U := U.st x40 (.inr f15)
                                  refine l_nil ?_
                                  refine hQ21 _ _ _ (in_normal ?_)
                                  refine hK18 _ _ ?_
                                  refine fg4 0 2 5 6 (gS rfl (gS rfl (gS rfl (gS rfl (gS rfl (gS rfl (gS rfl (gS rfl (gS rfl (gS rfl g0)))))))))) (gS rfl (gS rfl (gS rfl (gS rfl (gS rfl (gS rfl (gS rfl (gS rfl (gS rfl g0))))))))) (gS rfl (gS rfl (gS rfl (gS rfl (gS rfl (gS rfl g0)))))) (gS rfl (gS rfl (gS rfl (gS rfl (gS rfl g0))))) (fun g => ?_)
                                  refine c_region ?_
                                  refine l_step (y_moveV (et (gS rfl (gS rfl (gS rfl g0))) rfl)) ?_
                                  refine l_step (y_moveV (et (gS rfl (gS rfl (gS rfl g0))) rfl)) ?_
                                  refine l_step (y_moveV (et (gS rfl (gS rfl g0)) rfl)) ?_
                                  refine l_step (y_loadB agg_65 sz_65 (et (gS rfl (gS rfl (gS rfl (gS rfl g0)))) rfl) rfl (at1B k15)) ?_
                                  refine l_eff (e_callV cal_259 (aC (et (gS rfl (gS rfl (gS rfl g0))) rfl) (aC (et (gS rfl (gS rfl g0)) rfl) (aC (et (gS rfl g0) rfl) (aC rfl (aC (et g0 rfl) (aC (v := .int .u16 ((1 : Nat) : Int)) rfl aN)))))) (m_settle1 hX.ex hs hp (by first | exact hpf | rfl) 2 _ 1 (by omega) (by first | exact aluN_lt _ _ _ _ (argN_lt hB _) (argN_lt hB _) (argN_lt hB _) | exact one_zero_lt _ | exact hx9 | decide) (by omega) (by omega))) (fun v41 w41 h41 => ?_)
                                  obtain ⟨rfl, cs41, y41⟩ := h41
                                  replace k8 := k8.ch y41.et.go.ch (by intro hm; (have e0 := hm); omega)
                                  replace k12 := k12.ch y41.et.go.ch (by intro hm; (have e0 := hm); omega)
                                  replace k15 := k15.ch y41.et.go.ch (by intro hm; (have e0 := hm); omega)
                                  replace hX := hX.trans y41
                                  replace U := U.cc y41.et.go.ch (by intro b hb; exact .inl trivial)
                                  refine l_nil ?_
                                  refine end0 rfl ?_
                                  exact ⟨rfl, _, hX⟩)
                              · skip
                                
                                have hq5 : q ≠ 4 := by have := of_decide_eq_false cB5; omega
                                refine c_seq (fun K42 hK42 => ?_)
                                exact (by
                                  refine c_region ?_
                                  refine l_step (y_eql (et (gS rfl g0) rfl) rfl) ?_
                                  refine l_step (y_assignV (et g0 rfl)) ?_
                                  refine l_nil ?_
                                  refine hK42 _ _ ?_
                                  refine fg8 0 2 3 4 5 6 19 40 (gS rfl (gS rfl (gS rfl (gS rfl (gS rfl (gS rfl (gS rfl (gS rfl (gS rfl g0))))))))) (gS rfl (gS rfl (gS rfl (gS rfl (gS rfl (gS rfl (gS rfl (gS rfl g0)))))))) (gS rfl (gS rfl (gS rfl (gS rfl (gS rfl (gS rfl (gS rfl g0))))))) (gS rfl (gS rfl (gS rfl (gS rfl (gS rfl (gS rfl g0)))))) (gS rfl (gS rfl (gS rfl (gS rfl (gS rfl g0))))) (gS rfl (gS rfl (gS rfl (gS rfl g0)))) (gS rfl (gS rfl (gS rfl g0))) g0 (fun g => ?_)
                                  refine c_cond (et g0 rfl) (fun cB6 => ?_) (fun cB6 => ?_)
                                  · skip
                                    
                                    have hq6 : q = 5 := by have := of_decide_eq_true cB6; omega
                                    subst hq6
                                    have htk8 : 2 ≤ f.stack.length := htk9
                                    exact (by
                                      refine c_region ?_
                                      refine l_step (y_loadB agg_65 sz_65 (et (gS rfl (gS rfl (gS rfl (gS rfl (gS rfl g0))))) rfl) rfl (at1B k8)) ?_
                                      refine l_step (y_loadB agg_65 sz_65 (et (gS rfl (gS rfl (gS rfl (gS rfl (gS rfl g0))))) rfl) rfl (at1B k12)) ?_
                                      refine l_eff (e_callV cal_274 (aC (et (gS rfl g0) rfl) (aC (et g0 rfl) aN)) (al_sdiv _ _ (argN f.stack 2) _ (argN_lt hB _) (argN_lt hB _))) (fun v44 w44 h44 => ?_)
                                      obtain ⟨rfl, u44⟩ := h44
                                      replace k8 := k8.up u44
                                      replace k12 := k12.up u44
                                      replace k15 := k15.up u44
                                      replace hX := hX.up u44
                                      replace U := U.tr u44
                                      refine l_effN (e_store sz_65 (et (gS rfl (gS rfl (gS rfl (gS rfl (gS rfl (gS rfl g0)))))) rfl) (cellsV (et g0 rfl) rfl) rfl (by exact one_uL _) k15 (by (first | (rw [hz15]; exact Nat.le_refl _) | (rw [List.size_toArray, wL_len]; exact Nat.le_refl _)))) (fun v45 w45 h45 => ?_)
                                      obtain ⟨rfl, x45⟩ := h45
                                      replace k8 := k8.ch x45.ch (by omega)
                                      replace k12 := k12.ch x45.ch (by omega)
                                      replace hX := hX.ch x45.ch (by first | omega | (intro b hb; first | (subst hb; exact ⟨by omega, fun hh => by have := hfz.lt hh; omega, by omega⟩) | (rcases hb with hb | hb <;> (subst hb; exact ⟨by omega, fun hh => by have := hfz.lt hh; omega, by omega⟩))))
                                      replace k15 := x45.blk.full (by first | (rw [hz15]; rfl) | (rw [List.size_toArray, wL_len, wL_len]))
                                      replace U := U.st x45 (.inr f15)
                                      refine l_nil ?_
                                      refine hQ21 _ _ _ (in_normal ?_)
                                      refine hK18 _ _ ?_
                                      refine fg4 0 2 5 6 (gS rfl (gS rfl (gS rfl (gS rfl (gS rfl (gS rfl (gS rfl (gS rfl (gS rfl (gS rfl g0)))))))))) (gS rfl (gS rfl (gS rfl (gS rfl (gS rfl (gS rfl (gS rfl (gS rfl (gS rfl g0))))))))) (gS rfl (gS rfl (gS rfl (gS rfl (gS rfl (gS rfl g0)))))) (gS rfl (gS rfl (gS rfl (gS rfl (gS rfl g0))))) (fun g => ?_)
                                      refine c_region ?_
                                      refine l_step (y_moveV (et (gS rfl (gS rfl (gS rfl g0))) rfl)) ?_
                                      refine l_step (y_moveV (et (gS rfl (gS rfl (gS rfl g0))) rfl)) ?_
                                      refine l_step (y_moveV (et (gS rfl (gS rfl g0)) rfl)) ?_
                                      refine l_step (y_loadB agg_65 sz_65 (et (gS rfl (gS rfl (gS rfl (gS rfl g0)))) rfl) rfl (at1B k15)) ?_
                                      refine l_eff (e_callV cal_259 (aC (et (gS rfl (gS rfl (gS rfl g0))) rfl) (aC (et (gS rfl (gS rfl g0)) rfl) (aC (et (gS rfl g0) rfl) (aC rfl (aC (et g0 rfl) (aC (v := .int .u16 ((1 : Nat) : Int)) rfl aN)))))) (m_settle1 hX.ex hs hp (by first | exact hpf | rfl) 2 _ 1 (by omega) (by first | exact aluN_lt _ _ _ _ (argN_lt hB _) (argN_lt hB _) (argN_lt hB _) | exact one_zero_lt _ | exact hx9 | decide) (by omega) (by omega))) (fun v46 w46 h46 => ?_)
                                      obtain ⟨rfl, cs46, y46⟩ := h46
                                      replace k8 := k8.ch y46.et.go.ch (by intro hm; (have e0 := hm); omega)
                                      replace k12 := k12.ch y46.et.go.ch (by intro hm; (have e0 := hm); omega)
                                      replace k15 := k15.ch y46.et.go.ch (by intro hm; (have e0 := hm); omega)
                                      replace hX := hX.trans y46
                                      replace U := U.cc y46.et.go.ch (by intro b hb; exact .inl trivial)
                                      refine l_nil ?_
                                      refine end0 rfl ?_
                                      exact ⟨rfl, _, hX⟩)
                                  · skip
                                    
                                    have hq6 : q ≠ 5 := by have := of_decide_eq_false cB6; omega
                                    refine c_seq (fun K47 hK47 => ?_)
                                    exact (by
                                      refine c_region ?_
                                      refine l_step (y_eql (et (gS rfl g0) rfl) rfl) ?_
                                      refine l_step (y_assignV (et g0 rfl)) ?_
                                      refine l_nil ?_
                                      refine hK47 _ _ ?_
                                      refine fg8 0 2 3 4 5 6 19 45 (gS rfl (gS rfl (gS rfl (gS rfl (gS rfl (gS rfl (gS rfl (gS rfl (gS rfl g0))))))))) (gS rfl (gS rfl (gS rfl (gS rfl (gS rfl (gS rfl (gS rfl (gS rfl g0)))))))) (gS rfl (gS rfl (gS rfl (gS rfl (gS rfl (gS rfl (gS rfl g0))))))) (gS rfl (gS rfl (gS rfl (gS rfl (gS rfl (gS rfl g0)))))) (gS rfl (gS rfl (gS rfl (gS rfl (gS rfl g0))))) (gS rfl (gS rfl (gS rfl (gS rfl g0)))) (gS rfl (gS rfl (gS rfl g0))) g0 (fun g => ?_)
                                      refine c_cond (et g0 rfl) (fun cB7 => ?_) (fun cB7 => ?_)
                                      · skip
                                        
                                        have hq7 : q = 6 := by have := of_decide_eq_true cB7; omega
                                        subst hq7
                                        have htk8 : 2 ≤ f.stack.length := htk9
                                        exact (by
                                          refine c_region ?_
                                          refine l_step (y_loadB agg_65 sz_65 (et (gS rfl (gS rfl (gS rfl (gS rfl (gS rfl g0))))) rfl) rfl (at1B k8)) ?_
                                          refine l_step (y_loadB agg_65 sz_65 (et (gS rfl (gS rfl (gS rfl (gS rfl (gS rfl g0))))) rfl) rfl (at1B k12)) ?_
                                          refine l_eff (e_callV cal_275 (aC (et (gS rfl g0) rfl) (aC (et g0 rfl) aN)) (al_mod _ _ (argN f.stack 2) _ (argN_lt hB _) (argN_lt hB _))) (fun v49 w49 h49 => ?_)
                                          obtain ⟨rfl, u49⟩ := h49
                                          replace k8 := k8.up u49
                                          replace k12 := k12.up u49
                                          replace k15 := k15.up u49
                                          replace hX := hX.up u49
                                          replace U := U.tr u49
                                          refine l_effN (e_store sz_65 (et (gS rfl (gS rfl (gS rfl (gS rfl (gS rfl (gS rfl g0)))))) rfl) (cellsV (et g0 rfl) rfl) rfl (by exact one_uL _) k15 (by (first | (rw [hz15]; exact Nat.le_refl _) | (rw [List.size_toArray, wL_len]; exact Nat.le_refl _)))) (fun v50 w50 h50 => ?_)
                                          obtain ⟨rfl, x50⟩ := h50
                                          replace k8 := k8.ch x50.ch (by omega)
                                          replace k12 := k12.ch x50.ch (by omega)
                                          replace hX := hX.ch x50.ch (by first | omega | (intro b hb; first | (subst hb; exact ⟨by omega, fun hh => by have := hfz.lt hh; omega, by omega⟩) | (rcases hb with hb | hb <;> (subst hb; exact ⟨by omega, fun hh => by have := hfz.lt hh; omega, by omega⟩))))
                                          replace k15 := x50.blk.full (by first | (rw [hz15]; rfl) | (rw [List.size_toArray, wL_len, wL_len]))
                                          replace U := U.st x50 (.inr f15)
                                          refine l_nil ?_
                                          refine hQ21 _ _ _ (in_normal ?_)
                                          refine hK18 _ _ ?_
                                          refine fg4 0 2 5 6 (gS rfl (gS rfl (gS rfl (gS rfl (gS rfl (gS rfl (gS rfl (gS rfl (gS rfl (gS rfl g0)))))))))) (gS rfl (gS rfl (gS rfl (gS rfl (gS rfl (gS rfl (gS rfl (gS rfl (gS rfl g0))))))))) (gS rfl (gS rfl (gS rfl (gS rfl (gS rfl (gS rfl g0)))))) (gS rfl (gS rfl (gS rfl (gS rfl (gS rfl g0))))) (fun g => ?_)
                                          refine c_region ?_
                                          refine l_step (y_moveV (et (gS rfl (gS rfl (gS rfl g0))) rfl)) ?_
                                          refine l_step (y_moveV (et (gS rfl (gS rfl (gS rfl g0))) rfl)) ?_
                                          refine l_step (y_moveV (et (gS rfl (gS rfl g0)) rfl)) ?_
                                          refine l_step (y_loadB agg_65 sz_65 (et (gS rfl (gS rfl (gS rfl (gS rfl g0)))) rfl) rfl (at1B k15)) ?_
                                          refine l_eff (e_callV cal_259 (aC (et (gS rfl (gS rfl (gS rfl g0))) rfl) (aC (et (gS rfl (gS rfl g0)) rfl) (aC (et (gS rfl g0) rfl) (aC rfl (aC (et g0 rfl) (aC (v := .int .u16 ((1 : Nat) : Int)) rfl aN)))))) (m_settle1 hX.ex hs hp (by first | exact hpf | rfl) 2 _ 1 (by omega) (by first | exact aluN_lt _ _ _ _ (argN_lt hB _) (argN_lt hB _) (argN_lt hB _) | exact one_zero_lt _ | exact hx9 | decide) (by omega) (by omega))) (fun v51 w51 h51 => ?_)
                                          obtain ⟨rfl, cs51, y51⟩ := h51
                                          replace k8 := k8.ch y51.et.go.ch (by intro hm; (have e0 := hm); omega)
                                          replace k12 := k12.ch y51.et.go.ch (by intro hm; (have e0 := hm); omega)
                                          replace k15 := k15.ch y51.et.go.ch (by intro hm; (have e0 := hm); omega)
                                          replace hX := hX.trans y51
                                          replace U := U.cc y51.et.go.ch (by intro b hb; exact .inl trivial)
                                          refine l_nil ?_
                                          refine end0 rfl ?_
                                          exact ⟨rfl, _, hX⟩)
                                      · skip
                                        
                                        have hq7 : q ≠ 6 := by have := of_decide_eq_false cB7; omega
                                        refine c_seq (fun K52 hK52 => ?_)
                                        exact (by
                                          refine c_region ?_
                                          refine l_step (y_eql (et (gS rfl g0) rfl) rfl) ?_
                                          refine l_step (y_assignV (et g0 rfl)) ?_
                                          refine l_nil ?_
                                          refine hK52 _ _ ?_
                                          refine fg8 0 2 3 4 5 6 19 50 (gS rfl (gS rfl (gS rfl (gS rfl (gS rfl (gS rfl (gS rfl (gS rfl (gS rfl g0))))))))) (gS rfl (gS rfl (gS rfl (gS rfl (gS rfl (gS rfl (gS rfl (gS rfl g0)))))))) (gS rfl (gS rfl (gS rfl (gS rfl (gS rfl (gS rfl (gS rfl g0))))))) (gS rfl (gS rfl (gS rfl (gS rfl (gS rfl (gS rfl g0)))))) (gS rfl (gS rfl (gS rfl (gS rfl (gS rfl g0))))) (gS rfl (gS rfl (gS rfl (gS rfl g0)))) (gS rfl (gS rfl (gS rfl g0))) g0 (fun g => ?_)
                                          refine c_cond (et g0 rfl) (fun cB8 => ?_) (fun cB8 => ?_)
                                          · skip
                                            
                                            have hq8 : q = 7 := by have := of_decide_eq_true cB8; omega
                                            subst hq8
                                            have htk8 : 2 ≤ f.stack.length := htk9
                                            exact (by
                                              refine c_region ?_
                                              refine l_step (y_loadB agg_65 sz_65 (et (gS rfl (gS rfl (gS rfl (gS rfl (gS rfl g0))))) rfl) rfl (at1B k8)) ?_
                                              refine l_step (y_loadB agg_65 sz_65 (et (gS rfl (gS rfl (gS rfl (gS rfl (gS rfl g0))))) rfl) rfl (at1B k12)) ?_
                                              refine l_eff (e_callV cal_276 (aC (et (gS rfl g0) rfl) (aC (et g0 rfl) aN)) (al_smod _ _ (argN f.stack 2) _ (argN_lt hB _) (argN_lt hB _))) (fun v54 w54 h54 => ?_)
                                              obtain ⟨rfl, u54⟩ := h54
                                              replace k8 := k8.up u54
                                              replace k12 := k12.up u54
                                              replace k15 := k15.up u54
                                              replace hX := hX.up u54
                                              replace U := U.tr u54
                                              refine l_effN (e_store sz_65 (et (gS rfl (gS rfl (gS rfl (gS rfl (gS rfl (gS rfl g0)))))) rfl) (cellsV (et g0 rfl) rfl) rfl (by exact one_uL _) k15 (by (first | (rw [hz15]; exact Nat.le_refl _) | (rw [List.size_toArray, wL_len]; exact Nat.le_refl _)))) (fun v55 w55 h55 => ?_)
                                              obtain ⟨rfl, x55⟩ := h55
                                              replace k8 := k8.ch x55.ch (by omega)
                                              replace k12 := k12.ch x55.ch (by omega)
                                              replace hX := hX.ch x55.ch (by first | omega | (intro b hb; first | (subst hb; exact ⟨by omega, fun hh => by have := hfz.lt hh; omega, by omega⟩) | (rcases hb with hb | hb <;> (subst hb; exact ⟨by omega, fun hh => by have := hfz.lt hh; omega, by omega⟩))))
                                              replace k15 := x55.blk.full (by first | (rw [hz15]; rfl) | (rw [List.size_toArray, wL_len, wL_len]))
                                              replace U := U.st x55 (.inr f15)
                                              refine l_nil ?_
                                              refine hQ21 _ _ _ (in_normal ?_)
                                              refine hK18 _ _ ?_
                                              refine fg4 0 2 5 6 (gS rfl (gS rfl (gS rfl (gS rfl (gS rfl (gS rfl (gS rfl (gS rfl (gS rfl (gS rfl g0)))))))))) (gS rfl (gS rfl (gS rfl (gS rfl (gS rfl (gS rfl (gS rfl (gS rfl (gS rfl g0))))))))) (gS rfl (gS rfl (gS rfl (gS rfl (gS rfl (gS rfl g0)))))) (gS rfl (gS rfl (gS rfl (gS rfl (gS rfl g0))))) (fun g => ?_)
                                              refine c_region ?_
                                              refine l_step (y_moveV (et (gS rfl (gS rfl (gS rfl g0))) rfl)) ?_
                                              refine l_step (y_moveV (et (gS rfl (gS rfl (gS rfl g0))) rfl)) ?_
                                              refine l_step (y_moveV (et (gS rfl (gS rfl g0)) rfl)) ?_
                                              refine l_step (y_loadB agg_65 sz_65 (et (gS rfl (gS rfl (gS rfl (gS rfl g0)))) rfl) rfl (at1B k15)) ?_
                                              refine l_eff (e_callV cal_259 (aC (et (gS rfl (gS rfl (gS rfl g0))) rfl) (aC (et (gS rfl (gS rfl g0)) rfl) (aC (et (gS rfl g0) rfl) (aC rfl (aC (et g0 rfl) (aC (v := .int .u16 ((1 : Nat) : Int)) rfl aN)))))) (m_settle1 hX.ex hs hp (by first | exact hpf | rfl) 2 _ 1 (by omega) (by first | exact aluN_lt _ _ _ _ (argN_lt hB _) (argN_lt hB _) (argN_lt hB _) | exact one_zero_lt _ | exact hx9 | decide) (by omega) (by omega))) (fun v56 w56 h56 => ?_)
                                              obtain ⟨rfl, cs56, y56⟩ := h56
                                              replace k8 := k8.ch y56.et.go.ch (by intro hm; (have e0 := hm); omega)
                                              replace k12 := k12.ch y56.et.go.ch (by intro hm; (have e0 := hm); omega)
                                              replace k15 := k15.ch y56.et.go.ch (by intro hm; (have e0 := hm); omega)
                                              replace hX := hX.trans y56
                                              replace U := U.cc y56.et.go.ch (by intro b hb; exact .inl trivial)
                                              refine l_nil ?_
                                              refine end0 rfl ?_
                                              exact ⟨rfl, _, hX⟩)
                                          · skip
                                            
                                            have hq8 : q ≠ 7 := by have := of_decide_eq_false cB8; omega
                                            refine c_seq (fun K57 hK57 => ?_)
                                            exact (by
                                              refine c_region ?_
                                              refine l_step (y_eql (et (gS rfl g0) rfl) rfl) ?_
                                              refine l_step (y_assignV (et g0 rfl)) ?_
                                              refine l_nil ?_
                                              refine hK57 _ _ ?_
                                              refine fg8 0 2 3 4 5 6 19 55 (gS rfl (gS rfl (gS rfl (gS rfl (gS rfl (gS rfl (gS rfl (gS rfl (gS rfl g0))))))))) (gS rfl (gS rfl (gS rfl (gS rfl (gS rfl (gS rfl (gS rfl (gS rfl g0)))))))) (gS rfl (gS rfl (gS rfl (gS rfl (gS rfl (gS rfl (gS rfl g0))))))) (gS rfl (gS rfl (gS rfl (gS rfl (gS rfl (gS rfl g0)))))) (gS rfl (gS rfl (gS rfl (gS rfl (gS rfl g0))))) (gS rfl (gS rfl (gS rfl (gS rfl g0)))) (gS rfl (gS rfl (gS rfl g0))) g0 (fun g => ?_)
                                              refine c_cond (et g0 rfl) (fun cB9 => ?_) (fun cB9 => ?_)
                                              · skip
                                                
                                                have hq9 : q = 10 := by have := of_decide_eq_true cB9; omega
                                                subst hq9
                                                have htk8 : 2 ≤ f.stack.length := htk9
                                                exact (by
                                                  refine c_region ?_
                                                  refine l_step (y_loadB agg_65 sz_65 (et (gS rfl (gS rfl (gS rfl (gS rfl (gS rfl g0))))) rfl) rfl (at1B k8)) ?_
                                                  refine l_step (y_loadB agg_65 sz_65 (et (gS rfl (gS rfl (gS rfl (gS rfl (gS rfl g0))))) rfl) rfl (at1B k12)) ?_
                                                  refine l_eff (e_callV cal_277 (aC (et (gS rfl g0) rfl) (aC (et g0 rfl) aN)) (al_exp _ _ (argN f.stack 2) _ (argN_lt hB _) (argN_lt hB _))) (fun v59 w59 h59 => ?_)
                                                  obtain ⟨rfl, u59⟩ := h59
                                                  replace k8 := k8.up u59
                                                  replace k12 := k12.up u59
                                                  replace k15 := k15.up u59
                                                  replace hX := hX.up u59
                                                  replace U := U.tr u59
                                                  refine l_effN (e_store sz_65 (et (gS rfl (gS rfl (gS rfl (gS rfl (gS rfl (gS rfl g0)))))) rfl) (cellsV (et g0 rfl) rfl) rfl (by exact one_uL _) k15 (by (first | (rw [hz15]; exact Nat.le_refl _) | (rw [List.size_toArray, wL_len]; exact Nat.le_refl _)))) (fun v60 w60 h60 => ?_)
                                                  obtain ⟨rfl, x60⟩ := h60
                                                  replace k8 := k8.ch x60.ch (by omega)
                                                  replace k12 := k12.ch x60.ch (by omega)
                                                  replace hX := hX.ch x60.ch (by first | omega | (intro b hb; first | (subst hb; exact ⟨by omega, fun hh => by have := hfz.lt hh; omega, by omega⟩) | (rcases hb with hb | hb <;> (subst hb; exact ⟨by omega, fun hh => by have := hfz.lt hh; omega, by omega⟩))))
                                                  replace k15 := x60.blk.full (by first | (rw [hz15]; rfl) | (rw [List.size_toArray, wL_len, wL_len]))
                                                  replace U := U.st x60 (.inr f15)
                                                  refine l_nil ?_
                                                  refine hQ21 _ _ _ (in_normal ?_)
                                                  refine hK18 _ _ ?_
                                                  refine fg4 0 2 5 6 (gS rfl (gS rfl (gS rfl (gS rfl (gS rfl (gS rfl (gS rfl (gS rfl (gS rfl (gS rfl g0)))))))))) (gS rfl (gS rfl (gS rfl (gS rfl (gS rfl (gS rfl (gS rfl (gS rfl (gS rfl g0))))))))) (gS rfl (gS rfl (gS rfl (gS rfl (gS rfl (gS rfl g0)))))) (gS rfl (gS rfl (gS rfl (gS rfl (gS rfl g0))))) (fun g => ?_)
                                                  refine c_region ?_
                                                  refine l_step (y_moveV (et (gS rfl (gS rfl (gS rfl g0))) rfl)) ?_
                                                  refine l_step (y_moveV (et (gS rfl (gS rfl (gS rfl g0))) rfl)) ?_
                                                  refine l_step (y_moveV (et (gS rfl (gS rfl g0)) rfl)) ?_
                                                  refine l_step (y_loadB agg_65 sz_65 (et (gS rfl (gS rfl (gS rfl (gS rfl g0)))) rfl) rfl (at1B k15)) ?_
                                                  refine l_eff (e_callV cal_259 (aC (et (gS rfl (gS rfl (gS rfl g0))) rfl) (aC (et (gS rfl (gS rfl g0)) rfl) (aC (et (gS rfl g0) rfl) (aC rfl (aC (et g0 rfl) (aC (v := .int .u16 ((1 : Nat) : Int)) rfl aN)))))) (m_settle1 hX.ex hs hp (by first | exact hpf | rfl) 2 _ 1 (by omega) (by first | exact aluN_lt _ _ _ _ (argN_lt hB _) (argN_lt hB _) (argN_lt hB _) | exact one_zero_lt _ | exact hx9 | decide) (by omega) (by omega))) (fun v61 w61 h61 => ?_)
                                                  obtain ⟨rfl, cs61, y61⟩ := h61
                                                  replace k8 := k8.ch y61.et.go.ch (by intro hm; (have e0 := hm); omega)
                                                  replace k12 := k12.ch y61.et.go.ch (by intro hm; (have e0 := hm); omega)
                                                  replace k15 := k15.ch y61.et.go.ch (by intro hm; (have e0 := hm); omega)
                                                  replace hX := hX.trans y61
                                                  replace U := U.cc y61.et.go.ch (by intro b hb; exact .inl trivial)
                                                  refine l_nil ?_
                                                  refine end0 rfl ?_
                                                  exact ⟨rfl, _, hX⟩)
                                              · skip
                                                
                                                have hq9 : q ≠ 10 := by have := of_decide_eq_false cB9; omega
                                                refine c_seq (fun K62 hK62 => ?_)
                                                exact (by
                                                  refine c_region ?_
                                                  refine l_step (y_eql (et (gS rfl g0) rfl) rfl) ?_
                                                  refine l_step (y_assignV (et g0 rfl)) ?_
                                                  refine l_nil ?_
                                                  refine hK62 _ _ ?_
                                                  refine fg8 0 2 3 4 5 6 19 60 (gS rfl (gS rfl (gS rfl (gS rfl (gS rfl (gS rfl (gS rfl (gS rfl (gS rfl g0))))))))) (gS rfl (gS rfl (gS rfl (gS rfl (gS rfl (gS rfl (gS rfl (gS rfl g0)))))))) (gS rfl (gS rfl (gS rfl (gS rfl (gS rfl (gS rfl (gS rfl g0))))))) (gS rfl (gS rfl (gS rfl (gS rfl (gS rfl (gS rfl g0)))))) (gS rfl (gS rfl (gS rfl (gS rfl (gS rfl g0))))) (gS rfl (gS rfl (gS rfl (gS rfl g0)))) (gS rfl (gS rfl (gS rfl g0))) g0 (fun g => ?_)
                                                  refine c_cond (et g0 rfl) (fun cB10 => ?_) (fun cB10 => ?_)
                                                  · skip
                                                    
                                                    have hq10 : q = 11 := by have := of_decide_eq_true cB10; omega
                                                    subst hq10
                                                    have htk8 : 2 ≤ f.stack.length := htk9
                                                    exact (by
                                                      refine c_region ?_
                                                      refine l_step (y_loadB agg_65 sz_65 (et (gS rfl (gS rfl (gS rfl (gS rfl (gS rfl g0))))) rfl) rfl (at1B k8)) ?_
                                                      refine l_step (y_loadB agg_65 sz_65 (et (gS rfl (gS rfl (gS rfl (gS rfl (gS rfl g0))))) rfl) rfl (at1B k12)) ?_
                                                      refine l_eff (e_callV cal_278 (aC (et (gS rfl g0) rfl) (aC (et g0 rfl) aN)) (al_sext _ _ (argN f.stack 2) _ (argN_lt hB _) (argN_lt hB _))) (fun v64 w64 h64 => ?_)
                                                      obtain ⟨rfl, u64⟩ := h64
                                                      replace k8 := k8.up u64
                                                      replace k12 := k12.up u64
                                                      replace k15 := k15.up u64
                                                      replace hX := hX.up u64
                                                      replace U := U.tr u64
                                                      refine l_effN (e_store sz_65 (et (gS rfl (gS rfl (gS rfl (gS rfl (gS rfl (gS rfl g0)))))) rfl) (cellsV (et g0 rfl) rfl) rfl (by exact one_uL _) k15 (by (first | (rw [hz15]; exact Nat.le_refl _) | (rw [List.size_toArray, wL_len]; exact Nat.le_refl _)))) (fun v65 w65 h65 => ?_)
                                                      obtain ⟨rfl, x65⟩ := h65
                                                      replace k8 := k8.ch x65.ch (by omega)
                                                      replace k12 := k12.ch x65.ch (by omega)
                                                      replace hX := hX.ch x65.ch (by first | omega | (intro b hb; first | (subst hb; exact ⟨by omega, fun hh => by have := hfz.lt hh; omega, by omega⟩) | (rcases hb with hb | hb <;> (subst hb; exact ⟨by omega, fun hh => by have := hfz.lt hh; omega, by omega⟩))))
                                                      replace k15 := x65.blk.full (by first | (rw [hz15]; rfl) | (rw [List.size_toArray, wL_len, wL_len]))
                                                      replace U := U.st x65 (.inr f15)
                                                      refine l_nil ?_
                                                      refine hQ21 _ _ _ (in_normal ?_)
                                                      refine hK18 _ _ ?_
                                                      refine fg4 0 2 5 6 (gS rfl (gS rfl (gS rfl (gS rfl (gS rfl (gS rfl (gS rfl (gS rfl (gS rfl (gS rfl g0)))))))))) (gS rfl (gS rfl (gS rfl (gS rfl (gS rfl (gS rfl (gS rfl (gS rfl (gS rfl g0))))))))) (gS rfl (gS rfl (gS rfl (gS rfl (gS rfl (gS rfl g0)))))) (gS rfl (gS rfl (gS rfl (gS rfl (gS rfl g0))))) (fun g => ?_)
                                                      refine c_region ?_
                                                      refine l_step (y_moveV (et (gS rfl (gS rfl (gS rfl g0))) rfl)) ?_
                                                      refine l_step (y_moveV (et (gS rfl (gS rfl (gS rfl g0))) rfl)) ?_
                                                      refine l_step (y_moveV (et (gS rfl (gS rfl g0)) rfl)) ?_
                                                      refine l_step (y_loadB agg_65 sz_65 (et (gS rfl (gS rfl (gS rfl (gS rfl g0)))) rfl) rfl (at1B k15)) ?_
                                                      refine l_eff (e_callV cal_259 (aC (et (gS rfl (gS rfl (gS rfl g0))) rfl) (aC (et (gS rfl (gS rfl g0)) rfl) (aC (et (gS rfl g0) rfl) (aC rfl (aC (et g0 rfl) (aC (v := .int .u16 ((1 : Nat) : Int)) rfl aN)))))) (m_settle1 hX.ex hs hp (by first | exact hpf | rfl) 2 _ 1 (by omega) (by first | exact aluN_lt _ _ _ _ (argN_lt hB _) (argN_lt hB _) (argN_lt hB _) | exact one_zero_lt _ | exact hx9 | decide) (by omega) (by omega))) (fun v66 w66 h66 => ?_)
                                                      obtain ⟨rfl, cs66, y66⟩ := h66
                                                      replace k8 := k8.ch y66.et.go.ch (by intro hm; (have e0 := hm); omega)
                                                      replace k12 := k12.ch y66.et.go.ch (by intro hm; (have e0 := hm); omega)
                                                      replace k15 := k15.ch y66.et.go.ch (by intro hm; (have e0 := hm); omega)
                                                      replace hX := hX.trans y66
                                                      replace U := U.cc y66.et.go.ch (by intro b hb; exact .inl trivial)
                                                      refine l_nil ?_
                                                      refine end0 rfl ?_
                                                      exact ⟨rfl, _, hX⟩)
                                                  · skip
                                                    
                                                    have hq10 : q ≠ 11 := by have := of_decide_eq_false cB10; omega
                                                    refine c_seq (fun K67 hK67 => ?_)
                                                    exact (by
                                                      refine c_region ?_
                                                      refine l_step (y_eql (et (gS rfl g0) rfl) rfl) ?_
                                                      refine l_step (y_assignV (et g0 rfl)) ?_
                                                      refine l_nil ?_
                                                      refine hK67 _ _ ?_
                                                      refine fg8 0 2 3 4 5 6 19 65 (gS rfl (gS rfl (gS rfl (gS rfl (gS rfl (gS rfl (gS rfl (gS rfl (gS rfl g0))))))))) (gS rfl (gS rfl (gS rfl (gS rfl (gS rfl (gS rfl (gS rfl (gS rfl g0)))))))) (gS rfl (gS rfl (gS rfl (gS rfl (gS rfl (gS rfl (gS rfl g0))))))) (gS rfl (gS rfl (gS rfl (gS rfl (gS rfl (gS rfl g0)))))) (gS rfl (gS rfl (gS rfl (gS rfl (gS rfl g0))))) (gS rfl (gS rfl (gS rfl (gS rfl g0)))) (gS rfl (gS rfl (gS rfl g0))) g0 (fun g => ?_)
                                                      refine c_cond (et g0 rfl) (fun cB11 => ?_) (fun cB11 => ?_)
                                                      · skip
                                                        
                                                        have hq11 : q = 8 := by have := of_decide_eq_true cB11; omega
                                                        subst hq11
                                                        have htk8 : 3 ≤ f.stack.length := htk9
                                                        refine c_seq (fun K69 hK69 => ?_)
                                                        exact (by
                                                          refine c_draw Up 6 [(0, true), (1, true), (2, true), (3, true), (4, false), (5, false), (6, false)] (by kernel_rfl) (fun w70 hu => ⟨Up.refl _, ?_⟩)
                                                          replace k8 := k8.up hu
                                                          replace k12 := k12.up hu
                                                          replace k15 := k15.up hu
                                                          replace hX := hX.up hu
                                                          replace U := U.tr hu
                                                          have SU := Up.refl w70
                                                          refine p_step (by exact rfl) (y_loadB agg_65 sz_65 (et (gS rfl (gS rfl (gS rfl (gS rfl (gS rfl g0))))) rfl) rfl (atSB k8)) ?_
                                                          refine p_step (by exact rfl) (y_loadB agg_65 sz_65 (et (gS rfl (gS rfl (gS rfl (gS rfl (gS rfl g0))))) rfl) rfl (atSB k12)) ?_
                                                          refine p_step (by exact rfl) (y_moveV (et (gS rfl (gS rfl (gS rfl (gS rfl (gS rfl (gS rfl (gS rfl (gS rfl (gS rfl g0))))))))) rfl)) ?_
                                                          refine p_step (by exact rfl) (y_moveV (et (gS rfl (gS rfl (gS rfl (gS rfl (gS rfl (gS rfl (gS rfl (gS rfl (gS rfl g0))))))))) rfl)) ?_
                                                          refine p_eff (by exact rfl) (e_callV cal_264 (aC (et (gS rfl g0) rfl) (aC (et g0 rfl) (aC (v := .int .i64 ((2 : Nat) : Int)) rfl aN))) (m_arg hX.ex hs hp (by first | exact hpf | rfl) _ (by decide))) (fun v71 w71 h71 => ?_)
                                                          obtain ⟨rfl, u71⟩ := h71
                                                          replace k8 := k8.up u71
                                                          replace k12 := k12.up u71
                                                          replace k15 := k15.up u71
                                                          replace hX := hX.up u71
                                                          replace U := U.tr u71
                                                          refine ⟨.inr (SU.tr u71), ?_⟩
                                                          replace SU := SU.tr u71
                                                          refine p_eff (by exact rfl) (e_callV cal_279 (aC (et (gS rfl (gS rfl (gS rfl (gS rfl g0)))) rfl) (aC (et (gS rfl (gS rfl (gS rfl g0))) rfl) (aC (et g0 rfl) aN))) (al_addmod _ _ _ _ (argN_lt hB _) (argN_lt hB _) (argN_lt hB _))) (fun v72 w72 h72 => ?_)
                                                          obtain ⟨rfl, u72⟩ := h72
                                                          replace k8 := k8.up u72
                                                          replace k12 := k12.up u72
                                                          replace k15 := k15.up u72
                                                          replace hX := hX.up u72
                                                          replace U := U.tr u72
                                                          refine ⟨.inr (SU.tr u72), ?_⟩
                                                          replace SU := SU.tr u72
                                                          refine p_effN (by exact rfl) (e_store sz_65 (et (gS rfl (gS rfl (gS rfl (gS rfl (gS rfl (gS rfl (gS rfl (gS rfl (gS rfl g0))))))))) rfl) (cellsV (et g0 rfl) rfl) rfl (by exact one_uL _) k15 (by (first | (rw [hz15]; exact Nat.le_refl _) | (rw [List.size_toArray, wL_len]; exact Nat.le_refl _)))) (fun v73 w73 h73 => ?_)
                                                          obtain ⟨rfl, x73⟩ := h73
                                                          replace k8 := k8.ch x73.ch (by omega)
                                                          replace k12 := k12.ch x73.ch (by omega)
                                                          replace hX := hX.ch x73.ch (by first | omega | (intro b hb; first | (subst hb; exact ⟨by omega, fun hh => by have := hfz.lt hh; omega, by omega⟩) | (rcases hb with hb | hb <;> (subst hb; exact ⟨by omega, fun hh => by have := hfz.lt hh; omega, by omega⟩))))
                                                          replace k15 := x73.blk.full (by first | (rw [hz15]; rfl) | (rw [List.size_toArray, wL_len, wL_len]))
                                                          replace U := U.st x73 (.inr f15)
                                                          refine ⟨.inl rfl, ?_⟩
                                                          refine p_nil ?_
                                                          refine hK69 _ _ ?_
                                                          refine fg3 0 2 5 (gS rfl (gS rfl (gS rfl (gS rfl (gS rfl (gS rfl (gS rfl (gS rfl (gS rfl (gS rfl (gS rfl (gS rfl (gS rfl g0))))))))))))) (gS rfl (gS rfl (gS rfl (gS rfl (gS rfl (gS rfl (gS rfl (gS rfl (gS rfl (gS rfl (gS rfl (gS rfl g0)))))))))))) (gS rfl (gS rfl (gS rfl (gS rfl (gS rfl (gS rfl (gS rfl (gS rfl (gS rfl g0))))))))) (fun g => ?_)
                                                          refine c_region ?_
                                                          exact (by
                                                            refine l_step y_assignC ?_
                                                            refine l_nil ?_
                                                            refine hQ21 _ _ _ (in_normal ?_)
                                                            refine hK18 _ _ ?_
                                                            refine c_region ?_
                                                            refine l_step (y_moveV (et (gS rfl (gS rfl (gS rfl g0))) rfl)) ?_
                                                            refine l_step (y_moveV (et (gS rfl (gS rfl (gS rfl g0))) rfl)) ?_
                                                            refine l_step (y_moveV (et (gS rfl (gS rfl g0)) rfl)) ?_
                                                            refine l_step (y_loadB agg_65 sz_65 (et (gS rfl (gS rfl (gS rfl (gS rfl g0)))) rfl) rfl (at1B k15)) ?_
                                                            refine l_eff (e_callV cal_259 (aC (et (gS rfl (gS rfl (gS rfl g0))) rfl) (aC (et (gS rfl (gS rfl g0)) rfl) (aC (et (gS rfl g0) rfl) (aC rfl (aC (et g0 rfl) (aC (v := .int .u16 ((1 : Nat) : Int)) rfl aN)))))) (m_settle1 hX.ex hs hp (by first | exact hpf | rfl) 3 _ 1 (by omega) (by first | exact aluN_lt _ _ _ _ (argN_lt hB _) (argN_lt hB _) (argN_lt hB _) | exact one_zero_lt _ | exact hx9 | decide) (by omega) (by omega))) (fun v74 w74 h74 => ?_)
                                                            obtain ⟨rfl, cs74, y74⟩ := h74
                                                            replace k8 := k8.ch y74.et.go.ch (by intro hm; (have e0 := hm); omega)
                                                            replace k12 := k12.ch y74.et.go.ch (by intro hm; (have e0 := hm); omega)
                                                            replace k15 := k15.ch y74.et.go.ch (by intro hm; (have e0 := hm); omega)
                                                            replace hX := hX.trans y74
                                                            replace U := U.cc y74.et.go.ch (by intro b hb; exact .inl trivial)
                                                            refine l_nil ?_
                                                            refine end0 rfl ?_
                                                            exact ⟨rfl, _, hX⟩))
                                                      · skip
                                                        
                                                        have hq11 : q ≠ 8 := by have := of_decide_eq_false cB11; omega
                                                        refine c_seq (fun K75 hK75 => ?_)
                                                        exact (by
                                                          refine c_region ?_
                                                          refine l_step (y_eql (et (gS rfl g0) rfl) rfl) ?_
                                                          refine l_step (y_assignV (et g0 rfl)) ?_
                                                          refine l_nil ?_
                                                          refine hK75 _ _ ?_
                                                          refine fg7 0 2 3 4 5 6 73 (gS rfl (gS rfl (gS rfl (gS rfl (gS rfl (gS rfl (gS rfl (gS rfl (gS rfl g0))))))))) (gS rfl (gS rfl (gS rfl (gS rfl (gS rfl (gS rfl (gS rfl (gS rfl g0)))))))) (gS rfl (gS rfl (gS rfl (gS rfl (gS rfl (gS rfl (gS rfl g0))))))) (gS rfl (gS rfl (gS rfl (gS rfl (gS rfl (gS rfl g0)))))) (gS rfl (gS rfl (gS rfl (gS rfl (gS rfl g0))))) (gS rfl (gS rfl (gS rfl (gS rfl g0)))) g0 (fun g => ?_)
                                                          refine c_cond (et g0 rfl) (fun cB12 => ?_) (fun cB12 => ?_)
                                                          · skip
                                                            
                                                            have hq12 : q = 9 := by have := of_decide_eq_true cB12; omega
                                                            subst hq12
                                                            have htk8 : 3 ≤ f.stack.length := htk9
                                                            refine c_seq (fun K77 hK77 => ?_)
                                                            exact (by
                                                              refine c_draw Up 6 [(0, true), (1, true), (2, true), (3, true), (4, false), (5, false), (6, false)] (by kernel_rfl) (fun w78 hu => ⟨Up.refl _, ?_⟩)
                                                              replace k8 := k8.up hu
                                                              replace k12 := k12.up hu
                                                              replace k15 := k15.up hu
                                                              replace hX := hX.up hu
                                                              replace U := U.tr hu
                                                              have SU := Up.refl w78
                                                              refine p_step (by exact rfl) (y_loadB agg_65 sz_65 (et (gS rfl (gS rfl (gS rfl (gS rfl g0)))) rfl) rfl (atSB k8)) ?_
                                                              refine p_step (by exact rfl) (y_loadB agg_65 sz_65 (et (gS rfl (gS rfl (gS rfl (gS rfl g0)))) rfl) rfl (atSB k12)) ?_
                                                              refine p_step (by exact rfl) (y_moveV (et (gS rfl (gS rfl (gS rfl (gS rfl (gS rfl (gS rfl (gS rfl (gS rfl g0)))))))) rfl)) ?_
                                                              refine p_step (by exact rfl) (y_moveV (et (gS rfl (gS rfl (gS rfl (gS rfl (gS rfl (gS rfl (gS rfl (gS rfl g0)))))))) rfl)) ?_
                                                              refine p_eff (by exact rfl) (e_callV cal_264 (aC (et (gS rfl g0) rfl) (aC (et g0 rfl) (aC (v := .int .i64 ((2 : Nat) : Int)) rfl aN))) (m_arg hX.ex hs hp (by first | exact hpf | rfl) _ (by decide))) (fun v79 w79 h79 => ?_)
                                                              obtain ⟨rfl, u79⟩ := h79
                                                              replace k8 := k8.up u79
                                                              replace k12 := k12.up u79
                                                              replace k15 := k15.up u79
                                                              replace hX := hX.up u79
                                                              replace U := U.tr u79
                                                              refine ⟨.inr (SU.tr u79), ?_⟩
                                                              replace SU := SU.tr u79
                                                              refine p_eff (by exact rfl) (e_callV cal_280 (aC (et (gS rfl (gS rfl (gS rfl (gS rfl g0)))) rfl) (aC (et (gS rfl (gS rfl (gS rfl g0))) rfl) (aC (et g0 rfl) aN))) (al_mulmod _ _ _ _ (argN_lt hB _) (argN_lt hB _) (argN_lt hB _))) (fun v80 w80 h80 => ?_)
                                                              obtain ⟨rfl, u80⟩ := h80
                                                              replace k8 := k8.up u80
                                                              replace k12 := k12.up u80
                                                              replace k15 := k15.up u80
                                                              replace hX := hX.up u80
                                                              replace U := U.tr u80
                                                              refine ⟨.inr (SU.tr u80), ?_⟩
                                                              replace SU := SU.tr u80
                                                              refine p_effN (by exact rfl) (e_store sz_65 (et (gS rfl (gS rfl (gS rfl (gS rfl (gS rfl (gS rfl (gS rfl (gS rfl g0)))))))) rfl) (cellsV (et g0 rfl) rfl) rfl (by exact one_uL _) k15 (by (first | (rw [hz15]; exact Nat.le_refl _) | (rw [List.size_toArray, wL_len]; exact Nat.le_refl _)))) (fun v81 w81 h81 => ?_)
                                                              obtain ⟨rfl, x81⟩ := h81
                                                              replace k8 := k8.ch x81.ch (by omega)
                                                              replace k12 := k12.ch x81.ch (by omega)
                                                              replace hX := hX.ch x81.ch (by first | omega | (intro b hb; first | (subst hb; exact ⟨by omega, fun hh => by have := hfz.lt hh; omega, by omega⟩) | (rcases hb with hb | hb <;> (subst hb; exact ⟨by omega, fun hh => by have := hfz.lt hh; omega, by omega⟩))))
                                                              replace k15 := x81.blk.full (by first | (rw [hz15]; rfl) | (rw [List.size_toArray, wL_len, wL_len]))
                                                              replace U := U.st x81 (.inr f15)
                                                              refine ⟨.inl rfl, ?_⟩
                                                              refine p_nil ?_
                                                              refine hK77 _ _ ?_
                                                              refine fg3 0 2 5 (gS rfl (gS rfl (gS rfl (gS rfl (gS rfl (gS rfl (gS rfl (gS rfl (gS rfl (gS rfl (gS rfl (gS rfl g0)))))))))))) (gS rfl (gS rfl (gS rfl (gS rfl (gS rfl (gS rfl (gS rfl (gS rfl (gS rfl (gS rfl (gS rfl g0))))))))))) (gS rfl (gS rfl (gS rfl (gS rfl (gS rfl (gS rfl (gS rfl (gS rfl g0)))))))) (fun g => ?_)
                                                              refine c_region ?_
                                                              exact (by
                                                                refine l_step y_assignC ?_
                                                                refine l_nil ?_
                                                                refine hQ21 _ _ _ (in_normal ?_)
                                                                refine hK18 _ _ ?_
                                                                refine c_region ?_
                                                                refine l_step (y_moveV (et (gS rfl (gS rfl (gS rfl g0))) rfl)) ?_
                                                                refine l_step (y_moveV (et (gS rfl (gS rfl (gS rfl g0))) rfl)) ?_
                                                                refine l_step (y_moveV (et (gS rfl (gS rfl g0)) rfl)) ?_
                                                                refine l_step (y_loadB agg_65 sz_65 (et (gS rfl (gS rfl (gS rfl (gS rfl g0)))) rfl) rfl (at1B k15)) ?_
                                                                refine l_eff (e_callV cal_259 (aC (et (gS rfl (gS rfl (gS rfl g0))) rfl) (aC (et (gS rfl (gS rfl g0)) rfl) (aC (et (gS rfl g0) rfl) (aC rfl (aC (et g0 rfl) (aC (v := .int .u16 ((1 : Nat) : Int)) rfl aN)))))) (m_settle1 hX.ex hs hp (by first | exact hpf | rfl) 3 _ 1 (by omega) (by first | exact aluN_lt _ _ _ _ (argN_lt hB _) (argN_lt hB _) (argN_lt hB _) | exact one_zero_lt _ | exact hx9 | decide) (by omega) (by omega))) (fun v82 w82 h82 => ?_)
                                                                obtain ⟨rfl, cs82, y82⟩ := h82
                                                                replace k8 := k8.ch y82.et.go.ch (by intro hm; (have e0 := hm); omega)
                                                                replace k12 := k12.ch y82.et.go.ch (by intro hm; (have e0 := hm); omega)
                                                                replace k15 := k15.ch y82.et.go.ch (by intro hm; (have e0 := hm); omega)
                                                                replace hX := hX.trans y82
                                                                replace U := U.cc y82.et.go.ch (by intro b hb; exact .inl trivial)
                                                                refine l_nil ?_
                                                                refine end0 rfl ?_
                                                                exact ⟨rfl, _, hX⟩))
                                                          · skip
                                                            
                                                            exact absurd (of_decide_eq_false cB12) (by omega)))))))))))))))))))
theorem m_opCompare {w : World} {H : Store} {col : Nat → Nat} {bc : Nat} {cs : Array Value} {V : EV} {s : YSt} {sn : List Nat} {sv : List AW} {ms : List (List Nat)} {c : Nat} {low : List YF} {f : YF} (hE : EX w H col bc cs V s sn sv ms c) (hs : s.frames = low ++ [f]) (hp : s.phase = 1) {q : Nat} (hq : opcN f = q) (hpc9 : f.pc < 512) (hqq : 16 ≤ q ∧ q ≤ 21) (htk9 : (if q = 21 then 1 else 2) ≤ f.stack.length) :
    Ret 190 [.pointer (some ⟨bc, 0, none⟩)] w (fun v w' => v = .tuple #[] ∧ ∃ cs', XT w H col w' H col bc cs' V { s with frames := low ++ [ansN f (if q = 21 then 1 else 2) (aluN q (argN f.stack 0) (argN f.stack 1) (argN f.stack 2))] } sn sv ms c) := by
  obtain ⟨n9, hn9, hR⟩ := hE.topF hs
  have hB := hE.fbT hs
  have h6 := hE.six hs
  have htop := hE.cTop hs
  have hphs := hE.cPh hp
  have hbp := hB.pc
  have hbs := hB.stk
  have hbg := hB.gas
  have hbc9 := hB.code
  have hnw := hE.vl.new
  have hfz := hE.vl.fz
  have hcC := hE.vl.colC
  have hbc0 := hE.vl.kC.lt
  have hX := XT.refl hE
  refine enter (n := 54) Hvaa.func190 rfl rfl (Nat.le_of_ble_eq_true rfl) ?_
  have U : Ch (fun _ => True) w w := Ch.refl _ w
  refine c_seq (fun K1 hK1 => ?_)
  exact (by
    refine c_region ?_
    refine l_step (y_moveV (et g0 rfl)) ?_
    refine l_eff (e_callV cal_183 (aC (et g0 rfl) aN) (m_running hX.ex hs hp)) (fun v2 w2 h2 => ?_)
    obtain ⟨rfl, u2⟩ := h2
    replace hX := hX.up u2
    replace U := U.tr u2
    refine l_step (y_assignV (et g0 rfl)) ?_
    refine l_nil ?_
    refine hK1 _ _ ?_
    refine fg2 0 2 (gS rfl (gS rfl (gS rfl g0))) g0 (fun g => ?_)
    refine c_seq (fun K3 hK3 => ?_)
    refine c_seq (fun K4 hK4 => ?_)
    exact (by
      refine c_region ?_
      refine l_step (y_moveV (et g0 rfl)) ?_
      refine l_step (y_eqlNil Hvaa.underlying276 (et g0 rfl) rfl) ?_
      refine l_nil ?_
      refine hK4 _ _ ?_
      refine fg3 0 2 10 (gS rfl (gS rfl (gS rfl g0))) (gS rfl (gS rfl g0)) g0 (fun g => ?_)
      refine c_false (et g0 rfl) rfl ?_
      refine c_skip ?_
      refine hK3 _ _ ?_
      refine fg2 0 2 (gS rfl (gS rfl g0)) (gS rfl g0) (fun g => ?_)
      refine c_seq (fun K6 hK6 => ?_)
      exact (by
        refine c_region ?_
        refine l_step (y_moveV (et (gS rfl g0) rfl)) ?_
        refine l_step (y_moveV (et (gS rfl g0) rfl)) ?_
        refine l_eff (e_callV cal_264 (aC (et (gS rfl g0) rfl) (aC (et g0 rfl) (aC (v := .int .i64 ((0 : Nat) : Int)) rfl aN))) (m_arg hX.ex hs hp (by first | exact hpf | rfl) _ (by decide))) (fun v7 w7 h7 => ?_)
        obtain ⟨rfl, u7⟩ := h7
        replace hX := hX.up u7
        replace U := U.tr u7
        refine l_eff (e_alloc zr_65) (fun v8 w8 h8 => ?_)
        obtain ⟨b8, rfl, n8⟩ := h8
        have f8 : w.heap.size ≤ b8 := Nat.le_trans U.size n8.fresh
        replace hX := hX.up n8.up
        replace U := U.tr n8.up
        have k8 := n8.blk
        obtain ⟨zs8, hz8, k8⟩ : ∃ cs : Array Value, cs.size = 4 ∧ Blk w8 b8 cs := ⟨_, rfl, k8⟩
        have nc8 : col b8 = 0 := hnw _ f8
        refine l_effN (e_store sz_65 (et g0 rfl) (cellsV (et (gS rfl g0) rfl) rfl) rfl (by exact one_uL _) k8 (by (first | (rw [hz8]; exact Nat.le_refl _) | (rw [List.size_toArray, wL_len]; exact Nat.le_refl _)))) (fun v9 w9 h9 => ?_)
        obtain ⟨rfl, x9⟩ := h9
        replace hX := hX.ch x9.ch (by first | omega | (intro b hb; first | (subst hb; exact ⟨by omega, fun hh => by have := hfz.lt hh; omega, by omega⟩) | (rcases hb with hb | hb <;> (subst hb; exact ⟨by omega, fun hh => by have := hfz.lt hh; omega, by omega⟩))))
        replace k8 := x9.blk.full (by first | (rw [hz8]; rfl) | (rw [List.size_toArray, wL_len, wL_len]))
        replace U := U.st x9 (.inr f8)
        refine l_nil ?_
        refine hK6 _ _ ?_
        refine fg3 0 2 3 (gS rfl (gS rfl (gS rfl (gS rfl (gS rfl g0))))) (gS rfl (gS rfl (gS rfl (gS rfl g0)))) g0 (fun g => ?_)
        refine c_seq (fun K10 hK10 => ?_)
        exact (by
          refine c_region ?_
          refine l_step (y_moveV (et (gS rfl (gS rfl g0)) rfl)) ?_
          refine l_step (y_moveV (et (gS rfl (gS rfl g0)) rfl)) ?_
          refine l_eff (e_callV cal_264 (aC (et (gS rfl g0) rfl) (aC (et g0 rfl) (aC (v := .int .i64 ((1 : Nat) : Int)) rfl aN))) (m_arg hX.ex hs hp (by first | exact hpf | rfl) _ (by decide))) (fun v11 w11 h11 => ?_)
          obtain ⟨rfl, u11⟩ := h11
          replace k8 := k8.up u11
          replace hX := hX.up u11
          replace U := U.tr u11
          refine l_eff (e_alloc zr_65) (fun v12 w12 h12 => ?_)
          obtain ⟨b12, rfl, n12⟩ := h12
          have d8_12 : b8 < b12 := Nat.lt_of_lt_of_le k8.lt n12.fresh
          have f12 : w.heap.size ≤ b12 := Nat.le_trans U.size n12.fresh
          replace k8 := k8.up n12.up
          replace hX := hX.up n12.up
          replace U := U.tr n12.up
          have k12 := n12.blk
          obtain ⟨zs12, hz12, k12⟩ : ∃ cs : Array Value, cs.size = 4 ∧ Blk w12 b12 cs := ⟨_, rfl, k12⟩
          have nc12 : col b12 = 0 := hnw _ f12
          refine l_effN (e_store sz_65 (et g0 rfl) (cellsV (et (gS rfl g0) rfl) rfl) rfl (by exact one_uL _) k12 (by (first | (rw [hz12]; exact Nat.le_refl _) | (rw [List.size_toArray, wL_len]; exact Nat.le_refl _)))) (fun v13 w13 h13 => ?_)
          obtain ⟨rfl, x13⟩ := h13
          replace k8 := k8.ch x13.ch (by omega)
          replace hX := hX.ch x13.ch (by first | omega | (intro b hb; first | (subst hb; exact ⟨by omega, fun hh => by have := hfz.lt hh; omega, by omega⟩) | (rcases hb with hb | hb <;> (subst hb; exact ⟨by omega, fun hh => by have := hfz.lt hh; omega, by omega⟩))))
          replace k12 := x13.blk.full (by first | (rw [hz12]; rfl) | (rw [List.size_toArray, wL_len, wL_len]))
          replace U := U.st x13 (.inr f12)
          refine l_nil ?_
          refine hK10 _ _ ?_
          refine fg4 0 2 3 4 (gS rfl (gS rfl (gS rfl (gS rfl (gS rfl (gS rfl g0)))))) (gS rfl (gS rfl (gS rfl (gS rfl (gS rfl g0))))) (gS rfl (gS rfl (gS rfl (gS rfl g0)))) g0 (fun g => ?_)
          refine c_seq (fun K14 hK14 => ?_)
          exact (by
            refine c_region ?_
            refine l_step y_assignC ?_
            refine l_nil ?_
            refine hK14 _ _ ?_
            refine c_seq (fun K15 hK15 => ?_)
            exact (by
              refine c_region ?_
              refine l_step y_assignC ?_
              refine l_nil ?_
              refine hK15 _ _ ?_
              refine c_seq (fun K16 hK16 => ?_)
              refine c_seq (fun K17 hK17 => ?_)
              exact (by
                refine c_region ?_
                refine l_step (y_moveV (et (gS rfl (gS rfl (gS rfl (gS rfl (gS rfl g0))))) rfl)) ?_
                refine l_eff (e_callV cal_108 (aC (et g0 rfl) aN) (m_opcode hX.ex hs hp)) (fun v18 w18 h18 => ?_)
                obtain ⟨rfl, u18⟩ := h18
                replace k8 := k8.up u18
                replace k12 := k12.up u18
                replace hX := hX.up u18
                replace U := U.tr u18
                refine l_nil ?_
                refine hK17 _ _ ?_
                refine fg7 0 2 3 4 5 6 18 (gS rfl (gS rfl (gS rfl (gS rfl (gS rfl (gS rfl (gS rfl g0))))))) (gS rfl (gS rfl (gS rfl (gS rfl (gS rfl (gS rfl g0)))))) (gS rfl (gS rfl (gS rfl (gS rfl (gS rfl g0))))) (gS rfl (gS rfl (gS rfl (gS rfl g0)))) (gS rfl (gS rfl (gS rfl g0))) (gS rfl (gS rfl g0)) g0 (fun g => ?_)
                refine c_block (fun Q19 hQ19 => ?_)
                refine c_seq (fun K20 hK20 => ?_)
                exact (by
                  refine c_region ?_
                  refine l_step (y_eql (et g0 rfl) rfl) ?_
                  refine l_step (y_assignV (et g0 rfl)) ?_
                  refine l_nil ?_
                  refine hK20 _ _ ?_
                  refine fg8 0 2 3 4 5 6 18 19 (gS rfl (gS rfl (gS rfl (gS rfl (gS rfl (gS rfl (gS rfl (gS rfl g0)))))))) (gS rfl (gS rfl (gS rfl (gS rfl (gS rfl (gS rfl (gS rfl g0))))))) (gS rfl (gS rfl (gS rfl (gS rfl (gS rfl (gS rfl g0)))))) (gS rfl (gS rfl (gS rfl (gS rfl (gS rfl g0))))) (gS rfl (gS rfl (gS rfl (gS rfl g0)))) (gS rfl (gS rfl (gS rfl g0))) (gS rfl (gS rfl g0)) g0 (fun g => ?_)
                  refine c_cond (et g0 rfl) (fun cB2 => ?_) (fun cB2 => ?_)
                  · skip
                    
                    have hq2 : q = 16 := by have := of_decide_eq_true cB2; omega
                    subst hq2
                    have htk8 : 2 ≤ f.stack.length := htk9
                    exact (by
                      refine c_region ?_
                      refine l_step (y_loadB agg_65 sz_65 (et (gS rfl (gS rfl (gS rfl (gS rfl (gS rfl g0))))) rfl) rfl (at1B k8)) ?_
                      refine l_step (y_loadB agg_65 sz_65 (et (gS rfl (gS rfl (gS rfl (gS rfl (gS rfl g0))))) rfl) rfl (at1B k12)) ?_
                      refine l_eff (e_callV cal_112 (aC (et (gS rfl g0) rfl) (aC (et g0 rfl) aN)) (lt_spec _ _ _ (by first | exact argN_lt hB _ | exact hB.value | assumption | decide | exact Nat.mod_lt _ (by decide)) (by first | exact argN_lt hB _ | exact hB.value | assumption | decide | exact Nat.mod_lt _ (by decide)))) (fun v22 w22 h22 => ?_)
                      obtain ⟨rfl, u22⟩ := h22
                      replace k8 := k8.up u22
                      replace k12 := k12.up u22
                      replace hX := hX.up u22
                      replace U := U.tr u22
                      refine l_step (y_assignV (et g0 rfl)) ?_
                      refine l_nil ?_
                      refine hQ19 _ _ _ (in_normal ?_)
                      refine hK16 _ _ ?_
                      refine fg4 0 2 5 6 (gS rfl (gS rfl (gS rfl (gS rfl (gS rfl (gS rfl (gS rfl (gS rfl (gS rfl (gS rfl (gS rfl g0))))))))))) (gS rfl (gS rfl (gS rfl (gS rfl (gS rfl (gS rfl (gS rfl (gS rfl (gS rfl (gS rfl g0)))))))))) g0 (gS rfl (gS rfl (gS rfl (gS rfl (gS rfl (gS rfl g0)))))) (fun g => ?_)
                      refine c_region ?_
                      refine l_step (y_moveV (et (gS rfl (gS rfl (gS rfl g0))) rfl)) ?_
                      refine l_step (y_moveV (et (gS rfl (gS rfl (gS rfl g0))) rfl)) ?_
                      refine l_step (y_moveV (et (gS rfl (gS rfl g0)) rfl)) ?_
                      refine l_step (y_moveV (et (gS rfl (gS rfl (gS rfl (gS rfl g0)))) rfl)) ?_
                      refine l_eff (e_callV cal_283 (aC (et g0 rfl) aN) (mach_flag _ _)) (fun v23 w23 h23 => ?_)
                      obtain ⟨rfl, u23⟩ := h23
                      replace k8 := k8.up u23
                      replace k12 := k12.up u23
                      replace hX := hX.up u23
                      replace U := U.tr u23
                      refine l_eff (e_callV cal_259 (aC (et (gS rfl (gS rfl (gS rfl (gS rfl g0)))) rfl) (aC (et (gS rfl (gS rfl (gS rfl g0))) rfl) (aC (et (gS rfl (gS rfl g0)) rfl) (aC rfl (aC (et g0 rfl) (aC (v := .int .u16 ((1 : Nat) : Int)) rfl aN)))))) (m_settle1 hX.ex hs hp (by first | exact hpf | rfl) 2 _ 1 (by omega) (by first | exact aluN_lt _ _ _ _ (argN_lt hB _) (argN_lt hB _) (argN_lt hB _) | exact one_zero_lt _ | exact hx9 | decide) (by omega) (by omega))) (fun v24 w24 h24 => ?_)
                      obtain ⟨rfl, cs24, y24⟩ := h24
                      replace k8 := k8.ch y24.et.go.ch (by intro hm; (have e0 := hm); omega)
                      replace k12 := k12.ch y24.et.go.ch (by intro hm; (have e0 := hm); omega)
                      replace hX := hX.trans y24
                      replace U := U.cc y24.et.go.ch (by intro b hb; exact .inl trivial)
                      refine l_nil ?_
                      refine end0 rfl ?_
                      exact ⟨rfl, _, hX⟩)
                  · skip
                    
                    have hq2 : q ≠ 16 := by have := of_decide_eq_false cB2; omega
                    refine c_seq (fun K25 hK25 => ?_)
                    exact (by
                      refine c_region ?_
                      refine l_step (y_eql (et (gS rfl g0) rfl) rfl) ?_
                      refine l_step (y_assignV (et g0 rfl)) ?_
                      refine l_nil ?_
                      refine hK25 _ _ ?_
                      refine fg8 0 2 3 4 5 6 18 24 (gS rfl (gS rfl (gS rfl (gS rfl (gS rfl (gS rfl (gS rfl (gS rfl (gS rfl g0))))))))) (gS rfl (gS rfl (gS rfl (gS rfl (gS rfl (gS rfl (gS rfl (gS rfl g0)))))))) (gS rfl (gS rfl (gS rfl (gS rfl (gS rfl (gS rfl (gS rfl g0))))))) (gS rfl (gS rfl (gS rfl (gS rfl (gS rfl (gS rfl g0)))))) (gS rfl (gS rfl (gS rfl (gS rfl (gS rfl g0))))) (gS rfl (gS rfl (gS rfl (gS rfl g0)))) (gS rfl (gS rfl (gS rfl g0))) g0 (fun g => ?_)
                      refine c_cond (et g0 rfl) (fun cB3 => ?_) (fun cB3 => ?_)
                      · skip
                        
                        have hq3 : q = 17 := by have := of_decide_eq_true cB3; omega
                        subst hq3
                        have htk8 : 2 ≤ f.stack.length := htk9
                        exact (by
                          refine c_region ?_
                          refine l_step (y_loadB agg_65 sz_65 (et (gS rfl (gS rfl (gS rfl (gS rfl (gS rfl g0))))) rfl) rfl (at1B k8)) ?_
                          refine l_step (y_loadB agg_65 sz_65 (et (gS rfl (gS rfl (gS rfl (gS rfl (gS rfl g0))))) rfl) rfl (at1B k12)) ?_
                          refine l_eff (e_callV cal_165 (aC (et (gS rfl g0) rfl) (aC (et g0 rfl) aN)) (gt_spec _ _ _ (argN_lt hB _) (argN_lt hB _))) (fun v27 w27 h27 => ?_)
                          obtain ⟨rfl, u27⟩ := h27
                          replace k8 := k8.up u27
                          replace k12 := k12.up u27
                          replace hX := hX.up u27
                          replace U := U.tr u27
                          refine l_step (y_assignV (et g0 rfl)) ?_
                          refine l_nil ?_
                          refine hQ19 _ _ _ (in_normal ?_)
                          refine hK16 _ _ ?_
                          refine fg4 0 2 5 6 (gS rfl (gS rfl (gS rfl (gS rfl (gS rfl (gS rfl (gS rfl (gS rfl (gS rfl (gS rfl (gS rfl g0))))))))))) (gS rfl (gS rfl (gS rfl (gS rfl (gS rfl (gS rfl (gS rfl (gS rfl (gS rfl (gS rfl g0)))))))))) g0 (gS rfl (gS rfl (gS rfl (gS rfl (gS rfl (gS rfl g0)))))) (fun g => ?_)
                          refine c_region ?_
                          refine l_step (y_moveV (et (gS rfl (gS rfl (gS rfl g0))) rfl)) ?_
                          refine l_step (y_moveV (et (gS rfl (gS rfl (gS rfl g0))) rfl)) ?_
                          refine l_step (y_moveV (et (gS rfl (gS rfl g0)) rfl)) ?_
                          refine l_step (y_moveV (et (gS rfl (gS rfl (gS rfl (gS rfl g0)))) rfl)) ?_
                          refine l_eff (e_callV cal_283 (aC (et g0 rfl) aN) (mach_flag _ _)) (fun v28 w28 h28 => ?_)
                          obtain ⟨rfl, u28⟩ := h28
                          replace k8 := k8.up u28
                          replace k12 := k12.up u28
                          replace hX := hX.up u28
                          replace U := U.tr u28
                          refine l_eff (e_callV cal_259 (aC (et (gS rfl (gS rfl (gS rfl (gS rfl g0)))) rfl) (aC (et (gS rfl (gS rfl (gS rfl g0))) rfl) (aC (et (gS rfl (gS rfl g0)) rfl) (aC rfl (aC (et g0 rfl) (aC (v := .int .u16 ((1 : Nat) : Int)) rfl aN)))))) (m_settle1 hX.ex hs hp (by first | exact hpf | rfl) 2 _ 1 (by omega) (by first | exact aluN_lt _ _ _ _ (argN_lt hB _) (argN_lt hB _) (argN_lt hB _) | exact one_zero_lt _ | exact hx9 | decide) (by omega) (by omega))) (fun v29 w29 h29 => ?_)
                          obtain ⟨rfl, cs29, y29⟩ := h29
                          replace k8 := k8.ch y29.et.go.ch (by intro hm; (have e0 := hm); omega)
                          replace k12 := k12.ch y29.et.go.ch (by intro hm; (have e0 := hm); omega)
                          replace hX := hX.trans y29
                          replace U := U.cc y29.et.go.ch (by intro b hb; exact .inl trivial)
                          refine l_nil ?_
                          refine end0 rfl ?_
                          exact ⟨rfl, _, hX⟩)
                      · skip
                        
                        have hq3 : q ≠ 17 := by have := of_decide_eq_false cB3; omega
                        refine c_seq (fun K30 hK30 => ?_)
                        exact (by
                          refine c_region ?_
                          refine l_step (y_eql (et (gS rfl g0) rfl) rfl) ?_
                          refine l_step (y_assignV (et g0 rfl)) ?_
                          refine l_nil ?_
                          refine hK30 _ _ ?_
                          refine fg8 0 2 3 4 5 6 18 29 (gS rfl (gS rfl (gS rfl (gS rfl (gS rfl (gS rfl (gS rfl (gS rfl (gS rfl g0))))))))) (gS rfl (gS rfl (gS rfl (gS rfl (gS rfl (gS rfl (gS rfl (gS rfl g0)))))))) (gS rfl (gS rfl (gS rfl (gS rfl (gS rfl (gS rfl (gS rfl g0))))))) (gS rfl (gS rfl (gS rfl (gS rfl (gS rfl (gS rfl g0)))))) (gS rfl (gS rfl (gS rfl (gS rfl (gS rfl g0))))) (gS rfl (gS rfl (gS rfl (gS rfl g0)))) (gS rfl (gS rfl (gS rfl g0))) g0 (fun g => ?_)
                          refine c_cond (et g0 rfl) (fun cB4 => ?_) (fun cB4 => ?_)
                          · skip
                            
                            have hq4 : q = 18 := by have := of_decide_eq_true cB4; omega
                            subst hq4
                            have htk8 : 2 ≤ f.stack.length := htk9
                            exact (by
                              refine c_region ?_
                              refine l_step (y_loadB agg_65 sz_65 (et (gS rfl (gS rfl (gS rfl (gS rfl (gS rfl g0))))) rfl) rfl (at1B k8)) ?_
                              refine l_step (y_loadB agg_65 sz_65 (et (gS rfl (gS rfl (gS rfl (gS rfl (gS rfl g0))))) rfl) rfl (at1B k12)) ?_
                              refine l_eff (e_callV cal_281 (aC (et (gS rfl g0) rfl) (aC (et g0 rfl) aN)) (slt_spec _ _ _ (argN_lt hB _) (argN_lt hB _))) (fun v32 w32 h32 => ?_)
                              obtain ⟨rfl, u32⟩ := h32
                              replace k8 := k8.up u32
                              replace k12 := k12.up u32
                              replace hX := hX.up u32
                              replace U := U.tr u32
                              refine l_step (y_assignV (et g0 rfl)) ?_
                              refine l_nil ?_
                              refine hQ19 _ _ _ (in_normal ?_)
                              refine hK16 _ _ ?_
                              refine fg4 0 2 5 6 (gS rfl (gS rfl (gS rfl (gS rfl (gS rfl (gS rfl (gS rfl (gS rfl (gS rfl (gS rfl (gS rfl g0))))))))))) (gS rfl (gS rfl (gS rfl (gS rfl (gS rfl (gS rfl (gS rfl (gS rfl (gS rfl (gS rfl g0)))))))))) g0 (gS rfl (gS rfl (gS rfl (gS rfl (gS rfl (gS rfl g0)))))) (fun g => ?_)
                              refine c_region ?_
                              refine l_step (y_moveV (et (gS rfl (gS rfl (gS rfl g0))) rfl)) ?_
                              refine l_step (y_moveV (et (gS rfl (gS rfl (gS rfl g0))) rfl)) ?_
                              refine l_step (y_moveV (et (gS rfl (gS rfl g0)) rfl)) ?_
                              refine l_step (y_moveV (et (gS rfl (gS rfl (gS rfl (gS rfl g0)))) rfl)) ?_
                              refine l_eff (e_callV cal_283 (aC (et g0 rfl) aN) (mach_flag _ _)) (fun v33 w33 h33 => ?_)
                              obtain ⟨rfl, u33⟩ := h33
                              replace k8 := k8.up u33
                              replace k12 := k12.up u33
                              replace hX := hX.up u33
                              replace U := U.tr u33
                              refine l_eff (e_callV cal_259 (aC (et (gS rfl (gS rfl (gS rfl (gS rfl g0)))) rfl) (aC (et (gS rfl (gS rfl (gS rfl g0))) rfl) (aC (et (gS rfl (gS rfl g0)) rfl) (aC rfl (aC (et g0 rfl) (aC (v := .int .u16 ((1 : Nat) : Int)) rfl aN)))))) (m_settle1 hX.ex hs hp (by first | exact hpf | rfl) 2 _ 1 (by omega) (by first | exact aluN_lt _ _ _ _ (argN_lt hB _) (argN_lt hB _) (argN_lt hB _) | exact one_zero_lt _ | exact hx9 | decide) (by omega) (by omega))) (fun v34 w34 h34 => ?_)
                              obtain ⟨rfl, cs34, y34⟩ := h34
                              replace k8 := k8.ch y34.et.go.ch (by intro hm; (have e0 := hm); omega)
                              replace k12 := k12.ch y34.et.go.ch (by intro hm; (have e0 := hm); omega)
                              replace hX := hX.trans y34
                              replace U := U.cc y34.et.go.ch (by intro b hb; exact .inl trivial)
                              refine l_nil ?_
                              refine end0 rfl ?_
                              exact ⟨rfl, _, hX⟩)
                          · skip
                            
                            have hq4 : q ≠ 18 := by have := of_decide_eq_false cB4; omega
                            refine c_seq (fun K35 hK35 => ?_)
                            exact (by
                              refine c_region ?_
                              refine l_step (y_eql (et (gS rfl g0) rfl) rfl) ?_
                              refine l_step (y_assignV (et g0 rfl)) ?_
                              refine l_nil ?_
                              refine hK35 _ _ ?_
                              refine fg8 0 2 3 4 5 6 18 34 (gS rfl (gS rfl (gS rfl (gS rfl (gS rfl (gS rfl (gS rfl (gS rfl (gS rfl g0))))))))) (gS rfl (gS rfl (gS rfl (gS rfl (gS rfl (gS rfl (gS rfl (gS rfl g0)))))))) (gS rfl (gS rfl (gS rfl (gS rfl (gS rfl (gS rfl (gS rfl g0))))))) (gS rfl (gS rfl (gS rfl (gS rfl (gS rfl (gS rfl g0)))))) (gS rfl (gS rfl (gS rfl (gS rfl (gS rfl g0))))) (gS rfl (gS rfl (gS rfl (gS rfl g0)))) (gS rfl (gS rfl (gS rfl g0))) g0 (fun g => ?_)
                              refine c_cond (et g0 rfl) (fun cB5 => ?_) (fun cB5 => ?_)
                              · skip
                                
                                have hq5 : q = 19 := by have := of_decide_eq_true cB5; omega
                                subst hq5
                                have htk8 : 2 ≤ f.stack.length := htk9
                                exact (by
                                  refine c_region ?_
                                  refine l_step (y_loadB agg_65 sz_65 (et (gS rfl (gS rfl (gS rfl (gS rfl (gS rfl g0))))) rfl) rfl (at1B k8)) ?_
                                  refine l_step (y_loadB agg_65 sz_65 (et (gS rfl (gS rfl (gS rfl (gS rfl (gS rfl g0))))) rfl) rfl (at1B k12)) ?_
                                  refine l_eff (e_callV cal_282 (aC (et (gS rfl g0) rfl) (aC (et g0 rfl) aN)) (sgt_spec _ _ _ (argN_lt hB _) (argN_lt hB _))) (fun v37 w37 h37 => ?_)
                                  obtain ⟨rfl, u37⟩ := h37
                                  replace k8 := k8.up u37
                                  replace k12 := k12.up u37
                                  replace hX := hX.up u37
                                  replace U := U.tr u37
                                  refine l_step (y_assignV (et g0 rfl)) ?_
                                  refine l_nil ?_
                                  refine hQ19 _ _ _ (in_normal ?_)
                                  refine hK16 _ _ ?_
                                  refine fg4 0 2 5 6 (gS rfl (gS rfl (gS rfl (gS rfl (gS rfl (gS rfl (gS rfl (gS rfl (gS rfl (gS rfl (gS rfl g0))))))))))) (gS rfl (gS rfl (gS rfl (gS rfl (gS rfl (gS rfl (gS rfl (gS rfl (gS rfl (gS rfl g0)))))))))) g0 (gS rfl (gS rfl (gS rfl (gS rfl (gS rfl (gS rfl g0)))))) (fun g => ?_)
                                  refine c_region ?_
                                  refine l_step (y_moveV (et (gS rfl (gS rfl (gS rfl g0))) rfl)) ?_
                                  refine l_step (y_moveV (et (gS rfl (gS rfl (gS rfl g0))) rfl)) ?_
                                  refine l_step (y_moveV (et (gS rfl (gS rfl g0)) rfl)) ?_
                                  refine l_step (y_moveV (et (gS rfl (gS rfl (gS rfl (gS rfl g0)))) rfl)) ?_
                                  refine l_eff (e_callV cal_283 (aC (et g0 rfl) aN) (mach_flag _ _)) (fun v38 w38 h38 => ?_)
                                  obtain ⟨rfl, u38⟩ := h38
                                  replace k8 := k8.up u38
                                  replace k12 := k12.up u38
                                  replace hX := hX.up u38
                                  replace U := U.tr u38
                                  refine l_eff (e_callV cal_259 (aC (et (gS rfl (gS rfl (gS rfl (gS rfl g0)))) rfl) (aC (et (gS rfl (gS rfl (gS rfl g0))) rfl) (aC (et (gS rfl (gS rfl g0)) rfl) (aC rfl (aC (et g0 rfl) (aC (v := .int .u16 ((1 : Nat) : Int)) rfl aN)))))) (m_settle1 hX.ex hs hp (by first | exact hpf | rfl) 2 _ 1 (by omega) (by first | exact aluN_lt _ _ _ _ (argN_lt hB _) (argN_lt hB _) (argN_lt hB _) | exact one_zero_lt _ | exact hx9 | decide) (by omega) (by omega))) (fun v39 w39 h39 => ?_)
                                  obtain ⟨rfl, cs39, y39⟩ := h39
                                  replace k8 := k8.ch y39.et.go.ch (by intro hm; (have e0 := hm); omega)
                                  replace k12 := k12.ch y39.et.go.ch (by intro hm; (have e0 := hm); omega)
                                  replace hX := hX.trans y39
                                  replace U := U.cc y39.et.go.ch (by intro b hb; exact .inl trivial)
                                  refine l_nil ?_
                                  refine end0 rfl ?_
                                  exact ⟨rfl, _, hX⟩)
                              · skip
                                
                                have hq5 : q ≠ 19 := by have := of_decide_eq_false cB5; omega
                                refine c_seq (fun K40 hK40 => ?_)
                                exact (by
                                  refine c_region ?_
                                  refine l_step (y_eql (et (gS rfl g0) rfl) rfl) ?_
                                  refine l_step (y_assignV (et g0 rfl)) ?_
                                  refine l_nil ?_
                                  refine hK40 _ _ ?_
                                  refine fg8 0 2 3 4 5 6 18 39 (gS rfl (gS rfl (gS rfl (gS rfl (gS rfl (gS rfl (gS rfl (gS rfl (gS rfl g0))))))))) (gS rfl (gS rfl (gS rfl (gS rfl (gS rfl (gS rfl (gS rfl (gS rfl g0)))))))) (gS rfl (gS rfl (gS rfl (gS rfl (gS rfl (gS rfl (gS rfl g0))))))) (gS rfl (gS rfl (gS rfl (gS rfl (gS rfl (gS rfl g0)))))) (gS rfl (gS rfl (gS rfl (gS rfl (gS rfl g0))))) (gS rfl (gS rfl (gS rfl (gS rfl g0)))) (gS rfl (gS rfl (gS rfl g0))) g0 (fun g => ?_)
                                  refine c_cond (et g0 rfl) (fun cB6 => ?_) (fun cB6 => ?_)
                                  · skip
                                    
                                    have hq6 : q = 20 := by have := of_decide_eq_true cB6; omega
                                    subst hq6
                                    have htk8 : 2 ≤ f.stack.length := htk9
                                    exact (by
                                      refine c_region ?_
                                      refine l_step (y_loadB agg_65 sz_65 (et (gS rfl (gS rfl (gS rfl (gS rfl (gS rfl g0))))) rfl) rfl (at1B k8)) ?_
                                      refine l_step (y_loadB agg_65 sz_65 (et (gS rfl (gS rfl (gS rfl (gS rfl (gS rfl g0))))) rfl) rfl (at1B k12)) ?_
                                      refine l_step (y_eqlW (argN_lt hB _) (argN_lt hB _) (et (gS rfl g0) rfl) (et g0 rfl)) ?_
                                      refine l_step (y_assignV (et g0 rfl)) ?_
                                      refine l_nil ?_
                                      refine hQ19 _ _ _ (in_normal ?_)
                                      refine hK16 _ _ ?_
                                      refine fg4 0 2 5 6 (gS rfl (gS rfl (gS rfl (gS rfl (gS rfl (gS rfl (gS rfl (gS rfl (gS rfl (gS rfl (gS rfl g0))))))))))) (gS rfl (gS rfl (gS rfl (gS rfl (gS rfl (gS rfl (gS rfl (gS rfl (gS rfl (gS rfl g0)))))))))) g0 (gS rfl (gS rfl (gS rfl (gS rfl (gS rfl (gS rfl g0)))))) (fun g => ?_)
                                      refine c_region ?_
                                      refine l_step (y_moveV (et (gS rfl (gS rfl (gS rfl g0))) rfl)) ?_
                                      refine l_step (y_moveV (et (gS rfl (gS rfl (gS rfl g0))) rfl)) ?_
                                      refine l_step (y_moveV (et (gS rfl (gS rfl g0)) rfl)) ?_
                                      refine l_step (y_moveV (et (gS rfl (gS rfl (gS rfl (gS rfl g0)))) rfl)) ?_
                                      refine l_eff (e_callV cal_283 (aC (et g0 rfl) aN) (mach_flag _ _)) (fun v42 w42 h42 => ?_)
                                      obtain ⟨rfl, u42⟩ := h42
                                      replace k8 := k8.up u42
                                      replace k12 := k12.up u42
                                      replace hX := hX.up u42
                                      replace U := U.tr u42
                                      refine l_eff (e_callV cal_259 (aC (et (gS rfl (gS rfl (gS rfl (gS rfl g0)))) rfl) (aC (et (gS rfl (gS rfl (gS rfl g0))) rfl) (aC (et (gS rfl (gS rfl g0)) rfl) (aC rfl (aC (et g0 rfl) (aC (v := .int .u16 ((1 : Nat) : Int)) rfl aN)))))) (m_settle1 hX.ex hs hp (by first | exact hpf | rfl) 2 _ 1 (by omega) (by first | exact aluN_lt _ _ _ _ (argN_lt hB _) (argN_lt hB _) (argN_lt hB _) | exact one_zero_lt _ | exact hx9 | decide) (by omega) (by omega))) (fun v43 w43 h43 => ?_)
                                      obtain ⟨rfl, cs43, y43⟩ := h43
                                      replace k8 := k8.ch y43.et.go.ch (by intro hm; (have e0 := hm); omega)
                                      replace k12 := k12.ch y43.et.go.ch (by intro hm; (have e0 := hm); omega)
                                      replace hX := hX.trans y43
                                      replace U := U.cc y43.et.go.ch (by intro b hb; exact .inl trivial)
                                      refine l_nil ?_
                                      refine end0 rfl ?_
                                      exact ⟨rfl, _, hX⟩)
                                  · skip
                                    
                                    have hq6 : q ≠ 20 := by have := of_decide_eq_false cB6; omega
                                    refine c_seq (fun K44 hK44 => ?_)
                                    exact (by
                                      refine c_region ?_
                                      refine l_step (y_eql (et (gS rfl g0) rfl) rfl) ?_
                                      refine l_step (y_assignV (et g0 rfl)) ?_
                                      refine l_nil ?_
                                      refine hK44 _ _ ?_
                                      refine fg6 0 2 3 5 6 44 (gS rfl (gS rfl (gS rfl (gS rfl (gS rfl (gS rfl (gS rfl (gS rfl (gS rfl g0))))))))) (gS rfl (gS rfl (gS rfl (gS rfl (gS rfl (gS rfl (gS rfl (gS rfl g0)))))))) (gS rfl (gS rfl (gS rfl (gS rfl (gS rfl (gS rfl (gS rfl g0))))))) (gS rfl (gS rfl (gS rfl (gS rfl (gS rfl g0))))) (gS rfl (gS rfl (gS rfl (gS rfl g0)))) g0 (fun g => ?_)
                                      refine c_cond (et g0 rfl) (fun cB7 => ?_) (fun cB7 => ?_)
                                      · skip
                                        
                                        have hq7 : q = 21 := by have := of_decide_eq_true cB7; omega
                                        subst hq7
                                        have htk8 : 1 ≤ f.stack.length := htk9
                                        refine c_seq (fun K46 hK46 => ?_)
                                        exact (by
                                          refine c_region ?_
                                          refine l_step (y_loadB agg_65 sz_65 (et (gS rfl (gS rfl (gS rfl g0))) rfl) rfl (at1B k8)) ?_
                                          refine l_eff (e_callV cal_78 (aC (et g0 rfl) aN) (isZero_spec _ _ (by first | exact argN_lt hB _ | exact hB.value | assumption | decide | exact Nat.mod_lt _ (by decide)))) (fun v47 w47 h47 => ?_)
                                          obtain ⟨rfl, u47⟩ := h47
                                          replace k8 := k8.up u47
                                          replace k12 := k12.up u47
                                          replace hX := hX.up u47
                                          replace U := U.tr u47
                                          refine l_step (y_assignV (et g0 rfl)) ?_
                                          refine l_nil ?_
                                          refine hK46 _ _ ?_
                                          refine fg3 0 2 5 (gS rfl (gS rfl (gS rfl (gS rfl (gS rfl (gS rfl (gS rfl (gS rfl g0)))))))) (gS rfl (gS rfl (gS rfl (gS rfl (gS rfl (gS rfl (gS rfl g0))))))) g0 (fun g => ?_)
                                          refine c_region ?_
                                          refine l_step y_assignC ?_
                                          refine l_nil ?_
                                          refine hQ19 _ _ _ (in_normal ?_)
                                          refine hK16 _ _ ?_
                                          refine c_region ?_
                                          refine l_step (y_moveV (et (gS rfl (gS rfl (gS rfl g0))) rfl)) ?_
                                          refine l_step (y_moveV (et (gS rfl (gS rfl (gS rfl g0))) rfl)) ?_
                                          refine l_step (y_moveV (et (gS rfl (gS rfl g0)) rfl)) ?_
                                          refine l_step (y_moveV (et (gS rfl (gS rfl (gS rfl (gS rfl g0)))) rfl)) ?_
                                          refine l_eff (e_callV cal_283 (aC (et g0 rfl) aN) (mach_flag _ _)) (fun v48 w48 h48 => ?_)
                                          obtain ⟨rfl, u48⟩ := h48
                                          replace k8 := k8.up u48
                                          replace k12 := k12.up u48
                                          replace hX := hX.up u48
                                          replace U := U.tr u48
                                          refine l_eff (e_callV cal_259 (aC (et (gS rfl (gS rfl (gS rfl (gS rfl g0)))) rfl) (aC (et (gS rfl (gS rfl (gS rfl g0))) rfl) (aC (et (gS rfl (gS rfl g0)) rfl) (aC rfl (aC (et g0 rfl) (aC (v := .int .u16 ((1 : Nat) : Int)) rfl aN)))))) (m_settle1 hX.ex hs hp (by first | exact hpf | rfl) 1 _ 1 (by omega) (by first | exact aluN_lt _ _ _ _ (argN_lt hB _) (argN_lt hB _) (argN_lt hB _) | exact one_zero_lt _ | exact hx9 | decide) (by omega) (by omega))) (fun v49 w49 h49 => ?_)
                                          obtain ⟨rfl, cs49, y49⟩ := h49
                                          replace k8 := k8.ch y49.et.go.ch (by intro hm; (have e0 := hm); omega)
                                          replace k12 := k12.ch y49.et.go.ch (by intro hm; (have e0 := hm); omega)
                                          replace hX := hX.trans y49
                                          replace U := U.cc y49.et.go.ch (by intro b hb; exact .inl trivial)
                                          refine l_nil ?_
                                          refine end0 rfl ?_
                                          exact ⟨rfl, _, hX⟩)
                                      · skip
                                        
                                        exact absurd (of_decide_eq_false cB7) (by omega))))))))))))))
theorem m_opBits {w : World} {H : Store} {col : Nat → Nat} {bc : Nat} {cs : Array Value} {V : EV} {s : YSt} {sn : List Nat} {sv : List AW} {ms : List (List Nat)} {c : Nat} {low : List YF} {f : YF} (hE : EX w H col bc cs V s sn sv ms c) (hs : s.frames = low ++ [f]) (hp : s.phase = 1) {q : Nat} (hq : opcN f = q) (hpc9 : f.pc < 512) (hqq : 22 ≤ q ∧ q ≤ 29) (htk9 : (if q = 25 then 1 else 2) ≤ f.stack.length) :
    Ret 191 [.pointer (some ⟨bc, 0, none⟩)] w (fun v w' => v = .tuple #[] ∧ ∃ cs', XT w H col w' H col bc cs' V { s with frames := low ++ [ansN f (if q = 25 then 1 else 2) (aluN q (argN f.stack 0) (argN f.stack 1) (argN f.stack 2))] } sn sv ms c) := by
  obtain ⟨n9, hn9, hR⟩ := hE.topF hs
  have hB := hE.fbT hs
  have h6 := hE.six hs
  have htop := hE.cTop hs
  have hphs := hE.cPh hp
  have hbp := hB.pc
  have hbs := hB.stk
  have hbg := hB.gas
  have hbc9 := hB.code
  have hnw := hE.vl.new
  have hfz := hE.vl.fz
  have hcC := hE.vl.colC
  have hbc0 := hE.vl.kC.lt
  have hX := XT.refl hE
  refine enter (n := 64) Hvaa.func191 rfl rfl (Nat.le_of_ble_eq_true rfl) ?_
  have U : Ch (fun _ => True) w w := Ch.refl _ w
  refine c_seq (fun K1 hK1 => ?_)
  exact (by
    refine c_region ?_
    refine l_step (y_moveV (et g0 rfl)) ?_
    refine l_eff (e_callV cal_183 (aC (et g0 rfl) aN) (m_running hX.ex hs hp)) (fun v2 w2 h2 => ?_)
    obtain ⟨rfl, u2⟩ := h2
    replace hX := hX.up u2
    replace U := U.tr u2
    refine l_step (y_assignV (et g0 rfl)) ?_
    refine l_nil ?_
    refine hK1 _ _ ?_
    refine fg2 0 2 (gS rfl (gS rfl (gS rfl g0))) g0 (fun g => ?_)
    refine c_seq (fun K3 hK3 => ?_)
    refine c_seq (fun K4 hK4 => ?_)
    exact (by
      refine c_region ?_
      refine l_step (y_moveV (et g0 rfl)) ?_
      refine l_step (y_eqlNil Hvaa.underlying276 (et g0 rfl) rfl) ?_
      refine l_nil ?_
      refine hK4 _ _ ?_
      refine fg3 0 2 10 (gS rfl (gS rfl (gS rfl g0))) (gS rfl (gS rfl g0)) g0 (fun g => ?_)
      refine c_false (et g0 rfl) rfl ?_
      refine c_skip ?_
      refine hK3 _ _ ?_
      refine fg2 0 2 (gS rfl (gS rfl g0)) (gS rfl g0) (fun g => ?_)
      refine c_seq (fun K6 hK6 => ?_)
      exact (by
        refine c_region ?_
        refine l_step (y_moveV (et (gS rfl g0) rfl)) ?_
        refine l_step (y_moveV (et (gS rfl g0) rfl)) ?_
        refine l_eff (e_callV cal_264 (aC (et (gS rfl g0) rfl) (aC (et g0 rfl) (aC (v := .int .i64 ((0 : Nat) : Int)) rfl aN))) (m_arg hX.ex hs hp (by first | exact hpf | rfl) _ (by decide))) (fun v7 w7 h7 => ?_)
        obtain ⟨rfl, u7⟩ := h7
        replace hX := hX.up u7
        replace U := U.tr u7
        refine l_eff (e_alloc zr_65) (fun v8 w8 h8 => ?_)
        obtain ⟨b8, rfl, n8⟩ := h8
        have f8 : w.heap.size ≤ b8 := Nat.le_trans U.size n8.fresh
        replace hX := hX.up n8.up
        replace U := U.tr n8.up
        have k8 := n8.blk
        obtain ⟨zs8, hz8, k8⟩ : ∃ cs : Array Value, cs.size = 4 ∧ Blk w8 b8 cs := ⟨_, rfl, k8⟩
        have nc8 : col b8 = 0 := hnw _ f8
        refine l_effN (e_store sz_65 (et g0 rfl) (cellsV (et (gS rfl g0) rfl) rfl) rfl (by exact one_uL _) k8 (by (first | (rw [hz8]; exact Nat.le_refl _) | (rw [List.size_toArray, wL_len]; exact Nat.le_refl _)))) (fun v9 w9 h9 => ?_)
        obtain ⟨rfl, x9⟩ := h9
        replace hX := hX.ch x9.ch (by first | omega | (intro b hb; first | (subst hb; exact ⟨by omega, fun hh => by have := hfz.lt hh; omega, by omega⟩) | (rcases hb with hb | hb <;> (subst hb; exact ⟨by omega, fun hh => by have := hfz.lt hh; omega, by omega⟩))))
        replace k8 := x9.blk.full (by first | (rw [hz8]; rfl) | (rw [List.size_toArray, wL_len, wL_len]))
        replace U := U.st x9 (.inr f8)
        refine l_nil ?_
        refine hK6 _ _ ?_
        refine fg3 0 2 3 (gS rfl (gS rfl (gS rfl (gS rfl (gS rfl g0))))) (gS rfl (gS rfl (gS rfl (gS rfl g0)))) g0 (fun g => ?_)
        refine c_seq (fun K10 hK10 => ?_)
        exact (by
          refine c_region ?_
          refine l_step (y_moveV (et (gS rfl (gS rfl g0)) rfl)) ?_
          refine l_step (y_moveV (et (gS rfl (gS rfl g0)) rfl)) ?_
          refine l_eff (e_callV cal_264 (aC (et (gS rfl g0) rfl) (aC (et g0 rfl) (aC (v := .int .i64 ((1 : Nat) : Int)) rfl aN))) (m_arg hX.ex hs hp (by first | exact hpf | rfl) _ (by decide))) (fun v11 w11 h11 => ?_)
          obtain ⟨rfl, u11⟩ := h11
          replace k8 := k8.up u11
          replace hX := hX.up u11
          replace U := U.tr u11
          refine l_eff (e_alloc zr_65) (fun v12 w12 h12 => ?_)
          obtain ⟨b12, rfl, n12⟩ := h12
          have d8_12 : b8 < b12 := Nat.lt_of_lt_of_le k8.lt n12.fresh
          have f12 : w.heap.size ≤ b12 := Nat.le_trans U.size n12.fresh
          replace k8 := k8.up n12.up
          replace hX := hX.up n12.up
          replace U := U.tr n12.up
          have k12 := n12.blk
          obtain ⟨zs12, hz12, k12⟩ : ∃ cs : Array Value, cs.size = 4 ∧ Blk w12 b12 cs := ⟨_, rfl, k12⟩
          have nc12 : col b12 = 0 := hnw _ f12
          refine l_effN (e_store sz_65 (et g0 rfl) (cellsV (et (gS rfl g0) rfl) rfl) rfl (by exact one_uL _) k12 (by (first | (rw [hz12]; exact Nat.le_refl _) | (rw [List.size_toArray, wL_len]; exact Nat.le_refl _)))) (fun v13 w13 h13 => ?_)
          obtain ⟨rfl, x13⟩ := h13
          replace k8 := k8.ch x13.ch (by omega)
          replace hX := hX.ch x13.ch (by first | omega | (intro b hb; first | (subst hb; exact ⟨by omega, fun hh => by have := hfz.lt hh; omega, by omega⟩) | (rcases hb with hb | hb <;> (subst hb; exact ⟨by omega, fun hh => by have := hfz.lt hh; omega, by omega⟩))))
          replace k12 := x13.blk.full (by first | (rw [hz12]; rfl) | (rw [List.size_toArray, wL_len, wL_len]))
          replace U := U.st x13 (.inr f12)
          refine l_nil ?_
          refine hK10 _ _ ?_
          refine fg4 0 2 3 4 (gS rfl (gS rfl (gS rfl (gS rfl (gS rfl (gS rfl g0)))))) (gS rfl (gS rfl (gS rfl (gS rfl (gS rfl g0))))) (gS rfl (gS rfl (gS rfl (gS rfl g0)))) g0 (fun g => ?_)
          refine c_seq (fun K14 hK14 => ?_)
          exact (by
            refine c_region ?_
            refine l_step (y_bld bN bld65_z) ?_
            refine l_eff (e_alloc zr_65) (fun v15 w15 h15 => ?_)
            obtain ⟨b15, rfl, n15⟩ := h15
            have d8_15 : b8 < b15 := Nat.lt_of_lt_of_le k8.lt n15.fresh
            have d12_15 : b12 < b15 := Nat.lt_of_lt_of_le k12.lt n15.fresh
            have f15 : w.heap.size ≤ b15 := Nat.le_trans U.size n15.fresh
            replace k8 := k8.up n15.up
            replace k12 := k12.up n15.up
            replace hX := hX.up n15.up
            replace U := U.tr n15.up
            have k15 := n15.blk
            obtain ⟨zs15, hz15, k15⟩ : ∃ cs : Array Value, cs.size = 4 ∧ Blk w15 b15 cs := ⟨_, rfl, k15⟩
            have nc15 : col b15 = 0 := hnw _ f15
            refine l_effN (e_store sz_65 (et g0 rfl) (cellsV (et (gS rfl g0) rfl) rfl) rfl (by exact one_uL _) k15 (by (first | (rw [hz15]; exact Nat.le_refl _) | (rw [List.size_toArray, wL_len]; exact Nat.le_refl _)))) (fun v16 w16 h16 => ?_)
            obtain ⟨rfl, x16⟩ := h16
            replace k8 := k8.ch x16.ch (by omega)
            replace k12 := k12.ch x16.ch (by omega)
            replace hX := hX.ch x16.ch (by first | omega | (intro b hb; first | (subst hb; exact ⟨by omega, fun hh => by have := hfz.lt hh; omega, by omega⟩) | (rcases hb with hb | hb <;> (subst hb; exact ⟨by omega, fun hh => by have := hfz.lt hh; omega, by omega⟩))))
            replace k15 := x16.blk.full (by first | (rw [hz15]; rfl) | (rw [List.size_toArray, wL_len, wL_len]))
            replace U := U.st x16 (.inr f15)
            refine l_nil ?_
            refine hK14 _ _ ?_
            refine fg5 0 2 3 4 5 (gS rfl (gS rfl (gS rfl (gS rfl (gS rfl g0))))) (gS rfl (gS rfl (gS rfl (gS rfl g0)))) (gS rfl (gS rfl (gS rfl g0))) (gS rfl (gS rfl g0)) g0 (fun g => ?_)
            refine c_seq (fun K17 hK17 => ?_)
            exact (by
              refine c_region ?_
              refine l_step y_assignC ?_
              refine l_nil ?_
              refine hK17 _ _ ?_
              refine c_seq (fun K18 hK18 => ?_)
              refine c_seq (fun K19 hK19 => ?_)
              exact (by
                refine c_region ?_
                refine l_step (y_moveV (et (gS rfl (gS rfl (gS rfl (gS rfl (gS rfl g0))))) rfl)) ?_
                refine l_eff (e_callV cal_108 (aC (et g0 rfl) aN) (m_opcode hX.ex hs hp)) (fun v20 w20 h20 => ?_)
                obtain ⟨rfl, u20⟩ := h20
                replace k8 := k8.up u20
                replace k12 := k12.up u20
                replace k15 := k15.up u20
                replace hX := hX.up u20
                replace U := U.tr u20
                refine l_nil ?_
                refine hK19 _ _ ?_
                refine fg7 0 2 3 4 5 6 19 (gS rfl (gS rfl (gS rfl (gS rfl (gS rfl (gS rfl (gS rfl g0))))))) (gS rfl (gS rfl (gS rfl (gS rfl (gS rfl (gS rfl g0)))))) (gS rfl (gS rfl (gS rfl (gS rfl (gS rfl g0))))) (gS rfl (gS rfl (gS rfl (gS rfl g0)))) (gS rfl (gS rfl (gS rfl g0))) (gS rfl (gS rfl g0)) g0 (fun g => ?_)
                refine c_block (fun Q21 hQ21 => ?_)
                refine c_seq (fun K22 hK22 => ?_)
                exact (by
                  refine c_region ?_
                  refine l_step (y_eql (et g0 rfl) rfl) ?_
                  refine l_step (y_assignV (et g0 rfl)) ?_
                  refine l_nil ?_
                  refine hK22 _ _ ?_
                  refine fg8 0 2 3 4 5 6 19 20 (gS rfl (gS rfl (gS rfl (gS rfl (gS rfl (gS rfl (gS rfl (gS rfl g0)))))))) (gS rfl (gS rfl (gS rfl (gS rfl (gS rfl (gS rfl (gS rfl g0))))))) (gS rfl (gS rfl (gS rfl (gS rfl (gS rfl (gS rfl g0)))))) (gS rfl (gS rfl (gS rfl (gS rfl (gS rfl g0))))) (gS rfl (gS rfl (gS rfl (gS rfl g0)))) (gS rfl (gS rfl (gS rfl g0))) (gS rfl (gS rfl g0)) g0 (fun g => ?_)
                  refine c_cond (et g0 rfl) (fun cB2 => ?_) (fun cB2 => ?_)
                  · skip
                    
                    have hq2 : q = 22 := by have := of_decide_eq_true cB2; omega
                    subst hq2
                    have htk8 : 2 ≤ f.stack.length := htk9
                    exact (by
                      refine c_region ?_
                      refine l_step (y_loadB agg_65 sz_65 (et (gS rfl (gS rfl (gS rfl (gS rfl (gS rfl g0))))) rfl) rfl (at1B k8)) ?_
                      refine l_step (y_loadB agg_65 sz_65 (et (gS rfl (gS rfl (gS rfl (gS rfl (gS rfl g0))))) rfl) rfl (at1B k12)) ?_
                      refine l_eff (e_callV cal_284 (aC (et (gS rfl g0) rfl) (aC (et g0 rfl) aN)) (al_wand _ _ (argN f.stack 2) _ (argN_lt hB _) (argN_lt hB _))) (fun v24 w24 h24 => ?_)
                      obtain ⟨rfl, u24⟩ := h24
                      replace k8 := k8.up u24
                      replace k12 := k12.up u24
                      replace k15 := k15.up u24
                      replace hX := hX.up u24
                      replace U := U.tr u24
                      refine l_effN (e_store sz_65 (et (gS rfl (gS rfl (gS rfl (gS rfl (gS rfl (gS rfl g0)))))) rfl) (cellsV (et g0 rfl) rfl) rfl (by exact one_uL _) k15 (by (first | (rw [hz15]; exact Nat.le_refl _) | (rw [List.size_toArray, wL_len]; exact Nat.le_refl _)))) (fun v25 w25 h25 => ?_)
                      obtain ⟨rfl, x25⟩ := h25
                      replace k8 := k8.ch x25.ch (by omega)
                      replace k12 := k12.ch x25.ch (by omega)
                      replace hX := hX.ch x25.ch (by first | omega | (intro b hb; first | (subst hb; exact ⟨by omega, fun hh => by have := hfz.lt hh; omega, by omega⟩) | (rcases hb with hb | hb <;> (subst hb; exact ⟨by omega, fun hh => by have := hfz.lt hh; omega, by omega⟩))))
                      replace k15 := x25.blk.full (by first | (rw [hz15]; rfl) | (rw [List.size_toArray, wL_len, wL_len]))
                      replace U := U.st x25 (.inr f15)
                      refine l_nil ?_
                      refine hQ21 _ _ _ (in_normal ?_)
                      refine hK18 _ _ ?_
                      refine fg4 0 2 5 6 (gS rfl (gS rfl (gS rfl (gS rfl (gS rfl (gS rfl (gS rfl (gS rfl (gS rfl (gS rfl g0)))))))))) (gS rfl (gS rfl (gS rfl (gS rfl (gS rfl (gS rfl (gS rfl (gS rfl (gS rfl g0))))))))) (gS rfl (gS rfl (gS rfl (gS rfl (gS rfl (gS rfl g0)))))) (gS rfl (gS rfl (gS rfl (gS rfl (gS rfl g0))))) (fun g => ?_)
                      refine c_region ?_
                      refine l_step (y_moveV (et (gS rfl (gS rfl (gS rfl g0))) rfl)) ?_
                      refine l_step (y_moveV (et (gS rfl (gS rfl (gS rfl g0))) rfl)) ?_
                      refine l_step (y_moveV (et (gS rfl (gS rfl g0)) rfl)) ?_
                      refine l_step (y_loadB agg_65 sz_65 (et (gS rfl (gS rfl (gS rfl (gS rfl g0)))) rfl) rfl (at1B k15)) ?_
                      refine l_eff (e_callV cal_259 (aC (et (gS rfl (gS rfl (gS rfl g0))) rfl) (aC (et (gS rfl (gS rfl g0)) rfl) (aC (et (gS rfl g0) rfl) (aC rfl (aC (et g0 rfl) (aC (v := .int .u16 ((1 : Nat) : Int)) rfl aN)))))) (m_settle1 hX.ex hs hp (by first | exact hpf | rfl) 2 _ 1 (by omega) (by first | exact aluN_lt _ _ _ _ (argN_lt hB _) (argN_lt hB _) (argN_lt hB _) | exact one_zero_lt _ | exact hx9 | decide) (by omega) (by omega))) (fun v26 w26 h26 => ?_)
                      obtain ⟨rfl, cs26, y26⟩ := h26
                      replace k8 := k8.ch y26.et.go.ch (by intro hm; (have e0 := hm); omega)
                      replace k12 := k12.ch y26.et.go.ch (by intro hm; (have e0 := hm); omega)
                      replace k15 := k15.ch y26.et.go.ch (by intro hm; (have e0 := hm); omega)
                      replace hX := hX.trans y26
                      replace U := U.cc y26.et.go.ch (by intro b hb; exact .inl trivial)
                      refine l_nil ?_
                      refine end0 rfl ?_
                      exact ⟨rfl, _, hX⟩)
                  · skip
                    
                    have hq2 : q ≠ 22 := by have := of_decide_eq_false cB2; omega
                    refine c_seq (fun K27 hK27 => ?_)
                    exact (by
                      refine c_region ?_
                      refine l_step (y_eql (et (gS rfl g0) rfl) rfl) ?_
                      refine l_step (y_assignV (et g0 rfl)) ?_
                      refine l_nil ?_
                      refine hK27 _ _ ?_
                      refine fg8 0 2 3 4 5 6 19 25 (gS rfl (gS rfl (gS rfl (gS rfl (gS rfl (gS rfl (gS rfl (gS rfl (gS rfl g0))))))))) (gS rfl (gS rfl (gS rfl (gS rfl (gS rfl (gS rfl (gS rfl (gS rfl g0)))))))) (gS rfl (gS rfl (gS rfl (gS rfl (gS rfl (gS rfl (gS rfl g0))))))) (gS rfl (gS rfl (gS rfl (gS rfl (gS rfl (gS rfl g0)))))) (gS rfl (gS rfl (gS rfl (gS rfl (gS rfl g0))))) (gS rfl (gS rfl (gS rfl (gS rfl g0)))) (gS rfl (gS rfl (gS rfl g0))) g0 (fun g => ?_)
                      refine c_cond (et g0 rfl) (fun cB3 => ?_) (fun cB3 => ?_)
                      · skip
                        
                        have hq3 : q = 23 := by have := of_decide_eq_true cB3; omega
                        subst hq3
                        have htk8 : 2 ≤ f.stack.length := htk9
                        exact (by
                          refine c_region ?_
                          refine l_step (y_loadB agg_65 sz_65 (et (gS rfl (gS rfl (gS rfl (gS rfl (gS rfl g0))))) rfl) rfl (at1B k8)) ?_
                          refine l_step (y_loadB agg_65 sz_65 (et (gS rfl (gS rfl (gS rfl (gS rfl (gS rfl g0))))) rfl) rfl (at1B k12)) ?_
                          refine l_eff (e_callV cal_285 (aC (et (gS rfl g0) rfl) (aC (et g0 rfl) aN)) (al_wor _ _ (argN f.stack 2) _ (argN_lt hB _) (argN_lt hB _))) (fun v29 w29 h29 => ?_)
                          obtain ⟨rfl, u29⟩ := h29
                          replace k8 := k8.up u29
                          replace k12 := k12.up u29
                          replace k15 := k15.up u29
                          replace hX := hX.up u29
                          replace U := U.tr u29
                          refine l_effN (e_store sz_65 (et (gS rfl (gS rfl (gS rfl (gS rfl (gS rfl (gS rfl g0)))))) rfl) (cellsV (et g0 rfl) rfl) rfl (by exact one_uL _) k15 (by (first | (rw [hz15]; exact Nat.le_refl _) | (rw [List.size_toArray, wL_len]; exact Nat.le_refl _)))) (fun v30 w30 h30 => ?_)
                          obtain ⟨rfl, x30⟩ := h30
                          replace k8 := k8.ch x30.ch (by omega)
                          replace k12 := k12.ch x30.ch (by omega)
                          replace hX := hX.ch x30.ch (by first | omega | (intro b hb; first | (subst hb; exact ⟨by omega, fun hh => by have := hfz.lt hh; omega, by omega⟩) | (rcases hb with hb | hb <;> (subst hb; exact ⟨by omega, fun hh => by have := hfz.lt hh; omega, by omega⟩))))
                          replace k15 := x30.blk.full (by first | (rw [hz15]; rfl) | (rw [List.size_toArray, wL_len, wL_len]))
                          replace U := U.st x30 (.inr f15)
                          refine l_nil ?_
                          refine hQ21 _ _ _ (in_normal ?_)
                          refine hK18 _ _ ?_
                          refine fg4 0 2 5 6 (gS rfl (gS rfl (gS rfl (gS rfl (gS rfl (gS rfl (gS rfl (gS rfl (gS rfl (gS rfl g0)))))))))) (gS rfl (gS rfl (gS rfl (gS rfl (gS rfl (gS rfl (gS rfl (gS rfl (gS rfl g0))))))))) (gS rfl (gS rfl (gS rfl (gS rfl (gS rfl (gS rfl g0)))))) (gS rfl (gS rfl (gS rfl (gS rfl (gS rfl g0))))) (fun g => ?_)
                          refine c_region ?_
                          refine l_step (y_moveV (et (gS rfl (gS rfl (gS rfl g0))) rfl)) ?_
                          refine l_step (y_moveV (et (gS rfl (gS rfl (gS rfl g0))) rfl)) ?_
                          refine l_step (y_moveV (et (gS rfl (gS rfl g0)) rfl)) ?_
                          refine l_step (y_loadB agg_65 sz_65 (et (gS rfl (gS rfl (gS rfl (gS rfl g0)))) rfl) rfl (at1B k15)) ?_
                          refine l_eff (e_callV cal_259 (aC (et (gS rfl (gS rfl (gS rfl g0))) rfl) (aC (et (gS rfl (gS rfl g0)) rfl) (aC (et (gS rfl g0) rfl) (aC rfl (aC (et g0 rfl) (aC (v := .int .u16 ((1 : Nat) : Int)) rfl aN)))))) (m_settle1 hX.ex hs hp (by first | exact hpf | rfl) 2 _ 1 (by omega) (by first | exact aluN_lt _ _ _ _ (argN_lt hB _) (argN_lt hB _) (argN_lt hB _) | exact one_zero_lt _ | exact hx9 | decide) (by omega) (by omega))) (fun v31 w31 h31 => ?_)
                          obtain ⟨rfl, cs31, y31⟩ := h31
                          replace k8 := k8.ch y31.et.go.ch (by intro hm; (have e0 := hm); omega)
                          replace k12 := k12.ch y31.et.go.ch (by intro hm; (have e0 := hm); omega)
                          replace k15 := k15.ch y31.et.go.ch (by intro hm; (have e0 := hm); omega)
                          replace hX := hX.trans y31
                          replace U := U.cc y31.et.go.ch (by intro b hb; exact .inl trivial)
                          refine l_nil ?_
                          refine end0 rfl ?_
                          exact ⟨rfl, _, hX⟩)
                      · skip
                        
                        have hq3 : q ≠ 23 := by have := of_decide_eq_false cB3; omega
                        refine c_seq (fun K32 hK32 => ?_)
                        exact (by
                          refine c_region ?_
                          refine l_step (y_eql (et (gS rfl g0) rfl) rfl) ?_
                          refine l_step (y_assignV (et g0 rfl)) ?_
                          refine l_nil ?_
                          refine hK32 _ _ ?_
                          refine fg8 0 2 3 4 5 6 19 30 (gS rfl (gS rfl (gS rfl (gS rfl (gS rfl (gS rfl (gS rfl (gS rfl (gS rfl g0))))))))) (gS rfl (gS rfl (gS rfl (gS rfl (gS rfl (gS rfl (gS rfl (gS rfl g0)))))))) (gS rfl (gS rfl (gS rfl (gS rfl (gS rfl (gS rfl (gS rfl g0))))))) (gS rfl (gS rfl (gS rfl (gS rfl (gS rfl (gS rfl g0)))))) (gS rfl (gS rfl (gS rfl (gS rfl (gS rfl g0))))) (gS rfl (gS rfl (gS rfl (gS rfl g0)))) (gS rfl (gS rfl (gS rfl g0))) g0 (fun g => ?_)
                          refine c_cond (et g0 rfl) (fun cB4 => ?_) (fun cB4 => ?_)
                          · skip
                            
                            have hq4 : q = 24 := by have := of_decide_eq_true cB4; omega
                            subst hq4
                            have htk8 : 2 ≤ f.stack.length := htk9
                            exact (by
                              refine c_region ?_
                              refine l_step (y_loadB agg_65 sz_65 (et (gS rfl (gS rfl (gS rfl (gS rfl (gS rfl g0))))) rfl) rfl (at1B k8)) ?_
                              refine l_step (y_loadB agg_65 sz_65 (et (gS rfl (gS rfl (gS rfl (gS rfl (gS rfl g0))))) rfl) rfl (at1B k12)) ?_
                              refine l_eff (e_callV cal_286 (aC (et (gS rfl g0) rfl) (aC (et g0 rfl) aN)) (al_wxor _ _ (argN f.stack 2) _ (argN_lt hB _) (argN_lt hB _))) (fun v34 w34 h34 => ?_)
                              obtain ⟨rfl, u34⟩ := h34
                              replace k8 := k8.up u34
                              replace k12 := k12.up u34
                              replace k15 := k15.up u34
                              replace hX := hX.up u34
                              replace U := U.tr u34
                              refine l_effN (e_store sz_65 (et (gS rfl (gS rfl (gS rfl (gS rfl (gS rfl (gS rfl g0)))))) rfl) (cellsV (et g0 rfl) rfl) rfl (by exact one_uL _) k15 (by (first | (rw [hz15]; exact Nat.le_refl _) | (rw [List.size_toArray, wL_len]; exact Nat.le_refl _)))) (fun v35 w35 h35 => ?_)
                              obtain ⟨rfl, x35⟩ := h35
                              replace k8 := k8.ch x35.ch (by omega)
                              replace k12 := k12.ch x35.ch (by omega)
                              replace hX := hX.ch x35.ch (by first | omega | (intro b hb; first | (subst hb; exact ⟨by omega, fun hh => by have := hfz.lt hh; omega, by omega⟩) | (rcases hb with hb | hb <;> (subst hb; exact ⟨by omega, fun hh => by have := hfz.lt hh; omega, by omega⟩))))
                              replace k15 := x35.blk.full (by first | (rw [hz15]; rfl) | (rw [List.size_toArray, wL_len, wL_len]))
                              replace U := U.st x35 (.inr f15)
                              refine l_nil ?_
                              refine hQ21 _ _ _ (in_normal ?_)
                              refine hK18 _ _ ?_
                              refine fg4 0 2 5 6 (gS rfl (gS rfl (gS rfl (gS rfl (gS rfl (gS rfl (gS rfl (gS rfl (gS rfl (gS rfl g0)))))))))) (gS rfl (gS rfl (gS rfl (gS rfl (gS rfl (gS rfl (gS rfl (gS rfl (gS rfl g0))))))))) (gS rfl (gS rfl (gS rfl (gS rfl (gS rfl (gS rfl g0)))))) (gS rfl (gS rfl (gS rfl (gS rfl (gS rfl g0))))) (fun g => ?_)
                              refine c_region ?_
                              refine l_step (y_moveV (et (gS rfl (gS rfl (gS rfl g0))) rfl)) ?_
                              refine l_step (y_moveV (et (gS rfl (gS rfl (gS rfl g0))) rfl)) ?_
                              refine l_step (y_moveV (et (gS rfl (gS rfl g0)) rfl)) ?_
                              refine l_step (y_loadB agg_65 sz_65 (et (gS rfl (gS rfl (gS rfl (gS rfl g0)))) rfl) rfl (at1B k15)) ?_
                              refine l_eff (e_callV cal_259 (aC (et (gS rfl (gS rfl (gS rfl g0))) rfl) (aC (et (gS rfl (gS rfl g0)) rfl) (aC (et (gS rfl g0) rfl) (aC rfl (aC (et g0 rfl) (aC (v := .int .u16 ((1 : Nat) : Int)) rfl aN)))))) (m_settle1 hX.ex hs hp (by first | exact hpf | rfl) 2 _ 1 (by omega) (by first | exact aluN_lt _ _ _ _ (argN_lt hB _) (argN_lt hB _) (argN_lt hB _) | exact one_zero_lt _ | exact hx9 | decide) (by omega) (by omega))) (fun v36 w36 h36 => ?_)
                              obtain ⟨rfl, cs36, y36⟩ := h36
                              replace k8 := k8.ch y36.et.go.ch (by intro hm; (have e0 := hm); omega)
                              replace k12 := k12.ch y36.et.go.ch (by intro hm; (have e0 := hm); omega)
                              replace k15 := k15.ch y36.et.go.ch (by intro hm; (have e0 := hm); omega)
                              replace hX := hX.trans y36
                              replace U := U.cc y36.et.go.ch (by intro b hb; exact .inl trivial)
                              refine l_nil ?_
                              refine end0 rfl ?_
                              exact ⟨rfl, _, hX⟩)
                          · skip
                            
                            have hq4 : q ≠ 24 := by have := of_decide_eq_false cB4; omega
                            refine c_seq (fun K37 hK37 => ?_)
                            exact (by
                              refine c_region ?_
                              refine l_step (y_eql (et (gS rfl g0) rfl) rfl) ?_
                              refine l_step (y_assignV (et g0 rfl)) ?_
                              refine l_nil ?_
                              refine hK37 _ _ ?_
                              refine fg8 0 2 3 4 5 6 19 35 (gS rfl (gS rfl (gS rfl (gS rfl (gS rfl (gS rfl (gS rfl (gS rfl (gS rfl g0))))))))) (gS rfl (gS rfl (gS rfl (gS rfl (gS rfl (gS rfl (gS rfl (gS rfl g0)))))))) (gS rfl (gS rfl (gS rfl (gS rfl (gS rfl (gS rfl (gS rfl g0))))))) (gS rfl (gS rfl (gS rfl (gS rfl (gS rfl (gS rfl g0)))))) (gS rfl (gS rfl (gS rfl (gS rfl (gS rfl g0))))) (gS rfl (gS rfl (gS rfl (gS rfl g0)))) (gS rfl (gS rfl (gS rfl g0))) g0 (fun g => ?_)
                              refine c_cond (et g0 rfl) (fun cB5 => ?_) (fun cB5 => ?_)
                              · skip
                                
                                have hq5 : q = 25 := by have := of_decide_eq_true cB5; omega
                                subst hq5
                                have htk8 : 1 ≤ f.stack.length := htk9
                                refine c_seq (fun K39 hK39 => ?_)
                                exact (by
                                  refine c_region ?_
                                  refine l_step (y_loadB agg_65 sz_65 (et (gS rfl (gS rfl (gS rfl (gS rfl (gS rfl g0))))) rfl) rfl (at1B k8)) ?_
                                  refine l_eff (e_callV cal_287 (aC (et g0 rfl) aN) (al_not _ (argN f.stack 1) (argN f.stack 2) _ (argN_lt hB _))) (fun v40 w40 h40 => ?_)
                                  obtain ⟨rfl, u40⟩ := h40
                                  replace k8 := k8.up u40
                                  replace k12 := k12.up u40
                                  replace k15 := k15.up u40
                                  replace hX := hX.up u40
                                  replace U := U.tr u40
                                  refine l_effN (e_store sz_65 (et (gS rfl (gS rfl (gS rfl (gS rfl (gS rfl g0))))) rfl) (cellsV (et g0 rfl) rfl) rfl (by exact one_uL _) k15 (by (first | (rw [hz15]; exact Nat.le_refl _) | (rw [List.size_toArray, wL_len]; exact Nat.le_refl _)))) (fun v41 w41 h41 => ?_)
                                  obtain ⟨rfl, x41⟩ := h41
                                  replace k8 := k8.ch x41.ch (by omega)
                                  replace k12 := k12.ch x41.ch (by omega)
                                  replace hX := hX.ch x41.ch (by first | omega | (intro b hb; first | (subst hb; exact ⟨by omega, fun hh => by have := hfz.lt hh; omega, by omega⟩) | (rcases hb with hb | hb <;> (subst hb; exact ⟨by omega, fun hh => by have := hfz.lt hh; omega, by omega⟩))))
                                  replace k15 := x41.blk.full (by first | (rw [hz15]; rfl) | (rw [List.size_toArray, wL_len, wL_len]))
                                  replace U := U.st x41 (.inr f15)
                                  refine l_nil ?_
                                  refine hK39 _ _ ?_
                                  refine fg3 0 2 5 (gS rfl (gS rfl (gS rfl (gS rfl (gS rfl (gS rfl (gS rfl (gS rfl (gS rfl g0))))))))) (gS rfl (gS rfl (gS rfl (gS rfl (gS rfl (gS rfl (gS rfl (gS rfl g0)))))))) (gS rfl (gS rfl (gS rfl (gS rfl (gS rfl g0))))) (fun g => ?_)
                                  refine c_region ?_
                                  refine l_step y_assignC ?_
                                  refine l_nil ?_
                                  refine hQ21 _ _ _ (in_normal ?_)
                                  refine hK18 _ _ ?_
                                  refine c_region ?_
                                  refine l_step (y_moveV (et (gS rfl (gS rfl (gS rfl g0))) rfl)) ?_
                                  refine l_step (y_moveV (et (gS rfl (gS rfl (gS rfl g0))) rfl)) ?_
                                  refine l_step (y_moveV (et (gS rfl (gS rfl g0)) rfl)) ?_
                                  refine l_step (y_loadB agg_65 sz_65 (et (gS rfl (gS rfl (gS rfl (gS rfl g0)))) rfl) rfl (at1B k15)) ?_
                                  refine l_eff (e_callV cal_259 (aC (et (gS rfl (gS rfl (gS rfl g0))) rfl) (aC (et (gS rfl (gS rfl g0)) rfl) (aC (et (gS rfl g0) rfl) (aC rfl (aC (et g0 rfl) (aC (v := .int .u16 ((1 : Nat) : Int)) rfl aN)))))) (m_settle1 hX.ex hs hp (by first | exact hpf | rfl) 1 _ 1 (by omega) (by first | exact aluN_lt _ _ _ _ (argN_lt hB _) (argN_lt hB _) (argN_lt hB _) | exact one_zero_lt _ | exact hx9 | decide) (by omega) (by omega))) (fun v42 w42 h42 => ?_)
                                  obtain ⟨rfl, cs42, y42⟩ := h42
                                  replace k8 := k8.ch y42.et.go.ch (by intro hm; (have e0 := hm); omega)
                                  replace k12 := k12.ch y42.et.go.ch (by intro hm; (have e0 := hm); omega)
                                  replace k15 := k15.ch y42.et.go.ch (by intro hm; (have e0 := hm); omega)
                                  replace hX := hX.trans y42
                                  replace U := U.cc y42.et.go.ch (by intro b hb; exact .inl trivial)
                                  refine l_nil ?_
                                  refine end0 rfl ?_
                                  exact ⟨rfl, _, hX⟩)
                              · skip
                                
                                have hq5 : q ≠ 25 := by have := of_decide_eq_false cB5; omega
                                refine c_seq (fun K43 hK43 => ?_)
                                exact (by
                                  refine c_region ?_
                                  refine l_step (y_eql (et (gS rfl g0) rfl) rfl) ?_
                                  refine l_step (y_assignV (et g0 rfl)) ?_
                                  refine l_nil ?_
                                  refine hK43 _ _ ?_
                                  refine fg8 0 2 3 4 5 6 19 39 (gS rfl (gS rfl (gS rfl (gS rfl (gS rfl (gS rfl (gS rfl (gS rfl (gS rfl g0))))))))) (gS rfl (gS rfl (gS rfl (gS rfl (gS rfl (gS rfl (gS rfl (gS rfl g0)))))))) (gS rfl (gS rfl (gS rfl (gS rfl (gS rfl (gS rfl (gS rfl g0))))))) (gS rfl (gS rfl (gS rfl (gS rfl (gS rfl (gS rfl g0)))))) (gS rfl (gS rfl (gS rfl (gS rfl (gS rfl g0))))) (gS rfl (gS rfl (gS rfl (gS rfl g0)))) (gS rfl (gS rfl (gS rfl g0))) g0 (fun g => ?_)
                                  refine c_cond (et g0 rfl) (fun cB6 => ?_) (fun cB6 => ?_)
                                  · skip
                                    
                                    have hq6 : q = 26 := by have := of_decide_eq_true cB6; omega
                                    subst hq6
                                    have htk8 : 2 ≤ f.stack.length := htk9
                                    exact (by
                                      refine c_region ?_
                                      refine l_step (y_loadB agg_65 sz_65 (et (gS rfl (gS rfl (gS rfl (gS rfl (gS rfl g0))))) rfl) rfl (at1B k8)) ?_
                                      refine l_step (y_loadB agg_65 sz_65 (et (gS rfl (gS rfl (gS rfl (gS rfl (gS rfl g0))))) rfl) rfl (at1B k12)) ?_
                                      refine l_eff (e_callV cal_288 (aC (et (gS rfl g0) rfl) (aC (et g0 rfl) aN)) (al_byte _ _ (argN f.stack 2) _ (argN_lt hB _) (argN_lt hB _))) (fun v45 w45 h45 => ?_)
                                      obtain ⟨rfl, u45⟩ := h45
                                      replace k8 := k8.up u45
                                      replace k12 := k12.up u45
                                      replace k15 := k15.up u45
                                      replace hX := hX.up u45
                                      replace U := U.tr u45
                                      refine l_effN (e_store sz_65 (et (gS rfl (gS rfl (gS rfl (gS rfl (gS rfl (gS rfl g0)))))) rfl) (cellsV (et g0 rfl) rfl) rfl (by exact one_uL _) k15 (by (first | (rw [hz15]; exact Nat.le_refl _) | (rw [List.size_toArray, wL_len]; exact Nat.le_refl _)))) (fun v46 w46 h46 => ?_)
                                      obtain ⟨rfl, x46⟩ := h46
                                      replace k8 := k8.ch x46.ch (by omega)
                                      replace k12 := k12.ch x46.ch (by omega)
                                      replace hX := hX.ch x46.ch (by first | omega | (intro b hb; first | (subst hb; exact ⟨by omega, fun hh => by have := hfz.lt hh; omega, by omega⟩) | (rcases hb with hb | hb <;> (subst hb; exact ⟨by omega, fun hh => by have := hfz.lt hh; omega, by omega⟩))))
                                      replace k15 := x46.blk.full (by first | (rw [hz15]; rfl) | (rw [List.size_toArray, wL_len, wL_len]))
                                      replace U := U.st x46 (.inr f15)
                                      refine l_nil ?_
                                      refine hQ21 _ _ _ (in_normal ?_)
                                      refine hK18 _ _ ?_
                                      refine fg4 0 2 5 6 (gS rfl (gS rfl (gS rfl (gS rfl (gS rfl (gS rfl (gS rfl (gS rfl (gS rfl (gS rfl g0)))))))))) (gS rfl (gS rfl (gS rfl (gS rfl (gS rfl (gS rfl (gS rfl (gS rfl (gS rfl g0))))))))) (gS rfl (gS rfl (gS rfl (gS rfl (gS rfl (gS rfl g0)))))) (gS rfl (gS rfl (gS rfl (gS rfl (gS rfl g0))))) (fun g => ?_)
                                      refine c_region ?_
                                      refine l_step (y_moveV (et (gS rfl (gS rfl (gS rfl g0))) rfl)) ?_
                                      refine l_step (y_moveV (et (gS rfl (gS rfl (gS rfl g0))) rfl)) ?_
                                      refine l_step (y_moveV (et (gS rfl (gS rfl g0)) rfl)) ?_
                                      refine l_step (y_loadB agg_65 sz_65 (et (gS rfl (gS rfl (gS rfl (gS rfl g0)))) rfl) rfl (at1B k15)) ?_
                                      refine l_eff (e_callV cal_259 (aC (et (gS rfl (gS rfl (gS rfl g0))) rfl) (aC (et (gS rfl (gS rfl g0)) rfl) (aC (et (gS rfl g0) rfl) (aC rfl (aC (et g0 rfl) (aC (v := .int .u16 ((1 : Nat) : Int)) rfl aN)))))) (m_settle1 hX.ex hs hp (by first | exact hpf | rfl) 2 _ 1 (by omega) (by first | exact aluN_lt _ _ _ _ (argN_lt hB _) (argN_lt hB _) (argN_lt hB _) | exact one_zero_lt _ | exact hx9 | decide) (by omega) (by omega))) (fun v47 w47 h47 => ?_)
                                      obtain ⟨rfl, cs47, y47⟩ := h47
                                      replace k8 := k8.ch y47.et.go.ch (by intro hm; (have e0 := hm); omega)
                                      replace k12 := k12.ch y47.et.go.ch (by intro hm; (have e0 := hm); omega)
                                      replace k15 := k15.ch y47.et.go.ch (by intro hm; (have e0 := hm); omega)
                                      replace hX := hX.trans y47
                                      replace U := U.cc y47.et.go.ch (by intro b hb; exact .inl trivial)
                                      refine l_nil ?_
                                      refine end0 rfl ?_
                                      exact ⟨rfl, _, hX⟩)
                                  · skip
                                    
                                    have hq6 : q ≠ 26 := by have := of_decide_eq_false cB6; omega
                                    refine c_seq (fun K48 hK48 => ?_)
                                    exact (by
                                      refine c_region ?_
                                      refine l_step (y_eql (et (gS rfl g0) rfl) rfl) ?_
                                      refine l_step (y_assignV (et g0 rfl)) ?_
                                      refine l_nil ?_
                                      refine hK48 _ _ ?_
                                      refine fg8 0 2 3 4 5 6 19 44 (gS rfl (gS rfl (gS rfl (gS rfl (gS rfl (gS rfl (gS rfl (gS rfl (gS rfl g0))))))))) (gS rfl (gS rfl (gS rfl (gS rfl (gS rfl (gS rfl (gS rfl (gS rfl g0)))))))) (gS rfl (gS rfl (gS rfl (gS rfl (gS rfl (gS rfl (gS rfl g0))))))) (gS rfl (gS rfl (gS rfl (gS rfl (gS rfl (gS rfl g0)))))) (gS rfl (gS rfl (gS rfl (gS rfl (gS rfl g0))))) (gS rfl (gS rfl (gS rfl (gS rfl g0)))) (gS rfl (gS rfl (gS rfl g0))) g0 (fun g => ?_)
                                      refine c_cond (et g0 rfl) (fun cB7 => ?_) (fun cB7 => ?_)
                                      · skip
                                        
                                        have hq7 : q = 27 := by have := of_decide_eq_true cB7; omega
                                        subst hq7
                                        have htk8 : 2 ≤ f.stack.length := htk9
                                        exact (by
                                          refine c_region ?_
                                          refine l_step (y_loadB agg_65 sz_65 (et (gS rfl (gS rfl (gS rfl (gS rfl (gS rfl g0))))) rfl) rfl (at1B k8)) ?_
                                          refine l_step (y_loadB agg_65 sz_65 (et (gS rfl (gS rfl (gS rfl (gS rfl (gS rfl g0))))) rfl) rfl (at1B k12)) ?_
                                          refine l_eff (e_callV cal_289 (aC (et (gS rfl g0) rfl) (aC (et g0 rfl) aN)) (al_shl _ _ (argN f.stack 2) _ (argN_lt hB _) (argN_lt hB _))) (fun v50 w50 h50 => ?_)
                                          obtain ⟨rfl, u50⟩ := h50
                                          replace k8 := k8.up u50
                                          replace k12 := k12.up u50
                                          replace k15 := k15.up u50
                                          replace hX := hX.up u50
                                          replace U := U.tr u50
                                          refine l_effN (e_store sz_65 (et (gS rfl (gS rfl (gS rfl (gS rfl (gS rfl (gS rfl g0)))))) rfl) (cellsV (et g0 rfl) rfl) rfl (by exact one_uL _) k15 (by (first | (rw [hz15]; exact Nat.le_refl _) | (rw [List.size_toArray, wL_len]; exact Nat.le_refl _)))) (fun v51 w51 h51 => ?_)
                                          obtain ⟨rfl, x51⟩ := h51
                                          replace k8 := k8.ch x51.ch (by omega)
                                          replace k12 := k12.ch x51.ch (by omega)
                                          replace hX := hX.ch x51.ch (by first | omega | (intro b hb; first | (subst hb; exact ⟨by omega, fun hh => by have := hfz.lt hh; omega, by omega⟩) | (rcases hb with hb | hb <;> (subst hb; exact ⟨by omega, fun hh => by have := hfz.lt hh; omega, by omega⟩))))
                                          replace k15 := x51.blk.full (by first | (rw [hz15]; rfl) | (rw [List.size_toArray, wL_len, wL_len]))
                                          replace U := U.st x51 (.inr f15)
                                          refine l_nil ?_
                                          refine hQ21 _ _ _ (in_normal ?_)
                                          refine hK18 _ _ ?_
                                          refine fg4 0 2 5 6 (gS rfl (gS rfl (gS rfl (gS rfl (gS rfl (gS rfl (gS rfl (gS rfl (gS rfl (gS rfl g0)))))))))) (gS rfl (gS rfl (gS rfl (gS rfl (gS rfl (gS rfl (gS rfl (gS rfl (gS rfl g0))))))))) (gS rfl (gS rfl (gS rfl (gS rfl (gS rfl (gS rfl g0)))))) (gS rfl (gS rfl (gS rfl (gS rfl (gS rfl g0))))) (fun g => ?_)
                                          refine c_region ?_
                                          refine l_step (y_moveV (et (gS rfl (gS rfl (gS rfl g0))) rfl)) ?_
                                          refine l_step (y_moveV (et (gS rfl (gS rfl (gS rfl g0))) rfl)) ?_
                                          refine l_step (y_moveV (et (gS rfl (gS rfl g0)) rfl)) ?_
                                          refine l_step (y_loadB agg_65 sz_65 (et (gS rfl (gS rfl (gS rfl (gS rfl g0)))) rfl) rfl (at1B k15)) ?_
                                          refine l_eff (e_callV cal_259 (aC (et (gS rfl (gS rfl (gS rfl g0))) rfl) (aC (et (gS rfl (gS rfl g0)) rfl) (aC (et (gS rfl g0) rfl) (aC rfl (aC (et g0 rfl) (aC (v := .int .u16 ((1 : Nat) : Int)) rfl aN)))))) (m_settle1 hX.ex hs hp (by first | exact hpf | rfl) 2 _ 1 (by omega) (by first | exact aluN_lt _ _ _ _ (argN_lt hB _) (argN_lt hB _) (argN_lt hB _) | exact one_zero_lt _ | exact hx9 | decide) (by omega) (by omega))) (fun v52 w52 h52 => ?_)
                                          obtain ⟨rfl, cs52, y52⟩ := h52
                                          replace k8 := k8.ch y52.et.go.ch (by intro hm; (have e0 := hm); omega)
                                          replace k12 := k12.ch y52.et.go.ch (by intro hm; (have e0 := hm); omega)
                                          replace k15 := k15.ch y52.et.go.ch (by intro hm; (have e0 := hm); omega)
                                          replace hX := hX.trans y52
                                          replace U := U.cc y52.et.go.ch (by intro b hb; exact .inl trivial)
                                          refine l_nil ?_
                                          refine end0 rfl ?_
                                          exact ⟨rfl, _, hX⟩)
                                      · skip
                                        
                                        have hq7 : q ≠ 27 := by have := of_decide_eq_false cB7; omega
                                        refine c_seq (fun K53 hK53 => ?_)
                                        exact (by
                                          refine c_region ?_
                                          refine l_step (y_eql (et (gS rfl g0) rfl) rfl) ?_
                                          refine l_step (y_assignV (et g0 rfl)) ?_
                                          refine l_nil ?_
                                          refine hK53 _ _ ?_
                                          refine fg8 0 2 3 4 5 6 19 49 (gS rfl (gS rfl (gS rfl (gS rfl (gS rfl (gS rfl (gS rfl (gS rfl (gS rfl g0))))))))) (gS rfl (gS rfl (gS rfl (gS rfl (gS rfl (gS rfl (gS rfl (gS rfl g0)))))))) (gS rfl (gS rfl (gS rfl (gS rfl (gS rfl (gS rfl (gS rfl g0))))))) (gS rfl (gS rfl (gS rfl (gS rfl (gS rfl (gS rfl g0)))))) (gS rfl (gS rfl (gS rfl (gS rfl (gS rfl g0))))) (gS rfl (gS rfl (gS rfl (gS rfl g0)))) (gS rfl (gS rfl (gS rfl g0))) g0 (fun g => ?_)
                                          refine c_cond (et g0 rfl) (fun cB8 => ?_) (fun cB8 => ?_)
                                          · skip
                                            
                                            have hq8 : q = 28 := by have := of_decide_eq_true cB8; omega
                                            subst hq8
                                            have htk8 : 2 ≤ f.stack.length := htk9
                                            exact (by
                                              refine c_region ?_
                                              refine l_step (y_loadB agg_65 sz_65 (et (gS rfl (gS rfl (gS rfl (gS rfl (gS rfl g0))))) rfl) rfl (at1B k8)) ?_
                                              refine l_step (y_loadB agg_65 sz_65 (et (gS rfl (gS rfl (gS rfl (gS rfl (gS rfl g0))))) rfl) rfl (at1B k12)) ?_
                                              refine l_eff (e_callV cal_290 (aC (et (gS rfl g0) rfl) (aC (et g0 rfl) aN)) (al_shr _ _ (argN f.stack 2) _ (argN_lt hB _) (argN_lt hB _))) (fun v55 w55 h55 => ?_)
                                              obtain ⟨rfl, u55⟩ := h55
                                              replace k8 := k8.up u55
                                              replace k12 := k12.up u55
                                              replace k15 := k15.up u55
                                              replace hX := hX.up u55
                                              replace U := U.tr u55
                                              refine l_effN (e_store sz_65 (et (gS rfl (gS rfl (gS rfl (gS rfl (gS rfl (gS rfl g0)))))) rfl) (cellsV (et g0 rfl) rfl) rfl (by exact one_uL _) k15 (by (first | (rw [hz15]; exact Nat.le_refl _) | (rw [List.size_toArray, wL_len]; exact Nat.le_refl _)))) (fun v56 w56 h56 => ?_)
                                              obtain ⟨rfl, x56⟩ := h56
                                              replace k8 := k8.ch x56.ch (by omega)
                                              replace k12 := k12.ch x56.ch (by omega)
                                              replace hX := hX.ch x56.ch (by first | omega | (intro b hb; first | (subst hb; exact ⟨by omega, fun hh => by have := hfz.lt hh; omega, by omega⟩) | (rcases hb with hb | hb <;> (subst hb; exact ⟨by omega, fun hh => by have := hfz.lt hh; omega, by omega⟩))))
                                              replace k15 := x56.blk.full (by first | (rw [hz15]; rfl) | (rw [List.size_toArray, wL_len, wL_len]))
                                              replace U := U.st x56 (.inr f15)
                                              refine l_nil ?_
                                              refine hQ21 _ _ _ (in_normal ?_)
                                              refine hK18 _ _ ?_
                                              refine fg4 0 2 5 6 (gS rfl (gS rfl (gS rfl (gS rfl (gS rfl (gS rfl (gS rfl (gS rfl (gS rfl (gS rfl g0)))))))))) (gS rfl (gS rfl (gS rfl (gS rfl (gS rfl (gS rfl (gS rfl (gS rfl (gS rfl g0))))))))) (gS rfl (gS rfl (gS rfl (gS rfl (gS rfl (gS rfl g0)))))) (gS rfl (gS rfl (gS rfl (gS rfl (gS rfl g0))))) (fun g => ?_)
                                              refine c_region ?_
                                              refine l_step (y_moveV (et (gS rfl (gS rfl (gS rfl g0))) rfl)) ?_
                                              refine l_step (y_moveV (et (gS rfl (gS rfl (gS rfl g0))) rfl)) ?_
                                              refine l_step (y_moveV (et (gS rfl (gS rfl g0)) rfl)) ?_
                                              refine l_step (y_loadB agg_65 sz_65 (et (gS rfl (gS rfl (gS rfl (gS rfl g0)))) rfl) rfl (at1B k15)) ?_
                                              refine l_eff (e_callV cal_259 (aC (et (gS rfl (gS rfl (gS rfl g0))) rfl) (aC (et (gS rfl (gS rfl g0)) rfl) (aC (et (gS rfl g0) rfl) (aC rfl (aC (et g0 rfl) (aC (v := .int .u16 ((1 : Nat) : Int)) rfl aN)))))) (m_settle1 hX.ex hs hp (by first | exact hpf | rfl) 2 _ 1 (by omega) (by first | exact aluN_lt _ _ _ _ (argN_lt hB _) (argN_lt hB _) (argN_lt hB _) | exact one_zero_lt _ | exact hx9 | decide) (by omega) (by omega))) (fun v57 w57 h57 => ?_)
                                              obtain ⟨rfl, cs57, y57⟩ := h57
                                              replace k8 := k8.ch y57.et.go.ch (by intro hm; (have e0 := hm); omega)
                                              replace k12 := k12.ch y57.et.go.ch (by intro hm; (have e0 := hm); omega)
                                              replace k15 := k15.ch y57.et.go.ch (by intro hm; (have e0 := hm); omega)
                                              replace hX := hX.trans y57
                                              replace U := U.cc y57.et.go.ch (by intro b hb; exact .inl trivial)
                                              refine l_nil ?_
                                              refine end0 rfl ?_
                                              exact ⟨rfl, _, hX⟩)
                                          · skip
                                            
                                            have hq8 : q ≠ 28 := by have := of_decide_eq_false cB8; omega
                                            refine c_seq (fun K58 hK58 => ?_)
                                            exact (by
                                              refine c_region ?_
                                              refine l_step (y_eql (et (gS rfl g0) rfl) rfl) ?_
                                              refine l_step (y_assignV (et g0 rfl)) ?_
                                              refine l_nil ?_
                                              refine hK58 _ _ ?_
                                              refine fg7 0 2 3 4 5 6 54 (gS rfl (gS rfl (gS rfl (gS rfl (gS rfl (gS rfl (gS rfl (gS rfl (gS rfl g0))))))))) (gS rfl (gS rfl (gS rfl (gS rfl (gS rfl (gS rfl (gS rfl (gS rfl g0)))))))) (gS rfl (gS rfl (gS rfl (gS rfl (gS rfl (gS rfl (gS rfl g0))))))) (gS rfl (gS rfl (gS rfl (gS rfl (gS rfl (gS rfl g0)))))) (gS rfl (gS rfl (gS rfl (gS rfl (gS rfl g0))))) (gS rfl (gS rfl (gS rfl (gS rfl g0)))) g0 (fun g => ?_)
                                              refine c_cond (et g0 rfl) (fun cB9 => ?_) (fun cB9 => ?_)
                                              · skip
                                                
                                                have hq9 : q = 29 := by have := of_decide_eq_true cB9; omega
                                                subst hq9
                                                have htk8 : 2 ≤ f.stack.length := htk9
                                                exact (by
                                                  refine c_region ?_
                                                  refine l_step (y_loadB agg_65 sz_65 (et (gS rfl (gS rfl (gS rfl (gS rfl g0)))) rfl) rfl (at1B k8)) ?_
                                                  refine l_step (y_loadB agg_65 sz_65 (et (gS rfl (gS rfl (gS rfl (gS rfl g0)))) rfl) rfl (at1B k12)) ?_
                                                  refine l_eff (e_callV cal_291 (aC (et (gS rfl g0) rfl) (aC (et g0 rfl) aN)) (al_sar _ _ (argN f.stack 2) _ (argN_lt hB _) (argN_lt hB _))) (fun v60 w60 h60 => ?_)
                                                  obtain ⟨rfl, u60⟩ := h60
                                                  replace k8 := k8.up u60
                                                  replace k12 := k12.up u60
                                                  replace k15 := k15.up u60
                                                  replace hX := hX.up u60
                                                  replace U := U.tr u60
                                                  refine l_effN (e_store sz_65 (et (gS rfl (gS rfl (gS rfl (gS rfl (gS rfl g0))))) rfl) (cellsV (et g0 rfl) rfl) rfl (by exact one_uL _) k15 (by (first | (rw [hz15]; exact Nat.le_refl _) | (rw [List.size_toArray, wL_len]; exact Nat.le_refl _)))) (fun v61 w61 h61 => ?_)
                                                  obtain ⟨rfl, x61⟩ := h61
                                                  replace k8 := k8.ch x61.ch (by omega)
                                                  replace k12 := k12.ch x61.ch (by omega)
                                                  replace hX := hX.ch x61.ch (by first | omega | (intro b hb; first | (subst hb; exact ⟨by omega, fun hh => by have := hfz.lt hh; omega, by omega⟩) | (rcases hb with hb | hb <;> (subst hb; exact ⟨by omega, fun hh => by have := hfz.lt hh; omega, by omega⟩))))
                                                  replace k15 := x61.blk.full (by first | (rw [hz15]; rfl) | (rw [List.size_toArray, wL_len, wL_len]))
                                                  replace U := U.st x61 (.inr f15)
                                                  refine l_nil ?_
                                                  refine hQ21 _ _ _ (in_normal ?_)
                                                  refine hK18 _ _ ?_
                                                  refine fg4 0 2 5 6 (gS rfl (gS rfl (gS rfl (gS rfl (gS rfl (gS rfl (gS rfl (gS rfl (gS rfl g0))))))))) (gS rfl (gS rfl (gS rfl (gS rfl (gS rfl (gS rfl (gS rfl (gS rfl g0)))))))) (gS rfl (gS rfl (gS rfl (gS rfl (gS rfl g0))))) (gS rfl (gS rfl (gS rfl (gS rfl g0)))) (fun g => ?_)
                                                  refine c_region ?_
                                                  refine l_step (y_moveV (et (gS rfl (gS rfl (gS rfl g0))) rfl)) ?_
                                                  refine l_step (y_moveV (et (gS rfl (gS rfl (gS rfl g0))) rfl)) ?_
                                                  refine l_step (y_moveV (et (gS rfl (gS rfl g0)) rfl)) ?_
                                                  refine l_step (y_loadB agg_65 sz_65 (et (gS rfl (gS rfl (gS rfl (gS rfl g0)))) rfl) rfl (at1B k15)) ?_
                                                  refine l_eff (e_callV cal_259 (aC (et (gS rfl (gS rfl (gS rfl g0))) rfl) (aC (et (gS rfl (gS rfl g0)) rfl) (aC (et (gS rfl g0) rfl) (aC rfl (aC (et g0 rfl) (aC (v := .int .u16 ((1 : Nat) : Int)) rfl aN)))))) (m_settle1 hX.ex hs hp (by first | exact hpf | rfl) 2 _ 1 (by omega) (by first | exact aluN_lt _ _ _ _ (argN_lt hB _) (argN_lt hB _) (argN_lt hB _) | exact one_zero_lt _ | exact hx9 | decide) (by omega) (by omega))) (fun v62 w62 h62 => ?_)
                                                  obtain ⟨rfl, cs62, y62⟩ := h62
                                                  replace k8 := k8.ch y62.et.go.ch (by intro hm; (have e0 := hm); omega)
                                                  replace k12 := k12.ch y62.et.go.ch (by intro hm; (have e0 := hm); omega)
                                                  replace k15 := k15.ch y62.et.go.ch (by intro hm; (have e0 := hm); omega)
                                                  replace hX := hX.trans y62
                                                  replace U := U.cc y62.et.go.ch (by intro b hb; exact .inl trivial)
                                                  refine l_nil ?_
                                                  refine end0 rfl ?_
                                                  exact ⟨rfl, _, hX⟩)
                                              · skip
                                                
                                                exact absurd (of_decide_eq_false cB9) (by omega))))))))))))))))
end Go.Proofs.YgvaawGreat
