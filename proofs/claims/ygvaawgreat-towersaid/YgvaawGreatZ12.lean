import Derived.Test.YgvaawGreatZ11
set_option maxRecDepth 100000
set_option maxHeartbeats 4000000
set_option linter.unusedSimpArgs false
set_option linter.unusedVariables false
namespace Go.Proofs.YgvaawGreat
open Go
theorem m_sub (a b : Nat) (w : World) (ha : a < W256) (h : b ≤ a) : Ret 171 [wV a, wV b] w (fun v w' => v = .tuple #[wV (a - b), .bool false] ∧ Up w w') := by
  have h1 := subUnder_spec a b w ha (by omega)
  rw [sub_W h ha, decide_eq_false (by omega)] at h1
  exact h1
theorem m_add (a b : Nat) (w : World) (h : a + b < W256) : Ret 164 [wV a, wV b] w (fun v w' => v = .tuple #[wV (a + b), .bool false] ∧ Up w w') := by
  have h1 := addOver_spec a b w (by omega) (by omega)
  rw [Nat.mod_eq_of_lt h, decide_eq_false (by omega)] at h1
  exact h1
section
variable {w w' : World} {H : Store} {col : Nat → Nat} {bc : Nat} {cs : Array Value} {V V' : EV} {s : YSt} {sn : List Nat} {sv : List AW} {ms : List (List Nat)} {c : Nat}
theorem EX.balC (hE : EX w H col bc cs V s sn sv ms c) (a : Nat) (ha : a < A160) : Ret 99 [.pointer (some ⟨bc, 2435, none⟩), aV a] w (fun v w' => v = wV (acctAt s.now.accts a).bal ∧ Up w w') := by
  have h := v_balance hE.vl hE.ok a ha
  rw [hE.bl] at h
  exact h
end
theorem m_move {w : World} {H : Store} {col : Nat → Nat} {bc : Nat} {cs : Array Value} {V : EV} {s : YSt} {sn : List Nat} {sv : List AW} {ms : List (List Nat)} {c : Nat} {low : List YF} {f : YF} (hE : EX w H col bc cs V s sn sv ms c) (hs : s.frames = low ++ [f]) (hp : s.phase = 1) (a b v9 : Nat) (ha : a < A160) (hb : b < A160) (hv9 : v9 < W256) {c' : Nat} (hap : s.applied ≤ 4) (hc1 : c' ≤ c) (hc : v9 ≠ 0 → c' + 50 ≤ c) (hha : hasA V a) (hhb : hasA V b) (hle : v9 ≤ (acctAt s.now.accts a).bal) (hov : v9 ≠ 0 → (acctAt (takeB s.now.accts a v9) b).bal + v9 < W256) :
    Ret 182 [.pointer (some ⟨bc, 0, none⟩), aV a, aV b, wV v9] w (fun v w' => v = .bool true ∧ ∃ col' cs' V', XT w H col w' H col' bc cs' V' { s with now := { s.now with accts := moveA s.now.accts a b v9 } } sn sv ms c') := by
  obtain ⟨n9, hn9, hR⟩ := hE.topF hs
  have hB := hE.fbT hs
  have h6 := hE.six hs
  have htop := hE.cTop hs
  have hphs := hE.cPh hp
  have hbp := hB.pc
  have hbs := hB.stk
  have hbg := hB.gas
  have hbc9 := hB.code
  have hnw := hE.vl.new
  have hfz := hE.vl.fz
  have hcC := hE.vl.colC
  have hbc0 := hE.vl.kC.lt
  have hX := XT.refl hE
  have hro := hE.room hap
  refine enter (n := 59) Hvaa.func182 rfl rfl (Nat.le_of_ble_eq_true rfl) ?_
  have U : Ch (fun _ => True) w w := Ch.refl _ w
  refine c_seq (fun K1 hK1 => ?_)
  exact (by
    refine c_region ?_
    refine l_eff (e_boxV (et (gS rfl g0) rfl)) (fun v2 w2 h2 => ?_)
    obtain ⟨b2, rfl, n2⟩ := h2
    have f2 : w.heap.size ≤ b2 := Nat.le_trans U.size n2.fresh
    replace hX := hX.up n2.up
    replace U := U.tr n2.up
    have k2 := n2.blk
    replace k2 : Blk w2 b2 (bL (be 20 a)).toArray := k2
    have nc2 : col b2 = 0 := hnw _ f2
    refine l_eff (e_boxV (et (gS rfl (gS rfl (gS rfl g0))) rfl)) (fun v3 w3 h3 => ?_)
    obtain ⟨b3, rfl, n3⟩ := h3
    have d2_3 : b2 < b3 := Nat.lt_of_lt_of_le k2.lt n3.fresh
    have f3 : w.heap.size ≤ b3 := Nat.le_trans U.size n3.fresh
    replace k2 := k2.up n3.up
    replace hX := hX.up n3.up
    replace U := U.tr n3.up
    have k3 := n3.blk
    replace k3 : Blk w3 b3 (bL (be 20 b)).toArray := k3
    have nc3 : col b3 = 0 := hnw _ f3
    refine l_eff (e_boxV (et (gS rfl (gS rfl (gS rfl (gS rfl (gS rfl g0))))) rfl)) (fun v4 w4 h4 => ?_)
    obtain ⟨b4, rfl, n4⟩ := h4
    have d2_4 : b2 < b4 := Nat.lt_of_lt_of_le k2.lt n4.fresh
    have d3_4 : b3 < b4 := Nat.lt_of_lt_of_le k3.lt n4.fresh
    have f4 : w.heap.size ≤ b4 := Nat.le_trans U.size n4.fresh
    replace k2 := k2.up n4.up
    replace k3 := k3.up n4.up
    replace hX := hX.up n4.up
    replace U := U.tr n4.up
    have k4 := n4.blk
    have nc4 : col b4 = 0 := hnw _ f4
    refine l_step y_assignC ?_
    refine l_nil ?_
    refine hK1 _ _ ?_
    refine fg4 0 5 6 7 (gS rfl (gS rfl (gS rfl (gS rfl g0)))) (gS rfl (gS rfl (gS rfl g0))) (gS rfl (gS rfl g0)) (gS rfl g0) (fun g => ?_)
    refine c_seq (fun K5 hK5 => ?_)
    refine c_seq (fun K6 hK6 => ?_)
    exact (by
      refine c_region ?_
      refine l_step (y_loadB agg_65 sz_65 (et g0 rfl) rfl (at1B k4)) ?_
      refine l_eff (e_callV cal_78 (aC (et g0 rfl) aN) (isZero_spec _ _ hv9)) (fun v7 w7 h7 => ?_)
      obtain ⟨rfl, u7⟩ := h7
      replace k2 := k2.up u7
      replace k3 := k3.up u7
      replace k4 := k4.up u7
      replace hX := hX.up u7
      replace U := U.tr u7
      refine l_nil ?_
      refine hK6 _ _ ?_
      refine fg5 0 5 6 7 14 (gS rfl (gS rfl (gS rfl (gS rfl (gS rfl g0))))) (gS rfl (gS rfl (gS rfl (gS rfl g0)))) (gS rfl (gS rfl (gS rfl g0))) (gS rfl (gS rfl g0)) g0 (fun g => ?_)
      refine c_cond (et g0 rfl) (fun cB1 => ?_) (fun cB1 => ?_)
      · skip
        
        have v0 : v9 = 0 := of_decide_eq_true cB1
        refine c_seq (fun K9 hK9 => ?_)
        exact (by
          refine c_region ?_
          refine l_step y_assignC ?_
          refine l_nil ?_
          refine hK9 _ _ ?_
          refine fg1 8 g0 (fun g => ?_)
          refine c_ret ?_
          repeat with_reducible refine then_ret ?_
          refine ret1 rfl (res_tmp (et g0 rfl)) ?_
          exact ⟨rfl, _, _, _, by rw [show moveA s.now.accts a b v9 = s.now.accts from if_pos (.inr v0)]; exact hX.slack hc1⟩)
      · skip
        
        have v0 : v9 ≠ 0 := of_decide_eq_false cB1
        have hc2 := hc v0
        have hba := hE.balt a
        rw [hE.bl] at hba
        refine c_skip ?_
        refine hK5 _ _ ?_
        refine fg4 0 5 6 7 (gS rfl (gS rfl (gS rfl (gS rfl g0)))) (gS rfl (gS rfl (gS rfl g0))) (gS rfl (gS rfl g0)) (gS rfl g0) (fun g => ?_)
        refine c_seq (fun K10 hK10 => ?_)
        exact (by
          have hnw1 := hX.ex.vl.new
          refine fgv4 0 5 6 7 (gS rfl (gS rfl (gS rfl g0))) (gS rfl (gS rfl g0)) (gS rfl g0) g0 (fun g z0 z5 z6 z7 e0 e5 e6 e7 => ?_)
          refine c_drawJ (fun s_ w_ => ∃ (g : Nat → Value) (b12 : Nat), s_ = (upd (upd (upd (upd (upd (upd g 0 z0) 5 z5) 6 z6) 7 z7) 9 (.pointer (some ⟨b12, 0, none⟩))) 10 (.bool false)) ∧ Ch (fun _ => False) w7 w_ ∧ w7.heap.size ≤ b12 ∧ Blk w_ b12 ((wL ((acctAt s.now.accts a).bal - v9)).toArray)) Up 14 (.pure 0 (.pure 1 (.pure 2 (.pure 3 (.pure 4 (.pure 6 (.two 5 (.two 7 (.pure 8 (.pure 9 (.pure 10 (.eff 11 (.eff 12 (.pure 13 .fin)))))) 11 (.eff 7 (.pure 8 (.pure 9 (.pure 10 (.eff 12 (.pure 13 .fin))))))) 11 (.eff 5 (.eff 7 (.pure 8 (.pure 9 (.pure 10 (.eff 12 (.pure 13 .fin)))))))))))))) (by kernel_rfl) (fun w13 hu => ⟨Up.refl _, ?_⟩) ?_
          · skip
            subst e0 e5 e6 e7
            replace k2 := k2.up hu
            replace k3 := k3.up hu
            replace k4 := k4.up hu
            replace hX := hX.up hu
            replace U := U.tr hu
            have SU := Up.refl w13
            have V11 : Ch (fun _ => False) w7 w13 := hu
            refine t_step (by exact rfl) (y_moveV (et (gS rfl (gS rfl (gS rfl g0))) rfl)) ?_
            refine t_step (by exact rfl) (y_nil (et g0 rfl)) ?_
            refine t_step (by exact rfl) (y_fld fld_75_0 (et g0 rfl)) ?_
            refine t_step (by exact rfl) (y_load1 one_59 (et g0 rfl) (atS (hX.ex.vl.c1 hX.ex.lx.pS rfl))) ?_
            refine t_step (by exact rfl) (y_loadB agg_25 sz_25 (et (gS rfl (gS rfl (gS rfl (gS rfl (gS rfl (gS rfl g0)))))) rfl) (by rw [List.size_toArray, length_bL, length_be]) (atSB k2)) ?_
            refine t_step (by exact rfl) (y_loadB agg_65 sz_65 (et (gS rfl (gS rfl (gS rfl (gS rfl (gS rfl g0))))) rfl) rfl (atSB k4)) ?_
            refine t_two ?_ ?_
            · skip
              refine t_eff (by exact rfl) (e_callV cal_99 (aC (et (gS rfl (gS rfl g0)) rfl) (aC (et (gS rfl g0) rfl) aN)) (hX.ex.balC a ha)) (fun v14 w14 h14 => ?_)
              obtain ⟨rfl, u14⟩ := h14
              replace k2 := k2.up u14
              replace k3 := k3.up u14
              replace k4 := k4.up u14
              replace hX := hX.up u14
              replace U := U.tr u14
              replace V11 := V11.tr u14
              refine ⟨.inr (SU.tr u14), ?_⟩
              replace SU := SU.tr u14
              refine t_two ?_ ?_
              · skip
                refine t_eff (by exact rfl) (e_callV cal_171 (aC (et g0 rfl) (aC (et (gS rfl g0) rfl) aN)) (m_sub _ _ _ hba hle)) (fun v15 w15 h15 => ?_)
                obtain ⟨rfl, u15⟩ := h15
                replace k2 := k2.up u15
                replace k3 := k3.up u15
                replace k4 := k4.up u15
                replace hX := hX.up u15
                replace U := U.tr u15
                replace V11 := V11.tr u15
                refine ⟨.inr (SU.tr u15), ?_⟩
                replace SU := SU.tr u15
                refine t_step (by exact rfl) (y_moveV (et g0 rfl)) ?_
                refine t_step (by exact rfl) (y_ext (et g0 rfl) rfl) ?_
                refine t_step (by exact rfl) (y_ext (et (gS rfl g0) rfl) rfl) ?_
                refine t_one ?_
                refine t_eff (by exact rfl) (e_alloc zr_65) (fun v16 w16 h16 => ?_)
                obtain ⟨b16, rfl, n16⟩ := h16
                have d2_16 : b2 < b16 := Nat.lt_of_lt_of_le k2.lt n16.fresh
                have d3_16 : b3 < b16 := Nat.lt_of_lt_of_le k3.lt n16.fresh
                have d4_16 : b4 < b16 := Nat.lt_of_lt_of_le k4.lt n16.fresh
                have f16 : w.heap.size ≤ b16 := Nat.le_trans U.size n16.fresh
                have fS16 := Nat.le_trans SU.size n16.fresh
                have fV11_16 := Nat.le_trans V11.size n16.fresh
                replace k2 := k2.up n16.up
                replace k3 := k3.up n16.up
                replace k4 := k4.up n16.up
                replace hX := hX.up n16.up
                replace U := U.tr n16.up
                replace V11 := V11.tr n16.up
                have k16 := n16.blk
                obtain ⟨zs16, hz16, k16⟩ : ∃ cs : Array Value, cs.size = 4 ∧ Blk w16 b16 cs := ⟨_, rfl, k16⟩
                refine ⟨.inr (SU.tr n16.up), ?_⟩
                replace SU := SU.tr n16.up
                have nc16 := hnw1 b16 (Nat.le_trans hu.size fS16)
                refine t_one ?_
                refine t_effN (by exact rfl) (e_store sz_65 (et g0 rfl) (cellsV (et (gS rfl (gS rfl g0)) rfl) rfl) rfl (by exact one_uL _) k16 (by (first | (rw [hz16]; exact Nat.le_refl _) | (rw [List.size_toArray, wL_len]; exact Nat.le_refl _)))) (fun v17 w17 h17 => ?_)
                obtain ⟨rfl, x17⟩ := h17
                replace k2 := k2.ch x17.ch (by omega)
                replace k3 := k3.ch x17.ch (by omega)
                replace k4 := k4.ch x17.ch (by omega)
                replace hX := hX.ch x17.ch (by first | omega | (intro b hb; first | (subst hb; exact ⟨by omega, fun hh => by have := hfz.lt hh; omega, by omega⟩) | (rcases hb with hb | hb <;> (subst hb; exact ⟨by omega, fun hh => by have := hfz.lt hh; omega, by omega⟩))))
                replace k16 := x17.blk.full (by first | (rw [hz16]; rfl) | (rw [List.size_toArray, wL_len, wL_len]))
                replace U := U.st x17 (.inr f16)
                replace V11 := V11.st x17 (by omega)
                refine ⟨.inr (SU.st x17 (by omega)), ?_⟩
                replace SU := SU.st x17 (by omega)
                refine t_step (by exact rfl) (y_assignV (et (gS rfl g0) rfl)) ?_
                refine tl6 0 5 6 7 9 10 (gS rfl (gS rfl (gS rfl (gS rfl (gS rfl (gS rfl (gS rfl (gS rfl (gS rfl (gS rfl (gS rfl (gS rfl (gS rfl (gS rfl (gS rfl (gS rfl g0)))))))))))))))) (gS rfl (gS rfl (gS rfl (gS rfl (gS rfl (gS rfl (gS rfl (gS rfl (gS rfl (gS rfl (gS rfl (gS rfl (gS rfl (gS rfl (gS rfl g0))))))))))))))) (gS rfl (gS rfl (gS rfl (gS rfl (gS rfl (gS rfl (gS rfl (gS rfl (gS rfl (gS rfl (gS rfl (gS rfl (gS rfl (gS rfl g0)))))))))))))) (gS rfl (gS rfl (gS rfl (gS rfl (gS rfl (gS rfl (gS rfl (gS rfl (gS rfl (gS rfl (gS rfl (gS rfl (gS rfl g0))))))))))))) (gS rfl g0) g0 (fun g => ?_)
                exact ⟨g, _, rfl, V11, Nat.le_trans hu.size fS16, k16⟩
              · skip
                refine t_eff (by exact rfl) (e_alloc zr_65) (fun v18 w18 h18 => ?_)
                obtain ⟨b18, rfl, n18⟩ := h18
                have d2_18 : b2 < b18 := Nat.lt_of_lt_of_le k2.lt n18.fresh
                have d3_18 : b3 < b18 := Nat.lt_of_lt_of_le k3.lt n18.fresh
                have d4_18 : b4 < b18 := Nat.lt_of_lt_of_le k4.lt n18.fresh
                have f18 : w.heap.size ≤ b18 := Nat.le_trans U.size n18.fresh
                have fS18 := Nat.le_trans SU.size n18.fresh
                have fV11_18 := Nat.le_trans V11.size n18.fresh
                replace k2 := k2.up n18.up
                replace k3 := k3.up n18.up
                replace k4 := k4.up n18.up
                replace hX := hX.up n18.up
                replace U := U.tr n18.up
                replace V11 := V11.tr n18.up
                have k18 := n18.blk
                obtain ⟨zs18, hz18, k18⟩ : ∃ cs : Array Value, cs.size = 4 ∧ Blk w18 b18 cs := ⟨_, rfl, k18⟩
                refine ⟨.inr (SU.tr n18.up), ?_⟩
                replace SU := SU.tr n18.up
                have nc18 := hnw1 b18 (Nat.le_trans hu.size fS18)
                refine t_one ?_
                refine t_eff (by exact rfl) (e_callV cal_171 (aC (et (gS rfl g0) rfl) (aC (et (gS rfl (gS rfl g0)) rfl) aN)) (m_sub _ _ _ hba hle)) (fun v19 w19 h19 => ?_)
                obtain ⟨rfl, u19⟩ := h19
                replace k2 := k2.up u19
                replace k3 := k3.up u19
                replace k4 := k4.up u19
                replace k18 := k18.up u19
                replace hX := hX.up u19
                replace U := U.tr u19
                replace V11 := V11.tr u19
                refine ⟨.inr (SU.tr u19), ?_⟩
                replace SU := SU.tr u19
                refine t_step (by exact rfl) (y_moveV (et g0 rfl)) ?_
                refine t_step (by exact rfl) (y_ext (et g0 rfl) rfl) ?_
                refine t_step (by exact rfl) (y_ext (et (gS rfl g0) rfl) rfl) ?_
                refine t_one ?_
                refine t_effN (by exact rfl) (e_store sz_65 (et (gS rfl (gS rfl (gS rfl (gS rfl g0)))) rfl) (cellsV (et (gS rfl g0) rfl) rfl) rfl (by exact one_uL _) k18 (by (first | (rw [hz18]; exact Nat.le_refl _) | (rw [List.size_toArray, wL_len]; exact Nat.le_refl _)))) (fun v20 w20 h20 => ?_)
                obtain ⟨rfl, x20⟩ := h20
                replace k2 := k2.ch x20.ch (by omega)
                replace k3 := k3.ch x20.ch (by omega)
                replace k4 := k4.ch x20.ch (by omega)
                replace hX := hX.ch x20.ch (by first | omega | (intro b hb; first | (subst hb; exact ⟨by omega, fun hh => by have := hfz.lt hh; omega, by omega⟩) | (rcases hb with hb | hb <;> (subst hb; exact ⟨by omega, fun hh => by have := hfz.lt hh; omega, by omega⟩))))
                replace k18 := x20.blk.full (by first | (rw [hz18]; rfl) | (rw [List.size_toArray, wL_len, wL_len]))
                replace U := U.st x20 (.inr f18)
                replace V11 := V11.st x20 (by omega)
                refine ⟨.inr (SU.st x20 (by omega)), ?_⟩
                replace SU := SU.st x20 (by omega)
                refine t_step (by exact rfl) (y_assignV (et g0 rfl)) ?_
                refine tl6 0 5 6 7 9 10 (gS rfl (gS rfl (gS rfl (gS rfl (gS rfl (gS rfl (gS rfl (gS rfl (gS rfl (gS rfl (gS rfl (gS rfl (gS rfl (gS rfl (gS rfl (gS rfl g0)))))))))))))))) (gS rfl (gS rfl (gS rfl (gS rfl (gS rfl (gS rfl (gS rfl (gS rfl (gS rfl (gS rfl (gS rfl (gS rfl (gS rfl (gS rfl (gS rfl g0))))))))))))))) (gS rfl (gS rfl (gS rfl (gS rfl (gS rfl (gS rfl (gS rfl (gS rfl (gS rfl (gS rfl (gS rfl (gS rfl (gS rfl (gS rfl g0)))))))))))))) (gS rfl (gS rfl (gS rfl (gS rfl (gS rfl (gS rfl (gS rfl (gS rfl (gS rfl (gS rfl (gS rfl (gS rfl (gS rfl g0))))))))))))) (gS rfl (gS rfl (gS rfl (gS rfl (gS rfl g0))))) g0 (fun g => ?_)
                exact ⟨g, _, rfl, V11, Nat.le_trans hu.size fS18, k18⟩
            · skip
              refine t_eff (by exact rfl) (e_alloc zr_65) (fun v21 w21 h21 => ?_)
              obtain ⟨b21, rfl, n21⟩ := h21
              have d2_21 : b2 < b21 := Nat.lt_of_lt_of_le k2.lt n21.fresh
              have d3_21 : b3 < b21 := Nat.lt_of_lt_of_le k3.lt n21.fresh
              have d4_21 : b4 < b21 := Nat.lt_of_lt_of_le k4.lt n21.fresh
              have f21 : w.heap.size ≤ b21 := Nat.le_trans U.size n21.fresh
              have fS21 := Nat.le_trans SU.size n21.fresh
              have fV11_21 := Nat.le_trans V11.size n21.fresh
              replace k2 := k2.up n21.up
              replace k3 := k3.up n21.up
              replace k4 := k4.up n21.up
              replace hX := hX.up n21.up
              replace U := U.tr n21.up
              replace V11 := V11.tr n21.up
              have k21 := n21.blk
              obtain ⟨zs21, hz21, k21⟩ : ∃ cs : Array Value, cs.size = 4 ∧ Blk w21 b21 cs := ⟨_, rfl, k21⟩
              refine ⟨.inr (SU.tr n21.up), ?_⟩
              replace SU := SU.tr n21.up
              have nc21 := hnw1 b21 (Nat.le_trans hu.size fS21)
              refine t_one ?_
              refine t_eff (by exact rfl) (e_callV cal_99 (aC (et (gS rfl (gS rfl (gS rfl g0))) rfl) (aC (et (gS rfl (gS rfl g0)) rfl) aN)) (hX.ex.balC a ha)) (fun v22 w22 h22 => ?_)
              obtain ⟨rfl, u22⟩ := h22
              replace k2 := k2.up u22
              replace k3 := k3.up u22
              replace k4 := k4.up u22
              replace k21 := k21.up u22
              replace hX := hX.up u22
              replace U := U.tr u22
              replace V11 := V11.tr u22
              refine ⟨.inr (SU.tr u22), ?_⟩
              replace SU := SU.tr u22
              refine t_one ?_
              refine t_eff (by exact rfl) (e_callV cal_171 (aC (et g0 rfl) (aC (et (gS rfl (gS rfl g0)) rfl) aN)) (m_sub _ _ _ hba hle)) (fun v23 w23 h23 => ?_)
              obtain ⟨rfl, u23⟩ := h23
              replace k2 := k2.up u23
              replace k3 := k3.up u23
              replace k4 := k4.up u23
              replace k21 := k21.up u23
              replace hX := hX.up u23
              replace U := U.tr u23
              replace V11 := V11.tr u23
              refine ⟨.inr (SU.tr u23), ?_⟩
              replace SU := SU.tr u23
              refine t_step (by exact rfl) (y_moveV (et g0 rfl)) ?_
              refine t_step (by exact rfl) (y_ext (et g0 rfl) rfl) ?_
              refine t_step (by exact rfl) (y_ext (et (gS rfl g0) rfl) rfl) ?_
              refine t_one ?_
              refine t_effN (by exact rfl) (e_store sz_65 (et (gS rfl (gS rfl (gS rfl (gS rfl (gS rfl g0))))) rfl) (cellsV (et (gS rfl g0) rfl) rfl) rfl (by exact one_uL _) k21 (by (first | (rw [hz21]; exact Nat.le_refl _) | (rw [List.size_toArray, wL_len]; exact Nat.le_refl _)))) (fun v24 w24 h24 => ?_)
              obtain ⟨rfl, x24⟩ := h24
              replace k2 := k2.ch x24.ch (by omega)
              replace k3 := k3.ch x24.ch (by omega)
              replace k4 := k4.ch x24.ch (by omega)
              replace hX := hX.ch x24.ch (by first | omega | (intro b hb; first | (subst hb; exact ⟨by omega, fun hh => by have := hfz.lt hh; omega, by omega⟩) | (rcases hb with hb | hb <;> (subst hb; exact ⟨by omega, fun hh => by have := hfz.lt hh; omega, by omega⟩))))
              replace k21 := x24.blk.full (by first | (rw [hz21]; rfl) | (rw [List.size_toArray, wL_len, wL_len]))
              replace U := U.st x24 (.inr f21)
              replace V11 := V11.st x24 (by omega)
              refine ⟨.inr (SU.st x24 (by omega)), ?_⟩
              replace SU := SU.st x24 (by omega)
              refine t_step (by exact rfl) (y_assignV (et g0 rfl)) ?_
              refine tl6 0 5 6 7 9 10 (gS rfl (gS rfl (gS rfl (gS rfl (gS rfl (gS rfl (gS rfl (gS rfl (gS rfl (gS rfl (gS rfl (gS rfl (gS rfl (gS rfl (gS rfl (gS rfl g0)))))))))))))))) (gS rfl (gS rfl (gS rfl (gS rfl (gS rfl (gS rfl (gS rfl (gS rfl (gS rfl (gS rfl (gS rfl (gS rfl (gS rfl (gS rfl (gS rfl g0))))))))))))))) (gS rfl (gS rfl (gS rfl (gS rfl (gS rfl (gS rfl (gS rfl (gS rfl (gS rfl (gS rfl (gS rfl (gS rfl (gS rfl (gS rfl g0)))))))))))))) (gS rfl (gS rfl (gS rfl (gS rfl (gS rfl (gS rfl (gS rfl (gS rfl (gS rfl (gS rfl (gS rfl (gS rfl (gS rfl g0))))))))))))) (gS rfl (gS rfl (gS rfl (gS rfl (gS rfl (gS rfl g0)))))) g0 (fun g => ?_)
              exact ⟨g, _, rfl, V11, Nat.le_trans hu.size fS21, k21⟩
          intro s_ w25 hJ
          obtain ⟨g, b12, rfl, V11, fn12, kn12⟩ := hJ
          subst e0 e5 e6 e7
          have d2_12 : b2 < b12 := Nat.lt_of_lt_of_le k2.lt fn12
          have d3_12 : b3 < b12 := Nat.lt_of_lt_of_le k3.lt fn12
          have d4_12 : b4 < b12 := Nat.lt_of_lt_of_le k4.lt fn12
          have f12 : w.heap.size ≤ b12 := Nat.le_trans U.size fn12
          replace k2 := k2.up V11
          replace k3 := k3.up V11
          replace k4 := k4.up V11
          replace hX := hX.up V11
          replace U := U.tr V11
          have k12 := kn12
          have nc12 := hnw1 b12 fn12
          refine hK10 _ _ ?_
          refine c_seq (fun K26 hK26 => ?_)
          refine c_seq (fun K27 hK27 => ?_)
          exact (by
            refine c_draw (SX _ bc) 11 [(0, true), (1, true), (2, true), (3, true), (4, true), (5, true), (6, true), (7, true), (8, false), (9, true), (10, true)] (by kernel_rfl) (fun w28 hu => ⟨SX.refl (hX.up hu), ?_⟩)
            replace k2 := k2.up hu
            replace k3 := k3.up hu
            replace k4 := k4.up hu
            replace k12 := k12.up hu
            replace hX := hX.up hu
            replace U := U.tr hu
            have SU := SX.refl hX
            have cq := cq_refl hX
            have hX_s := hX
            have k2_s := k2
            have k3_s := k3
            have k4_s := k4
            have k12_s := k12
            refine p_step (by exact rfl) (y_moveV (et g0 rfl)) ?_
            refine p_step (by exact rfl) (y_moveV (et g0 rfl)) ?_
            refine gsplitP (i := 27) g0 (fun q29 => ?_) (fun q29 => ?_)
            · skip
              cases q29
            · skip
              refine p_gstep (j := 1) (t := 27) (by exact rfl) (by exact rfl) (by exact rfl) (et g0 rfl) rfl (y_moveV (et (gS rfl (gS rfl (gS rfl (gS rfl (gS rfl (gS rfl (gS rfl (gS rfl g0)))))))) rfl)) ?_
              refine p_gstep (j := 1) (t := 27) (by exact rfl) (by exact rfl) (by exact rfl) (et (gS rfl g0) rfl) rfl (y_nil (et g0 rfl)) ?_
              refine p_gstep (j := 1) (t := 27) (by exact rfl) (by exact rfl) (by exact rfl) (et (gS rfl (gS rfl g0)) rfl) rfl (y_fld fld_75_0 (et g0 rfl)) ?_
              refine p_gstep (j := 1) (t := 27) (by exact rfl) (by exact rfl) (by exact rfl) (et (gS rfl (gS rfl (gS rfl g0))) rfl) rfl (y_load1 one_59 (et g0 rfl) (atXP)) ?_
              refine p_gstep (j := 1) (t := 27) (by exact rfl) (by exact rfl) (by exact rfl) (et (gS rfl (gS rfl (gS rfl (gS rfl g0)))) rfl) rfl (y_loadB agg_25 sz_25 (et (gS rfl (gS rfl (gS rfl (gS rfl (gS rfl (gS rfl (gS rfl (gS rfl (gS rfl (gS rfl (gS rfl g0))))))))))) rfl) (by rw [List.size_toArray, length_bL, length_be]) (atXB k2_s (by omega))) ?_
              refine p_gstep (j := 1) (t := 27) (by exact rfl) (by exact rfl) (by exact rfl) (et (gS rfl (gS rfl (gS rfl (gS rfl (gS rfl g0))))) rfl) rfl (y_loadB agg_65 sz_65 (et (gS rfl (gS rfl (gS rfl (gS rfl (gS rfl (gS rfl (gS rfl (gS rfl (gS rfl g0))))))))) rfl) rfl (atXB k12_s (by omega))) ?_
              refine p_geff (j := 1) (t := 27) (by exact rfl) (by exact rfl) (by exact rfl) (et (gS rfl (gS rfl (gS rfl (gS rfl (gS rfl (gS rfl g0)))))) rfl) rfl (e_callV cal_97 (aC (et (gS rfl (gS rfl g0)) rfl) (aC (et (gS rfl g0) rfl) (aC (et g0 rfl) aN))) (v_putBalance hX.ex.vl hX.ex.ok a ha ((acctAt s.now.accts a).bal - v9) (by omega) 0 (.inl ⟨hha, rfl⟩) hro.j)) (fun v30 w30 h30 => ?_)
              obtain ⟨rfl, cl30, cs30, V30, t30, ok30, js30⟩ := h30
              have nc2 := (t30.col b2 k2.lt).trans nc2
              have nc3 := (t30.col b3 k3.lt).trans nc3
              have nc4 := (t30.col b4 k4.lt).trans nc4
              have nc12 := (t30.col b12 k12.lt).trans nc12
              replace k2 := k2.ch t30.go.ch (by intro hm; (have e0 := hm); omega)
              replace k3 := k3.ch t30.go.ch (by intro hm; (have e0 := hm); omega)
              replace k4 := k4.ch t30.go.ch (by intro hm; (have e0 := hm); omega)
              replace k12 := k12.ch t30.go.ch (by intro hm; (have e0 := hm); omega)
              replace hX := hX.vt0 t30 ok30 js30 (ay_bal s.now a ((acctAt s.now.accts a).bal - v9)) (fun _ => rfl) (c' := c' + 25) (by omega)
              replace U := U.cc t30.go.ch (by intro b hb; exact .inl trivial)
              have js9 := js30
              obtain ⟨s1, hs1⟩ : ∃ s1 : YSt, s1 = { s with now := { s.now with accts := takeB s.now.accts a v9 } } := ⟨_, rfl⟩
              replace hX : XT w H col w30 H cl30 bc cs30 V30 s1 sn sv ms (c' + 25) := by rw [hs1]; exact hX
              have hac : s1.now.accts = takeB s.now.accts a v9 := by rw [hs1]
              have hap1 : s1.applied ≤ 4 := by rw [hs1]; exact hap
              have hro1 := hX.ex.room hap1
              have hbh := js9.ha b hhb
              have cq9 := SU.ch.size
              replace SU := SU.xc t30.go.ch (hX.ex.vl.c1 hX.ex.lx.pS rfl) (by intro b hlt hb; have h9 := cq b hlt; have e0 := hb; first | omega | (dsimp only at e0; omega))
              replace cq := cq_step cq t30.col cq9
              refine ⟨.inr SU, ?_⟩
              refine p_gstep (j := 1) (t := 27) (by exact rfl) (by exact rfl) (by exact rfl) (et (gS rfl (gS rfl (gS rfl (gS rfl (gS rfl (gS rfl (gS rfl g0))))))) rfl) rfl (y_not (et g0 rfl)) ?_
              refine p_step (by exact rfl) (y_pickF (et (gS rfl (gS rfl (gS rfl (gS rfl (gS rfl (gS rfl (gS rfl (gS rfl g0)))))))) rfl) (et g0 rfl)) ?_
              refine p_nil ?_
              refine hK27 _ _ ?_
              refine fg4 0 6 7 36 (gS rfl (gS rfl (gS rfl (gS rfl (gS rfl (gS rfl (gS rfl (gS rfl (gS rfl (gS rfl (gS rfl (gS rfl (gS rfl (gS rfl (gS rfl (gS rfl (gS rfl g0))))))))))))))))) (gS rfl (gS rfl (gS rfl (gS rfl (gS rfl (gS rfl (gS rfl (gS rfl (gS rfl (gS rfl (gS rfl (gS rfl (gS rfl (gS rfl (gS rfl g0))))))))))))))) (gS rfl (gS rfl (gS rfl (gS rfl (gS rfl (gS rfl (gS rfl (gS rfl (gS rfl (gS rfl (gS rfl (gS rfl (gS rfl (gS rfl g0)))))))))))))) g0 (fun g => ?_)
              refine c_false (et g0 rfl) (by rfl) ?_
              refine c_skip ?_
              refine hK26 _ _ ?_
              refine fg3 0 6 7 (gS rfl (gS rfl (gS rfl g0))) (gS rfl (gS rfl g0)) (gS rfl g0) (fun g => ?_)
              refine c_seq (fun K32 hK32 => ?_)
              exact (by
                have hnw1 := hX.ex.vl.new
                refine fgv3 0 6 7 (gS rfl (gS rfl g0)) (gS rfl g0) g0 (fun g z0 z6 z7 e0 e6 e7 => ?_)
                refine c_drawJ (fun s_ w_ => ∃ (g : Nat → Value) (b34 : Nat), s_ = (upd (upd (upd (upd g 0 z0) 6 z6) 11 (.pointer (some ⟨b34, 0, none⟩))) 12 (.bool false)) ∧ Ch (fun _ => False) w30 w_ ∧ w30.heap.size ≤ b34 ∧ Blk w_ b34 ((wL ((acctAt s1.now.accts b).bal + v9)).toArray)) Up 14 (.pure 0 (.pure 1 (.pure 2 (.pure 3 (.pure 4 (.pure 6 (.two 5 (.two 7 (.pure 8 (.pure 9 (.pure 10 (.eff 11 (.eff 12 (.pure 13 .fin)))))) 11 (.eff 7 (.pure 8 (.pure 9 (.pure 10 (.eff 12 (.pure 13 .fin))))))) 11 (.eff 5 (.eff 7 (.pure 8 (.pure 9 (.pure 10 (.eff 12 (.pure 13 .fin)))))))))))))) (by kernel_rfl) (fun w35 hu => ⟨Up.refl _, ?_⟩) ?_
                · skip
                  subst e0 e6 e7
                  replace k2 := k2.up hu
                  replace k3 := k3.up hu
                  replace k4 := k4.up hu
                  replace k12 := k12.up hu
                  replace hX := hX.up hu
                  replace U := U.tr hu
                  have SU := Up.refl w35
                  have V33 : Ch (fun _ => False) w30 w35 := hu
                  refine t_step (by exact rfl) (y_moveV (et (gS rfl (gS rfl g0)) rfl)) ?_
                  refine t_step (by exact rfl) (y_nil (et g0 rfl)) ?_
                  refine t_step (by exact rfl) (y_fld fld_75_0 (et g0 rfl)) ?_
                  refine t_step (by exact rfl) (y_load1 one_59 (et g0 rfl) (atS (hX.ex.vl.c1 hX.ex.lx.pS rfl))) ?_
                  refine t_step (by exact rfl) (y_loadB agg_25 sz_25 (et (gS rfl (gS rfl (gS rfl (gS rfl (gS rfl g0))))) rfl) (by rw [List.size_toArray, length_bL, length_be]) (atSB k3)) ?_
                  refine t_step (by exact rfl) (y_loadB agg_65 sz_65 (et (gS rfl (gS rfl (gS rfl (gS rfl (gS rfl g0))))) rfl) rfl (atSB k4)) ?_
                  refine t_two ?_ ?_
                  · skip
                    refine t_eff (by exact rfl) (e_callV cal_99 (aC (et (gS rfl (gS rfl g0)) rfl) (aC (et (gS rfl g0) rfl) aN)) (hX.ex.balC b hb)) (fun v36 w36 h36 => ?_)
                    obtain ⟨rfl, u36⟩ := h36
                    replace k2 := k2.up u36
                    replace k3 := k3.up u36
                    replace k4 := k4.up u36
                    replace k12 := k12.up u36
                    replace hX := hX.up u36
                    replace U := U.tr u36
                    replace V33 := V33.tr u36
                    refine ⟨.inr (SU.tr u36), ?_⟩
                    replace SU := SU.tr u36
                    refine t_two ?_ ?_
                    · skip
                      refine t_eff (by exact rfl) (e_callV cal_164 (aC (et g0 rfl) (aC (et (gS rfl g0) rfl) aN)) (m_add _ _ _ (by rw [hac]; exact hov v0))) (fun v37 w37 h37 => ?_)
                      obtain ⟨rfl, u37⟩ := h37
                      replace k2 := k2.up u37
                      replace k3 := k3.up u37
                      replace k4 := k4.up u37
                      replace k12 := k12.up u37
                      replace hX := hX.up u37
                      replace U := U.tr u37
                      replace V33 := V33.tr u37
                      refine ⟨.inr (SU.tr u37), ?_⟩
                      replace SU := SU.tr u37
                      refine t_step (by exact rfl) (y_moveV (et g0 rfl)) ?_
                      refine t_step (by exact rfl) (y_ext (et g0 rfl) rfl) ?_
                      refine t_step (by exact rfl) (y_ext (et (gS rfl g0) rfl) rfl) ?_
                      refine t_one ?_
                      refine t_eff (by exact rfl) (e_alloc zr_65) (fun v38 w38 h38 => ?_)
                      obtain ⟨b38, rfl, n38⟩ := h38
                      have d2_38 : b2 < b38 := Nat.lt_of_lt_of_le k2.lt n38.fresh
                      have d3_38 : b3 < b38 := Nat.lt_of_lt_of_le k3.lt n38.fresh
                      have d4_38 : b4 < b38 := Nat.lt_of_lt_of_le k4.lt n38.fresh
                      have d12_38 : b12 < b38 := Nat.lt_of_lt_of_le k12.lt n38.fresh
                      have f38 : w.heap.size ≤ b38 := Nat.le_trans U.size n38.fresh
                      have fS38 := Nat.le_trans SU.size n38.fresh
                      have fV33_38 := Nat.le_trans V33.size n38.fresh
                      replace k2 := k2.up n38.up
                      replace k3 := k3.up n38.up
                      replace k4 := k4.up n38.up
                      replace k12 := k12.up n38.up
                      replace hX := hX.up n38.up
                      replace U := U.tr n38.up
                      replace V33 := V33.tr n38.up
                      have k38 := n38.blk
                      obtain ⟨zs38, hz38, k38⟩ : ∃ cs : Array Value, cs.size = 4 ∧ Blk w38 b38 cs := ⟨_, rfl, k38⟩
                      refine ⟨.inr (SU.tr n38.up), ?_⟩
                      replace SU := SU.tr n38.up
                      have nc38 := hnw1 b38 (Nat.le_trans hu.size fS38)
                      refine t_one ?_
                      refine t_effN (by exact rfl) (e_store sz_65 (et g0 rfl) (cellsV (et (gS rfl (gS rfl g0)) rfl) rfl) rfl (by exact one_uL _) k38 (by (first | (rw [hz38]; exact Nat.le_refl _) | (rw [List.size_toArray, wL_len]; exact Nat.le_refl _)))) (fun v39 w39 h39 => ?_)
                      obtain ⟨rfl, x39⟩ := h39
                      replace k2 := k2.ch x39.ch (by omega)
                      replace k3 := k3.ch x39.ch (by omega)
                      replace k4 := k4.ch x39.ch (by omega)
                      replace k12 := k12.ch x39.ch (by omega)
                      replace hX := hX.ch x39.ch (by first | omega | (intro b hb; first | (subst hb; exact ⟨by omega, fun hh => by have := hfz.lt hh; omega, by omega⟩) | (rcases hb with hb | hb <;> (subst hb; exact ⟨by omega, fun hh => by have := hfz.lt hh; omega, by omega⟩))))
                      replace k38 := x39.blk.full (by first | (rw [hz38]; rfl) | (rw [List.size_toArray, wL_len, wL_len]))
                      replace U := U.st x39 (.inr f38)
                      replace V33 := V33.st x39 (by omega)
                      refine ⟨.inr (SU.st x39 (by omega)), ?_⟩
                      replace SU := SU.st x39 (by omega)
                      refine t_step (by exact rfl) (y_assignV (et (gS rfl g0) rfl)) ?_
                      refine tl4 0 6 11 12 (gS rfl (gS rfl (gS rfl (gS rfl (gS rfl (gS rfl (gS rfl (gS rfl (gS rfl (gS rfl (gS rfl (gS rfl (gS rfl (gS rfl (gS rfl g0))))))))))))))) (gS rfl (gS rfl (gS rfl (gS rfl (gS rfl (gS rfl (gS rfl (gS rfl (gS rfl (gS rfl (gS rfl (gS rfl (gS rfl (gS rfl g0)))))))))))))) (gS rfl g0) g0 (fun g => ?_)
                      exact ⟨g, _, rfl, V33, Nat.le_trans hu.size fS38, k38⟩
                    · skip
                      refine t_eff (by exact rfl) (e_alloc zr_65) (fun v40 w40 h40 => ?_)
                      obtain ⟨b40, rfl, n40⟩ := h40
                      have d2_40 : b2 < b40 := Nat.lt_of_lt_of_le k2.lt n40.fresh
                      have d3_40 : b3 < b40 := Nat.lt_of_lt_of_le k3.lt n40.fresh
                      have d4_40 : b4 < b40 := Nat.lt_of_lt_of_le k4.lt n40.fresh
                      have d12_40 : b12 < b40 := Nat.lt_of_lt_of_le k12.lt n40.fresh
                      have f40 : w.heap.size ≤ b40 := Nat.le_trans U.size n40.fresh
                      have fS40 := Nat.le_trans SU.size n40.fresh
                      have fV33_40 := Nat.le_trans V33.size n40.fresh
                      replace k2 := k2.up n40.up
                      replace k3 := k3.up n40.up
                      replace k4 := k4.up n40.up
                      replace k12 := k12.up n40.up
                      replace hX := hX.up n40.up
                      replace U := U.tr n40.up
                      replace V33 := V33.tr n40.up
                      have k40 := n40.blk
                      obtain ⟨zs40, hz40, k40⟩ : ∃ cs : Array Value, cs.size = 4 ∧ Blk w40 b40 cs := ⟨_, rfl, k40⟩
                      refine ⟨.inr (SU.tr n40.up), ?_⟩
                      replace SU := SU.tr n40.up
                      have nc40 := hnw1 b40 (Nat.le_trans hu.size fS40)
                      refine t_one ?_
                      refine t_eff (by exact rfl) (e_callV cal_164 (aC (et (gS rfl g0) rfl) (aC (et (gS rfl (gS rfl g0)) rfl) aN)) (m_add _ _ _ (by rw [hac]; exact hov v0))) (fun v41 w41 h41 => ?_)
                      obtain ⟨rfl, u41⟩ := h41
                      replace k2 := k2.up u41
                      replace k3 := k3.up u41
                      replace k4 := k4.up u41
                      replace k12 := k12.up u41
                      replace k40 := k40.up u41
                      replace hX := hX.up u41
                      replace U := U.tr u41
                      replace V33 := V33.tr u41
                      refine ⟨.inr (SU.tr u41), ?_⟩
                      replace SU := SU.tr u41
                      refine t_step (by exact rfl) (y_moveV (et g0 rfl)) ?_
                      refine t_step (by exact rfl) (y_ext (et g0 rfl) rfl) ?_
                      refine t_step (by exact rfl) (y_ext (et (gS rfl g0) rfl) rfl) ?_
                      refine t_one ?_
                      refine t_effN (by exact rfl) (e_store sz_65 (et (gS rfl (gS rfl (gS rfl (gS rfl g0)))) rfl) (cellsV (et (gS rfl g0) rfl) rfl) rfl (by exact one_uL _) k40 (by (first | (rw [hz40]; exact Nat.le_refl _) | (rw [List.size_toArray, wL_len]; exact Nat.le_refl _)))) (fun v42 w42 h42 => ?_)
                      obtain ⟨rfl, x42⟩ := h42
                      replace k2 := k2.ch x42.ch (by omega)
                      replace k3 := k3.ch x42.ch (by omega)
                      replace k4 := k4.ch x42.ch (by omega)
                      replace k12 := k12.ch x42.ch (by omega)
                      replace hX := hX.ch x42.ch (by first | omega | (intro b hb; first | (subst hb; exact ⟨by omega, fun hh => by have := hfz.lt hh; omega, by omega⟩) | (rcases hb with hb | hb <;> (subst hb; exact ⟨by omega, fun hh => by have := hfz.lt hh; omega, by omega⟩))))
                      replace k40 := x42.blk.full (by first | (rw [hz40]; rfl) | (rw [List.size_toArray, wL_len, wL_len]))
                      replace U := U.st x42 (.inr f40)
                      replace V33 := V33.st x42 (by omega)
                      refine ⟨.inr (SU.st x42 (by omega)), ?_⟩
                      replace SU := SU.st x42 (by omega)
                      refine t_step (by exact rfl) (y_assignV (et g0 rfl)) ?_
                      refine tl4 0 6 11 12 (gS rfl (gS rfl (gS rfl (gS rfl (gS rfl (gS rfl (gS rfl (gS rfl (gS rfl (gS rfl (gS rfl (gS rfl (gS rfl (gS rfl (gS rfl g0))))))))))))))) (gS rfl (gS rfl (gS rfl (gS rfl (gS rfl (gS rfl (gS rfl (gS rfl (gS rfl (gS rfl (gS rfl (gS rfl (gS rfl (gS rfl g0)))))))))))))) (gS rfl (gS rfl (gS rfl (gS rfl (gS rfl g0))))) g0 (fun g => ?_)
                      exact ⟨g, _, rfl, V33, Nat.le_trans hu.size fS40, k40⟩
                  · skip
                    refine t_eff (by exact rfl) (e_alloc zr_65) (fun v43 w43 h43 => ?_)
                    obtain ⟨b43, rfl, n43⟩ := h43
                    have d2_43 : b2 < b43 := Nat.lt_of_lt_of_le k2.lt n43.fresh
                    have d3_43 : b3 < b43 := Nat.lt_of_lt_of_le k3.lt n43.fresh
                    have d4_43 : b4 < b43 := Nat.lt_of_lt_of_le k4.lt n43.fresh
                    have d12_43 : b12 < b43 := Nat.lt_of_lt_of_le k12.lt n43.fresh
                    have f43 : w.heap.size ≤ b43 := Nat.le_trans U.size n43.fresh
                    have fS43 := Nat.le_trans SU.size n43.fresh
                    have fV33_43 := Nat.le_trans V33.size n43.fresh
                    replace k2 := k2.up n43.up
                    replace k3 := k3.up n43.up
                    replace k4 := k4.up n43.up
                    replace k12 := k12.up n43.up
                    replace hX := hX.up n43.up
                    replace U := U.tr n43.up
                    replace V33 := V33.tr n43.up
                    have k43 := n43.blk
                    obtain ⟨zs43, hz43, k43⟩ : ∃ cs : Array Value, cs.size = 4 ∧ Blk w43 b43 cs := ⟨_, rfl, k43⟩
                    refine ⟨.inr (SU.tr n43.up), ?_⟩
                    replace SU := SU.tr n43.up
                    have nc43 := hnw1 b43 (Nat.le_trans hu.size fS43)
                    refine t_one ?_
                    refine t_eff (by exact rfl) (e_callV cal_99 (aC (et (gS rfl (gS rfl (gS rfl g0))) rfl) (aC (et (gS rfl (gS rfl g0)) rfl) aN)) (hX.ex.balC b hb)) (fun v44 w44 h44 => ?_)
                    obtain ⟨rfl, u44⟩ := h44
                    replace k2 := k2.up u44
                    replace k3 := k3.up u44
                    replace k4 := k4.up u44
                    replace k12 := k12.up u44
                    replace k43 := k43.up u44
                    replace hX := hX.up u44
                    replace U := U.tr u44
                    replace V33 := V33.tr u44
                    refine ⟨.inr (SU.tr u44), ?_⟩
                    replace SU := SU.tr u44
                    refine t_one ?_
                    refine t_eff (by exact rfl) (e_callV cal_164 (aC (et g0 rfl) (aC (et (gS rfl (gS rfl g0)) rfl) aN)) (m_add _ _ _ (by rw [hac]; exact hov v0))) (fun v45 w45 h45 => ?_)
                    obtain ⟨rfl, u45⟩ := h45
                    replace k2 := k2.up u45
                    replace k3 := k3.up u45
                    replace k4 := k4.up u45
                    replace k12 := k12.up u45
                    replace k43 := k43.up u45
                    replace hX := hX.up u45
                    replace U := U.tr u45
                    replace V33 := V33.tr u45
                    refine ⟨.inr (SU.tr u45), ?_⟩
                    replace SU := SU.tr u45
                    refine t_step (by exact rfl) (y_moveV (et g0 rfl)) ?_
                    refine t_step (by exact rfl) (y_ext (et g0 rfl) rfl) ?_
                    refine t_step (by exact rfl) (y_ext (et (gS rfl g0) rfl) rfl) ?_
                    refine t_one ?_
                    refine t_effN (by exact rfl) (e_store sz_65 (et (gS rfl (gS rfl (gS rfl (gS rfl (gS rfl g0))))) rfl) (cellsV (et (gS rfl g0) rfl) rfl) rfl (by exact one_uL _) k43 (by (first | (rw [hz43]; exact Nat.le_refl _) | (rw [List.size_toArray, wL_len]; exact Nat.le_refl _)))) (fun v46 w46 h46 => ?_)
                    obtain ⟨rfl, x46⟩ := h46
                    replace k2 := k2.ch x46.ch (by omega)
                    replace k3 := k3.ch x46.ch (by omega)
                    replace k4 := k4.ch x46.ch (by omega)
                    replace k12 := k12.ch x46.ch (by omega)
                    replace hX := hX.ch x46.ch (by first | omega | (intro b hb; first | (subst hb; exact ⟨by omega, fun hh => by have := hfz.lt hh; omega, by omega⟩) | (rcases hb with hb | hb <;> (subst hb; exact ⟨by omega, fun hh => by have := hfz.lt hh; omega, by omega⟩))))
                    replace k43 := x46.blk.full (by first | (rw [hz43]; rfl) | (rw [List.size_toArray, wL_len, wL_len]))
                    replace U := U.st x46 (.inr f43)
                    replace V33 := V33.st x46 (by omega)
                    refine ⟨.inr (SU.st x46 (by omega)), ?_⟩
                    replace SU := SU.st x46 (by omega)
                    refine t_step (by exact rfl) (y_assignV (et g0 rfl)) ?_
                    refine tl4 0 6 11 12 (gS rfl (gS rfl (gS rfl (gS rfl (gS rfl (gS rfl (gS rfl (gS rfl (gS rfl (gS rfl (gS rfl (gS rfl (gS rfl (gS rfl (gS rfl g0))))))))))))))) (gS rfl (gS rfl (gS rfl (gS rfl (gS rfl (gS rfl (gS rfl (gS rfl (gS rfl (gS rfl (gS rfl (gS rfl (gS rfl (gS rfl g0)))))))))))))) (gS rfl (gS rfl (gS rfl (gS rfl (gS rfl (gS rfl g0)))))) g0 (fun g => ?_)
                    exact ⟨g, _, rfl, V33, Nat.le_trans hu.size fS43, k43⟩
                intro s_ w47 hJ
                obtain ⟨g, b34, rfl, V33, fn34, kn34⟩ := hJ
                subst e0 e6 e7
                have d2_34 : b2 < b34 := Nat.lt_of_lt_of_le k2.lt fn34
                have d3_34 : b3 < b34 := Nat.lt_of_lt_of_le k3.lt fn34
                have d4_34 : b4 < b34 := Nat.lt_of_lt_of_le k4.lt fn34
                have d12_34 : b12 < b34 := Nat.lt_of_lt_of_le k12.lt fn34
                have f34 : w.heap.size ≤ b34 := Nat.le_trans U.size fn34
                replace k2 := k2.up V33
                replace k3 := k3.up V33
                replace k4 := k4.up V33
                replace k12 := k12.up V33
                replace hX := hX.up V33
                replace U := U.tr V33
                have k34 := kn34
                have nc34 := hnw1 b34 fn34
                refine hK32 _ _ ?_
                refine c_seq (fun K48 hK48 => ?_)
                exact (by
                  refine c_draw (SX _ bc) 12 [(0, true), (1, true), (2, true), (3, true), (4, true), (5, true), (6, true), (7, true), (8, true), (9, false), (10, true), (11, true)] (by kernel_rfl) (fun w49 hu => ⟨SX.refl (hX.up hu), ?_⟩)
                  replace k2 := k2.up hu
                  replace k3 := k3.up hu
                  replace k4 := k4.up hu
                  replace k12 := k12.up hu
                  replace k34 := k34.up hu
                  replace hX := hX.up hu
                  replace U := U.tr hu
                  have SU := SX.refl hX
                  have cq := cq_refl hX
                  have hX_s := hX
                  have k2_s := k2
                  have k3_s := k3
                  have k4_s := k4
                  have k12_s := k12
                  have k34_s := k34
                  refine p_step (by exact rfl) (y_moveV (et g0 rfl)) ?_
                  refine p_step (by exact rfl) (y_not (et g0 rfl)) ?_
                  refine p_step (by exact rfl) (y_moveV (et g0 rfl)) ?_
                  refine gsplitP (i := 50) g0 (fun q50 => ?_) (fun q50 => ?_)
                  · skip
                    refine p_gstep (j := 2) (t := 50) (by exact rfl) (by exact rfl) (by exact rfl) (et g0 rfl) rfl (y_moveV (et (gS rfl (gS rfl (gS rfl (gS rfl (gS rfl (gS rfl (gS rfl g0))))))) rfl)) ?_
                    refine p_gstep (j := 2) (t := 50) (by exact rfl) (by exact rfl) (by exact rfl) (et (gS rfl g0) rfl) rfl (y_nil (et g0 rfl)) ?_
                    refine p_gstep (j := 2) (t := 50) (by exact rfl) (by exact rfl) (by exact rfl) (et (gS rfl (gS rfl g0)) rfl) rfl (y_fld fld_75_0 (et g0 rfl)) ?_
                    refine p_gstep (j := 2) (t := 50) (by exact rfl) (by exact rfl) (by exact rfl) (et (gS rfl (gS rfl (gS rfl g0))) rfl) rfl (y_load1 one_59 (et g0 rfl) (atXP)) ?_
                    refine p_gstep (j := 2) (t := 50) (by exact rfl) (by exact rfl) (by exact rfl) (et (gS rfl (gS rfl (gS rfl (gS rfl g0)))) rfl) rfl (y_loadB agg_25 sz_25 (et (gS rfl (gS rfl (gS rfl (gS rfl (gS rfl (gS rfl (gS rfl (gS rfl (gS rfl (gS rfl g0)))))))))) rfl) (by rw [List.size_toArray, length_bL, length_be]) (atXB k3_s (by omega))) ?_
                    refine p_gstep (j := 2) (t := 50) (by exact rfl) (by exact rfl) (by exact rfl) (et (gS rfl (gS rfl (gS rfl (gS rfl (gS rfl g0))))) rfl) rfl (y_loadB agg_65 sz_65 (et (gS rfl (gS rfl (gS rfl (gS rfl (gS rfl (gS rfl (gS rfl (gS rfl (gS rfl (gS rfl g0)))))))))) rfl) rfl (atXB k34_s (by omega))) ?_
                    refine p_geff (j := 2) (t := 50) (by exact rfl) (by exact rfl) (by exact rfl) (et (gS rfl (gS rfl (gS rfl (gS rfl (gS rfl (gS rfl g0)))))) rfl) rfl (e_callV cal_97 (aC (et (gS rfl (gS rfl g0)) rfl) (aC (et (gS rfl g0) rfl) (aC (et g0 rfl) aN))) (v_putBalance hX.ex.vl hX.ex.ok b hb ((acctAt s1.now.accts b).bal + v9) (by rw [hac]; exact hov v0) 0 (.inl ⟨hbh, rfl⟩) hro1.j)) (fun v51 w51 h51 => ?_)
                    obtain ⟨rfl, cl51, cs51, V51, t51, ok51, js51⟩ := h51
                    have nc2 := (t51.col b2 k2.lt).trans nc2
                    have nc3 := (t51.col b3 k3.lt).trans nc3
                    have nc4 := (t51.col b4 k4.lt).trans nc4
                    have nc12 := (t51.col b12 k12.lt).trans nc12
                    have nc34 := (t51.col b34 k34.lt).trans nc34
                    replace k2 := k2.ch t51.go.ch (by intro hm; (have e0 := hm); omega)
                    replace k3 := k3.ch t51.go.ch (by intro hm; (have e0 := hm); omega)
                    replace k4 := k4.ch t51.go.ch (by intro hm; (have e0 := hm); omega)
                    replace k12 := k12.ch t51.go.ch (by intro hm; (have e0 := hm); omega)
                    replace k34 := k34.ch t51.go.ch (by intro hm; (have e0 := hm); omega)
                    replace hX := hX.vt0 t51 ok51 js51 (ay_bal s1.now b ((acctAt s1.now.accts b).bal + v9)) (fun _ => rfl) (c' := c') (by omega)
                    replace U := U.cc t51.go.ch (by intro b hb; exact .inl trivial)
                    have cq9 := SU.ch.size
                    replace SU := SU.xc t51.go.ch (hX.ex.vl.c1 hX.ex.lx.pS rfl) (by intro b hlt hb; have h9 := cq b hlt; have e0 := hb; first | omega | (dsimp only at e0; omega))
                    replace cq := cq_step cq t51.col cq9
                    refine ⟨.inr SU, ?_⟩
                    refine p_step (by exact rfl) (y_pickT (et (gS rfl (gS rfl (gS rfl (gS rfl (gS rfl (gS rfl (gS rfl g0))))))) rfl) (et g0 rfl)) ?_
                    refine p_step (by exact rfl) (y_assignV (et g0 rfl)) ?_
                    refine p_nil ?_
                    refine hK48 _ _ ?_
                    refine fg1 8 g0 (fun g => ?_)
                    refine c_ret ?_
                    repeat with_reducible refine then_ret ?_
                    refine ret1 rfl (res_tmp (et g0 rfl)) ?_
                    have e9 : ({ s1 with now := { s1.now with accts := putA s1.now.accts (setBal (acctAt s1.now.accts b) ((acctAt s1.now.accts b).bal + v9)) } } : YSt) = { s with now := { s.now with accts := moveA s.now.accts a b v9 } } := by
                      rw [show moveA s.now.accts a b v9 = giveB (takeB s.now.accts a v9) b v9 from if_neg (by omega), hs1]
                      rfl
                    rw [e9] at hX
                    exact ⟨rfl, _, _, _, hX⟩
                  · skip
                    cases q50))))))
end Go.Proofs.YgvaawGreat
