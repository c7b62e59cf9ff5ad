import Derived.Test.YgvaawGreatN5
set_option maxRecDepth 100000
set_option maxHeartbeats 4000000
set_option linter.unusedSimpArgs false
set_option linter.unusedVariables false
namespace Go.Proofs.YgvaawGreat
open Go
theorem add_stepN {VP VA VB C W x ai bi C' : Nat} (e1 : VP + C * W = VA + VB) (e2 : x + 256 * C' = C + ai + bi) : (VP + W * x) + C' * (W * 256) = (VA + W * ai) + (VB + W * bi) := by
  have h : W * (x + 256 * C') = W * (C + ai + bi) := by rw [e2]
  rw [Nat.mul_add, Nat.mul_add, Nat.mul_add] at h
  rw [show C' * (W * 256) = W * (256 * C') by grind, show C * W = W * C by grind] at *
  omega
theorem add_inv {P A B : List Nat} {C x ai bi C' : Nat} (e1 : val 256 P + C * 256 ^ P.length = val 256 (A.take P.length) + val 256 (B.take P.length)) (e2 : x + 256 * C' = C + ai + bi)
    (ha : val 256 (A.take (P.length + 1)) = val 256 (A.take P.length) + 256 ^ P.length * ai) (hb : val 256 (B.take (P.length + 1)) = val 256 (B.take P.length) + 256 ^ P.length * bi) :
    val 256 (P ++ [x]) + C' * 256 ^ (P ++ [x]).length = val 256 (A.take (P ++ [x]).length) + val 256 (B.take (P ++ [x]).length) := by
  rw [List.length_append, List.length_singleton, val_snoc, ha, hb, Nat.pow_succ]
  exact add_stepN e1 e2
theorem add_raw (s0 c : Nat) (a : Option Addr) (l : List Nat) (w : World) (hW : WV s0 w (.slice a l.length c) l) (hs0 : s0 ≤ w.heap.size) (hc : l.length ≤ c) (h48 : l.length < 281474976710656) (s1 c1 : Nat) (a1 : Option Addr) (l1 : List Nat) (hX : WV s1 w (.slice a1 l1.length c1) l1) (hs1 : s1 ≤ w.heap.size) (hc1 : l1.length ≤ c1) (h481 : l1.length < 281474976710656) :
    Ret 34 [.slice a l.length c, .slice a1 l1.length c1] w (fun v w' => ∃ l', Up w w' ∧ FB w w' v l' ∧ val 256 l' = val 256 l + val 256 l1 ∧ Tr l') := by
  refine enter (n := 62) Hvaa.func34 rfl rfl (Nat.le_of_ble_eq_true rfl) ?_
  have U := Up.refl w
  refine c_seq (fun K1 hK1 => ?_)
  refine c_region ?_
  refine l_step y_assignC ?_
  refine l_nil ?_
  refine hK1 _ _ ?_
  refine fg2 1 0 (gS rfl (gS rfl g0)) (gS rfl g0) (fun g => ?_)
  refine c_seq (fun K2 hK2 => ?_)
  refine c_region ?_
  refine l_step (y_moveV (et g0 rfl)) ?_
  refine l_eff (e_callV cal_88 (aC (et g0 rfl) aN) (trim_spec _ _ _ l _ hW (by omega) (by omega))) (fun v3 w3 h3 => ?_)
  obtain ⟨k, hk, rfl, hT, hv, u3⟩ := h3
  replace hW := hW.up u3
  replace hX := hX.up u3
  replace U := U.tr u3
  have hW2 := hW.take hk
  have hlk : (l.take k).length = k := by simp; omega
  refine l_step (y_assignV (et g0 rfl)) ?_
  refine l_nil ?_
  refine hK2 _ _ ?_
  refine fg2 1 0 (gS rfl (gS rfl (gS rfl (gS rfl g0)))) g0 (fun g => ?_)
  refine c_seq (fun K4 hK4 => ?_)
  refine c_region ?_
  refine l_step (y_moveV (et (gS rfl g0) rfl)) ?_
  refine l_eff (e_callV cal_88 (aC (et g0 rfl) aN) (trim_spec _ _ _ l1 _ hX (by omega) (by omega))) (fun v5 w5 h5 => ?_)
  obtain ⟨j, hj, rfl, hT1, hv1, u5⟩ := h5
  replace hW := hW.up u5
  replace hX := hX.up u5
  replace hW2 := hW2.up u5
  replace U := U.tr u5
  have hX2 := hX.take hj
  have hlj : (l1.take j).length = j := by simp; omega
  obtain ⟨m, hm⟩ : ∃ m, m = l.take k := ⟨_, rfl⟩
  obtain ⟨p, hp⟩ : ∃ p, p = l1.take j := ⟨_, rfl⟩
  rw [← hm] at hW2 hT hv hlk
  rw [← hp] at hX2 hT1 hv1 hlj
  refine l_step (y_assignV (et g0 rfl)) ?_
  refine l_nil ?_
  refine hK4 _ _ ?_
  refine fg2 1 0 g0 (gS rfl (gS rfl (gS rfl g0))) (fun g => ?_)
  refine c_seq (fun K6 hK6 => ?_)
  refine c_seq (fun K7 hK7 => ?_)
  refine c_region ?_
  refine l_step (y_moveV (et g0 rfl)) ?_
  refine l_step (y_len Hvaa.underlying95 (et g0 rfl)) ?_
  refine l_step (y_moveV (et (gS rfl (gS rfl (gS rfl g0))) rfl)) ?_
  refine l_step (y_len Hvaa.underlying95 (et g0 rfl)) ?_
  refine l_step (y_lss (et (gS rfl (gS rfl g0)) rfl) (et g0 rfl)) ?_
  refine l_nil ?_
  refine hK7 _ _ ?_
  refine fg3 1 0 17 (gS rfl (gS rfl (gS rfl (gS rfl (gS rfl (gS rfl g0)))))) (gS rfl (gS rfl (gS rfl (gS rfl (gS rfl g0))))) g0 (fun g => ?_)
  refine c_cond (et g0 rfl) (fun cB1 => ?_) (fun cB1 => ?_)
  · skip
    simp only [decide_eq_true_eq, decide_eq_false_iff_not, Int.not_lt, Int.not_le, Bool.not_eq_true', Bool.not_eq_false', Bool.not_eq_eq_eq_not, Bool.not_true, Bool.not_false] at cB1
    refine c_region ?_
    refine l_step (y_moveV (et (gS rfl (gS rfl g0)) rfl)) ?_
    refine l_step (y_moveV (et (gS rfl (gS rfl g0)) rfl)) ?_
    refine l_step (y_assignV (et (gS rfl g0) rfl)) ?_
    refine l_step (y_assignV (et (gS rfl g0) rfl)) ?_
    refine l_nil ?_
    refine hK6 _ _ ?_
    refine fg2 1 0 g0 (gS rfl g0) (fun g => ?_)
    refine c_seq (fun K9 hK9 => ?_)
    refine c_region ?_
    refine l_step (y_moveV (et g0 rfl)) ?_
    refine l_step (y_len Hvaa.underlying95 (et g0 rfl)) ?_
    refine l_step (y_add (et g0 rfl) rfl (addIN (y := 1) ?_)) ?_
    omega
    refine l_eff (e_make Hvaa.underlying95 sz_5 zr_5 by_5 (et g0 rfl) (et g0 rfl) (by omega) (by omega)) (fun v10 w10 h10 => ?_)
    obtain ⟨b10, rfl, n10⟩ := h10
    have f10 : w.heap.size ≤ b10 := Nat.le_trans U.size n10.fresh
    replace hW := hW.up n10.up
    replace hX := hX.up n10.up
    replace hW2 := hW2.up n10.up
    replace hX2 := hX2.up n10.up
    replace U := U.tr n10.up
    have k10 := mzB n10.blk
    refine l_step (y_assignV (et g0 rfl)) ?_
    refine l_nil ?_
    refine hK9 _ _ ?_
    refine fg3 1 0 5 (gS rfl (gS rfl (gS rfl (gS rfl (gS rfl (gS rfl g0)))))) (gS rfl (gS rfl (gS rfl (gS rfl (gS rfl g0))))) g0 (fun g => ?_)
    refine c_seq (fun K11 hK11 => ?_)
    refine c_region ?_
    refine l_step y_assignC ?_
    refine l_nil ?_
    refine hK11 _ _ ?_
    refine c_seq (fun K12 hK12 => ?_)
    refine c_seq (fun K13 hK13 => ?_)
    refine c_region ?_
    refine l_step (y_moveV (et (gS rfl (gS rfl g0)) rfl)) ?_
    refine l_step (y_len Hvaa.underlying95 (et g0 rfl)) ?_
    refine l_step y_moveC ?_
    refine l_nil ?_
    refine hK13 _ _ ?_
    refine c_block (fun Q14 hQ14 => ?_)
    refine fg7 0 1 5 6 24 25 26 (gS rfl (gS rfl (gS rfl (gS rfl (gS rfl g0))))) (gS rfl (gS rfl (gS rfl (gS rfl (gS rfl (gS rfl g0)))))) (gS rfl (gS rfl (gS rfl (gS rfl g0)))) (gS rfl (gS rfl (gS rfl g0))) (gS rfl (gS rfl g0)) (gS rfl g0) g0 (fun g => ?_)
    replace k10 : Blk w10 b10 (bL ([] ++ List.replicate (j + 1) 0)).toArray := k10
    refine c_loop (fun k_ s_ W15 => ∃ (g : Nat → Value) (P : List Nat) (C r : Nat), s_ = (upd (upd (upd (upd (upd (upd (upd g 0 (.slice a1 j j)) 1 (.slice a k k)) 5 (.slice (some ⟨b10, 0, none⟩) (j + 1) (j + 1))) 6 (.int .u16 (C : Nat))) 24 (.slice a1 j j)) 25 (.int .i64 (j : Nat))) 26 (.int .i64 (P.length : Nat))) ∧ r = k_ ∧ (P.length + r = j + 1) ∧ (Dig 256 P) ∧ (C ≤ 1) ∧ (val 256 P + C * 256 ^ P.length = val 256 (p.take P.length) + val 256 (m.take P.length)) ∧ (1 ≤ r) ∧ Blk W15 b10 ((bL (P ++ List.replicate r 0)).toArray) ∧ Ch (fun k => k = b10) w10 W15) (((j + 1))) ?_ ?_
    · exact ⟨g, ([] : List Nat), 0, (j + 1), rfl, rfl, by simp, Dig.nil _, by decide, by simp [val], by omega, k10, Ch.refl _ _⟩
    · skip
      intro k_ s_ W15 hI K15 hK15
      obtain ⟨g, P, C, r, rfl, rfl, hPr, hPd, hC, hval, hr1, nk10, V15⟩ := hI
      replace hW := hW.ch V15 (by first | omega | (intro q hq; omega))
      replace hX := hX.ch V15 (by first | omega | (intro q hq; omega))
      replace hW2 := hW2.ch V15 (by first | omega | (intro q hq; omega))
      replace hX2 := hX2.ch V15 (by first | omega | (intro q hq; omega))
      replace k10 := nk10
      replace U := U.cc V15 (by intro b hb; first | exact hb.elim | omega | (simp at hb ⊢; omega))
      refine c_seq (fun K16 hK16 => ?_)
      refine c_region ?_
      refine l_step (y_lss (et g0 rfl) (et (gS rfl g0) rfl)) ?_
      refine l_nil ?_
      refine hK16 _ _ ?_
      refine c_seq (fun K17 hK17 => ?_)
      refine c_cond (et g0 rfl) (fun cB2 => ?_) (fun cB2 => ?_)
      · skip
        simp only [decide_eq_true_eq, decide_eq_false_iff_not, Int.not_lt, Int.not_le, Bool.not_eq_true', Bool.not_eq_false', Bool.not_eq_eq_eq_not, Bool.not_true, Bool.not_false] at cB2
        obtain ⟨r', rfl, hrr⟩ := rep_succ r P (by omega)
        rw [hrr] at k10
        refine c_skip ?_
        refine hK17 _ _ ?_
        refine fg7 0 1 5 6 24 25 26 (gS rfl (gS rfl (gS rfl (gS rfl (gS rfl (gS rfl (gS rfl g0))))))) (gS rfl (gS rfl (gS rfl (gS rfl (gS rfl (gS rfl g0)))))) (gS rfl (gS rfl (gS rfl (gS rfl (gS rfl g0))))) (gS rfl (gS rfl (gS rfl (gS rfl g0)))) (gS rfl (gS rfl (gS rfl g0))) (gS rfl (gS rfl g0)) (gS rfl g0) (fun g => ?_)
        refine c_seq (fun K19 hK19 => ?_)
        refine c_block (fun Q20 hQ20 => ?_)
        refine c_seq (fun K21 hK21 => ?_)
        refine c_region ?_
        refine l_step (y_moveV (et g0 rfl)) ?_
        have hqxx : WV s1 W15 (.slice a1 p.length j) p := by rw [hlj]; exact hX2
        obtain ⟨bxx, oxx, haxx, hbxx, hrxx⟩ := hqxx.at (by omega)
        have hAd := hqxx.dig _ (List.getElem_mem (l := p) (n := P.length) (by omega))
        refine l_step (y_idxSa haxx Hvaa.underlying95 sz_5 (et (gS rfl (gS rfl (gS rfl g0))) rfl) (et (gS rfl g0) rfl) ?_) ?_
        omega
        refine l_step (y_load1 one_5 (et g0 rfl) (at1 (row_byte hrxx (by omega)))) ?_
        refine l_step (y_assignV (et (gS rfl (gS rfl g0)) rfl)) ?_
        refine l_step (y_assignV (et (gS rfl g0) rfl)) ?_
        refine l_nil ?_
        refine hK21 _ _ ?_
        refine fg9 0 1 5 6 24 25 26 7 8 (gS rfl (gS rfl (gS rfl (gS rfl (gS rfl (gS rfl (gS rfl (gS rfl (gS rfl (gS rfl (gS rfl g0))))))))))) (gS rfl (gS rfl (gS rfl (gS rfl (gS rfl (gS rfl (gS rfl (gS rfl (gS rfl (gS rfl g0)))))))))) (gS rfl (gS rfl (gS rfl (gS rfl (gS rfl (gS rfl (gS rfl (gS rfl (gS rfl g0))))))))) (gS rfl (gS rfl (gS rfl (gS rfl (gS rfl (gS rfl (gS rfl (gS rfl g0)))))))) (gS rfl (gS rfl (gS rfl (gS rfl (gS rfl (gS rfl (gS rfl g0))))))) (gS rfl (gS rfl (gS rfl (gS rfl (gS rfl (gS rfl g0)))))) (gS rfl (gS rfl (gS rfl (gS rfl (gS rfl g0))))) (gS rfl g0) g0 (fun g => ?_)
        refine c_seq (fun K22 hK22 => ?_)
        refine c_region ?_
        refine l_step (y_moveV (et (gS rfl (gS rfl (gS rfl (gS rfl (gS rfl g0))))) rfl)) ?_
        refine l_step (y_moveV (et (gS rfl g0) rfl)) ?_
        refine l_step (y_conv Hvaa.underlying5 Hvaa.underlying67 (et g0 rfl) (wrapU_id uk16 ?_)) ?_
        omega
        refine l_step (y_add (et (gS rfl (gS rfl g0)) rfl) (et g0 rfl) (wrapU_addN uk16 ?_)) ?_
        omega
        refine l_step (y_assignV (et g0 rfl)) ?_
        refine l_nil ?_
        refine hK22 _ _ ?_
        refine fg8 0 1 5 6 24 25 26 7 (gS rfl (gS rfl (gS rfl (gS rfl (gS rfl (gS rfl (gS rfl (gS rfl (gS rfl (gS rfl (gS rfl (gS rfl (gS rfl g0))))))))))))) (gS rfl (gS rfl (gS rfl (gS rfl (gS rfl (gS rfl (gS rfl (gS rfl (gS rfl (gS rfl (gS rfl (gS rfl g0)))))))))))) (gS rfl (gS rfl (gS rfl (gS rfl (gS rfl (gS rfl (gS rfl (gS rfl (gS rfl (gS rfl (gS rfl g0))))))))))) g0 (gS rfl (gS rfl (gS rfl (gS rfl (gS rfl (gS rfl (gS rfl (gS rfl (gS rfl g0))))))))) (gS rfl (gS rfl (gS rfl (gS rfl (gS rfl (gS rfl (gS rfl (gS rfl g0)))))))) (gS rfl (gS rfl (gS rfl (gS rfl (gS rfl (gS rfl (gS rfl g0))))))) (gS rfl (gS rfl (gS rfl (gS rfl (gS rfl (gS rfl g0)))))) (fun g => ?_)
        refine c_seq (fun K23 hK23 => ?_)
        refine c_seq (fun K24 hK24 => ?_)
        refine c_region ?_
        refine l_step (y_moveV (et g0 rfl)) ?_
        refine l_step (y_moveV (et (gS rfl (gS rfl (gS rfl (gS rfl (gS rfl (gS rfl (gS rfl g0))))))) rfl)) ?_
        refine l_step (y_len Hvaa.underlying95 (et g0 rfl)) ?_
        refine l_step (y_lss (et (gS rfl (gS rfl g0)) rfl) (et g0 rfl)) ?_
        refine l_nil ?_
        refine hK24 _ _ ?_
        refine fg9 0 1 5 6 24 25 26 7 38 (gS rfl (gS rfl (gS rfl (gS rfl (gS rfl (gS rfl (gS rfl (gS rfl (gS rfl (gS rfl (gS rfl g0))))))))))) (gS rfl (gS rfl (gS rfl (gS rfl (gS rfl (gS rfl (gS rfl (gS rfl (gS rfl (gS rfl g0)))))))))) (gS rfl (gS rfl (gS rfl (gS rfl (gS rfl (gS rfl (gS rfl (gS rfl (gS rfl g0))))))))) (gS rfl (gS rfl (gS rfl (gS rfl (gS rfl (gS rfl (gS rfl (gS rfl g0)))))))) (gS rfl (gS rfl (gS rfl (gS rfl (gS rfl (gS rfl (gS rfl g0))))))) (gS rfl (gS rfl (gS rfl (gS rfl (gS rfl (gS rfl g0)))))) (gS rfl (gS rfl (gS rfl (gS rfl (gS rfl g0))))) (gS rfl (gS rfl (gS rfl (gS rfl g0)))) g0 (fun g => ?_)
        refine c_cond (et g0 rfl) (fun cB3 => ?_) (fun cB3 => ?_)
        · skip
          simp only [decide_eq_true_eq, decide_eq_false_iff_not, Int.not_lt, Int.not_le, Bool.not_eq_true', Bool.not_eq_false', Bool.not_eq_eq_eq_not, Bool.not_true, Bool.not_false] at cB3
          refine c_region ?_
          refine l_step (y_moveV (et (gS rfl (gS rfl (gS rfl (gS rfl (gS rfl g0))))) rfl)) ?_
          refine l_step (y_moveV (et (gS rfl (gS rfl (gS rfl (gS rfl (gS rfl (gS rfl (gS rfl (gS rfl g0)))))))) rfl)) ?_
          refine l_step (y_moveV (et (gS rfl (gS rfl (gS rfl g0))) rfl)) ?_
          have hqyy : WV s0 W15 (.slice a m.length k) m := by rw [hlk]; exact hW2
          obtain ⟨byy, oyy, hayy, hbyy, hryy⟩ := hqyy.at (by omega)
          have hBd := hqyy.dig _ (List.getElem_mem (l := m) (n := P.length) (by omega))
          refine l_step (y_idxSa hayy Hvaa.underlying95 sz_5 (et (gS rfl g0) rfl) (et g0 rfl) ?_) ?_
          omega
          refine l_step (y_load1 one_5 (et g0 rfl) (at1 (row_byte hryy (by omega)))) ?_
          refine l_step (y_conv Hvaa.underlying5 Hvaa.underlying67 (et g0 rfl) (wrapU_id uk16 ?_)) ?_
          omega
          refine l_step (y_add (et (gS rfl (gS rfl (gS rfl (gS rfl (gS rfl g0))))) rfl) (et g0 rfl) (wrapU_addN uk16 ?_)) ?_
          omega
          refine l_step (y_assignV (et g0 rfl)) ?_
          refine l_nil ?_
          refine hK23 _ _ ?_
          refine fg8 0 1 5 6 24 25 26 7 (gS rfl (gS rfl (gS rfl (gS rfl (gS rfl (gS rfl (gS rfl (gS rfl (gS rfl (gS rfl (gS rfl (gS rfl (gS rfl (gS rfl (gS rfl (gS rfl g0)))))))))))))))) (gS rfl (gS rfl (gS rfl (gS rfl (gS rfl (gS rfl (gS rfl (gS rfl (gS rfl (gS rfl (gS rfl (gS rfl (gS rfl (gS rfl (gS rfl g0))))))))))))))) (gS rfl (gS rfl (gS rfl (gS rfl (gS rfl (gS rfl (gS rfl (gS rfl (gS rfl (gS rfl (gS rfl (gS rfl (gS rfl (gS rfl g0)))))))))))))) g0 (gS rfl (gS rfl (gS rfl (gS rfl (gS rfl (gS rfl (gS rfl (gS rfl (gS rfl (gS rfl (gS rfl (gS rfl g0)))))))))))) (gS rfl (gS rfl (gS rfl (gS rfl (gS rfl (gS rfl (gS rfl (gS rfl (gS rfl (gS rfl (gS rfl g0))))))))))) (gS rfl (gS rfl (gS rfl (gS rfl (gS rfl (gS rfl (gS rfl (gS rfl (gS rfl (gS rfl g0)))))))))) (gS rfl (gS rfl (gS rfl (gS rfl (gS rfl (gS rfl (gS rfl (gS rfl (gS rfl g0))))))))) (fun g => ?_)
          refine c_seq (fun K26 hK26 => ?_)
          refine c_region ?_
          refine l_step (y_moveV (et (gS rfl (gS rfl (gS rfl (gS rfl (gS rfl g0))))) rfl)) ?_
          refine l_step (y_moveV (et (gS rfl g0) rfl)) ?_
          refine l_step (y_moveV (et (gS rfl (gS rfl (gS rfl (gS rfl (gS rfl (gS rfl g0)))))) rfl)) ?_
          refine l_step (y_conv Hvaa.underlying67 Hvaa.underlying5 (et g0 rfl) (wrapU_nat uk8)) ?_
          refine l_step (y_idxSa rfl Hvaa.underlying95 sz_5 (et (gS rfl (gS rfl (gS rfl g0))) rfl) (et (gS rfl (gS rfl g0)) rfl) ?_) ?_
          omega
          refine l_effN (e_store sz_5 (et g0 rfl) (cellsV (et (gS rfl g0) rfl) rfl) rfl (by first | exact one_bL _ | exact one_uL _ | (intro v hv; simp at hv; subst hv; rfl)) k10 (by (simp only [List.size_toArray, length_bL, List.length_append, List.length_cons, List.length_replicate]; omega))) (fun v27 w27 h27 => ?_)
          obtain ⟨rfl, x27⟩ := h27
          replace hW := hW.ch x27.ch (by first | omega | first | omega | (intro q hq; omega))
          replace hX := hX.ch x27.ch (by first | omega | first | omega | (intro q hq; omega))
          replace k10 := x27.blk
          replace hW2 := hW2.wr x27 (by omega)
          replace hX2 := hX2.wr x27 (by omega)
          replace U := U.st x27 f10
          replace V15 := V15.st x27 (by omega)
          replace k10 := Blk.setB k10 (by omega)
          replace k10 : Blk w27 b10 (bL ((P ++ [(C + p[P.length] + m[P.length]) % 256]) ++ List.replicate r' 0)).toArray := by simpa using k10
          refine l_nil ?_
          refine hK26 _ _ ?_
          refine fg7 0 1 5 6 24 25 26 (gS rfl (gS rfl (gS rfl (gS rfl (gS rfl (gS rfl (gS rfl (gS rfl (gS rfl (gS rfl (gS rfl (gS rfl g0)))))))))))) (gS rfl (gS rfl (gS rfl (gS rfl (gS rfl (gS rfl (gS rfl (gS rfl (gS rfl (gS rfl (gS rfl g0))))))))))) (gS rfl (gS rfl (gS rfl (gS rfl (gS rfl (gS rfl (gS rfl (gS rfl (gS rfl (gS rfl g0)))))))))) (gS rfl (gS rfl (gS rfl (gS rfl (gS rfl (gS rfl (gS rfl (gS rfl (gS rfl g0))))))))) (gS rfl (gS rfl (gS rfl (gS rfl (gS rfl (gS rfl (gS rfl (gS rfl g0)))))))) (gS rfl (gS rfl (gS rfl (gS rfl (gS rfl (gS rfl (gS rfl g0))))))) (gS rfl (gS rfl (gS rfl (gS rfl (gS rfl (gS rfl g0)))))) (fun g => ?_)
          refine c_region ?_
          refine l_step (y_moveV (et (gS rfl (gS rfl (gS rfl g0))) rfl)) ?_
          refine l_step (y_shr (et g0 rfl) rfl (by decide) (shr16C 8 256 (by decide) rfl)) ?_
          refine l_step (y_assignV (et g0 rfl)) ?_
          refine l_nil ?_
          refine hQ20 _ _ _ (in_normal ?_)
          refine hK19 _ _ ?_
          refine fg7 0 1 5 6 24 25 26 (gS rfl (gS rfl (gS rfl (gS rfl (gS rfl (gS rfl (gS rfl (gS rfl (gS rfl g0))))))))) (gS rfl (gS rfl (gS rfl (gS rfl (gS rfl (gS rfl (gS rfl (gS rfl g0)))))))) (gS rfl (gS rfl (gS rfl (gS rfl (gS rfl (gS rfl (gS rfl g0))))))) g0 (gS rfl (gS rfl (gS rfl (gS rfl (gS rfl g0))))) (gS rfl (gS rfl (gS rfl (gS rfl g0)))) (gS rfl (gS rfl (gS rfl g0))) (fun g => ?_)
          refine c_region ?_
          refine l_step (y_add (et g0 rfl) rfl ((addIN (y := 1) ?_).trans (castE (show P.length + 1 = (P ++ [(C + p[P.length] + m[P.length]) % 256]).length by simp)))) ?_
          omega
          refine l_step (y_moveV (et g0 rfl)) ?_
          refine l_nil ?_
          refine fK7 0 1 5 6 24 25 26 (gS rfl (gS rfl (gS rfl (gS rfl (gS rfl (gS rfl (gS rfl (gS rfl g0)))))))) (gS rfl (gS rfl (gS rfl (gS rfl (gS rfl (gS rfl (gS rfl g0))))))) (gS rfl (gS rfl (gS rfl (gS rfl (gS rfl (gS rfl g0)))))) (gS rfl (gS rfl (gS rfl (gS rfl (gS rfl g0))))) (gS rfl (gS rfl (gS rfl (gS rfl g0)))) (gS rfl (gS rfl (gS rfl g0))) g0 (fun g => ?_)
          exact hK15 ((r')) _ _ (by omega) ⟨g, (P ++ [(C + p[P.length] + m[P.length]) % 256]), ((C + p[P.length] + m[P.length]) / 256), r', rfl, rfl, by simp; omega, hPd.app (Dig.one (Nat.mod_lt _ (by decide))), by omega, add_inv (ai := p[P.length]) (bi := m[P.length]) hval (by omega) (val_take_in (by omega)) (val_take_in (by omega)), by omega, k10, V15⟩
        · skip
          simp only [decide_eq_true_eq, decide_eq_false_iff_not, Int.not_lt, Int.not_le, Bool.not_eq_true', Bool.not_eq_false', Bool.not_eq_eq_eq_not, Bool.not_true, Bool.not_false] at cB3
          refine c_skip ?_
          refine hK23 _ _ ?_
          refine fg8 0 1 5 6 24 25 26 7 (gS rfl (gS rfl (gS rfl (gS rfl (gS rfl (gS rfl (gS rfl (gS rfl g0)))))))) (gS rfl (gS rfl (gS rfl (gS rfl (gS rfl (gS rfl (gS rfl g0))))))) (gS rfl (gS rfl (gS rfl (gS rfl (gS rfl (gS rfl g0)))))) (gS rfl (gS rfl (gS rfl (gS rfl (gS rfl g0))))) (gS rfl (gS rfl (gS rfl (gS rfl g0)))) (gS rfl (gS rfl (gS rfl g0))) (gS rfl (gS rfl g0)) (gS rfl g0) (fun g => ?_)
          refine c_seq (fun K28 hK28 => ?_)
          refine c_region ?_
          refine l_step (y_moveV (et (gS rfl (gS rfl (gS rfl (gS rfl (gS rfl g0))))) rfl)) ?_
          refine l_step (y_moveV (et (gS rfl g0) rfl)) ?_
          refine l_step (y_moveV (et (gS rfl (gS rfl (gS rfl (gS rfl (gS rfl (gS rfl g0)))))) rfl)) ?_
          refine l_step (y_conv Hvaa.underlying67 Hvaa.underlying5 (et g0 rfl) (wrapU_nat uk8)) ?_
          refine l_step (y_idxSa rfl Hvaa.underlying95 sz_5 (et (gS rfl (gS rfl (gS rfl g0))) rfl) (et (gS rfl (gS rfl g0)) rfl) ?_) ?_
          omega
          refine l_effN (e_store sz_5 (et g0 rfl) (cellsV (et (gS rfl g0) rfl) rfl) rfl (by first | exact one_bL _ | exact one_uL _ | (intro v hv; simp at hv; subst hv; rfl)) k10 (by (simp only [List.size_toArray, length_bL, List.length_append, List.length_cons, List.length_replicate]; omega))) (fun v29 w29 h29 => ?_)
          obtain ⟨rfl, x29⟩ := h29
          replace hW := hW.ch x29.ch (by first | omega | first | omega | (intro q hq; omega))
          replace hX := hX.ch x29.ch (by first | omega | first | omega | (intro q hq; omega))
          replace k10 := x29.blk
          replace hW2 := hW2.wr x29 (by omega)
          replace hX2 := hX2.wr x29 (by omega)
          replace U := U.st x29 f10
          replace V15 := V15.st x29 (by omega)
          replace k10 := Blk.setB k10 (by omega)
          replace k10 : Blk w29 b10 (bL ((P ++ [(C + p[P.length]) % 256]) ++ List.replicate r' 0)).toArray := by simpa using k10
          refine l_nil ?_
          refine hK28 _ _ ?_
          refine fg7 0 1 5 6 24 25 26 (gS rfl (gS rfl (gS rfl (gS rfl (gS rfl (gS rfl (gS rfl (gS rfl (gS rfl (gS rfl (gS rfl (gS rfl g0)))))))))))) (gS rfl (gS rfl (gS rfl (gS rfl (gS rfl (gS rfl (gS rfl (gS rfl (gS rfl (gS rfl (gS rfl g0))))))))))) (gS rfl (gS rfl (gS rfl (gS rfl (gS rfl (gS rfl (gS rfl (gS rfl (gS rfl (gS rfl g0)))))))))) (gS rfl (gS rfl (gS rfl (gS rfl (gS rfl (gS rfl (gS rfl (gS rfl (gS rfl g0))))))))) (gS rfl (gS rfl (gS rfl (gS rfl (gS rfl (gS rfl (gS rfl (gS rfl g0)))))))) (gS rfl (gS rfl (gS rfl (gS rfl (gS rfl (gS rfl (gS rfl g0))))))) (gS rfl (gS rfl (gS rfl (gS rfl (gS rfl (gS rfl g0)))))) (fun g => ?_)
          refine c_region ?_
          refine l_step (y_moveV (et (gS rfl (gS rfl (gS rfl g0))) rfl)) ?_
          refine l_step (y_shr (et g0 rfl) rfl (by decide) (shr16C 8 256 (by decide) rfl)) ?_
          refine l_step (y_assignV (et g0 rfl)) ?_
          refine l_nil ?_
          refine hQ20 _ _ _ (in_normal ?_)
          refine hK19 _ _ ?_
          refine fg7 0 1 5 6 24 25 26 (gS rfl (gS rfl (gS rfl (gS rfl (gS rfl (gS rfl (gS rfl (gS rfl (gS rfl g0))))))))) (gS rfl (gS rfl (gS rfl (gS rfl (gS rfl (gS rfl (gS rfl (gS rfl g0)))))))) (gS rfl (gS rfl (gS rfl (gS rfl (gS rfl (gS rfl (gS rfl g0))))))) g0 (gS rfl (gS rfl (gS rfl (gS rfl (gS rfl g0))))) (gS rfl (gS rfl (gS rfl (gS rfl g0)))) (gS rfl (gS rfl (gS rfl g0))) (fun g => ?_)
          refine c_region ?_
          refine l_step (y_add (et g0 rfl) rfl ((addIN (y := 1) ?_).trans (castE (show P.length + 1 = (P ++ [(C + p[P.length]) % 256]).length by simp)))) ?_
          omega
          refine l_step (y_moveV (et g0 rfl)) ?_
          refine l_nil ?_
          refine fK7 0 1 5 6 24 25 26 (gS rfl (gS rfl (gS rfl (gS rfl (gS rfl (gS rfl (gS rfl (gS rfl g0)))))))) (gS rfl (gS rfl (gS rfl (gS rfl (gS rfl (gS rfl (gS rfl g0))))))) (gS rfl (gS rfl (gS rfl (gS rfl (gS rfl (gS rfl g0)))))) (gS rfl (gS rfl (gS rfl (gS rfl (gS rfl g0))))) (gS rfl (gS rfl (gS rfl (gS rfl g0)))) (gS rfl (gS rfl (gS rfl g0))) g0 (fun g => ?_)
          exact hK15 ((r')) _ _ (by omega) ⟨g, (P ++ [(C + p[P.length]) % 256]), ((C + p[P.length]) / 256), r', rfl, rfl, by simp; omega, hPd.app (Dig.one (Nat.mod_lt _ (by decide))), by omega, add_inv (ai := p[P.length]) (bi := 0) hval (by omega) (val_take_in (by omega)) (val_take_out (by omega)), by omega, k10, V15⟩
      · skip
        simp only [decide_eq_true_eq, decide_eq_false_iff_not, Int.not_lt, Int.not_le, Bool.not_eq_true', Bool.not_eq_false', Bool.not_eq_eq_eq_not, Bool.not_true, Bool.not_false] at cB2
        have hr0 : r = 1 := by omega
        subst hr0
        refine c_exit ?_
        refine hQ14 _ _ _ (in_exit ?_)
        refine hK12 _ _ ?_
        refine fg3 0 5 6 (gS rfl (gS rfl (gS rfl (gS rfl (gS rfl (gS rfl (gS rfl g0))))))) (gS rfl (gS rfl (gS rfl (gS rfl (gS rfl g0))))) (gS rfl (gS rfl (gS rfl (gS rfl g0)))) (fun g => ?_)
        refine c_seq (fun K30 hK30 => ?_)
        refine c_region ?_
        refine l_step (y_moveV (et (gS rfl g0) rfl)) ?_
        refine l_step (y_moveV (et (gS rfl (gS rfl (gS rfl g0))) rfl)) ?_
        refine l_step (y_len Hvaa.underlying95 (et g0 rfl)) ?_
        refine l_step (y_moveV (et (gS rfl (gS rfl (gS rfl g0))) rfl)) ?_
        refine l_step (y_conv Hvaa.underlying67 Hvaa.underlying5 (et g0 rfl) ((wrapU_nat uk8).trans (castE (show C % 256 = C by omega)))) ?_
        refine l_step (y_idxSa rfl Hvaa.underlying95 sz_5 (et (gS rfl (gS rfl (gS rfl (gS rfl g0)))) rfl) (et (gS rfl (gS rfl g0)) rfl) ?_) ?_
        omega
        refine l_effN (e_store sz_5 (et g0 rfl) (cellsV (et (gS rfl g0) rfl) rfl) rfl (by first | exact one_bL _ | exact one_uL _ | (intro v hv; simp at hv; subst hv; rfl)) k10 (by (simp only [List.size_toArray, length_bL, List.length_append, List.length_cons, List.length_replicate]; omega))) (fun v31 w31 h31 => ?_)
        obtain ⟨rfl, x31⟩ := h31
        replace hW := hW.ch x31.ch (by first | omega | first | omega | (intro q hq; omega))
        replace hX := hX.ch x31.ch (by first | omega | first | omega | (intro q hq; omega))
        replace k10 := x31.blk
        replace hW2 := hW2.wr x31 (by omega)
        replace hX2 := hX2.wr x31 (by omega)
        replace U := U.st x31 f10
        replace k10 := Blk.setB (A := P) (C := []) k10 (by omega)
        have hl5 : (P ++ [C]).length = j + 1 := by simp; omega
        have hd5 : Dig 256 (P ++ [C]) := hPd.app (Dig.one (by omega))
        have hsum : val 256 (P ++ [C]) = val 256 l + val 256 l1 := by
          rw [← hv, ← hv1, val_snoc]
          rw [List.take_of_length_le (by omega), List.take_of_length_le (by omega)] at hval
          rw [Nat.mul_comm]; omega
        refine l_nil ?_
        refine hK30 _ _ ?_
        refine fg1 5 (gS rfl (gS rfl (gS rfl (gS rfl (gS rfl (gS rfl (gS rfl g0))))))) (fun g => ?_)
        refine c_seq (fun K32 hK32 => ?_)
        refine c_region ?_
        refine l_step (y_moveV (et g0 rfl)) ?_
        rw [← hl5]
        have f9 := f10
        refine l_eff (e_callV cal_89 (aC (et g0 rfl) aN) (clip_fb hd5 f9 k10 (by omega))) (fun v33 w33 h33 => ?_)
        obtain ⟨l', u33, hf, hv2, hT2⟩ := h33
        replace k10 := k10.up u33
        replace hW := hW.up u33
        replace hX := hX.up u33
        replace hW2 := hW2.up u33
        replace hX2 := hX2.up u33
        replace U := U.tr u33
        refine l_step (y_assignV (et g0 rfl)) ?_
        refine l_nil ?_
        refine hK32 _ _ ?_
        refine fg1 4 g0 (fun g => ?_)
        refine c_ret ?_
        refine ret1 rfl (res_tmp (et g0 rfl)) ?_
        exact ⟨l', U, hf, by rw [hv2, hsum], hT2⟩
  · skip
    simp only [decide_eq_true_eq, decide_eq_false_iff_not, Int.not_lt, Int.not_le, Bool.not_eq_true', Bool.not_eq_false', Bool.not_eq_eq_eq_not, Bool.not_true, Bool.not_false] at cB1
    refine c_skip ?_
    refine hK6 _ _ ?_
    refine fg2 1 0 (gS rfl (gS rfl g0)) (gS rfl g0) (fun g => ?_)
    refine c_seq (fun K34 hK34 => ?_)
    refine c_region ?_
    refine l_step (y_moveV (et g0 rfl)) ?_
    refine l_step (y_len Hvaa.underlying95 (et g0 rfl)) ?_
    refine l_step (y_add (et g0 rfl) rfl (addIN (y := 1) ?_)) ?_
    omega
    refine l_eff (e_make Hvaa.underlying95 sz_5 zr_5 by_5 (et g0 rfl) (et g0 rfl) (by omega) (by omega)) (fun v35 w35 h35 => ?_)
    obtain ⟨b35, rfl, n35⟩ := h35
    have f35 : w.heap.size ≤ b35 := Nat.le_trans U.size n35.fresh
    replace hW := hW.up n35.up
    replace hX := hX.up n35.up
    replace hW2 := hW2.up n35.up
    replace hX2 := hX2.up n35.up
    replace U := U.tr n35.up
    have k35 := mzB n35.blk
    refine l_step (y_assignV (et g0 rfl)) ?_
    refine l_nil ?_
    refine hK34 _ _ ?_
    refine fg3 1 0 5 (gS rfl (gS rfl (gS rfl (gS rfl (gS rfl (gS rfl g0)))))) (gS rfl (gS rfl (gS rfl (gS rfl (gS rfl g0))))) g0 (fun g => ?_)
    refine c_seq (fun K36 hK36 => ?_)
    refine c_region ?_
    refine l_step y_assignC ?_
    refine l_nil ?_
    refine hK36 _ _ ?_
    refine c_seq (fun K37 hK37 => ?_)
    refine c_seq (fun K38 hK38 => ?_)
    refine c_region ?_
    refine l_step (y_moveV (et (gS rfl (gS rfl g0)) rfl)) ?_
    refine l_step (y_len Hvaa.underlying95 (et g0 rfl)) ?_
    refine l_step y_moveC ?_
    refine l_nil ?_
    refine hK38 _ _ ?_
    refine c_block (fun Q39 hQ39 => ?_)
    refine fg7 0 1 5 6 24 25 26 (gS rfl (gS rfl (gS rfl (gS rfl (gS rfl g0))))) (gS rfl (gS rfl (gS rfl (gS rfl (gS rfl (gS rfl g0)))))) (gS rfl (gS rfl (gS rfl (gS rfl g0)))) (gS rfl (gS rfl (gS rfl g0))) (gS rfl (gS rfl g0)) (gS rfl g0) g0 (fun g => ?_)
    replace k35 : Blk w35 b35 (bL ([] ++ List.replicate (k + 1) 0)).toArray := k35
    refine c_loop (fun k_ s_ W40 => ∃ (g : Nat → Value) (P : List Nat) (C r : Nat), s_ = (upd (upd (upd (upd (upd (upd (upd g 0 (.slice a k k)) 1 (.slice a1 j j)) 5 (.slice (some ⟨b35, 0, none⟩) (k + 1) (k + 1))) 6 (.int .u16 (C : Nat))) 24 (.slice a k k)) 25 (.int .i64 (k : Nat))) 26 (.int .i64 (P.length : Nat))) ∧ r = k_ ∧ (P.length + r = k + 1) ∧ (Dig 256 P) ∧ (C ≤ 1) ∧ (val 256 P + C * 256 ^ P.length = val 256 (m.take P.length) + val 256 (p.take P.length)) ∧ (1 ≤ r) ∧ Blk W40 b35 ((bL (P ++ List.replicate r 0)).toArray) ∧ Ch (fun k => k = b35) w35 W40) (((k + 1))) ?_ ?_
    · exact ⟨g, ([] : List Nat), 0, (k + 1), rfl, rfl, by simp, Dig.nil _, by decide, by simp [val], by omega, k35, Ch.refl _ _⟩
    · skip
      intro k_ s_ W40 hI K40 hK40
      obtain ⟨g, P, C, r, rfl, rfl, hPr, hPd, hC, hval, hr1, nk35, V40⟩ := hI
      replace hW := hW.ch V40 (by first | omega | (intro q hq; omega))
      replace hX := hX.ch V40 (by first | omega | (intro q hq; omega))
      replace hW2 := hW2.ch V40 (by first | omega | (intro q hq; omega))
      replace hX2 := hX2.ch V40 (by first | omega | (intro q hq; omega))
      replace k35 := nk35
      replace U := U.cc V40 (by intro b hb; first | exact hb.elim | omega | (simp at hb ⊢; omega))
      refine c_seq (fun K41 hK41 => ?_)
      refine c_region ?_
      refine l_step (y_lss (et g0 rfl) (et (gS rfl g0) rfl)) ?_
      refine l_nil ?_
      refine hK41 _ _ ?_
      refine c_seq (fun K42 hK42 => ?_)
      refine c_cond (et g0 rfl) (fun cB2 => ?_) (fun cB2 => ?_)
      · skip
        simp only [decide_eq_true_eq, decide_eq_false_iff_not, Int.not_lt, Int.not_le, Bool.not_eq_true', Bool.not_eq_false', Bool.not_eq_eq_eq_not, Bool.not_true, Bool.not_false] at cB2
        obtain ⟨r', rfl, hrr⟩ := rep_succ r P (by omega)
        rw [hrr] at k35
        refine c_skip ?_
        refine hK42 _ _ ?_
        refine fg7 0 1 5 6 24 25 26 (gS rfl (gS rfl (gS rfl (gS rfl (gS rfl (gS rfl (gS rfl g0))))))) (gS rfl (gS rfl (gS rfl (gS rfl (gS rfl (gS rfl g0)))))) (gS rfl (gS rfl (gS rfl (gS rfl (gS rfl g0))))) (gS rfl (gS rfl (gS rfl (gS rfl g0)))) (gS rfl (gS rfl (gS rfl g0))) (gS rfl (gS rfl g0)) (gS rfl g0) (fun g => ?_)
        refine c_seq (fun K44 hK44 => ?_)
        refine c_block (fun Q45 hQ45 => ?_)
        refine c_seq (fun K46 hK46 => ?_)
        refine c_region ?_
        refine l_step (y_moveV (et g0 rfl)) ?_
        have hqxx : WV s0 W40 (.slice a m.length k) m := by rw [hlk]; exact hW2
        obtain ⟨bxx, oxx, haxx, hbxx, hrxx⟩ := hqxx.at (by omega)
        have hAd := hqxx.dig _ (List.getElem_mem (l := m) (n := P.length) (by omega))
        refine l_step (y_idxSa haxx Hvaa.underlying95 sz_5 (et (gS rfl (gS rfl (gS rfl g0))) rfl) (et (gS rfl g0) rfl) ?_) ?_
        omega
        refine l_step (y_load1 one_5 (et g0 rfl) (at1 (row_byte hrxx (by omega)))) ?_
        refine l_step (y_assignV (et (gS rfl (gS rfl g0)) rfl)) ?_
        refine l_step (y_assignV (et (gS rfl g0) rfl)) ?_
        refine l_nil ?_
        refine hK46 _ _ ?_
        refine fg9 0 1 5 6 24 25 26 7 8 (gS rfl (gS rfl (gS rfl (gS rfl (gS rfl (gS rfl (gS rfl (gS rfl (gS rfl (gS rfl (gS rfl g0))))))))))) (gS rfl (gS rfl (gS rfl (gS rfl (gS rfl (gS rfl (gS rfl (gS rfl (gS rfl (gS rfl g0)))))))))) (gS rfl (gS rfl (gS rfl (gS rfl (gS rfl (gS rfl (gS rfl (gS rfl (gS rfl g0))))))))) (gS rfl (gS rfl (gS rfl (gS rfl (gS rfl (gS rfl (gS rfl (gS rfl g0)))))))) (gS rfl (gS rfl (gS rfl (gS rfl (gS rfl (gS rfl (gS rfl g0))))))) (gS rfl (gS rfl (gS rfl (gS rfl (gS rfl (gS rfl g0)))))) (gS rfl (gS rfl (gS rfl (gS rfl (gS rfl g0))))) (gS rfl g0) g0 (fun g => ?_)
        refine c_seq (fun K47 hK47 => ?_)
        refine c_region ?_
        refine l_step (y_moveV (et (gS rfl (gS rfl (gS rfl (gS rfl (gS rfl g0))))) rfl)) ?_
        refine l_step (y_moveV (et (gS rfl g0) rfl)) ?_
        refine l_step (y_conv Hvaa.underlying5 Hvaa.underlying67 (et g0 rfl) (wrapU_id uk16 ?_)) ?_
        omega
        refine l_step (y_add (et (gS rfl (gS rfl g0)) rfl) (et g0 rfl) (wrapU_addN uk16 ?_)) ?_
        omega
        refine l_step (y_assignV (et g0 rfl)) ?_
        refine l_nil ?_
        refine hK47 _ _ ?_
        refine fg8 0 1 5 6 24 25 26 7 (gS rfl (gS rfl (gS rfl (gS rfl (gS rfl (gS rfl (gS rfl (gS rfl (gS rfl (gS rfl (gS rfl (gS rfl (gS rfl g0))))))))))))) (gS rfl (gS rfl (gS rfl (gS rfl (gS rfl (gS rfl (gS rfl (gS rfl (gS rfl (gS rfl (gS rfl (gS rfl g0)))))))))))) (gS rfl (gS rfl (gS rfl (gS rfl (gS rfl (gS rfl (gS rfl (gS rfl (gS rfl (gS rfl (gS rfl g0))))))))))) g0 (gS rfl (gS rfl (gS rfl (gS rfl (gS rfl (gS rfl (gS rfl (gS rfl (gS rfl g0))))))))) (gS rfl (gS rfl (gS rfl (gS rfl (gS rfl (gS rfl (gS rfl (gS rfl g0)))))))) (gS rfl (gS rfl (gS rfl (gS rfl (gS rfl (gS rfl (gS rfl g0))))))) (gS rfl (gS rfl (gS rfl (gS rfl (gS rfl (gS rfl g0)))))) (fun g => ?_)
        refine c_seq (fun K48 hK48 => ?_)
        refine c_seq (fun K49 hK49 => ?_)
        refine c_region ?_
        refine l_step (y_moveV (et g0 rfl)) ?_
        refine l_step (y_moveV (et (gS rfl (gS rfl (gS rfl (gS rfl (gS rfl (gS rfl (gS rfl g0))))))) rfl)) ?_
        refine l_step (y_len Hvaa.underlying95 (et g0 rfl)) ?_
        refine l_step (y_lss (et (gS rfl (gS rfl g0)) rfl) (et g0 rfl)) ?_
        refine l_nil ?_
        refine hK49 _ _ ?_
        refine fg9 0 1 5 6 24 25 26 7 38 (gS rfl (gS rfl (gS rfl (gS rfl (gS rfl (gS rfl (gS rfl (gS rfl (gS rfl (gS rfl (gS rfl g0))))))))))) (gS rfl (gS rfl (gS rfl (gS rfl (gS rfl (gS rfl (gS rfl (gS rfl (gS rfl (gS rfl g0)))))))))) (gS rfl (gS rfl (gS rfl (gS rfl (gS rfl (gS rfl (gS rfl (gS rfl (gS rfl g0))))))))) (gS rfl (gS rfl (gS rfl (gS rfl (gS rfl (gS rfl (gS rfl (gS rfl g0)))))))) (gS rfl (gS rfl (gS rfl (gS rfl (gS rfl (gS rfl (gS rfl g0))))))) (gS rfl (gS rfl (gS rfl (gS rfl (gS rfl (gS rfl g0)))))) (gS rfl (gS rfl (gS rfl (gS rfl (gS rfl g0))))) (gS rfl (gS rfl (gS rfl (gS rfl g0)))) g0 (fun g => ?_)
        refine c_cond (et g0 rfl) (fun cB3 => ?_) (fun cB3 => ?_)
        · skip
          simp only [decide_eq_true_eq, decide_eq_false_iff_not, Int.not_lt, Int.not_le, Bool.not_eq_true', Bool.not_eq_false', Bool.not_eq_eq_eq_not, Bool.not_true, Bool.not_false] at cB3
          refine c_region ?_
          refine l_step (y_moveV (et (gS rfl (gS rfl (gS rfl (gS rfl (gS rfl g0))))) rfl)) ?_
          refine l_step (y_moveV (et (gS rfl (gS rfl (gS rfl (gS rfl (gS rfl (gS rfl (gS rfl (gS rfl g0)))))))) rfl)) ?_
          refine l_step (y_moveV (et (gS rfl (gS rfl (gS rfl g0))) rfl)) ?_
          have hqyy : WV s1 W40 (.slice a1 p.length j) p := by rw [hlj]; exact hX2
          obtain ⟨byy, oyy, hayy, hbyy, hryy⟩ := hqyy.at (by omega)
          have hBd := hqyy.dig _ (List.getElem_mem (l := p) (n := P.length) (by omega))
          refine l_step (y_idxSa hayy Hvaa.underlying95 sz_5 (et (gS rfl g0) rfl) (et g0 rfl) ?_) ?_
          omega
          refine l_step (y_load1 one_5 (et g0 rfl) (at1 (row_byte hryy (by omega)))) ?_
          refine l_step (y_conv Hvaa.underlying5 Hvaa.underlying67 (et g0 rfl) (wrapU_id uk16 ?_)) ?_
          omega
          refine l_step (y_add (et (gS rfl (gS rfl (gS rfl (gS rfl (gS rfl g0))))) rfl) (et g0 rfl) (wrapU_addN uk16 ?_)) ?_
          omega
          refine l_step (y_assignV (et g0 rfl)) ?_
          refine l_nil ?_
          refine hK48 _ _ ?_
          refine fg8 0 1 5 6 24 25 26 7 (gS rfl (gS rfl (gS rfl (gS rfl (gS rfl (gS rfl (gS rfl (gS rfl (gS rfl (gS rfl (gS rfl (gS rfl (gS rfl (gS rfl (gS rfl (gS rfl g0)))))))))))))))) (gS rfl (gS rfl (gS rfl (gS rfl (gS rfl (gS rfl (gS rfl (gS rfl (gS rfl (gS rfl (gS rfl (gS rfl (gS rfl (gS rfl (gS rfl g0))))))))))))))) (gS rfl (gS rfl (gS rfl (gS rfl (gS rfl (gS rfl (gS rfl (gS rfl (gS rfl (gS rfl (gS rfl (gS rfl (gS rfl (gS rfl g0)))))))))))))) g0 (gS rfl (gS rfl (gS rfl (gS rfl (gS rfl (gS rfl (gS rfl (gS rfl (gS rfl (gS rfl (gS rfl (gS rfl g0)))))))))))) (gS rfl (gS rfl (gS rfl (gS rfl (gS rfl (gS rfl (gS rfl (gS rfl (gS rfl (gS rfl (gS rfl g0))))))))))) (gS rfl (gS rfl (gS rfl (gS rfl (gS rfl (gS rfl (gS rfl (gS rfl (gS rfl (gS rfl g0)))))))))) (gS rfl (gS rfl (gS rfl (gS rfl (gS rfl (gS rfl (gS rfl (gS rfl (gS rfl g0))))))))) (fun g => ?_)
          refine c_seq (fun K51 hK51 => ?_)
          refine c_region ?_
          refine l_step (y_moveV (et (gS rfl (gS rfl (gS rfl (gS rfl (gS rfl g0))))) rfl)) ?_
          refine l_step (y_moveV (et (gS rfl g0) rfl)) ?_
          refine l_step (y_moveV (et (gS rfl (gS rfl (gS rfl (gS rfl (gS rfl (gS rfl g0)))))) rfl)) ?_
          refine l_step (y_conv Hvaa.underlying67 Hvaa.underlying5 (et g0 rfl) (wrapU_nat uk8)) ?_
          refine l_step (y_idxSa rfl Hvaa.underlying95 sz_5 (et (gS rfl (gS rfl (gS rfl g0))) rfl) (et (gS rfl (gS rfl g0)) rfl) ?_) ?_
          omega
          refine l_effN (e_store sz_5 (et g0 rfl) (cellsV (et (gS rfl g0) rfl) rfl) rfl (by first | exact one_bL _ | exact one_uL _ | (intro v hv; simp at hv; subst hv; rfl)) k35 (by (simp only [List.size_toArray, length_bL, List.length_append, List.length_cons, List.length_replicate]; omega))) (fun v52 w52 h52 => ?_)
          obtain ⟨rfl, x52⟩ := h52
          replace hW := hW.ch x52.ch (by first | omega | first | omega | (intro q hq; omega))
          replace hX := hX.ch x52.ch (by first | omega | first | omega | (intro q hq; omega))
          replace k35 := x52.blk
          replace hW2 := hW2.wr x52 (by omega)
          replace hX2 := hX2.wr x52 (by omega)
          replace U := U.st x52 f35
          replace V40 := V40.st x52 (by omega)
          replace k35 := Blk.setB k35 (by omega)
          replace k35 : Blk w52 b35 (bL ((P ++ [(C + m[P.length] + p[P.length]) % 256]) ++ List.replicate r' 0)).toArray := by simpa using k35
          refine l_nil ?_
          refine hK51 _ _ ?_
          refine fg7 0 1 5 6 24 25 26 (gS rfl (gS rfl (gS rfl (gS rfl (gS rfl (gS rfl (gS rfl (gS rfl (gS rfl (gS rfl (gS rfl (gS rfl g0)))))))))))) (gS rfl (gS rfl (gS rfl (gS rfl (gS rfl (gS rfl (gS rfl (gS rfl (gS rfl (gS rfl (gS rfl g0))))))))))) (gS rfl (gS rfl (gS rfl (gS rfl (gS rfl (gS rfl (gS rfl (gS rfl (gS rfl (gS rfl g0)))))))))) (gS rfl (gS rfl (gS rfl (gS rfl (gS rfl (gS rfl (gS rfl (gS rfl (gS rfl g0))))))))) (gS rfl (gS rfl (gS rfl (gS rfl (gS rfl (gS rfl (gS rfl (gS rfl g0)))))))) (gS rfl (gS rfl (gS rfl (gS rfl (gS rfl (gS rfl (gS rfl g0))))))) (gS rfl (gS rfl (gS rfl (gS rfl (gS rfl (gS rfl g0)))))) (fun g => ?_)
          refine c_region ?_
          refine l_step (y_moveV (et (gS rfl (gS rfl (gS rfl g0))) rfl)) ?_
          refine l_step (y_shr (et g0 rfl) rfl (by decide) (shr16C 8 256 (by decide) rfl)) ?_
          refine l_step (y_assignV (et g0 rfl)) ?_
          refine l_nil ?_
          refine hQ45 _ _ _ (in_normal ?_)
          refine hK44 _ _ ?_
          refine fg7 0 1 5 6 24 25 26 (gS rfl (gS rfl (gS rfl (gS rfl (gS rfl (gS rfl (gS rfl (gS rfl (gS rfl g0))))))))) (gS rfl (gS rfl (gS rfl (gS rfl (gS rfl (gS rfl (gS rfl (gS rfl g0)))))))) (gS rfl (gS rfl (gS rfl (gS rfl (gS rfl (gS rfl (gS rfl g0))))))) g0 (gS rfl (gS rfl (gS rfl (gS rfl (gS rfl g0))))) (gS rfl (gS rfl (gS rfl (gS rfl g0)))) (gS rfl (gS rfl (gS rfl g0))) (fun g => ?_)
          refine c_region ?_
          refine l_step (y_add (et g0 rfl) rfl ((addIN (y := 1) ?_).trans (castE (show P.length + 1 = (P ++ [(C + m[P.length] + p[P.length]) % 256]).length by simp)))) ?_
          omega
          refine l_step (y_moveV (et g0 rfl)) ?_
          refine l_nil ?_
          refine fK7 0 1 5 6 24 25 26 (gS rfl (gS rfl (gS rfl (gS rfl (gS rfl (gS rfl (gS rfl (gS rfl g0)))))))) (gS rfl (gS rfl (gS rfl (gS rfl (gS rfl (gS rfl (gS rfl g0))))))) (gS rfl (gS rfl (gS rfl (gS rfl (gS rfl (gS rfl g0)))))) (gS rfl (gS rfl (gS rfl (gS rfl (gS rfl g0))))) (gS rfl (gS rfl (gS rfl (gS rfl g0)))) (gS rfl (gS rfl (gS rfl g0))) g0 (fun g => ?_)
          exact hK40 ((r')) _ _ (by omega) ⟨g, (P ++ [(C + m[P.length] + p[P.length]) % 256]), ((C + m[P.length] + p[P.length]) / 256), r', rfl, rfl, by simp; omega, hPd.app (Dig.one (Nat.mod_lt _ (by decide))), by omega, add_inv (ai := m[P.length]) (bi := p[P.length]) hval (by omega) (val_take_in (by omega)) (val_take_in (by omega)), by omega, k35, V40⟩
        · skip
          simp only [decide_eq_true_eq, decide_eq_false_iff_not, Int.not_lt, Int.not_le, Bool.not_eq_true', Bool.not_eq_false', Bool.not_eq_eq_eq_not, Bool.not_true, Bool.not_false] at cB3
          refine c_skip ?_
          refine hK48 _ _ ?_
          refine fg8 0 1 5 6 24 25 26 7 (gS rfl (gS rfl (gS rfl (gS rfl (gS rfl (gS rfl (gS rfl (gS rfl g0)))))))) (gS rfl (gS rfl (gS rfl (gS rfl (gS rfl (gS rfl (gS rfl g0))))))) (gS rfl (gS rfl (gS rfl (gS rfl (gS rfl (gS rfl g0)))))) (gS rfl (gS rfl (gS rfl (gS rfl (gS rfl g0))))) (gS rfl (gS rfl (gS rfl (gS rfl g0)))) (gS rfl (gS rfl (gS rfl g0))) (gS rfl (gS rfl g0)) (gS rfl g0) (fun g => ?_)
          refine c_seq (fun K53 hK53 => ?_)
          refine c_region ?_
          refine l_step (y_moveV (et (gS rfl (gS rfl (gS rfl (gS rfl (gS rfl g0))))) rfl)) ?_
          refine l_step (y_moveV (et (gS rfl g0) rfl)) ?_
          refine l_step (y_moveV (et (gS rfl (gS rfl (gS rfl (gS rfl (gS rfl (gS rfl g0)))))) rfl)) ?_
          refine l_step (y_conv Hvaa.underlying67 Hvaa.underlying5 (et g0 rfl) (wrapU_nat uk8)) ?_
          refine l_step (y_idxSa rfl Hvaa.underlying95 sz_5 (et (gS rfl (gS rfl (gS rfl g0))) rfl) (et (gS rfl (gS rfl g0)) rfl) ?_) ?_
          omega
          refine l_effN (e_store sz_5 (et g0 rfl) (cellsV (et (gS rfl g0) rfl) rfl) rfl (by first | exact one_bL _ | exact one_uL _ | (intro v hv; simp at hv; subst hv; rfl)) k35 (by (simp only [List.size_toArray, length_bL, List.length_append, List.length_cons, List.length_replicate]; omega))) (fun v54 w54 h54 => ?_)
          obtain ⟨rfl, x54⟩ := h54
          replace hW := hW.ch x54.ch (by first | omega | first | omega | (intro q hq; omega))
          replace hX := hX.ch x54.ch (by first | omega | first | omega | (intro q hq; omega))
          replace k35 := x54.blk
          replace hW2 := hW2.wr x54 (by omega)
          replace hX2 := hX2.wr x54 (by omega)
          replace U := U.st x54 f35
          replace V40 := V40.st x54 (by omega)
          replace k35 := Blk.setB k35 (by omega)
          replace k35 : Blk w54 b35 (bL ((P ++ [(C + m[P.length]) % 256]) ++ List.replicate r' 0)).toArray := by simpa using k35
          refine l_nil ?_
          refine hK53 _ _ ?_
          refine fg7 0 1 5 6 24 25 26 (gS rfl (gS rfl (gS rfl (gS rfl (gS rfl (gS rfl (gS rfl (gS rfl (gS rfl (gS rfl (gS rfl (gS rfl g0)))))))))))) (gS rfl (gS rfl (gS rfl (gS rfl (gS rfl (gS rfl (gS rfl (gS rfl (gS rfl (gS rfl (gS rfl g0))))))))))) (gS rfl (gS rfl (gS rfl (gS rfl (gS rfl (gS rfl (gS rfl (gS rfl (gS rfl (gS rfl g0)))))))))) (gS rfl (gS rfl (gS rfl (gS rfl (gS rfl (gS rfl (gS rfl (gS rfl (gS rfl g0))))))))) (gS rfl (gS rfl (gS rfl (gS rfl (gS rfl (gS rfl (gS rfl (gS rfl g0)))))))) (gS rfl (gS rfl (gS rfl (gS rfl (gS rfl (gS rfl (gS rfl g0))))))) (gS rfl (gS rfl (gS rfl (gS rfl (gS rfl (gS rfl g0)))))) (fun g => ?_)
          refine c_region ?_
          refine l_step (y_moveV (et (gS rfl (gS rfl (gS rfl g0))) rfl)) ?_
          refine l_step (y_shr (et g0 rfl) rfl (by decide) (shr16C 8 256 (by decide) rfl)) ?_
          refine l_step (y_assignV (et g0 rfl)) ?_
          refine l_nil ?_
          refine hQ45 _ _ _ (in_normal ?_)
          refine hK44 _ _ ?_
          refine fg7 0 1 5 6 24 25 26 (gS rfl (gS rfl (gS rfl (gS rfl (gS rfl (gS rfl (gS rfl (gS rfl (gS rfl g0))))))))) (gS rfl (gS rfl (gS rfl (gS rfl (gS rfl (gS rfl (gS rfl (gS rfl g0)))))))) (gS rfl (gS rfl (gS rfl (gS rfl (gS rfl (gS rfl (gS rfl g0))))))) g0 (gS rfl (gS rfl (gS rfl (gS rfl (gS rfl g0))))) (gS rfl (gS rfl (gS rfl (gS rfl g0)))) (gS rfl (gS rfl (gS rfl g0))) (fun g => ?_)
          refine c_region ?_
          refine l_step (y_add (et g0 rfl) rfl ((addIN (y := 1) ?_).trans (castE (show P.length + 1 = (P ++ [(C + m[P.length]) % 256]).length by simp)))) ?_
          omega
          refine l_step (y_moveV (et g0 rfl)) ?_
          refine l_nil ?_
          refine fK7 0 1 5 6 24 25 26 (gS rfl (gS rfl (gS rfl (gS rfl (gS rfl (gS rfl (gS rfl (gS rfl g0)))))))) (gS rfl (gS rfl (gS rfl (gS rfl (gS rfl (gS rfl (gS rfl g0))))))) (gS rfl (gS rfl (gS rfl (gS rfl (gS rfl (gS rfl g0)))))) (gS rfl (gS rfl (gS rfl (gS rfl (gS rfl g0))))) (gS rfl (gS rfl (gS rfl (gS rfl g0)))) (gS rfl (gS rfl (gS rfl g0))) g0 (fun g => ?_)
          exact hK40 ((r')) _ _ (by omega) ⟨g, (P ++ [(C + m[P.length]) % 256]), ((C + m[P.length]) / 256), r', rfl, rfl, by simp; omega, hPd.app (Dig.one (Nat.mod_lt _ (by decide))), by omega, add_inv (ai := m[P.length]) (bi := 0) hval (by omega) (val_take_in (by omega)) (val_take_out (by omega)), by omega, k35, V40⟩
      · skip
        simp only [decide_eq_true_eq, decide_eq_false_iff_not, Int.not_lt, Int.not_le, Bool.not_eq_true', Bool.not_eq_false', Bool.not_eq_eq_eq_not, Bool.not_true, Bool.not_false] at cB2
        have hr0 : r = 1 := by omega
        subst hr0
        refine c_exit ?_
        refine hQ39 _ _ _ (in_exit ?_)
        refine hK37 _ _ ?_
        refine fg3 0 5 6 (gS rfl (gS rfl (gS rfl (gS rfl (gS rfl (gS rfl (gS rfl g0))))))) (gS rfl (gS rfl (gS rfl (gS rfl (gS rfl g0))))) (gS rfl (gS rfl (gS rfl (gS rfl g0)))) (fun g => ?_)
        refine c_seq (fun K55 hK55 => ?_)
        refine c_region ?_
        refine l_step (y_moveV (et (gS rfl g0) rfl)) ?_
        refine l_step (y_moveV (et (gS rfl (gS rfl (gS rfl g0))) rfl)) ?_
        refine l_step (y_len Hvaa.underlying95 (et g0 rfl)) ?_
        refine l_step (y_moveV (et (gS rfl (gS rfl (gS rfl g0))) rfl)) ?_
        refine l_step (y_conv Hvaa.underlying67 Hvaa.underlying5 (et g0 rfl) ((wrapU_nat uk8).trans (castE (show C % 256 = C by omega)))) ?_
        refine l_step (y_idxSa rfl Hvaa.underlying95 sz_5 (et (gS rfl (gS rfl (gS rfl (gS rfl g0)))) rfl) (et (gS rfl (gS rfl g0)) rfl) ?_) ?_
        omega
        refine l_effN (e_store sz_5 (et g0 rfl) (cellsV (et (gS rfl g0) rfl) rfl) rfl (by first | exact one_bL _ | exact one_uL _ | (intro v hv; simp at hv; subst hv; rfl)) k35 (by (simp only [List.size_toArray, length_bL, List.length_append, List.length_cons, List.length_replicate]; omega))) (fun v56 w56 h56 => ?_)
        obtain ⟨rfl, x56⟩ := h56
        replace hW := hW.ch x56.ch (by first | omega | first | omega | (intro q hq; omega))
        replace hX := hX.ch x56.ch (by first | omega | first | omega | (intro q hq; omega))
        replace k35 := x56.blk
        replace hW2 := hW2.wr x56 (by omega)
        replace hX2 := hX2.wr x56 (by omega)
        replace U := U.st x56 f35
        replace k35 := Blk.setB (A := P) (C := []) k35 (by omega)
        have hl5 : (P ++ [C]).length = k + 1 := by simp; omega
        have hd5 : Dig 256 (P ++ [C]) := hPd.app (Dig.one (by omega))
        have hsum : val 256 (P ++ [C]) = val 256 l + val 256 l1 := by
          rw [← hv, ← hv1, val_snoc]
          rw [List.take_of_length_le (by omega), List.take_of_length_le (by omega)] at hval
          rw [Nat.mul_comm]; omega
        refine l_nil ?_
        refine hK55 _ _ ?_
        refine fg1 5 (gS rfl (gS rfl (gS rfl (gS rfl (gS rfl (gS rfl (gS rfl g0))))))) (fun g => ?_)
        refine c_seq (fun K57 hK57 => ?_)
        refine c_region ?_
        refine l_step (y_moveV (et g0 rfl)) ?_
        rw [← hl5]
        have f9 := f35
        refine l_eff (e_callV cal_89 (aC (et g0 rfl) aN) (clip_fb hd5 f9 k35 (by omega))) (fun v58 w58 h58 => ?_)
        obtain ⟨l', u58, hf, hv2, hT2⟩ := h58
        replace k35 := k35.up u58
        replace hW := hW.up u58
        replace hX := hX.up u58
        replace hW2 := hW2.up u58
        replace hX2 := hX2.up u58
        replace U := U.tr u58
        refine l_step (y_assignV (et g0 rfl)) ?_
        refine l_nil ?_
        refine hK57 _ _ ?_
        refine fg1 4 g0 (fun g => ?_)
        refine c_ret ?_
        refine ret1 rfl (res_tmp (et g0 rfl)) ?_
        exact ⟨l', U, hf, by rw [hv2, hsum], hT2⟩
end Go.Proofs.YgvaawGreat
