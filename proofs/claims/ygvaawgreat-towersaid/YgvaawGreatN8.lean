import Derived.Test.YgvaawGreatN7
set_option maxRecDepth 100000
set_option maxHeartbeats 4000000
set_option linter.unusedSimpArgs false
set_option linter.unusedVariables false
namespace Go.Proofs.YgvaawGreat
open Go
theorem mul255 {x y : Nat} (hx : x < 256) (hy : y < 256) : x * y ≤ 65025 := by
  have := Nat.mul_le_mul (show x ≤ 255 by omega) (show y ≤ 255 by omega)
  omega
theorem mul_stepN {VN VD VP C W x y d z C' q : Nat} (e1 : VN + C * W = VD + q * VP) (e2 : z + 256 * C' = C + (q * y + d)) : (VN + W * z) + C' * (W * 256) = (VD + W * d) + q * (VP + W * y) := by
  have h : W * (z + 256 * C') = W * (C + (q * y + d)) := by rw [e2]
  rw [Nat.mul_add, Nat.mul_add, Nat.mul_add] at h
  rw [show C' * (W * 256) = W * (256 * C') by grind, show q * (VP + W * y) = q * VP + W * (q * y) by grind, show C * W = W * C by grind] at *
  omega
theorem mul_inv {N D p : List Nat} {C q z C' : Nat} (hD : N.length < D.length) (hp : N.length < p.length) (e1 : val 256 N + C * 256 ^ N.length = val 256 (D.take N.length) + q * val 256 (p.take N.length)) (e2 : z + 256 * C' = C + (q * p[N.length] + D[N.length])) :
    val 256 (N ++ [z]) + C' * 256 ^ (N ++ [z]).length = val 256 (D.take (N ++ [z]).length) + q * val 256 (p.take (N ++ [z]).length) := by
  rw [List.length_append, List.length_singleton, val_snoc, val_take_in hD, val_take_in hp, Nat.pow_succ]
  exact mul_stepN (x := 0) e1 e2
theorem mul_out {L N D m p : List Nat} {C i : Nat} (hL : L.length = i) (hN : N.length = p.length) (hDl : D.length = p.length) (hi : i < m.length) (e0 : val 256 (L ++ D) = val 256 (m.take i) * val 256 p) (e1 : val 256 N + C * 256 ^ N.length = val 256 D + m[i] * val 256 p) :
    val 256 ((L ++ N) ++ [C]) = val 256 (m.take (i + 1)) * val 256 p := by
  have e2 : val 256 ((L ++ N) ++ [C]) = val 256 L + 256 ^ i * (val 256 N + C * 256 ^ N.length) := by
    rw [val_snoc, val_append, List.length_append, hL, Nat.pow_add]; grind
  have e3 : val 256 (L ++ D) = val 256 L + 256 ^ i * val 256 D := by rw [val_append, hL]
  rw [e2, e1, val_take_in hi, Nat.add_mul, ← e0, e3]
  grind
theorem mul_raw (s0 c : Nat) (a : Option Addr) (l : List Nat) (w : World) (hW : WV s0 w (.slice a l.length c) l) (hs0 : s0 ≤ w.heap.size) (hc : l.length ≤ c) (h48 : l.length < 140737488355328) (s1 c1 : Nat) (a1 : Option Addr) (l1 : List Nat) (hX : WV s1 w (.slice a1 l1.length c1) l1) (hs1 : s1 ≤ w.heap.size) (hc1 : l1.length ≤ c1) (h481 : l1.length < 140737488355328) :
    Ret 50 [.slice a l.length c, .slice a1 l1.length c1] w (fun v w' => ∃ l', Up w w' ∧ FB w w' v l' ∧ val 256 l' = val 256 l * val 256 l1 ∧ Tr l') := by
  refine enter (n := 71) Hvaa.func50 rfl rfl (Nat.le_of_ble_eq_true rfl) ?_
  have U := Up.refl w
  refine c_seq (fun K1 hK1 => ?_)
  refine c_region ?_
  refine l_step y_assignC ?_
  refine l_nil ?_
  refine hK1 _ _ ?_
  refine fg2 1 0 (gS rfl (gS rfl g0)) (gS rfl g0) (fun g => ?_)
  refine c_seq (fun K2 hK2 => ?_)
  refine c_region ?_
  refine l_step (y_moveV (et g0 rfl)) ?_
  refine l_eff (e_callV cal_88 (aC (et g0 rfl) aN) (trim_spec _ _ _ l _ hW (by omega) (by omega))) (fun v3 w3 h3 => ?_)
  obtain ⟨k, hk, rfl, hT, hv, u3⟩ := h3
  replace hW := hW.up u3
  replace hX := hX.up u3
  replace U := U.tr u3
  have hW2 := hW.take hk
  have hlk : (l.take k).length = k := by simp; omega
  refine l_step (y_assignV (et g0 rfl)) ?_
  refine l_nil ?_
  refine hK2 _ _ ?_
  refine fg2 1 0 (gS rfl (gS rfl (gS rfl (gS rfl g0)))) g0 (fun g => ?_)
  refine c_seq (fun K4 hK4 => ?_)
  refine c_region ?_
  refine l_step (y_moveV (et (gS rfl g0) rfl)) ?_
  refine l_eff (e_callV cal_88 (aC (et g0 rfl) aN) (trim_spec _ _ _ l1 _ hX (by omega) (by omega))) (fun v5 w5 h5 => ?_)
  obtain ⟨j, hj, rfl, hT1, hv1, u5⟩ := h5
  replace hW := hW.up u5
  replace hX := hX.up u5
  replace hW2 := hW2.up u5
  replace U := U.tr u5
  have hX2 := hX.take hj
  have hlj : (l1.take j).length = j := by simp; omega
  obtain ⟨m, hm⟩ : ∃ m, m = l.take k := ⟨_, rfl⟩
  obtain ⟨p, hp⟩ : ∃ p, p = l1.take j := ⟨_, rfl⟩
  rw [← hm] at hW2 hT hv hlk
  rw [← hp] at hX2 hT1 hv1 hlj
  clear hm hp
  subst hlk hlj
  refine l_step (y_assignV (et g0 rfl)) ?_
  refine l_nil ?_
  refine hK4 _ _ ?_
  refine fg2 1 0 g0 (gS rfl (gS rfl (gS rfl g0))) (fun g => ?_)
  refine c_seq (fun K6 hK6 => ?_)
  refine c_region ?_
  refine l_step (y_moveV (et g0 rfl)) ?_
  refine l_step (y_len Hvaa.underlying95 (et g0 rfl)) ?_
  refine l_step (y_moveV (et (gS rfl (gS rfl (gS rfl g0))) rfl)) ?_
  refine l_step (y_len Hvaa.underlying95 (et g0 rfl)) ?_
  refine l_step (y_add (et (gS rfl (gS rfl g0)) rfl) (et g0 rfl) (addIN ?_)) ?_
  omega
  refine l_eff (e_make Hvaa.underlying95 sz_5 zr_5 by_5 (et g0 rfl) (et g0 rfl) (by omega) (by omega)) (fun v7 w7 h7 => ?_)
  obtain ⟨b7, rfl, n7⟩ := h7
  have f7 : w.heap.size ≤ b7 := Nat.le_trans U.size n7.fresh
  replace hW := hW.up n7.up
  replace hX := hX.up n7.up
  replace hW2 := hW2.up n7.up
  replace hX2 := hX2.up n7.up
  replace U := U.tr n7.up
  have k7 := mzB n7.blk
  refine l_step (y_assignV (et g0 rfl)) ?_
  refine l_nil ?_
  refine hK6 _ _ ?_
  refine fg3 1 0 5 (gS rfl (gS rfl (gS rfl (gS rfl (gS rfl (gS rfl (gS rfl (gS rfl g0)))))))) (gS rfl (gS rfl (gS rfl (gS rfl (gS rfl (gS rfl (gS rfl g0))))))) g0 (fun g => ?_)
  refine c_seq (fun K8 hK8 => ?_)
  refine c_seq (fun K9 hK9 => ?_)
  refine c_region ?_
  refine l_step (y_moveV (et (gS rfl g0) rfl)) ?_
  refine l_step (y_len Hvaa.underlying95 (et g0 rfl)) ?_
  refine l_step y_moveC ?_
  refine l_nil ?_
  refine hK9 _ _ ?_
  refine fg5 1 5 21 22 23 (gS rfl (gS rfl (gS rfl (gS rfl (gS rfl g0))))) (gS rfl (gS rfl (gS rfl g0))) (gS rfl (gS rfl g0)) (gS rfl g0) g0 (fun g => ?_)
  refine c_block (fun Q10 hQ10 => ?_)
  refine fg5 1 5 21 22 23 (gS rfl (gS rfl (gS rfl (gS rfl g0)))) (gS rfl (gS rfl (gS rfl g0))) (gS rfl (gS rfl g0)) (gS rfl g0) g0 (fun g => ?_)
  replace k7 : Blk w7 b7 (bL (List.replicate p.length 0 ++ List.replicate m.length 0)).toArray := by rw [List.replicate_append_replicate, Nat.add_comm]; exact k7
  refine c_loop (fun k_ s_ W11 => ∃ (g : Nat → Value) (P : List Nat) (i r : Nat), s_ = (upd (upd (upd (upd (upd g 1 (.slice a1 p.length p.length)) 5 (.slice (some ⟨b7, 0, none⟩) (m.length + p.length) (m.length + p.length))) 21 (.slice a m.length m.length)) 22 (.int .i64 (m.length : Nat))) 23 (.int .i64 (i : Nat))) ∧ r = k_ ∧ (i + r = m.length) ∧ (P.length = i + p.length) ∧ (Dig 256 P) ∧ (val 256 P = val 256 (m.take i) * val 256 p) ∧ Blk W11 b7 ((bL (P ++ List.replicate r 0)).toArray) ∧ Ch (fun k => k = b7) w7 W11) ((m.length)) ?_ ?_
  · exact ⟨g, (List.replicate p.length 0), 0, m.length, rfl, rfl, by simp, by simp, Dig.rep _ _ (by decide), by rw [val_rep]; simp [val], k7, Ch.refl _ _⟩
  · skip
    intro k_ s_ W11 hI K11 hK11
    obtain ⟨g, P, i, r, rfl, rfl, hir, hPl, hPd, hPv, nk7, V11⟩ := hI
    replace hW := hW.ch V11 (by first | omega | (intro q hq; omega))
    replace hX := hX.ch V11 (by first | omega | (intro q hq; omega))
    replace hW2 := hW2.ch V11 (by first | omega | (intro q hq; omega))
    replace hX2 := hX2.ch V11 (by first | omega | (intro q hq; omega))
    replace k7 := nk7
    replace U := U.cc V11 (by intro b hb; first | exact hb.elim | omega | (simp at hb ⊢; omega))
    refine c_seq (fun K12 hK12 => ?_)
    refine c_region ?_
    refine l_step (y_lss (et g0 rfl) (et (gS rfl g0) rfl)) ?_
    refine l_nil ?_
    refine hK12 _ _ ?_
    refine c_seq (fun K13 hK13 => ?_)
    refine c_cond (et g0 rfl) (fun cB1 => ?_) (fun cB1 => ?_)
    · skip
      simp only [decide_eq_true_eq, decide_eq_false_iff_not, Int.not_lt, Int.not_le, Bool.not_eq_true', Bool.not_eq_false', Bool.not_eq_eq_eq_not, Bool.not_true, Bool.not_false] at cB1
      obtain ⟨r', rfl, hrr⟩ := rep_succ r P (by omega)
      obtain ⟨L, D, rfl, hLl⟩ : ∃ L D, P = L ++ D ∧ L.length = i := ⟨P.take i, P.drop i, (List.take_append_drop i P).symm, by simp; omega⟩
      have hDl : D.length = p.length := by simp at hPl; omega
      have hLd := hPd.left
      have hDd := hPd.right
      rw [hrr, List.append_assoc] at k7
      obtain ⟨ba, oa, ha, hb0, hr⟩ := hW2.at (by omega)
      have hmi := hW2.dig _ (List.getElem_mem (l := m) (n := i) (by omega))
      refine c_skip ?_
      refine hK13 _ _ ?_
      refine fg5 1 5 21 22 23 (gS rfl (gS rfl (gS rfl (gS rfl (gS rfl g0))))) (gS rfl (gS rfl (gS rfl (gS rfl g0)))) (gS rfl (gS rfl (gS rfl g0))) (gS rfl (gS rfl g0)) (gS rfl g0) (fun g => ?_)
      refine c_seq (fun K15 hK15 => ?_)
      refine c_block (fun Q16 hQ16 => ?_)
      refine c_seq (fun K17 hK17 => ?_)
      refine c_region ?_
      refine l_step (y_moveV (et g0 rfl)) ?_
      refine l_step (y_idxSa ha Hvaa.underlying95 sz_5 (et (gS rfl (gS rfl (gS rfl g0))) rfl) (et (gS rfl g0) rfl) ?_) ?_
      omega
      refine l_step (y_load1 one_5 (et g0 rfl) (at1 (row_byte hr (by omega)))) ?_
      refine l_step (y_assignV (et (gS rfl (gS rfl g0)) rfl)) ?_
      refine l_step (y_assignV (et (gS rfl g0) rfl)) ?_
      refine l_nil ?_
      refine hK17 _ _ ?_
      refine fg7 1 5 21 22 23 6 7 (gS rfl (gS rfl (gS rfl (gS rfl (gS rfl (gS rfl (gS rfl (gS rfl (gS rfl g0))))))))) (gS rfl (gS rfl (gS rfl (gS rfl (gS rfl (gS rfl (gS rfl (gS rfl g0)))))))) (gS rfl (gS rfl (gS rfl (gS rfl (gS rfl (gS rfl (gS rfl g0))))))) (gS rfl (gS rfl (gS rfl (gS rfl (gS rfl (gS rfl g0)))))) (gS rfl (gS rfl (gS rfl (gS rfl (gS rfl g0))))) (gS rfl g0) g0 (fun g => ?_)
      refine c_seq (fun K18 hK18 => ?_)
      refine c_region ?_
      refine l_step y_assignC ?_
      refine l_nil ?_
      refine hK18 _ _ ?_
      refine c_seq (fun K19 hK19 => ?_)
      refine c_seq (fun K20 hK20 => ?_)
      refine c_region ?_
      refine l_step (y_moveV (et (gS rfl (gS rfl (gS rfl (gS rfl (gS rfl (gS rfl (gS rfl g0))))))) rfl)) ?_
      refine l_step (y_len Hvaa.underlying95 (et g0 rfl)) ?_
      refine l_step y_moveC ?_
      refine l_nil ?_
      refine hK20 _ _ ?_
      refine c_block (fun Q21 hQ21 => ?_)
      refine fg11 1 5 6 7 8 21 22 23 28 29 30 (gS rfl (gS rfl (gS rfl (gS rfl (gS rfl (gS rfl (gS rfl (gS rfl (gS rfl (gS rfl g0)))))))))) (gS rfl (gS rfl (gS rfl (gS rfl (gS rfl (gS rfl (gS rfl (gS rfl (gS rfl g0))))))))) (gS rfl (gS rfl (gS rfl (gS rfl (gS rfl g0))))) (gS rfl (gS rfl (gS rfl (gS rfl g0)))) (gS rfl (gS rfl (gS rfl g0))) (gS rfl (gS rfl (gS rfl (gS rfl (gS rfl (gS rfl (gS rfl (gS rfl g0)))))))) (gS rfl (gS rfl (gS rfl (gS rfl (gS rfl (gS rfl (gS rfl g0))))))) (gS rfl (gS rfl (gS rfl (gS rfl (gS rfl (gS rfl g0)))))) (gS rfl (gS rfl g0)) (gS rfl g0) g0 (fun g => ?_)
      replace k7 : Blk W11 b7 (bL ((L ++ []) ++ (D.drop ([] : List Nat).length ++ 0 :: List.replicate r' 0))).toArray := by simpa using k7
      refine c_loop (fun k_ s_ W22 => ∃ (g : Nat → Value) (N : List Nat) (C : Nat), s_ = (upd (upd (upd (upd (upd (upd (upd (upd (upd (upd (upd g 1 (.slice a1 p.length p.length)) 5 (.slice (some ⟨b7, 0, none⟩) (m.length + p.length) (m.length + p.length))) 6 (.int .i64 (i : Nat))) 7 (.int .u8 (m[i] : Nat))) 8 (.int .u32 (C : Nat))) 21 (.slice a m.length m.length)) 22 (.int .i64 (m.length : Nat))) 23 (.int .i64 (i : Nat))) 28 (.slice a1 p.length p.length)) 29 (.int .i64 (p.length : Nat))) 30 (.int .i64 (N.length : Nat))) ∧ p.length - N.length = k_ ∧ (N.length ≤ p.length) ∧ (Dig 256 N) ∧ (C < 256) ∧ (val 256 N + C * 256 ^ N.length = val 256 (D.take N.length) + m[i] * val 256 (p.take N.length)) ∧ Blk W22 b7 ((bL ((L ++ N) ++ (D.drop N.length ++ 0 :: List.replicate r' 0))).toArray) ∧ Ch (fun k => k = b7) W11 W22) (p.length - (([] : List Nat)).length) ?_ ?_
      · exact ⟨g, ([] : List Nat), 0, rfl, rfl, Nat.zero_le _, Dig.nil _, by decide, by simp [val], k7, Ch.refl _ _⟩
      · skip
        intro k_ s_ W22 hI K22 hK22
        obtain ⟨g, N, C, rfl, rfl, hNl, hNd, hC, hNv, nk7, V22⟩ := hI
        replace hW := hW.ch V22 (by first | omega | (intro q hq; omega))
        replace hX := hX.ch V22 (by first | omega | (intro q hq; omega))
        replace hW2 := hW2.ch V22 (by first | omega | (intro q hq; omega))
        replace hX2 := hX2.ch V22 (by first | omega | (intro q hq; omega))
        replace k7 := nk7
        replace V11 := V11.cc V22 (by intro b hb; first | exact hb.elim | omega)
        replace U := U.cc V22 (by intro b hb; first | exact hb.elim | omega | (simp at hb ⊢; omega))
        refine c_seq (fun K23 hK23 => ?_)
        refine c_region ?_
        refine l_step (y_lss (et g0 rfl) (et (gS rfl g0) rfl)) ?_
        refine l_nil ?_
        refine hK23 _ _ ?_
        refine c_seq (fun K24 hK24 => ?_)
        refine c_cond (et g0 rfl) (fun cB2 => ?_) (fun cB2 => ?_)
        · skip
          simp only [decide_eq_true_eq, decide_eq_false_iff_not, Int.not_lt, Int.not_le, Bool.not_eq_true', Bool.not_eq_false', Bool.not_eq_eq_eq_not, Bool.not_true, Bool.not_false] at cB2
          obtain ⟨bc, oc, hc', hb1, hr1⟩ := hX2.at (by omega)
          have hpi := hX2.dig _ (List.getElem_mem (l := p) (n := N.length) (by omega))
          have hDi := hDd _ (List.getElem_mem (l := D) (n := N.length) (by omega))
          have hxy := mul255 hmi hpi
          rw [List.drop_eq_getElem_cons (show N.length < D.length by omega)] at k7
          have hLN : (L ++ N).length = i + N.length := by simp; omega
          refine c_skip ?_
          refine hK24 _ _ ?_
          refine fg11 1 5 6 7 8 21 22 23 28 29 30 (gS rfl (gS rfl (gS rfl (gS rfl (gS rfl (gS rfl (gS rfl (gS rfl (gS rfl (gS rfl (gS rfl g0))))))))))) (gS rfl (gS rfl (gS rfl (gS rfl (gS rfl (gS rfl (gS rfl (gS rfl (gS rfl (gS rfl g0)))))))))) (gS rfl (gS rfl (gS rfl (gS rfl (gS rfl (gS rfl (gS rfl (gS rfl (gS rfl g0))))))))) (gS rfl (gS rfl (gS rfl (gS rfl (gS rfl (gS rfl (gS rfl (gS rfl g0)))))))) (gS rfl (gS rfl (gS rfl (gS rfl (gS rfl (gS rfl (gS rfl g0))))))) (gS rfl (gS rfl (gS rfl (gS rfl (gS rfl (gS rfl g0)))))) (gS rfl (gS rfl (gS rfl (gS rfl (gS rfl g0))))) (gS rfl (gS rfl (gS rfl (gS rfl g0)))) (gS rfl (gS rfl (gS rfl g0))) (gS rfl (gS rfl g0)) (gS rfl g0) (fun g => ?_)
          refine c_seq (fun K26 hK26 => ?_)
          refine c_block (fun Q27 hQ27 => ?_)
          refine c_seq (fun K28 hK28 => ?_)
          refine c_region ?_
          refine l_step (y_moveV (et g0 rfl)) ?_
          refine l_step (y_idxSa hc' Hvaa.underlying95 sz_5 (et (gS rfl (gS rfl (gS rfl g0))) rfl) (et (gS rfl g0) rfl) ?_) ?_
          omega
          refine l_step (y_load1 one_5 (et g0 rfl) (at1 (row_byte hr1 (by omega)))) ?_
          refine l_step (y_assignV (et (gS rfl (gS rfl g0)) rfl)) ?_
          refine l_step (y_assignV (et (gS rfl g0) rfl)) ?_
          refine l_nil ?_
          refine hK28 _ _ ?_
          refine fg13 1 5 6 7 8 21 22 23 28 29 30 9 10 (gS rfl (gS rfl (gS rfl (gS rfl (gS rfl (gS rfl (gS rfl (gS rfl (gS rfl (gS rfl (gS rfl (gS rfl (gS rfl (gS rfl (gS rfl g0))))))))))))))) (gS rfl (gS rfl (gS rfl (gS rfl (gS rfl (gS rfl (gS rfl (gS rfl (gS rfl (gS rfl (gS rfl (gS rfl (gS rfl (gS rfl g0)))))))))))))) (gS rfl (gS rfl (gS rfl (gS rfl (gS rfl (gS rfl (gS rfl (gS rfl (gS rfl (gS rfl (gS rfl (gS rfl (gS rfl g0))))))))))))) (gS rfl (gS rfl (gS rfl (gS rfl (gS rfl (gS rfl (gS rfl (gS rfl (gS rfl (gS rfl (gS rfl (gS rfl g0)))))))))))) (gS rfl (gS rfl (gS rfl (gS rfl (gS rfl (gS rfl (gS rfl (gS rfl (gS rfl (gS rfl (gS rfl g0))))))))))) (gS rfl (gS rfl (gS rfl (gS rfl (gS rfl (gS rfl (gS rfl (gS rfl (gS rfl (gS rfl g0)))))))))) (gS rfl (gS rfl (gS rfl (gS rfl (gS rfl (gS rfl (gS rfl (gS rfl (gS rfl g0))))))))) (gS rfl (gS rfl (gS rfl (gS rfl (gS rfl (gS rfl (gS rfl (gS rfl g0)))))))) (gS rfl (gS rfl (gS rfl (gS rfl (gS rfl (gS rfl (gS rfl g0))))))) (gS rfl (gS rfl (gS rfl (gS rfl (gS rfl (gS rfl g0)))))) (gS rfl (gS rfl (gS rfl (gS rfl (gS rfl g0))))) (gS rfl g0) g0 (fun g => ?_)
          refine c_seq (fun K29 hK29 => ?_)
          refine c_region ?_
          refine l_step (y_moveV (et (gS rfl (gS rfl (gS rfl (gS rfl (gS rfl (gS rfl (gS rfl (gS rfl g0)))))))) rfl)) ?_
          refine l_step (y_moveV (et (gS rfl (gS rfl (gS rfl (gS rfl (gS rfl (gS rfl (gS rfl (gS rfl (gS rfl (gS rfl g0)))))))))) rfl)) ?_
          refine l_step (y_conv Hvaa.underlying5 Hvaa.underlying60 (et g0 rfl) (wrapU_id uk32 ?_)) ?_
          omega
          refine l_step (y_moveV (et (gS rfl (gS rfl (gS rfl g0))) rfl)) ?_
          refine l_step (y_conv Hvaa.underlying5 Hvaa.underlying60 (et g0 rfl) (wrapU_id uk32 ?_)) ?_
          omega
          refine l_step (y_mul (et (gS rfl (gS rfl g0)) rfl) (et g0 rfl) (wrapU_mulN uk32 ?_)) ?_
          omega
          refine l_step (y_moveV (et (gS rfl (gS rfl (gS rfl (gS rfl (gS rfl (gS rfl (gS rfl (gS rfl (gS rfl (gS rfl (gS rfl (gS rfl (gS rfl (gS rfl (gS rfl (gS rfl (gS rfl g0))))))))))))))))) rfl)) ?_
          refine l_step (y_moveV (et (gS rfl (gS rfl (gS rfl (gS rfl (gS rfl (gS rfl (gS rfl (gS rfl (gS rfl (gS rfl (gS rfl (gS rfl (gS rfl (gS rfl (gS rfl (gS rfl (gS rfl g0))))))))))))))))) rfl)) ?_
          refine l_step (y_moveV (et (gS rfl (gS rfl (gS rfl (gS rfl (gS rfl (gS rfl (gS rfl (gS rfl (gS rfl g0))))))))) rfl)) ?_
          refine l_step (y_add (et (gS rfl g0) rfl) (et g0 rfl) (addIN ?_)) ?_
          omega
          refine l_step (y_idxSa rfl Hvaa.underlying95 sz_5 (et (gS rfl (gS rfl (gS rfl g0))) rfl) (et g0 rfl) ?_) ?_
          omega
          refine l_step (y_load1 one_5 (et g0 rfl) (at1 (k7.cell (bL_get (L ++ N) _ _ _ (by omega))))) ?_
          refine l_step (y_conv Hvaa.underlying5 Hvaa.underlying60 (et g0 rfl) (wrapU_id uk32 ?_)) ?_
          omega
          refine l_step (y_add (et (gS rfl (gS rfl (gS rfl (gS rfl (gS rfl (gS rfl (gS rfl g0))))))) rfl) (et g0 rfl) (wrapU_addN uk32 ?_)) ?_
          omega
          refine l_step (y_add (et (gS rfl (gS rfl (gS rfl (gS rfl (gS rfl (gS rfl (gS rfl (gS rfl (gS rfl (gS rfl (gS rfl (gS rfl (gS rfl g0))))))))))))) rfl) (et g0 rfl) (wrapU_addN uk32 ?_)) ?_
          omega
          refine l_step (y_assignV (et g0 rfl)) ?_
          refine l_nil ?_
          refine hK29 _ _ ?_
          refine fg12 1 5 6 7 8 21 22 23 28 29 30 9 (gS rfl (gS rfl (gS rfl (gS rfl (gS rfl (gS rfl (gS rfl (gS rfl (gS rfl (gS rfl (gS rfl (gS rfl (gS rfl (gS rfl (gS rfl (gS rfl (gS rfl (gS rfl (gS rfl (gS rfl (gS rfl (gS rfl (gS rfl (gS rfl (gS rfl (gS rfl (gS rfl (gS rfl g0)))))))))))))))))))))))))))) (gS rfl (gS rfl (gS rfl (gS rfl (gS rfl (gS rfl (gS rfl (gS rfl (gS rfl (gS rfl (gS rfl (gS rfl (gS rfl (gS rfl (gS rfl (gS rfl (gS rfl (gS rfl (gS rfl (gS rfl (gS rfl (gS rfl (gS rfl (gS rfl (gS rfl (gS rfl (gS rfl g0))))))))))))))))))))))))))) (gS rfl (gS rfl (gS rfl (gS rfl (gS rfl (gS rfl (gS rfl (gS rfl (gS rfl (gS rfl (gS rfl (gS rfl (gS rfl (gS rfl (gS rfl (gS rfl (gS rfl (gS rfl (gS rfl (gS rfl (gS rfl (gS rfl (gS rfl (gS rfl (gS rfl (gS rfl g0)))))))))))))))))))))))))) (gS rfl (gS rfl (gS rfl (gS rfl (gS rfl (gS rfl (gS rfl (gS rfl (gS rfl (gS rfl (gS rfl (gS rfl (gS rfl (gS rfl (gS rfl (gS rfl (gS rfl (gS rfl (gS rfl (gS rfl (gS rfl (gS rfl (gS rfl (gS rfl (gS rfl g0))))))))))))))))))))))))) g0 (gS rfl (gS rfl (gS rfl (gS rfl (gS rfl (gS rfl (gS rfl (gS rfl (gS rfl (gS rfl (gS rfl (gS rfl (gS rfl (gS rfl (gS rfl (gS rfl (gS rfl (gS rfl (gS rfl (gS rfl (gS rfl (gS rfl (gS rfl g0))))))))))))))))))))))) (gS rfl (gS rfl (gS rfl (gS rfl (gS rfl (gS rfl (gS rfl (gS rfl (gS rfl (gS rfl (gS rfl (gS rfl (gS rfl (gS rfl (gS rfl (gS rfl (gS rfl (gS rfl (gS rfl (gS rfl (gS rfl (gS rfl g0)))))))))))))))))))))) (gS rfl (gS rfl (gS rfl (gS rfl (gS rfl (gS rfl (gS rfl (gS rfl (gS rfl (gS rfl (gS rfl (gS rfl (gS rfl (gS rfl (gS rfl (gS rfl (gS rfl (gS rfl (gS rfl (gS rfl (gS rfl g0))))))))))))))))))))) (gS rfl (gS rfl (gS rfl (gS rfl (gS rfl (gS rfl (gS rfl (gS rfl (gS rfl (gS rfl (gS rfl (gS rfl (gS rfl (gS rfl (gS rfl (gS rfl (gS rfl (gS rfl (gS rfl (gS rfl g0)))))))))))))))))))) (gS rfl (gS rfl (gS rfl (gS rfl (gS rfl (gS rfl (gS rfl (gS rfl (gS rfl (gS rfl (gS rfl (gS rfl (gS rfl (gS rfl (gS rfl (gS rfl (gS rfl (gS rfl (gS rfl g0))))))))))))))))))) (gS rfl (gS rfl (gS rfl (gS rfl (gS rfl (gS rfl (gS rfl (gS rfl (gS rfl (gS rfl (gS rfl (gS rfl (gS rfl (gS rfl (gS rfl (gS rfl (gS rfl (gS rfl g0)))))))))))))))))) (gS rfl (gS rfl (gS rfl (gS rfl (gS rfl (gS rfl (gS rfl (gS rfl (gS rfl (gS rfl (gS rfl (gS rfl (gS rfl (gS rfl (gS rfl (gS rfl (gS rfl g0))))))))))))))))) (fun g => ?_)
          refine c_seq (fun K30 hK30 => ?_)
          refine c_region ?_
          refine l_step (y_moveV (et (gS rfl (gS rfl (gS rfl (gS rfl (gS rfl (gS rfl (gS rfl (gS rfl (gS rfl (gS rfl g0)))))))))) rfl)) ?_
          refine l_step (y_moveV (et (gS rfl (gS rfl (gS rfl (gS rfl (gS rfl (gS rfl (gS rfl (gS rfl (gS rfl (gS rfl g0)))))))))) rfl)) ?_
          refine l_step (y_moveV (et (gS rfl (gS rfl g0)) rfl)) ?_
          refine l_step (y_add (et (gS rfl g0) rfl) (et g0 rfl) (addIN ?_)) ?_
          omega
          refine l_step (y_moveV (et (gS rfl (gS rfl (gS rfl (gS rfl (gS rfl (gS rfl (gS rfl (gS rfl (gS rfl (gS rfl (gS rfl g0))))))))))) rfl)) ?_
          refine l_step (y_conv Hvaa.underlying60 Hvaa.underlying5 (et g0 rfl) (wrapU_nat uk8)) ?_
          refine l_step (y_idxSa rfl Hvaa.underlying95 sz_5 (et (gS rfl (gS rfl (gS rfl (gS rfl (gS rfl g0))))) rfl) (et (gS rfl (gS rfl g0)) rfl) ?_) ?_
          omega
          refine l_effN (e_store sz_5 (et g0 rfl) (cellsV (et (gS rfl g0) rfl) rfl) rfl (by first | exact one_bL _ | exact one_uL _ | (intro v hv; simp at hv; subst hv; rfl)) k7 (by (simp only [List.size_toArray, length_bL, List.length_append, List.length_cons, List.length_drop, List.length_replicate]; omega))) (fun v31 w31 h31 => ?_)
          obtain ⟨rfl, x31⟩ := h31
          replace hW := hW.ch x31.ch (by first | omega | first | omega | (intro q hq; omega))
          replace hX := hX.ch x31.ch (by first | omega | first | omega | (intro q hq; omega))
          replace k7 := x31.blk
          replace hW2 := hW2.wr x31 (by omega)
          replace hX2 := hX2.wr x31 (by omega)
          replace U := U.st x31 f7
          replace V11 := V11.st x31 (by omega)
          replace V22 := V22.st x31 (by omega)
          replace k7 := Blk.setB k7 (by omega)
          replace k7 : Blk w31 b7 (bL ((L ++ (N ++ [(C + (m[i] * p[N.length] + D[N.length])) % 256])) ++ (D.drop (N ++ [(C + (m[i] * p[N.length] + D[N.length])) % 256]).length ++ 0 :: List.replicate r' 0))).toArray := by simpa using k7
          refine l_nil ?_
          refine hK30 _ _ ?_
          refine fg11 1 5 6 7 8 21 22 23 28 29 30 (gS rfl (gS rfl (gS rfl (gS rfl (gS rfl (gS rfl (gS rfl (gS rfl (gS rfl (gS rfl (gS rfl (gS rfl (gS rfl (gS rfl (gS rfl (gS rfl (gS rfl (gS rfl g0)))))))))))))))))) (gS rfl (gS rfl (gS rfl (gS rfl (gS rfl (gS rfl (gS rfl (gS rfl (gS rfl (gS rfl (gS rfl (gS rfl (gS rfl (gS rfl (gS rfl (gS rfl (gS rfl g0))))))))))))))))) (gS rfl (gS rfl (gS rfl (gS rfl (gS rfl (gS rfl (gS rfl (gS rfl (gS rfl (gS rfl (gS rfl (gS rfl (gS rfl (gS rfl (gS rfl (gS rfl g0)))))))))))))))) (gS rfl (gS rfl (gS rfl (gS rfl (gS rfl (gS rfl (gS rfl (gS rfl (gS rfl (gS rfl (gS rfl (gS rfl (gS rfl (gS rfl (gS rfl g0))))))))))))))) (gS rfl (gS rfl (gS rfl (gS rfl (gS rfl (gS rfl (gS rfl (gS rfl (gS rfl (gS rfl (gS rfl (gS rfl (gS rfl (gS rfl g0)))))))))))))) (gS rfl (gS rfl (gS rfl (gS rfl (gS rfl (gS rfl (gS rfl (gS rfl (gS rfl (gS rfl (gS rfl (gS rfl (gS rfl g0))))))))))))) (gS rfl (gS rfl (gS rfl (gS rfl (gS rfl (gS rfl (gS rfl (gS rfl (gS rfl (gS rfl (gS rfl (gS rfl g0)))))))))))) (gS rfl (gS rfl (gS rfl (gS rfl (gS rfl (gS rfl (gS rfl (gS rfl (gS rfl (gS rfl (gS rfl g0))))))))))) (gS rfl (gS rfl (gS rfl (gS rfl (gS rfl (gS rfl (gS rfl (gS rfl (gS rfl (gS rfl g0)))))))))) (gS rfl (gS rfl (gS rfl (gS rfl (gS rfl (gS rfl (gS rfl (gS rfl (gS rfl g0))))))))) (gS rfl (gS rfl (gS rfl (gS rfl (gS rfl (gS rfl (gS rfl (gS rfl g0)))))))) (fun g => ?_)
          refine c_region ?_
          refine l_step (y_moveV (et (gS rfl (gS rfl (gS rfl (gS rfl (gS rfl (gS rfl g0)))))) rfl)) ?_
          refine l_step (y_shr (et g0 rfl) rfl (by decide) (shr32C 8 256 (by decide) rfl)) ?_
          refine l_step (y_assignV (et g0 rfl)) ?_
          refine l_nil ?_
          refine hQ27 _ _ _ (in_normal ?_)
          refine hK26 _ _ ?_
          refine fg11 1 5 6 7 8 21 22 23 28 29 30 (gS rfl (gS rfl (gS rfl (gS rfl (gS rfl (gS rfl (gS rfl (gS rfl (gS rfl (gS rfl (gS rfl (gS rfl (gS rfl g0))))))))))))) (gS rfl (gS rfl (gS rfl (gS rfl (gS rfl (gS rfl (gS rfl (gS rfl (gS rfl (gS rfl (gS rfl (gS rfl g0)))))))))))) (gS rfl (gS rfl (gS rfl (gS rfl (gS rfl (gS rfl (gS rfl (gS rfl (gS rfl (gS rfl (gS rfl g0))))))))))) (gS rfl (gS rfl (gS rfl (gS rfl (gS rfl (gS rfl (gS rfl (gS rfl (gS rfl (gS rfl g0)))))))))) g0 (gS rfl (gS rfl (gS rfl (gS rfl (gS rfl (gS rfl (gS rfl (gS rfl g0)))))))) (gS rfl (gS rfl (gS rfl (gS rfl (gS rfl (gS rfl (gS rfl g0))))))) (gS rfl (gS rfl (gS rfl (gS rfl (gS rfl (gS rfl g0)))))) (gS rfl (gS rfl (gS rfl (gS rfl (gS rfl g0))))) (gS rfl (gS rfl (gS rfl (gS rfl g0)))) (gS rfl (gS rfl (gS rfl g0))) (fun g => ?_)
          refine c_region ?_
          refine l_step (y_add (et g0 rfl) rfl ((addIN (y := 1) ?_).trans (castE (show N.length + 1 = (N ++ [(C + (m[i] * p[N.length] + D[N.length])) % 256]).length by simp)))) ?_
          omega
          refine l_step (y_moveV (et g0 rfl)) ?_
          refine l_nil ?_
          refine fK11 1 5 6 7 8 21 22 23 28 29 30 (gS rfl (gS rfl (gS rfl (gS rfl (gS rfl (gS rfl (gS rfl (gS rfl (gS rfl (gS rfl (gS rfl (gS rfl g0)))))))))))) (gS rfl (gS rfl (gS rfl (gS rfl (gS rfl (gS rfl (gS rfl (gS rfl (gS rfl (gS rfl (gS rfl g0))))))))))) (gS rfl (gS rfl (gS rfl (gS rfl (gS rfl (gS rfl (gS rfl (gS rfl (gS rfl (gS rfl g0)))))))))) (gS rfl (gS rfl (gS rfl (gS rfl (gS rfl (gS rfl (gS rfl (gS rfl (gS rfl g0))))))))) (gS rfl (gS rfl (gS rfl (gS rfl (gS rfl (gS rfl (gS rfl (gS rfl g0)))))))) (gS rfl (gS rfl (gS rfl (gS rfl (gS rfl (gS rfl (gS rfl g0))))))) (gS rfl (gS rfl (gS rfl (gS rfl (gS rfl (gS rfl g0)))))) (gS rfl (gS rfl (gS rfl (gS rfl (gS rfl g0))))) (gS rfl (gS rfl (gS rfl (gS rfl g0)))) (gS rfl (gS rfl (gS rfl g0))) g0 (fun g => ?_)
          exact hK22 (p.length - ((N ++ [(C + (m[i] * p[N.length] + D[N.length])) % 256])).length) _ _ (by simp; omega) ⟨g, (N ++ [(C + (m[i] * p[N.length] + D[N.length])) % 256]), ((C + (m[i] * p[N.length] + D[N.length])) / 256), rfl, rfl, by simp; omega, hNd.app (Dig.one (Nat.mod_lt _ (by decide))), by omega, mul_inv (by omega) (by omega) hNv (by omega), k7, V22⟩
        · skip
          simp only [decide_eq_true_eq, decide_eq_false_iff_not, Int.not_lt, Int.not_le, Bool.not_eq_true', Bool.not_eq_false', Bool.not_eq_eq_eq_not, Bool.not_true, Bool.not_false] at cB2
          have hNj : N.length = p.length := by omega
          rw [List.drop_of_length_le (by omega), List.nil_append] at k7
          have hLN : (L ++ N).length = i + p.length := by simp; omega
          refine c_exit ?_
          refine hQ21 _ _ _ (in_exit ?_)
          refine hK19 _ _ ?_
          refine fg7 1 5 6 8 21 22 23 (gS rfl (gS rfl (gS rfl (gS rfl (gS rfl (gS rfl (gS rfl (gS rfl (gS rfl (gS rfl (gS rfl g0))))))))))) (gS rfl (gS rfl (gS rfl (gS rfl (gS rfl (gS rfl (gS rfl (gS rfl (gS rfl (gS rfl g0)))))))))) (gS rfl (gS rfl (gS rfl (gS rfl (gS rfl (gS rfl (gS rfl (gS rfl (gS rfl g0))))))))) (gS rfl (gS rfl (gS rfl (gS rfl (gS rfl (gS rfl (gS rfl g0))))))) (gS rfl (gS rfl (gS rfl (gS rfl (gS rfl (gS rfl g0)))))) (gS rfl (gS rfl (gS rfl (gS rfl (gS rfl g0))))) (gS rfl (gS rfl (gS rfl (gS rfl g0)))) (fun g => ?_)
          refine c_region ?_
          refine l_step (y_moveV (et (gS rfl (gS rfl (gS rfl (gS rfl (gS rfl g0))))) rfl)) ?_
          refine l_step (y_moveV (et (gS rfl (gS rfl (gS rfl (gS rfl (gS rfl g0))))) rfl)) ?_
          refine l_step (y_moveV (et (gS rfl (gS rfl (gS rfl (gS rfl (gS rfl (gS rfl (gS rfl (gS rfl g0)))))))) rfl)) ?_
          refine l_step (y_len Hvaa.underlying95 (et g0 rfl)) ?_
          refine l_step (y_add (et (gS rfl (gS rfl g0)) rfl) (et g0 rfl) (addIN ?_)) ?_
          omega
          refine l_step (y_moveV (et (gS rfl (gS rfl (gS rfl (gS rfl (gS rfl (gS rfl (gS rfl (gS rfl g0)))))))) rfl)) ?_
          refine l_step (y_conv Hvaa.underlying60 Hvaa.underlying5 (et g0 rfl) ((wrapU_nat uk8).trans (castE (show C % 256 = C by omega)))) ?_
          refine l_step (y_idxSa rfl Hvaa.underlying95 sz_5 (et (gS rfl (gS rfl (gS rfl (gS rfl (gS rfl (gS rfl g0)))))) rfl) (et (gS rfl (gS rfl g0)) rfl) ?_) ?_
          omega
          refine l_effN (e_store sz_5 (et g0 rfl) (cellsV (et (gS rfl g0) rfl) rfl) rfl (by first | exact one_bL _ | exact one_uL _ | (intro v hv; simp at hv; subst hv; rfl)) k7 (by (simp only [List.size_toArray, length_bL, List.length_append, List.length_cons, List.length_drop, List.length_replicate]; omega))) (fun v32 w32 h32 => ?_)
          obtain ⟨rfl, x32⟩ := h32
          replace hW := hW.ch x32.ch (by first | omega | first | omega | (intro q hq; omega))
          replace hX := hX.ch x32.ch (by first | omega | first | omega | (intro q hq; omega))
          replace k7 := x32.blk
          replace hW2 := hW2.wr x32 (by omega)
          replace hX2 := hX2.wr x32 (by omega)
          replace U := U.st x32 f7
          replace V11 := V11.st x32 (by omega)
          replace k7 := Blk.setB k7 (by omega)
          replace k7 : Blk w32 b7 (bL (((L ++ N) ++ [C]) ++ List.replicate r' 0)).toArray := by simpa using k7
          refine l_nil ?_
          refine hQ16 _ _ _ (in_normal ?_)
          refine hK15 _ _ ?_
          refine fg5 1 5 21 22 23 (gS rfl (gS rfl (gS rfl (gS rfl (gS rfl (gS rfl (gS rfl (gS rfl (gS rfl (gS rfl (gS rfl (gS rfl (gS rfl (gS rfl g0)))))))))))))) (gS rfl (gS rfl (gS rfl (gS rfl (gS rfl (gS rfl (gS rfl (gS rfl (gS rfl (gS rfl (gS rfl (gS rfl (gS rfl g0))))))))))))) (gS rfl (gS rfl (gS rfl (gS rfl (gS rfl (gS rfl (gS rfl (gS rfl (gS rfl (gS rfl g0)))))))))) (gS rfl (gS rfl (gS rfl (gS rfl (gS rfl (gS rfl (gS rfl (gS rfl (gS rfl g0))))))))) (gS rfl (gS rfl (gS rfl (gS rfl (gS rfl (gS rfl (gS rfl (gS rfl g0)))))))) (fun g => ?_)
          refine c_region ?_
          refine l_step (y_add (et g0 rfl) rfl (addIN (y := 1) ?_)) ?_
          omega
          refine l_step (y_moveV (et g0 rfl)) ?_
          refine l_nil ?_
          refine fK5 1 5 21 22 23 (gS rfl (gS rfl (gS rfl (gS rfl (gS rfl (gS rfl g0)))))) (gS rfl (gS rfl (gS rfl (gS rfl (gS rfl g0))))) (gS rfl (gS rfl (gS rfl (gS rfl g0)))) (gS rfl (gS rfl (gS rfl g0))) g0 (fun g => ?_)
          exact hK11 ((r')) _ _ (by omega) ⟨g, ((L ++ N) ++ [C]), (i + 1), r', rfl, rfl, by omega, by simp; omega, (hLd.app hNd).app (Dig.one hC), mul_out hLl hNj hDl (by omega) hPv (by rw [hNj, take_ge (Nat.le_of_eq hDl), take_ge (Nat.le_refl _)] at hNv; rw [hNj]; exact hNv), k7, V11⟩
    · skip
      simp only [decide_eq_true_eq, decide_eq_false_iff_not, Int.not_lt, Int.not_le, Bool.not_eq_true', Bool.not_eq_false', Bool.not_eq_eq_eq_not, Bool.not_true, Bool.not_false] at cB1
      have hr0 : r = 0 := by omega
      subst hr0
      have him : i = m.length := by omega
      subst him
      rw [List.replicate_zero, List.append_nil] at k7
      rw [List.take_length] at hPv
      refine c_exit ?_
      refine hQ10 _ _ _ (in_exit ?_)
      refine hK8 _ _ ?_
      refine fg1 5 (gS rfl (gS rfl (gS rfl (gS rfl g0)))) (fun g => ?_)
      refine c_seq (fun K33 hK33 => ?_)
      refine c_region ?_
      refine l_step (y_moveV (et g0 rfl)) ?_
      rw [← hPl]
      have f9 := f7
      refine l_eff (e_callV cal_89 (aC (et g0 rfl) aN) (clip_fb hPd f9 k7 (by omega))) (fun v34 w34 h34 => ?_)
      obtain ⟨l', u34, hf, hv2, hT2⟩ := h34
      replace k7 := k7.up u34
      replace hW := hW.up u34
      replace hX := hX.up u34
      replace hW2 := hW2.up u34
      replace hX2 := hX2.up u34
      replace U := U.tr u34
      refine l_step (y_assignV (et g0 rfl)) ?_
      refine l_nil ?_
      refine hK33 _ _ ?_
      refine fg1 4 g0 (fun g => ?_)
      refine c_ret ?_
      refine ret1 rfl (res_tmp (et g0 rfl)) ?_
      exact ⟨l', U, hf, by rw [hv2, hPv, hv, hv1], hT2⟩
end Go.Proofs.YgvaawGreat
