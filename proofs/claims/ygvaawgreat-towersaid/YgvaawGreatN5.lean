import Derived.Test.YgvaawGreatN4
set_option maxRecDepth 100000
set_option linter.unusedSimpArgs false
set_option linter.unusedVariables false
namespace Go.Proofs.YgvaawGreat
open Go
theorem WV.wr {s0 b : Nat} {w w' : World} {v : Value} {l : List Nat} {cs : Array Value} (h : WV s0 w v l) (x : Wr w w' b cs) (hb : s0 ≤ b) : WV s0 w' v l := h.ch x.ch (fun k hk => by rw [hk]; exact hb)
theorem ofBE_rep (k : Nat) (l : List Nat) : ofBE (List.replicate k 0 ++ l) = ofBE l := by
  induction k with
  | zero => rfl
  | succ k ih => rw [List.replicate_succ, List.cons_append, ofBE_zero, ih]
theorem be_val {m : List Nat} {N : Nat} (hd : Dig 256 m) (hl : m.length ≤ N) : List.replicate (N - m.length) 0 ++ m.reverse = be N (val 256 m) := by
  have h := be_ofBE (List.replicate (N - m.length) 0 ++ m.reverse) (by
    intro d hd'
    rcases List.mem_append.1 hd' with h | h
    · rw [(List.mem_replicate.1 h).2]; decide
    · exact hd d (List.mem_reverse.1 h))
  rw [ofBE_rep, ← val_reverse, List.reverse_reverse] at h
  rw [← h]
  congr 1
  simp; omega
theorem rev_take {m : List Nat} {i : Nat} (h : i < m.length) : (m.take (i + 1)).reverse = m[i] :: (m.take i).reverse := by
  rw [take_snoc h, List.reverse_append]; rfl
theorem W256_pow : W256 = 256 ^ 32 := by decide
theorem be32_raw (s0 c : Nat) (a : Option Addr) (l : List Nat) (w : World) (hW : WV s0 w (.slice a l.length c) l) (hs0 : s0 ≤ w.heap.size) (hc : l.length ≤ c) (h48 : l.length ≤ 281474976710656) (hx : val 256 l < W256) :
    Ret 81 [.slice a l.length c] w (fun v w' => v = .tuple #[hV (val 256 l), .bool true] ∧ Up w w') := by
  refine enter (n := 26) Hvaa.func81 rfl rfl (Nat.le_of_ble_eq_true rfl) ?_
  have U := Up.refl w
  refine c_seq (fun K1 hK1 => ?_)
  refine c_region ?_
  refine l_eff (e_alloc zr_27) (fun v2 w2 h2 => ?_)
  obtain ⟨b2, rfl, n2⟩ := h2
  have f2 : w.heap.size ≤ b2 := Nat.le_trans U.size n2.fresh
  replace hW := hW.up n2.up
  replace U := U.tr n2.up
  have k2 := n2.blk
  refine l_step y_assignC ?_
  refine l_nil ?_
  refine hK1 _ _ ?_
  refine fg2 0 2 (gS rfl (gS rfl g0)) (gS rfl g0) (fun g => ?_)
  refine c_seq (fun K3 hK3 => ?_)
  refine c_region ?_
  refine l_eff (e_alloc zr_27) (fun v4 w4 h4 => ?_)
  obtain ⟨b4, rfl, n4⟩ := h4
  have d2_4 : b2 < b4 := Nat.lt_of_lt_of_le k2.lt n4.fresh
  have f4 : w.heap.size ≤ b4 := Nat.le_trans U.size n4.fresh
  replace k2 := k2.up n4.up
  replace hW := hW.up n4.up
  replace U := U.tr n4.up
  have k4 := n4.blk
  refine l_nil ?_
  refine hK3 _ _ ?_
  refine c_seq (fun K5 hK5 => ?_)
  refine c_region ?_
  refine l_step (y_moveV (et (gS rfl (gS rfl g0)) rfl)) ?_
  refine l_eff (e_callV cal_88 (aC (et g0 rfl) aN) (trim_spec _ _ _ l _ hW (by omega) (by omega))) (fun v6 w6 h6 => ?_)
  obtain ⟨k, hk, rfl, hT, hv, u6⟩ := h6
  replace k2 := k2.up u6
  replace k4 := k4.up u6
  replace hW := hW.up u6
  replace U := U.tr u6
  have hW2 := hW.take hk
  have hlk : (l.take k).length = k := by simp; omega
  refine l_step (y_assignV (et g0 rfl)) ?_
  refine l_nil ?_
  refine hK5 _ _ ?_
  refine fg3 0 2 4 g0 (gS rfl (gS rfl (gS rfl (gS rfl g0)))) (gS rfl (gS rfl (gS rfl g0))) (fun g => ?_)
  refine c_seq (fun K7 hK7 => ?_)
  refine c_seq (fun K8 hK8 => ?_)
  refine c_region ?_
  refine l_step (y_moveV (et (gS rfl (gS rfl g0)) rfl)) ?_
  refine l_step (y_len Hvaa.underlying95 (et g0 rfl)) ?_
  refine l_step (y_gtr (et g0 rfl) rfl) ?_
  refine l_nil ?_
  refine hK8 _ _ ?_
  refine fg4 0 2 4 11 (gS rfl (gS rfl (gS rfl (gS rfl (gS rfl g0))))) (gS rfl (gS rfl (gS rfl (gS rfl g0)))) (gS rfl (gS rfl (gS rfl g0))) g0 (fun g => ?_)
  refine c_false (et g0 rfl) (by (have h1 : k ≤ 32 := (hlk ▸ tr_len hT (by rw [hv]; exact W256_pow ▸ hx)); simp only [decide_eq_false_iff_not]; omega)) ?_
  refine c_skip ?_
  refine hK7 _ _ ?_
  refine fg3 0 2 4 (gS rfl (gS rfl (gS rfl g0))) (gS rfl (gS rfl g0)) (gS rfl g0) (fun g => ?_)
  refine c_seq (fun K10 hK10 => ?_)
  refine c_seq (fun K11 hK11 => ?_)
  refine c_region ?_
  refine l_step (y_moveV (et (gS rfl (gS rfl g0)) rfl)) ?_
  refine l_step (y_len Hvaa.underlying95 (et g0 rfl)) ?_
  refine l_step y_moveC ?_
  refine l_nil ?_
  refine hK11 _ _ ?_
  refine fg5 2 4 13 14 15 (gS rfl (gS rfl (gS rfl (gS rfl g0)))) (gS rfl (gS rfl (gS rfl g0))) (gS rfl (gS rfl g0)) (gS rfl g0) g0 (fun g => ?_)
  refine c_block (fun Q12 hQ12 => ?_)
  refine fg5 2 4 13 14 15 (gS rfl (gS rfl (gS rfl (gS rfl g0)))) (gS rfl (gS rfl (gS rfl g0))) (gS rfl (gS rfl g0)) (gS rfl g0) g0 (fun g => ?_)
  have h32 : k ≤ 32 := hlk ▸ tr_len hT (by rw [hv]; exact W256_pow ▸ hx)
  obtain ⟨m, hm⟩ : ∃ m, m = l.take k := ⟨_, rfl⟩
  rw [← hm] at hW2 hT hv hlk
  replace k4 : Blk w6 b4 (bL (List.replicate (32 - 0) 0 ++ (m.take 0).reverse)).toArray := k4
  refine c_loop (fun k_ s_ W13 => ∃ (g : Nat → Value) (i : Nat), s_ = (upd (upd (upd (upd (upd g 2 (.pointer (some ⟨b2, 0, none⟩))) 4 (.pointer (some ⟨b4, 0, none⟩))) 13 (.slice a k k)) 14 (.int .i64 (k : Nat))) 15 (.int .i64 (i : Nat))) ∧ k - i = k_ ∧ (i ≤ k) ∧ Blk W13 b4 ((bL (List.replicate (32 - i) 0 ++ (m.take i).reverse)).toArray) ∧ Ch (fun k => k = b4) w6 W13) (k - (0)) ?_ ?_
  · exact ⟨g, 0, rfl, rfl, Nat.zero_le _, k4, Ch.refl _ _⟩
  · skip
    intro k_ s_ W13 hI K13 hK13
    obtain ⟨g, i, rfl, rfl, hi, nk4, V13⟩ := hI
    replace k2 := k2.ch V13 (by omega)
    replace hW := hW.ch V13 (by first | omega | (intro q hq; omega))
    replace hW2 := hW2.ch V13 (by first | omega | (intro q hq; omega))
    replace k4 := nk4
    replace U := U.cc V13 (by intro b hb; first | exact hb.elim | omega | (simp at hb ⊢; omega))
    refine c_seq (fun K14 hK14 => ?_)
    refine c_region ?_
    refine l_step (y_lss (et g0 rfl) (et (gS rfl g0) rfl)) ?_
    refine l_nil ?_
    refine hK14 _ _ ?_
    refine c_seq (fun K15 hK15 => ?_)
    refine c_cond (et g0 rfl) (fun cB2 => ?_) (fun cB2 => ?_)
    · skip
      simp only [decide_eq_true_eq, decide_eq_false_iff_not, Int.not_lt, Int.not_le, Bool.not_eq_true', Bool.not_eq_false', Bool.not_eq_eq_eq_not, Bool.not_true, Bool.not_false] at cB2
      obtain ⟨r', hr', hrr⟩ : ∃ r', 32 - i = r' + 1 ∧ 31 - i = r' := ⟨31 - i, by omega, rfl⟩
      rw [hr', List.replicate_succ', List.append_assoc] at k4
      replace k4 : Blk W13 b4 (bL (List.replicate r' 0 ++ 0 :: (m.take i).reverse)).toArray := k4
      refine c_skip ?_
      refine hK15 _ _ ?_
      refine fg5 2 4 13 14 15 (gS rfl (gS rfl (gS rfl (gS rfl (gS rfl g0))))) (gS rfl (gS rfl (gS rfl (gS rfl g0)))) (gS rfl (gS rfl (gS rfl g0))) (gS rfl (gS rfl g0)) (gS rfl g0) (fun g => ?_)
      refine c_seq (fun K17 hK17 => ?_)
      refine c_block (fun Q18 hQ18 => ?_)
      refine c_seq (fun K19 hK19 => ?_)
      refine c_region ?_
      refine l_step (y_moveV (et g0 rfl)) ?_
      have hW3 : WV s0 W13 (.slice a m.length k) m := by rw [hlk]; exact hW2
      obtain ⟨ba, oa, ha, hb0, hr⟩ := hW3.at (by omega)
      refine l_step (y_idxSa ha Hvaa.underlying95 sz_5 (et (gS rfl (gS rfl (gS rfl g0))) rfl) (et (gS rfl g0) rfl) ?_) ?_
      omega
      refine l_step (y_load1 one_5 (et g0 rfl) (at1 (row_byte hr (by omega)))) ?_
      refine l_step (y_assignV (et (gS rfl (gS rfl g0)) rfl)) ?_
      refine l_step (y_assignV (et (gS rfl g0) rfl)) ?_
      refine l_nil ?_
      refine hK19 _ _ ?_
      refine fg7 2 4 13 14 15 5 6 (gS rfl (gS rfl (gS rfl (gS rfl (gS rfl (gS rfl (gS rfl (gS rfl (gS rfl g0))))))))) (gS rfl (gS rfl (gS rfl (gS rfl (gS rfl (gS rfl (gS rfl (gS rfl g0)))))))) (gS rfl (gS rfl (gS rfl (gS rfl (gS rfl (gS rfl (gS rfl g0))))))) (gS rfl (gS rfl (gS rfl (gS rfl (gS rfl (gS rfl g0)))))) (gS rfl (gS rfl (gS rfl (gS rfl (gS rfl g0))))) (gS rfl g0) g0 (fun g => ?_)
      refine c_region ?_
      refine l_step (y_moveV (et (gS rfl g0) rfl)) ?_
      refine l_step (y_sub rfl (et g0 rfl) ((subIN (x := 31) ?_ ?_).trans (castE hrr))) ?_
      omega
      omega
      refine l_step (y_moveV (et (gS rfl (gS rfl g0)) rfl)) ?_
      refine l_step (y_idxA Hvaa.underlying27 sz_5 (et (gS rfl (gS rfl (gS rfl (gS rfl (gS rfl (gS rfl (gS rfl (gS rfl g0)))))))) rfl) (et (gS rfl g0) rfl) ?_ ?_) ?_
      omega
      omega
      refine l_effN (e_store sz_5 (et g0 rfl) (cellsV (et (gS rfl g0) rfl) rfl) rfl (by first | exact one_bL _ | exact one_uL _ | (intro v hv; simp at hv; subst hv; rfl)) k4 (by (simp only [List.size_toArray, length_bL, List.length_append, List.length_cons, List.length_reverse, List.length_take, List.length_replicate]; omega))) (fun v20 w20 h20 => ?_)
      obtain ⟨rfl, x20⟩ := h20
      replace k2 := k2.ch x20.ch (by omega)
      replace hW := hW.ch x20.ch (by first | omega | first | omega | (intro q hq; omega))
      replace k4 := x20.blk
      replace hW2 := hW2.wr x20 (by omega)
      replace U := U.st x20 f4
      replace V13 := V13.st x20 (by omega)
      replace k4 := Blk.setB k4 (by simp)
      replace k4 : Blk w20 b4 (bL (List.replicate (32 - (i + 1)) 0 ++ (m.take (i + 1)).reverse)).toArray := by rw [show 32 - (i + 1) = r' by omega, rev_take (by omega)]; exact k4
      refine l_nil ?_
      refine hQ18 _ _ _ (in_normal ?_)
      refine hK17 _ _ ?_
      refine fg5 2 4 13 14 15 (gS rfl (gS rfl (gS rfl (gS rfl (gS rfl (gS rfl (gS rfl (gS rfl (gS rfl (gS rfl g0)))))))))) (gS rfl (gS rfl (gS rfl (gS rfl (gS rfl (gS rfl (gS rfl (gS rfl (gS rfl g0))))))))) (gS rfl (gS rfl (gS rfl (gS rfl (gS rfl (gS rfl (gS rfl (gS rfl g0)))))))) (gS rfl (gS rfl (gS rfl (gS rfl (gS rfl (gS rfl (gS rfl g0))))))) (gS rfl (gS rfl (gS rfl (gS rfl (gS rfl (gS rfl g0)))))) (fun g => ?_)
      refine c_region ?_
      refine l_step (y_add (et g0 rfl) rfl (addIN (y := 1) ?_)) ?_
      omega
      refine l_step (y_moveV (et g0 rfl)) ?_
      refine l_nil ?_
      refine fK5 2 4 13 14 15 (gS rfl (gS rfl (gS rfl (gS rfl (gS rfl (gS rfl g0)))))) (gS rfl (gS rfl (gS rfl (gS rfl (gS rfl g0))))) (gS rfl (gS rfl (gS rfl (gS rfl g0)))) (gS rfl (gS rfl (gS rfl g0))) g0 (fun g => ?_)
      exact hK13 (k - ((i + 1))) _ _ (by omega) ⟨g, (i + 1), rfl, rfl, by omega, k4, V13⟩
    · skip
      simp only [decide_eq_true_eq, decide_eq_false_iff_not, Int.not_lt, Int.not_le, Bool.not_eq_true', Bool.not_eq_false', Bool.not_eq_eq_eq_not, Bool.not_true, Bool.not_false] at cB2
      have hik : i = k := by omega
      subst hik
      rw [List.take_of_length_le (by omega), ← hlk, be_val hW2.dig (by omega), hv] at k4
      refine c_exit ?_
      refine hQ12 _ _ _ (in_exit ?_)
      refine hK10 _ _ ?_
      refine fg2 2 4 (gS rfl (gS rfl (gS rfl (gS rfl (gS rfl g0))))) (gS rfl (gS rfl (gS rfl (gS rfl g0)))) (fun g => ?_)
      refine c_seq (fun K21 hK21 => ?_)
      refine c_region ?_
      refine l_step (y_loadB agg_27 sz_27 (et g0 rfl) (by first | (simp only [Value.cells, hV, aV, bV, wV, wL, List.size_toArray, length_bL, length_uL, length_be, size_spl, List.length_cons, List.length_nil, List.length_replicate, Nat.zero_add, Nat.reduceAdd, Nat.reduceLeDiff, Nat.le_refl]; done) | rfl) (at1B k4)) ?_
      refine l_effN (e_store sz_27 (et (gS rfl (gS rfl g0)) rfl) (cellsV (et g0 rfl) rfl) (by first | (simp only [Value.cells, hV, aV, bV, wV, wL, List.size_toArray, length_bL, length_uL, length_be, size_spl, List.length_cons, List.length_nil, List.length_replicate, Nat.zero_add, Nat.reduceAdd, Nat.reduceLeDiff, Nat.le_refl]; done) | rfl) (by first | exact one_bL _ | exact one_uL _ | (intro v hv; simp at hv; subst hv; rfl)) k2 (by first | (simp only [Value.cells, hV, aV, bV, wV, wL, List.size_toArray, length_bL, length_uL, length_be, size_spl, List.length_cons, List.length_nil, List.length_replicate, Nat.zero_add, Nat.reduceAdd, Nat.reduceLeDiff, Nat.le_refl]; done) | exact Nat.le_of_ble_eq_true rfl | simp | omega)) (fun v22 w22 h22 => ?_)
      obtain ⟨rfl, x22⟩ := h22
      replace k4 := k4.ch x22.ch (by omega)
      replace hW := hW.ch x22.ch (by first | omega | first | omega | (intro q hq; omega))
      replace k2 := x22.blk.full (by first | (simp only [Value.cells, hV, aV, bV, wV, wL, List.size_toArray, length_bL, length_uL, length_be, size_spl, List.length_cons, List.length_nil, List.length_replicate, Nat.zero_add, Nat.reduceAdd, Nat.reduceLeDiff, Nat.le_refl]; done) | rfl)
      replace hW2 := hW2.wr x22 (by omega)
      replace U := U.st x22 f2
      refine l_step y_assignC ?_
      refine l_nil ?_
      refine hK21 _ _ ?_
      refine fg2 2 3 (gS rfl (gS rfl (gS rfl g0))) g0 (fun g => ?_)
      refine c_ret ?_
      refine ret2 rfl (res_blk agg_27 sz_27 (et (gS rfl g0) rfl) (by first | (simp only [Value.cells, hV, aV, bV, wV, wL, List.size_toArray, length_bL, length_uL, length_be, size_spl, List.length_cons, List.length_nil, List.length_replicate, Nat.zero_add, Nat.reduceAdd, Nat.reduceLeDiff, Nat.le_refl]; done) | rfl) k2) (res_tmp (et g0 rfl)) ?_
      exact ⟨rfl, U⟩
theorem take_stepN {VP VM VL B W x mi li B' : Nat} (e1 : VP + VM = VL + B * W) (e2 : x + (B + mi) = li + 256 * B') : (VP + W * x) + (VM + W * mi) = (VL + W * li) + B' * (W * 256) := by
  have h : W * (x + (B + mi)) = W * (li + 256 * B') := by rw [e2]
  rw [Nat.mul_add, Nat.mul_add, Nat.mul_add] at h
  rw [show B' * (W * 256) = W * (256 * B') by grind, show B * W = W * B by grind] at *
  omega
theorem val_take_in {l : List Nat} {i : Nat} (h : i < l.length) : val 256 (l.take (i + 1)) = val 256 (l.take i) + 256 ^ i * l[i] := by
  rw [take_snoc h, val_snoc, List.length_take, Nat.min_eq_left (Nat.le_of_lt h)]
theorem val_take_out {l : List Nat} {i : Nat} (h : l.length ≤ i) : val 256 (l.take (i + 1)) = val 256 (l.take i) + 256 ^ i * 0 := by
  rw [List.take_of_length_le (by omega), List.take_of_length_le (by omega)]; simp
theorem take_inv {P l l1 : List Nat} {B x mi B' : Nat} (hP : P.length < l.length) (e1 : val 256 P + val 256 (l1.take P.length) = val 256 (l.take P.length) + B * 256 ^ P.length) (e2 : x + (B + mi) = l[P.length] + 256 * B')
    (hm : val 256 (l1.take (P.length + 1)) = val 256 (l1.take P.length) + 256 ^ P.length * mi) : val 256 (P ++ [x]) + val 256 (l1.take (P ++ [x]).length) = val 256 (l.take (P ++ [x]).length) + B' * 256 ^ (P ++ [x]).length := by
  rw [List.length_append, List.length_singleton, val_snoc, hm, val_take_in hP, Nat.pow_succ]
  exact take_stepN e1 e2
theorem take_raw (bx cc : Nat) (l : List Nat) (hd : Dig 256 l) (w : World) (kB : Blk w bx (bL l).toArray) (hl48 : l.length ≤ 281474976710656) (s1 c1 : Nat) (a1 : Option Addr) (l1 : List Nat) (hX : WV s1 w (.slice a1 l1.length c1) l1) (hs1 : s1 ≤ bx) :
    Ret 216 [.slice (some ⟨bx, 0, none⟩) l.length cc, .slice a1 l1.length c1] w (fun v w' => ∃ (l' : List Nat) (B : Nat), v = .int .u16 B ∧ l'.length = l.length ∧ Dig 256 l' ∧ val 256 l' + val 256 (l1.take l.length) = val 256 l + B * 256 ^ l.length ∧ B ≤ 1 ∧ Blk w' bx (bL l').toArray ∧ Ch (fun k => k = bx) w w') := by
  refine enter (n := 45) Hvaa.func216 rfl rfl (Nat.le_of_ble_eq_true rfl) ?_
  have U : Ch (fun k => k = bx) w w := Ch.refl _ w
  refine c_seq (fun K1 hK1 => ?_)
  refine c_region ?_
  refine l_step y_assignC ?_
  refine l_nil ?_
  refine hK1 _ _ ?_
  refine fg2 1 0 (gS rfl (gS rfl g0)) (gS rfl g0) (fun g => ?_)
  refine c_seq (fun K2 hK2 => ?_)
  refine c_region ?_
  refine l_step y_assignC ?_
  refine l_nil ?_
  refine hK2 _ _ ?_
  refine c_seq (fun K3 hK3 => ?_)
  refine c_seq (fun K4 hK4 => ?_)
  refine c_region ?_
  refine l_step (y_moveV (et (gS rfl g0) rfl)) ?_
  refine l_step (y_len Hvaa.underlying95 (et g0 rfl)) ?_
  refine l_step y_moveC ?_
  refine l_nil ?_
  refine hK4 _ _ ?_
  refine fg5 1 0 5 10 11 (gS rfl (gS rfl (gS rfl (gS rfl (gS rfl g0))))) (gS rfl (gS rfl (gS rfl (gS rfl g0)))) (gS rfl (gS rfl (gS rfl g0))) (gS rfl g0) g0 (fun g => ?_)
  refine c_block (fun Q5 hQ5 => ?_)
  refine fg5 0 1 5 10 11 (gS rfl (gS rfl (gS rfl g0))) (gS rfl (gS rfl (gS rfl (gS rfl g0)))) (gS rfl (gS rfl g0)) (gS rfl g0) g0 (fun g => ?_)
  replace kB : Blk w bx (bL ([] ++ l.drop ([] : List Nat).length)).toArray := kB
  refine c_loop (fun k_ s_ W6 => ∃ (g : Nat → Value) (P : List Nat) (B : Nat), s_ = (upd (upd (upd (upd (upd g 0 (.slice (some ⟨bx, 0, none⟩) l.length cc)) 1 (.slice a1 l1.length c1)) 5 (.int .u16 (B : Nat))) 10 (.int .i64 (l.length : Nat))) 11 (.int .i64 (P.length : Nat))) ∧ l.length - P.length = k_ ∧ (P.length ≤ l.length) ∧ (Dig 256 P) ∧ (B ≤ 1) ∧ (val 256 P + val 256 (l1.take P.length) = val 256 (l.take P.length) + B * 256 ^ P.length) ∧ Blk W6 bx ((bL (P ++ l.drop P.length)).toArray) ∧ Ch (fun k => k = bx) w W6) (l.length - (([] : List Nat)).length) ?_ ?_
  · exact ⟨g, ([] : List Nat), 0, rfl, rfl, Nat.zero_le _, Dig.nil _, by decide, by simp [val], kB, Ch.refl _ _⟩
  · skip
    intro k_ s_ W6 hI K6 hK6
    obtain ⟨g, P, B, rfl, rfl, hPle, hPd, hB, hval, nkB, V6⟩ := hI
    replace hX := hX.ch V6 (by first | omega | (intro q hq; omega))
    replace kB := nkB
    replace U := U.cc V6 (by intro b hb; first | exact hb.elim | omega | (simp at hb ⊢; omega))
    refine c_seq (fun K7 hK7 => ?_)
    refine c_region ?_
    refine l_step (y_lss (et g0 rfl) (et (gS rfl g0) rfl)) ?_
    refine l_nil ?_
    refine hK7 _ _ ?_
    refine c_seq (fun K8 hK8 => ?_)
    refine c_cond (et g0 rfl) (fun cB1 => ?_) (fun cB1 => ?_)
    · skip
      simp only [decide_eq_true_eq, decide_eq_false_iff_not, Int.not_lt, Int.not_le, Bool.not_eq_true', Bool.not_eq_false', Bool.not_eq_eq_eq_not, Bool.not_true, Bool.not_false] at cB1
      have hPl : P.length < l.length := by omega
      have hli := hd _ (List.getElem_mem (l := l) (n := P.length) hPl)
      rw [List.drop_eq_getElem_cons hPl] at kB
      refine c_skip ?_
      refine hK8 _ _ ?_
      refine fg5 0 1 5 10 11 (gS rfl (gS rfl (gS rfl (gS rfl (gS rfl g0))))) (gS rfl (gS rfl (gS rfl (gS rfl g0)))) (gS rfl (gS rfl (gS rfl g0))) (gS rfl (gS rfl g0)) (gS rfl g0) (fun g => ?_)
      refine c_seq (fun K10 hK10 => ?_)
      refine c_block (fun Q11 hQ11 => ?_)
      refine c_seq (fun K12 hK12 => ?_)
      refine c_region ?_
      refine l_step (y_moveV (et g0 rfl)) ?_
      refine l_step (y_assignV (et g0 rfl)) ?_
      refine l_nil ?_
      refine hK12 _ _ ?_
      refine fg6 0 1 5 10 11 6 (gS rfl (gS rfl (gS rfl (gS rfl (gS rfl (gS rfl g0)))))) (gS rfl (gS rfl (gS rfl (gS rfl (gS rfl g0))))) (gS rfl (gS rfl (gS rfl (gS rfl g0)))) (gS rfl (gS rfl (gS rfl g0))) (gS rfl (gS rfl g0)) g0 (fun g => ?_)
      refine c_seq (fun K13 hK13 => ?_)
      refine c_region ?_
      refine l_step (y_moveV (et (gS rfl (gS rfl (gS rfl g0))) rfl)) ?_
      refine l_step (y_assignV (et g0 rfl)) ?_
      refine l_nil ?_
      refine hK13 _ _ ?_
      refine fg6 0 1 10 11 6 7 (gS rfl (gS rfl (gS rfl (gS rfl (gS rfl (gS rfl (gS rfl g0))))))) (gS rfl (gS rfl (gS rfl (gS rfl (gS rfl (gS rfl g0)))))) (gS rfl (gS rfl (gS rfl (gS rfl g0)))) (gS rfl (gS rfl (gS rfl g0))) (gS rfl (gS rfl g0)) g0 (fun g => ?_)
      refine c_seq (fun K14 hK14 => ?_)
      refine c_seq (fun K15 hK15 => ?_)
      refine c_region ?_
      refine l_step (y_moveV (et (gS rfl g0) rfl)) ?_
      refine l_step (y_moveV (et (gS rfl (gS rfl (gS rfl (gS rfl (gS rfl g0))))) rfl)) ?_
      refine l_step (y_len Hvaa.underlying95 (et g0 rfl)) ?_
      refine l_step (y_lss (et (gS rfl (gS rfl g0)) rfl) (et g0 rfl)) ?_
      refine l_nil ?_
      refine hK15 _ _ ?_
      refine fg7 0 1 10 11 6 7 18 (gS rfl (gS rfl (gS rfl (gS rfl (gS rfl (gS rfl (gS rfl (gS rfl (gS rfl g0))))))))) (gS rfl (gS rfl (gS rfl (gS rfl (gS rfl (gS rfl (gS rfl (gS rfl g0)))))))) (gS rfl (gS rfl (gS rfl (gS rfl (gS rfl (gS rfl (gS rfl g0))))))) (gS rfl (gS rfl (gS rfl (gS rfl (gS rfl (gS rfl g0)))))) (gS rfl (gS rfl (gS rfl (gS rfl (gS rfl g0))))) (gS rfl (gS rfl (gS rfl (gS rfl g0)))) g0 (fun g => ?_)
      refine c_cond (et g0 rfl) (fun cB2 => ?_) (fun cB2 => ?_)
      · skip
        simp only [decide_eq_true_eq, decide_eq_false_iff_not, Int.not_lt, Int.not_le, Bool.not_eq_true', Bool.not_eq_false', Bool.not_eq_eq_eq_not, Bool.not_true, Bool.not_false] at cB2
        obtain ⟨ba, oa, ha, hb0, hr⟩ := hX.at (by omega)
        have hmi := hX.dig _ (List.getElem_mem (l := l1) (n := P.length) (by omega))
        refine c_region ?_
        refine l_step (y_moveV (et (gS rfl g0) rfl)) ?_
        refine l_step (y_moveV (et (gS rfl (gS rfl (gS rfl (gS rfl (gS rfl (gS rfl g0)))))) rfl)) ?_
        refine l_step (y_moveV (et (gS rfl (gS rfl (gS rfl (gS rfl g0)))) rfl)) ?_
        refine l_step (y_idxSa ha Hvaa.underlying95 sz_5 (et (gS rfl g0) rfl) (et g0 rfl) ?_) ?_
        omega
        refine l_step (y_load1 one_5 (et g0 rfl) (at1 (row_byte hr (by omega)))) ?_
        refine l_step (y_conv Hvaa.underlying5 Hvaa.underlying67 (et g0 rfl) (wrapU_id uk16 ?_)) ?_
        omega
        refine l_step (y_add (et (gS rfl (gS rfl (gS rfl (gS rfl (gS rfl g0))))) rfl) (et g0 rfl) (wrapU_addN uk16 ?_)) ?_
        omega
        refine l_step (y_assignV (et g0 rfl)) ?_
        refine l_nil ?_
        refine hK14 _ _ ?_
        refine fg6 0 1 10 11 6 7 (gS rfl (gS rfl (gS rfl (gS rfl (gS rfl (gS rfl (gS rfl (gS rfl (gS rfl (gS rfl (gS rfl (gS rfl (gS rfl (gS rfl g0)))))))))))))) (gS rfl (gS rfl (gS rfl (gS rfl (gS rfl (gS rfl (gS rfl (gS rfl (gS rfl (gS rfl (gS rfl (gS rfl (gS rfl g0))))))))))))) (gS rfl (gS rfl (gS rfl (gS rfl (gS rfl (gS rfl (gS rfl (gS rfl (gS rfl (gS rfl (gS rfl (gS rfl g0)))))))))))) (gS rfl (gS rfl (gS rfl (gS rfl (gS rfl (gS rfl (gS rfl (gS rfl (gS rfl (gS rfl (gS rfl g0))))))))))) (gS rfl (gS rfl (gS rfl (gS rfl (gS rfl (gS rfl (gS rfl (gS rfl (gS rfl (gS rfl g0)))))))))) g0 (fun g => ?_)
        refine c_seq (fun K17 hK17 => ?_)
        refine c_region ?_
        refine l_step (y_moveV (et (gS rfl (gS rfl (gS rfl (gS rfl (gS rfl g0))))) rfl)) ?_
        refine l_step (y_moveV (et (gS rfl (gS rfl g0)) rfl)) ?_
        refine l_step (y_idxSa rfl Hvaa.underlying95 sz_5 (et (gS rfl g0) rfl) (et g0 rfl) ?_) ?_
        omega
        refine l_step (y_load1 one_5 (et g0 rfl) (at1 (kB.cell (bL_get P _ _ _ (by omega))))) ?_
        refine l_step (y_conv Hvaa.underlying5 Hvaa.underlying67 (et g0 rfl) (wrapU_id uk16 ?_)) ?_
        omega
        refine l_step (y_assignV (et g0 rfl)) ?_
        refine l_nil ?_
        refine hK17 _ _ ?_
        refine fg7 0 1 10 11 6 7 8 (gS rfl (gS rfl (gS rfl (gS rfl (gS rfl (gS rfl (gS rfl (gS rfl (gS rfl (gS rfl (gS rfl g0))))))))))) (gS rfl (gS rfl (gS rfl (gS rfl (gS rfl (gS rfl (gS rfl (gS rfl (gS rfl (gS rfl g0)))))))))) (gS rfl (gS rfl (gS rfl (gS rfl (gS rfl (gS rfl (gS rfl (gS rfl (gS rfl g0))))))))) (gS rfl (gS rfl (gS rfl (gS rfl (gS rfl (gS rfl (gS rfl (gS rfl g0)))))))) (gS rfl (gS rfl (gS rfl (gS rfl (gS rfl (gS rfl (gS rfl g0))))))) (gS rfl (gS rfl (gS rfl (gS rfl (gS rfl (gS rfl g0)))))) g0 (fun g => ?_)
        refine c_seq (fun K18 hK18 => ?_)
        refine c_region ?_
        refine l_step y_assignC ?_
        refine l_nil ?_
        refine hK18 _ _ ?_
        refine c_seq (fun K19 hK19 => ?_)
        refine c_seq (fun K20 hK20 => ?_)
        refine c_region ?_
        refine l_step (y_moveV (et (gS rfl g0) rfl)) ?_
        refine l_step (y_moveV (et (gS rfl (gS rfl (gS rfl g0))) rfl)) ?_
        refine l_step (y_lss (et (gS rfl g0) rfl) (et g0 rfl)) ?_
        refine l_nil ?_
        refine hK20 _ _ ?_
        refine fg9 0 1 10 11 6 7 8 5 33 (gS rfl (gS rfl (gS rfl (gS rfl (gS rfl (gS rfl (gS rfl (gS rfl (gS rfl (gS rfl g0)))))))))) (gS rfl (gS rfl (gS rfl (gS rfl (gS rfl (gS rfl (gS rfl (gS rfl (gS rfl g0))))))))) (gS rfl (gS rfl (gS rfl (gS rfl (gS rfl (gS rfl (gS rfl (gS rfl g0)))))))) (gS rfl (gS rfl (gS rfl (gS rfl (gS rfl (gS rfl (gS rfl g0))))))) (gS rfl (gS rfl (gS rfl (gS rfl (gS rfl (gS rfl g0)))))) (gS rfl (gS rfl (gS rfl (gS rfl (gS rfl g0))))) (gS rfl (gS rfl (gS rfl (gS rfl g0)))) (gS rfl (gS rfl (gS rfl g0))) g0 (fun g => ?_)
        refine c_cond (et g0 rfl) (fun cB3 => ?_) (fun cB3 => ?_)
        · skip
          simp only [decide_eq_true_eq, decide_eq_false_iff_not, Int.not_lt, Int.not_le, Bool.not_eq_true', Bool.not_eq_false', Bool.not_eq_eq_eq_not, Bool.not_true, Bool.not_false] at cB3
          refine c_seq (fun K22 hK22 => ?_)
          refine c_region ?_
          refine l_step (y_moveV (et (gS rfl (gS rfl g0)) rfl)) ?_
          refine l_step (y_add (et g0 rfl) rfl (wrapU_addN (b := 256) uk16 ?_)) ?_
          omega
          refine l_step (y_assignV (et g0 rfl)) ?_
          refine l_nil ?_
          refine hK22 _ _ ?_
          refine fg7 0 1 10 11 6 7 8 (gS rfl (gS rfl (gS rfl (gS rfl (gS rfl (gS rfl (gS rfl (gS rfl (gS rfl (gS rfl (gS rfl g0))))))))))) (gS rfl (gS rfl (gS rfl (gS rfl (gS rfl (gS rfl (gS rfl (gS rfl (gS rfl (gS rfl g0)))))))))) (gS rfl (gS rfl (gS rfl (gS rfl (gS rfl (gS rfl (gS rfl (gS rfl (gS rfl g0))))))))) (gS rfl (gS rfl (gS rfl (gS rfl (gS rfl (gS rfl (gS rfl (gS rfl g0)))))))) (gS rfl (gS rfl (gS rfl (gS rfl (gS rfl (gS rfl (gS rfl g0))))))) (gS rfl (gS rfl (gS rfl (gS rfl (gS rfl (gS rfl g0)))))) g0 (fun g => ?_)
          refine c_region ?_
          refine l_step y_assignC ?_
          refine l_nil ?_
          refine hK19 _ _ ?_
          refine c_region ?_
          refine l_step (y_moveV (et (gS rfl (gS rfl (gS rfl (gS rfl (gS rfl (gS rfl (gS rfl g0))))))) rfl)) ?_
          refine l_step (y_moveV (et (gS rfl (gS rfl (gS rfl (gS rfl g0)))) rfl)) ?_
          refine l_step (y_moveV (et (gS rfl (gS rfl (gS rfl g0))) rfl)) ?_
          refine l_step (y_moveV (et (gS rfl (gS rfl (gS rfl (gS rfl (gS rfl g0))))) rfl)) ?_
          refine l_step (y_sub (et (gS rfl g0) rfl) (et g0 rfl) (wrapU_subN uk16 ?_ ?_)) ?_
          omega
          omega
          refine l_step (y_conv Hvaa.underlying67 Hvaa.underlying5 (et g0 rfl) (wrapU_id uk8 ?_)) ?_
          omega
          refine l_step (y_idxSa rfl Hvaa.underlying95 sz_5 (et (gS rfl (gS rfl (gS rfl (gS rfl (gS rfl g0))))) rfl) (et (gS rfl (gS rfl (gS rfl (gS rfl g0)))) rfl) ?_) ?_
          omega
          refine l_effN (e_store sz_5 (et g0 rfl) (cellsV (et (gS rfl g0) rfl) rfl) rfl (by first | exact one_bL _ | exact one_uL _ | (intro v hv; simp at hv; subst hv; rfl)) kB (by (simp only [List.size_toArray, length_bL, List.length_append, List.length_cons, List.length_drop]; omega))) (fun v23 w23 h23 => ?_)
          obtain ⟨rfl, x23⟩ := h23
          replace hX := hX.ch x23.ch (by first | omega | (intro q hq; omega))
          replace kB := x23.blk
          replace U := U.st x23 (.inl (by first | rfl | (simp; done)))
          replace V6 := V6.st x23 (by omega)
          replace kB := Blk.setB kB (by omega)
          replace kB : Blk w23 bx (bL ((P ++ [((l[P.length] + 256) - (B + l1[P.length]))]) ++ l.drop (P ++ [((l[P.length] + 256) - (B + l1[P.length]))]).length)).toArray := by simpa using kB
          refine l_nil ?_
          refine hQ11 _ _ _ (in_normal ?_)
          refine hK10 _ _ ?_
          refine fg5 0 1 10 11 5 (gS rfl (gS rfl (gS rfl (gS rfl (gS rfl (gS rfl (gS rfl (gS rfl (gS rfl (gS rfl (gS rfl (gS rfl (gS rfl (gS rfl g0)))))))))))))) (gS rfl (gS rfl (gS rfl (gS rfl (gS rfl (gS rfl (gS rfl (gS rfl (gS rfl (gS rfl (gS rfl (gS rfl (gS rfl g0))))))))))))) (gS rfl (gS rfl (gS rfl (gS rfl (gS rfl (gS rfl (gS rfl (gS rfl (gS rfl (gS rfl (gS rfl (gS rfl g0)))))))))))) (gS rfl (gS rfl (gS rfl (gS rfl (gS rfl (gS rfl (gS rfl (gS rfl (gS rfl (gS rfl (gS rfl g0))))))))))) (gS rfl (gS rfl (gS rfl (gS rfl (gS rfl (gS rfl (gS rfl g0))))))) (fun g => ?_)
          refine c_region ?_
          refine l_step (y_add (et (gS rfl g0) rfl) rfl ((addIN (y := 1) ?_).trans (castE (show P.length + 1 = (P ++ [((l[P.length] + 256) - (B + l1[P.length]))]).length by simp)))) ?_
          omega
          refine l_step (y_moveV (et g0 rfl)) ?_
          refine l_nil ?_
          refine fK5 0 1 5 10 11 (gS rfl (gS rfl (gS rfl (gS rfl (gS rfl (gS rfl g0)))))) (gS rfl (gS rfl (gS rfl (gS rfl (gS rfl g0))))) (gS rfl (gS rfl g0)) (gS rfl (gS rfl (gS rfl (gS rfl g0)))) g0 (fun g => ?_)
          exact hK6 (l.length - ((P ++ [((l[P.length] + 256) - (B + l1[P.length]))])).length) _ _ (by simp; omega) ⟨g, (P ++ [((l[P.length] + 256) - (B + l1[P.length]))]), 1, rfl, rfl, by simp; omega, hPd.app (Dig.one (by omega)), by omega, take_inv (mi := l1[P.length]) hPl hval (by omega) (val_take_in (by omega)), kB, V6⟩
        · skip
          simp only [decide_eq_true_eq, decide_eq_false_iff_not, Int.not_lt, Int.not_le, Bool.not_eq_true', Bool.not_eq_false', Bool.not_eq_eq_eq_not, Bool.not_true, Bool.not_false] at cB3
          refine c_skip ?_
          refine hK19 _ _ ?_
          refine fg8 0 1 10 11 6 7 8 5 (gS rfl (gS rfl (gS rfl (gS rfl (gS rfl (gS rfl (gS rfl (gS rfl g0)))))))) (gS rfl (gS rfl (gS rfl (gS rfl (gS rfl (gS rfl (gS rfl g0))))))) (gS rfl (gS rfl (gS rfl (gS rfl (gS rfl (gS rfl g0)))))) (gS rfl (gS rfl (gS rfl (gS rfl (gS rfl g0))))) (gS rfl (gS rfl (gS rfl (gS rfl g0)))) (gS rfl (gS rfl (gS rfl g0))) (gS rfl (gS rfl g0)) (gS rfl g0) (fun g => ?_)
          refine c_region ?_
          refine l_step (y_moveV (et (gS rfl (gS rfl (gS rfl (gS rfl (gS rfl (gS rfl (gS rfl g0))))))) rfl)) ?_
          refine l_step (y_moveV (et (gS rfl (gS rfl (gS rfl (gS rfl g0)))) rfl)) ?_
          refine l_step (y_moveV (et (gS rfl (gS rfl (gS rfl g0))) rfl)) ?_
          refine l_step (y_moveV (et (gS rfl (gS rfl (gS rfl (gS rfl (gS rfl g0))))) rfl)) ?_
          refine l_step (y_sub (et (gS rfl g0) rfl) (et g0 rfl) (wrapU_subN uk16 ?_ ?_)) ?_
          omega
          omega
          refine l_step (y_conv Hvaa.underlying67 Hvaa.underlying5 (et g0 rfl) (wrapU_id uk8 ?_)) ?_
          omega
          refine l_step (y_idxSa rfl Hvaa.underlying95 sz_5 (et (gS rfl (gS rfl (gS rfl (gS rfl (gS rfl g0))))) rfl) (et (gS rfl (gS rfl (gS rfl (gS rfl g0)))) rfl) ?_) ?_
          omega
          refine l_effN (e_store sz_5 (et g0 rfl) (cellsV (et (gS rfl g0) rfl) rfl) rfl (by first | exact one_bL _ | exact one_uL _ | (intro v hv; simp at hv; subst hv; rfl)) kB (by (simp only [List.size_toArray, length_bL, List.length_append, List.length_cons, List.length_drop]; omega))) (fun v24 w24 h24 => ?_)
          obtain ⟨rfl, x24⟩ := h24
          replace hX := hX.ch x24.ch (by first | omega | (intro q hq; omega))
          replace kB := x24.blk
          replace U := U.st x24 (.inl (by first | rfl | (simp; done)))
          replace V6 := V6.st x24 (by omega)
          replace kB := Blk.setB kB (by omega)
          replace kB : Blk w24 bx (bL ((P ++ [(l[P.length] - (B + l1[P.length]))]) ++ l.drop (P ++ [(l[P.length] - (B + l1[P.length]))]).length)).toArray := by simpa using kB
          refine l_nil ?_
          refine hQ11 _ _ _ (in_normal ?_)
          refine hK10 _ _ ?_
          refine fg5 0 1 10 11 5 (gS rfl (gS rfl (gS rfl (gS rfl (gS rfl (gS rfl (gS rfl (gS rfl (gS rfl (gS rfl (gS rfl (gS rfl (gS rfl (gS rfl g0)))))))))))))) (gS rfl (gS rfl (gS rfl (gS rfl (gS rfl (gS rfl (gS rfl (gS rfl (gS rfl (gS rfl (gS rfl (gS rfl (gS rfl g0))))))))))))) (gS rfl (gS rfl (gS rfl (gS rfl (gS rfl (gS rfl (gS rfl (gS rfl (gS rfl (gS rfl (gS rfl (gS rfl g0)))))))))))) (gS rfl (gS rfl (gS rfl (gS rfl (gS rfl (gS rfl (gS rfl (gS rfl (gS rfl (gS rfl (gS rfl g0))))))))))) (gS rfl (gS rfl (gS rfl (gS rfl (gS rfl (gS rfl (gS rfl g0))))))) (fun g => ?_)
          refine c_region ?_
          refine l_step (y_add (et (gS rfl g0) rfl) rfl ((addIN (y := 1) ?_).trans (castE (show P.length + 1 = (P ++ [(l[P.length] - (B + l1[P.length]))]).length by simp)))) ?_
          omega
          refine l_step (y_moveV (et g0 rfl)) ?_
          refine l_nil ?_
          refine fK5 0 1 5 10 11 (gS rfl (gS rfl (gS rfl (gS rfl (gS rfl (gS rfl g0)))))) (gS rfl (gS rfl (gS rfl (gS rfl (gS rfl g0))))) (gS rfl (gS rfl g0)) (gS rfl (gS rfl (gS rfl (gS rfl g0)))) g0 (fun g => ?_)
          exact hK6 (l.length - ((P ++ [(l[P.length] - (B + l1[P.length]))])).length) _ _ (by simp; omega) ⟨g, (P ++ [(l[P.length] - (B + l1[P.length]))]), 0, rfl, rfl, by simp; omega, hPd.app (Dig.one (by omega)), by omega, take_inv (mi := l1[P.length]) hPl hval (by omega) (val_take_in (by omega)), kB, V6⟩
      · skip
        simp only [decide_eq_true_eq, decide_eq_false_iff_not, Int.not_lt, Int.not_le, Bool.not_eq_true', Bool.not_eq_false', Bool.not_eq_eq_eq_not, Bool.not_true, Bool.not_false] at cB2
        refine c_skip ?_
        refine hK14 _ _ ?_
        refine fg6 0 1 10 11 6 7 (gS rfl (gS rfl (gS rfl (gS rfl (gS rfl (gS rfl g0)))))) (gS rfl (gS rfl (gS rfl (gS rfl (gS rfl g0))))) (gS rfl (gS rfl (gS rfl (gS rfl g0)))) (gS rfl (gS rfl (gS rfl g0))) (gS rfl (gS rfl g0)) (gS rfl g0) (fun g => ?_)
        refine c_seq (fun K25 hK25 => ?_)
        refine c_region ?_
        refine l_step (y_moveV (et (gS rfl (gS rfl (gS rfl (gS rfl (gS rfl g0))))) rfl)) ?_
        refine l_step (y_moveV (et (gS rfl (gS rfl g0)) rfl)) ?_
        refine l_step (y_idxSa rfl Hvaa.underlying95 sz_5 (et (gS rfl g0) rfl) (et g0 rfl) ?_) ?_
        omega
        refine l_step (y_load1 one_5 (et g0 rfl) (at1 (kB.cell (bL_get P _ _ _ (by omega))))) ?_
        refine l_step (y_conv Hvaa.underlying5 Hvaa.underlying67 (et g0 rfl) (wrapU_id uk16 ?_)) ?_
        omega
        refine l_step (y_assignV (et g0 rfl)) ?_
        refine l_nil ?_
        refine hK25 _ _ ?_
        refine fg7 0 1 10 11 6 7 8 (gS rfl (gS rfl (gS rfl (gS rfl (gS rfl (gS rfl (gS rfl (gS rfl (gS rfl (gS rfl (gS rfl g0))))))))))) (gS rfl (gS rfl (gS rfl (gS rfl (gS rfl (gS rfl (gS rfl (gS rfl (gS rfl (gS rfl g0)))))))))) (gS rfl (gS rfl (gS rfl (gS rfl (gS rfl (gS rfl (gS rfl (gS rfl (gS rfl g0))))))))) (gS rfl (gS rfl (gS rfl (gS rfl (gS rfl (gS rfl (gS rfl (gS rfl g0)))))))) (gS rfl (gS rfl (gS rfl (gS rfl (gS rfl (gS rfl (gS rfl g0))))))) (gS rfl (gS rfl (gS rfl (gS rfl (gS rfl (gS rfl g0)))))) g0 (fun g => ?_)
        refine c_seq (fun K26 hK26 => ?_)
        refine c_region ?_
        refine l_step y_assignC ?_
        refine l_nil ?_
        refine hK26 _ _ ?_
        refine c_seq (fun K27 hK27 => ?_)
        refine c_seq (fun K28 hK28 => ?_)
        refine c_region ?_
        refine l_step (y_moveV (et (gS rfl g0) rfl)) ?_
        refine l_step (y_moveV (et (gS rfl (gS rfl (gS rfl g0))) rfl)) ?_
        refine l_step (y_lss (et (gS rfl g0) rfl) (et g0 rfl)) ?_
        refine l_nil ?_
        refine hK28 _ _ ?_
        refine fg9 0 1 10 11 6 7 8 5 33 (gS rfl (gS rfl (gS rfl (gS rfl (gS rfl (gS rfl (gS rfl (gS rfl (gS rfl (gS rfl g0)))))))))) (gS rfl (gS rfl (gS rfl (gS rfl (gS rfl (gS rfl (gS rfl (gS rfl (gS rfl g0))))))))) (gS rfl (gS rfl (gS rfl (gS rfl (gS rfl (gS rfl (gS rfl (gS rfl g0)))))))) (gS rfl (gS rfl (gS rfl (gS rfl (gS rfl (gS rfl (gS rfl g0))))))) (gS rfl (gS rfl (gS rfl (gS rfl (gS rfl (gS rfl g0)))))) (gS rfl (gS rfl (gS rfl (gS rfl (gS rfl g0))))) (gS rfl (gS rfl (gS rfl (gS rfl g0)))) (gS rfl (gS rfl (gS rfl g0))) g0 (fun g => ?_)
        refine c_cond (et g0 rfl) (fun cB3 => ?_) (fun cB3 => ?_)
        · skip
          simp only [decide_eq_true_eq, decide_eq_false_iff_not, Int.not_lt, Int.not_le, Bool.not_eq_true', Bool.not_eq_false', Bool.not_eq_eq_eq_not, Bool.not_true, Bool.not_false] at cB3
          refine c_seq (fun K30 hK30 => ?_)
          refine c_region ?_
          refine l_step (y_moveV (et (gS rfl (gS rfl g0)) rfl)) ?_
          refine l_step (y_add (et g0 rfl) rfl (wrapU_addN (b := 256) uk16 ?_)) ?_
          omega
          refine l_step (y_assignV (et g0 rfl)) ?_
          refine l_nil ?_
          refine hK30 _ _ ?_
          refine fg7 0 1 10 11 6 7 8 (gS rfl (gS rfl (gS rfl (gS rfl (gS rfl (gS rfl (gS rfl (gS rfl (gS rfl (gS rfl (gS rfl g0))))))))))) (gS rfl (gS rfl (gS rfl (gS rfl (gS rfl (gS rfl (gS rfl (gS rfl (gS rfl (gS rfl g0)))))))))) (gS rfl (gS rfl (gS rfl (gS rfl (gS rfl (gS rfl (gS rfl (gS rfl (gS rfl g0))))))))) (gS rfl (gS rfl (gS rfl (gS rfl (gS rfl (gS rfl (gS rfl (gS rfl g0)))))))) (gS rfl (gS rfl (gS rfl (gS rfl (gS rfl (gS rfl (gS rfl g0))))))) (gS rfl (gS rfl (gS rfl (gS rfl (gS rfl (gS rfl g0)))))) g0 (fun g => ?_)
          refine c_region ?_
          refine l_step y_assignC ?_
          refine l_nil ?_
          refine hK27 _ _ ?_
          refine c_region ?_
          refine l_step (y_moveV (et (gS rfl (gS rfl (gS rfl (gS rfl (gS rfl (gS rfl (gS rfl g0))))))) rfl)) ?_
          refine l_step (y_moveV (et (gS rfl (gS rfl (gS rfl (gS rfl g0)))) rfl)) ?_
          refine l_step (y_moveV (et (gS rfl (gS rfl (gS rfl g0))) rfl)) ?_
          refine l_step (y_moveV (et (gS rfl (gS rfl (gS rfl (gS rfl (gS rfl g0))))) rfl)) ?_
          refine l_step (y_sub (et (gS rfl g0) rfl) (et g0 rfl) (wrapU_subN uk16 ?_ ?_)) ?_
          omega
          omega
          refine l_step (y_conv Hvaa.underlying67 Hvaa.underlying5 (et g0 rfl) (wrapU_id uk8 ?_)) ?_
          omega
          refine l_step (y_idxSa rfl Hvaa.underlying95 sz_5 (et (gS rfl (gS rfl (gS rfl (gS rfl (gS rfl g0))))) rfl) (et (gS rfl (gS rfl (gS rfl (gS rfl g0)))) rfl) ?_) ?_
          omega
          refine l_effN (e_store sz_5 (et g0 rfl) (cellsV (et (gS rfl g0) rfl) rfl) rfl (by first | exact one_bL _ | exact one_uL _ | (intro v hv; simp at hv; subst hv; rfl)) kB (by (simp only [List.size_toArray, length_bL, List.length_append, List.length_cons, List.length_drop]; omega))) (fun v31 w31 h31 => ?_)
          obtain ⟨rfl, x31⟩ := h31
          replace hX := hX.ch x31.ch (by first | omega | (intro q hq; omega))
          replace kB := x31.blk
          replace U := U.st x31 (.inl (by first | rfl | (simp; done)))
          replace V6 := V6.st x31 (by omega)
          replace kB := Blk.setB kB (by omega)
          replace kB : Blk w31 bx (bL ((P ++ [((l[P.length] + 256) - B)]) ++ l.drop (P ++ [((l[P.length] + 256) - B)]).length)).toArray := by simpa using kB
          refine l_nil ?_
          refine hQ11 _ _ _ (in_normal ?_)
          refine hK10 _ _ ?_
          refine fg5 0 1 10 11 5 (gS rfl (gS rfl (gS rfl (gS rfl (gS rfl (gS rfl (gS rfl (gS rfl (gS rfl (gS rfl (gS rfl (gS rfl (gS rfl (gS rfl g0)))))))))))))) (gS rfl (gS rfl (gS rfl (gS rfl (gS rfl (gS rfl (gS rfl (gS rfl (gS rfl (gS rfl (gS rfl (gS rfl (gS rfl g0))))))))))))) (gS rfl (gS rfl (gS rfl (gS rfl (gS rfl (gS rfl (gS rfl (gS rfl (gS rfl (gS rfl (gS rfl (gS rfl g0)))))))))))) (gS rfl (gS rfl (gS rfl (gS rfl (gS rfl (gS rfl (gS rfl (gS rfl (gS rfl (gS rfl (gS rfl g0))))))))))) (gS rfl (gS rfl (gS rfl (gS rfl (gS rfl (gS rfl (gS rfl g0))))))) (fun g => ?_)
          refine c_region ?_
          refine l_step (y_add (et (gS rfl g0) rfl) rfl ((addIN (y := 1) ?_).trans (castE (show P.length + 1 = (P ++ [((l[P.length] + 256) - B)]).length by simp)))) ?_
          omega
          refine l_step (y_moveV (et g0 rfl)) ?_
          refine l_nil ?_
          refine fK5 0 1 5 10 11 (gS rfl (gS rfl (gS rfl (gS rfl (gS rfl (gS rfl g0)))))) (gS rfl (gS rfl (gS rfl (gS rfl (gS rfl g0))))) (gS rfl (gS rfl g0)) (gS rfl (gS rfl (gS rfl (gS rfl g0)))) g0 (fun g => ?_)
          exact hK6 (l.length - ((P ++ [((l[P.length] + 256) - B)])).length) _ _ (by simp; omega) ⟨g, (P ++ [((l[P.length] + 256) - B)]), 1, rfl, rfl, by simp; omega, hPd.app (Dig.one (by omega)), by omega, take_inv (mi := 0) hPl hval (by omega) (val_take_out (by omega)), kB, V6⟩
        · skip
          simp only [decide_eq_true_eq, decide_eq_false_iff_not, Int.not_lt, Int.not_le, Bool.not_eq_true', Bool.not_eq_false', Bool.not_eq_eq_eq_not, Bool.not_true, Bool.not_false] at cB3
          refine c_skip ?_
          refine hK27 _ _ ?_
          refine fg8 0 1 10 11 6 7 8 5 (gS rfl (gS rfl (gS rfl (gS rfl (gS rfl (gS rfl (gS rfl (gS rfl g0)))))))) (gS rfl (gS rfl (gS rfl (gS rfl (gS rfl (gS rfl (gS rfl g0))))))) (gS rfl (gS rfl (gS rfl (gS rfl (gS rfl (gS rfl g0)))))) (gS rfl (gS rfl (gS rfl (gS rfl (gS rfl g0))))) (gS rfl (gS rfl (gS rfl (gS rfl g0)))) (gS rfl (gS rfl (gS rfl g0))) (gS rfl (gS rfl g0)) (gS rfl g0) (fun g => ?_)
          refine c_region ?_
          refine l_step (y_moveV (et (gS rfl (gS rfl (gS rfl (gS rfl (gS rfl (gS rfl (gS rfl g0))))))) rfl)) ?_
          refine l_step (y_moveV (et (gS rfl (gS rfl (gS rfl (gS rfl g0)))) rfl)) ?_
          refine l_step (y_moveV (et (gS rfl (gS rfl (gS rfl g0))) rfl)) ?_
          refine l_step (y_moveV (et (gS rfl (gS rfl (gS rfl (gS rfl (gS rfl g0))))) rfl)) ?_
          refine l_step (y_sub (et (gS rfl g0) rfl) (et g0 rfl) (wrapU_subN uk16 ?_ ?_)) ?_
          omega
          omega
          refine l_step (y_conv Hvaa.underlying67 Hvaa.underlying5 (et g0 rfl) (wrapU_id uk8 ?_)) ?_
          omega
          refine l_step (y_idxSa rfl Hvaa.underlying95 sz_5 (et (gS rfl (gS rfl (gS rfl (gS rfl (gS rfl g0))))) rfl) (et (gS rfl (gS rfl (gS rfl (gS rfl g0)))) rfl) ?_) ?_
          omega
          refine l_effN (e_store sz_5 (et g0 rfl) (cellsV (et (gS rfl g0) rfl) rfl) rfl (by first | exact one_bL _ | exact one_uL _ | (intro v hv; simp at hv; subst hv; rfl)) kB (by (simp only [List.size_toArray, length_bL, List.length_append, List.length_cons, List.length_drop]; omega))) (fun v32 w32 h32 => ?_)
          obtain ⟨rfl, x32⟩ := h32
          replace hX := hX.ch x32.ch (by first | omega | (intro q hq; omega))
          replace kB := x32.blk
          replace U := U.st x32 (.inl (by first | rfl | (simp; done)))
          replace V6 := V6.st x32 (by omega)
          replace kB := Blk.setB kB (by omega)
          replace kB : Blk w32 bx (bL ((P ++ [(l[P.length] - B)]) ++ l.drop (P ++ [(l[P.length] - B)]).length)).toArray := by simpa using kB
          refine l_nil ?_
          refine hQ11 _ _ _ (in_normal ?_)
          refine hK10 _ _ ?_
          refine fg5 0 1 10 11 5 (gS rfl (gS rfl (gS rfl (gS rfl (gS rfl (gS rfl (gS rfl (gS rfl (gS rfl (gS rfl (gS rfl (gS rfl (gS rfl (gS rfl g0)))))))))))))) (gS rfl (gS rfl (gS rfl (gS rfl (gS rfl (gS rfl (gS rfl (gS rfl (gS rfl (gS rfl (gS rfl (gS rfl (gS rfl g0))))))))))))) (gS rfl (gS rfl (gS rfl (gS rfl (gS rfl (gS rfl (gS rfl (gS rfl (gS rfl (gS rfl (gS rfl (gS rfl g0)))))))))))) (gS rfl (gS rfl (gS rfl (gS rfl (gS rfl (gS rfl (gS rfl (gS rfl (gS rfl (gS rfl (gS rfl g0))))))))))) (gS rfl (gS rfl (gS rfl (gS rfl (gS rfl (gS rfl (gS rfl g0))))))) (fun g => ?_)
          refine c_region ?_
          refine l_step (y_add (et (gS rfl g0) rfl) rfl ((addIN (y := 1) ?_).trans (castE (show P.length + 1 = (P ++ [(l[P.length] - B)]).length by simp)))) ?_
          omega
          refine l_step (y_moveV (et g0 rfl)) ?_
          refine l_nil ?_
          refine fK5 0 1 5 10 11 (gS rfl (gS rfl (gS rfl (gS rfl (gS rfl (gS rfl g0)))))) (gS rfl (gS rfl (gS rfl (gS rfl (gS rfl g0))))) (gS rfl (gS rfl g0)) (gS rfl (gS rfl (gS rfl (gS rfl g0)))) g0 (fun g => ?_)
          exact hK6 (l.length - ((P ++ [(l[P.length] - B)])).length) _ _ (by simp; omega) ⟨g, (P ++ [(l[P.length] - B)]), 0, rfl, rfl, by simp; omega, hPd.app (Dig.one (by omega)), by omega, take_inv (mi := 0) hPl hval (by omega) (val_take_out (by omega)), kB, V6⟩
    · skip
      simp only [decide_eq_true_eq, decide_eq_false_iff_not, Int.not_lt, Int.not_le, Bool.not_eq_true', Bool.not_eq_false', Bool.not_eq_eq_eq_not, Bool.not_true, Bool.not_false] at cB1
      have hPl : P.length = l.length := by omega
      rw [hPl, List.drop_length, List.append_nil] at kB
      rw [hPl, List.take_length] at hval
      refine c_exit ?_
      refine hQ5 _ _ _ (in_exit ?_)
      refine hK3 _ _ ?_
      refine fg1 5 (gS rfl (gS rfl (gS rfl g0))) (fun g => ?_)
      refine c_seq (fun K33 hK33 => ?_)
      refine c_region ?_
      refine l_step (y_moveV (et g0 rfl)) ?_
      refine l_step (y_assignV (et g0 rfl)) ?_
      refine l_nil ?_
      refine hK33 _ _ ?_
      refine fg1 4 g0 (fun g => ?_)
      refine c_ret ?_
      refine ret1 rfl (res_tmp (et g0 rfl)) ?_
      exact ⟨P, B, rfl, hPl, hPd, hval, hB, kB, U⟩
end Go.Proofs.YgvaawGreat
