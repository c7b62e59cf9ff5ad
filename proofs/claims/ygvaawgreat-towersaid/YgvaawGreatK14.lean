import Derived.Test.YgvaawGreatK13
set_option maxRecDepth 100000
set_option maxHeartbeats 4000000
set_option linter.unusedSimpArgs false
set_option linter.unusedVariables false
namespace Go.Proofs.YgvaawGreat
open Go
def sCells (s : Nat → Bool) : Array Value := ((List.range 1600).map (fun i => Value.bool (s i))).toArray
theorem sc_size (s : Nat → Bool) : (sCells s).size = 1600 := by simp [sCells]
theorem sc_get {s : Nat → Bool} {i : Nat} (h : i < 1600) : (sCells s)[i]? = some (.bool (s i)) := by
  unfold sCells
  rw [List.getElem?_toArray, List.getElem?_map, List.getElem?_range h]
  rfl
theorem sc_same {s t : Nat → Bool} (h : ∀ i, i < 1600 → s i = t i) : sCells s = sCells t := by
  apply Array.ext_getElem?
  intro i
  by_cases hi : i < 1600
  · rw [sc_get hi, sc_get hi, h i hi]
  · rw [Array.getElem?_eq_none (by rw [sc_size]; omega), Array.getElem?_eq_none (by rw [sc_size]; omega)]
theorem sc_set {s : Nat → Bool} {n : Nat} {v : Bool} (hn : n < 1600) : spl (sCells s) n [.bool v] = sCells (fun i => if i = n then v else s i) := by
  apply Array.ext_getElem?
  intro i
  show ((sCells s).setIfInBounds _ _)[i]? = _
  by_cases hi : i < 1600
  · rw [sc_get hi]
    by_cases he : n = i
    · subst he
      rw [Array.getElem?_setIfInBounds_self, if_pos (by rw [sc_size]; exact hi), if_pos rfl]
    · rw [Array.getElem?_setIfInBounds_ne he, sc_get hi, if_neg (fun e => he e.symm)]
  · rw [Array.getElem?_eq_none (by rw [Array.size_setIfInBounds, sc_size]; omega), Array.getElem?_eq_none (by rw [sc_size]; omega)]
def toA (s : Nat → Bool) : KS := fun x y z => s (64 * (5 * y + x) + z)
theorem off_inj {q n : Nat} (hq : q < 1600) (hn : n < 1600) (h : q / 64 % 5 * 320 + q / 320 * 64 + q % 64 = n / 64 % 5 * 320 + n / 320 * 64 + n % 64) : q = n := by
  rw [show q / 320 = q / 64 / 5 by rw [Nat.div_div_eq_div_mul], show n / 320 = n / 64 / 5 by rw [Nat.div_div_eq_div_mul]] at h
  omega
theorem off_back {i : Nat} (hi : i < 1600) : (64 * (5 * (i / 64 % 5) + i / 320) + i % 64) / 64 % 5 * 320 + (64 * (5 * (i / 64 % 5) + i / 320) + i % 64) / 320 * 64 + (64 * (5 * (i / 64 % 5) + i / 320) + i % 64) % 64 = i := by
  have h64 : (64 * (5 * (i / 64 % 5) + i / 320) + i % 64) / 64 = 5 * (i / 64 % 5) + i / 320 := by omega
  have h320 : (64 * (5 * (i / 64 % 5) + i / 320) + i % 64) / 320 = i / 64 % 5 := by
    have hq : (64 * (5 * (i / 64 % 5) + i / 320) + i % 64) / 320 = (64 * (5 * (i / 64 % 5) + i / 320) + i % 64) / 64 / 5 := by rw [Nat.div_div_eq_div_mul]
    rw [hq, h64]
    omega
  have hm : (64 * (5 * (i / 64 % 5) + i / 320) + i % 64) % 64 = i % 64 := by omega
  rw [h64, h320, hm]
  have e : i / 320 = i / 64 / 5 := by rw [Nat.div_div_eq_div_mul]
  rw [e]
  omega
structure Lp (s : Nat → Bool) (n : Nat) (C : Array Value) : Prop where
  size : C.size = 1600
  get : ∀ q, q < n → q < 1600 → C[q / 64 % 5 * 320 + q / 320 * 64 + q % 64]? = some (.bool (s q))
theorem Lp.step {s : Nat → Bool} {n : Nat} {C : Array Value} (h : Lp s n C) (hn : n < 1600) : Lp s (n + 1) (spl C (n / 64 % 5 * 320 + n / 320 * 64 + n % 64) [.bool (s n)]) := by
  have hz : n / 64 % 5 * 320 + n / 320 * 64 + n % 64 + [Value.bool (s n)].length ≤ C.size := by rw [h.size]; simp only [List.length_cons, List.length_nil]; omega
  refine ⟨by rw [size_spl]; exact h.size, fun q hq hq2 => ?_⟩
  by_cases he : q = n
  · subst he
    have := get_spl_in (i := 0) hz rfl
    rw [Nat.add_zero] at this
    exact this
  · have hne : ¬ (q / 64 % 5 * 320 + q / 320 * 64 + q % 64 = n / 64 % 5 * 320 + n / 320 * 64 + n % 64) := fun e => he (off_inj hq2 hn e)
    rw [get_spl_out hz (by simp only [List.length_cons, List.length_nil]; omega)]
    exact h.get q (by omega) hq2
theorem Lp.full {s : Nat → Bool} {C : Array Value} (h : Lp s 1600 C) : C = kCells (toA s) := by
  apply Array.ext_getElem?
  intro i
  by_cases hi : i < 1600
  · rw [kc_get hi]
    have := h.get (64 * (5 * (i / 64 % 5) + i / 320) + i % 64) (by omega) (by omega)
    rw [off_back hi] at this
    exact this
  · rw [Array.getElem?_eq_none (by rw [h.size]; omega), Array.getElem?_eq_none (by rw [kc_size]; omega)]
def fP (s : Nat → Bool) (n : Nat) : Nat → Bool := fun i => if i < n then kF s i else s i
theorem fP_set {s : Nat → Bool} {n : Nat} (hn : n < 1600) : spl (sCells (fP s n)) n [.bool (kF s n)] = sCells (fP s (n + 1)) := by
  rw [sc_set hn]
  refine sc_same fun i hi => ?_
  unfold fP
  by_cases h : i = n
  · subst h; rw [if_pos rfl, if_pos (by omega)]
  · rw [if_neg h]
    by_cases h2 : i < n
    · rw [if_pos h2, if_pos (by omega)]
    · rw [if_neg h2, if_neg (by omega)]
theorem fP_zero (s : Nat → Bool) : fP s 0 = s := by
  funext i
  unfold fP
  rw [if_neg (by omega)]
theorem fP_full (s : Nat → Bool) : sCells (fP s 1600) = sCells (kF s) := sc_same fun i hi => by
  unfold fP
  rw [if_pos hi]
theorem kc_len (f : KS) : (kCells f).toList.length = 1600 := by rw [Array.length_toList, kc_size]
theorem km_F {bS : Nat} {s : Nat → Bool} {w : World} (kS : Blk w bS (sCells s)) :
    Ret 329 [.pointer (some ⟨bS, 0, none⟩)] w (fun v w' => v = .tuple #[] ∧ Blk w' bS (sCells (kF s)) ∧ Ch (fun k => k = bS) w w') := by
  have lS := kS.lt
  refine enter (n := 59) Hvaa.func329 rfl rfl (Nat.le_of_ble_eq_true rfl) ?_
  have U : Ch (fun k => k = bS) w w := Ch.refl _ w
  refine c_seq (fun K1 hK1 => ?_)
  refine c_seq (fun K2 hK2 => ?_)
  refine c_region ?_
  refine l_step (y_moveV (et g0 rfl)) ?_
  refine l_step (y_eqlNil Hvaa.underlying385 (et g0 rfl) rfl) ?_
  refine l_nil ?_
  refine hK2 _ _ ?_
  refine fg2 0 10 (gS rfl (gS rfl g0)) g0 (fun g => ?_)
  refine c_false (et g0 rfl) rfl ?_
  refine c_skip ?_
  refine hK1 _ _ ?_
  refine fg1 0 (gS rfl g0) (fun g => ?_)
  refine c_seq (fun K4 hK4 => ?_)
  refine c_region ?_
  refine l_eff (e_alloc zr_438) (fun v5 w5 h5 => ?_)
  obtain ⟨b5, rfl, n5⟩ := h5
  have f5 : w.heap.size ≤ b5 := Nat.le_trans U.size n5.fresh
  replace kS := kS.up n5.up
  replace U := U.tr n5.up
  have k5 := n5.blk
  obtain ⟨zs5, hz5, k5⟩ : ∃ cs : Array Value, cs.size = 1600 ∧ Blk w5 b5 cs := ⟨_, rfl, k5⟩
  refine l_nil ?_
  refine hK4 _ _ ?_
  refine c_seq (fun K6 hK6 => ?_)
  refine c_seq (fun K7 hK7 => ?_)
  refine c_region ?_
  refine l_step (y_moveV (et (gS rfl g0) rfl)) ?_
  refine l_step y_moveC ?_
  refine l_nil ?_
  refine hK7 _ _ ?_
  refine c_block (fun Q8 hQ8 => ?_)
  refine fg4 0 2 11 12 (gS rfl (gS rfl (gS rfl g0))) (gS rfl (gS rfl g0)) (gS rfl g0) g0 (fun g => ?_)
  refine c_loop (fun k_ s_ W9 => ∃ (g : Nat → Value) (C : Array Value) (n : Nat), s_ = (upd (upd (upd (upd g 0 (.pointer (some ⟨bS, 0, none⟩))) 2 (.pointer (some ⟨b5, 0, none⟩))) 11 (.pointer (some ⟨bS, 0, none⟩))) 12 (.int .i64 (n : Nat))) ∧ 1600 - n = k_ ∧ (n ≤ 1600) ∧ (Lp s n C) ∧ Blk W9 b5 (C) ∧ Ch (fun k => k = b5) w5 W9) (1600 - (0)) ?_ ?_
  · exact ⟨g, _, 0, rfl, rfl, Nat.zero_le _, ⟨hz5, fun q h => by omega⟩, k5, Ch.refl _ _⟩
  · skip
    intro k_ s_ W9 hI K9 hK9
    obtain ⟨g, C, n, rfl, rfl, hn, hC, nk5, V9⟩ := hI
    replace kS := kS.ch V9 (by omega)
    replace k5 := nk5
    replace U := U.cc V9 (by intro b hb; first | exact hb.elim | omega | (simp at hb ⊢; omega))
    refine c_seq (fun K10 hK10 => ?_)
    refine c_region ?_
    refine l_step (y_lss (et g0 rfl) rfl) ?_
    refine l_nil ?_
    refine hK10 _ _ ?_
    refine c_seq (fun K11 hK11 => ?_)
    refine c_cond (et g0 rfl) (fun cB2 => ?_) (fun cB2 => ?_)
    · skip
      
      have hnl : n < 1600 := by have := of_decide_eq_true cB2; omega
      refine c_skip ?_
      refine hK11 _ _ ?_
      refine fg4 0 2 11 12 (gS rfl (gS rfl (gS rfl (gS rfl g0)))) (gS rfl (gS rfl (gS rfl g0))) (gS rfl (gS rfl g0)) (gS rfl g0) (fun g => ?_)
      refine c_seq (fun K13 hK13 => ?_)
      refine c_block (fun Q14 hQ14 => ?_)
      refine c_seq (fun K15 hK15 => ?_)
      refine c_draw Up 6 [(0, true), (1, true), (2, true), (3, true), (4, true), (5, true)] (by kernel_rfl) (fun w16 hu => ⟨Up.refl _, ?_⟩)
      replace k5 := k5.up hu
      replace kS := kS.up hu
      replace U := U.tr hu
      replace V9 := V9.tr hu
      have SU := Up.refl w16
      refine p_step (by exact rfl) (y_moveV (et g0 rfl)) ?_
      refine p_step (by exact rfl) (y_nil (et (gS rfl (gS rfl g0)) rfl)) ?_
      refine p_step (by exact rfl) (y_idxA Hvaa.underlying383 sz_4 (et g0 rfl) (et (gS rfl (gS rfl g0)) rfl) ?_ ?_) ?_
      omega
      omega
      refine p_step (by exact rfl) (y_load1 one_4 (et g0 rfl) (atS (kS.cell (by simpa using sc_get (s := s) hnl)))) ?_
      refine p_step (by exact rfl) (y_assignV (et (gS rfl (gS rfl (gS rfl g0))) rfl)) ?_
      refine p_step (by exact rfl) (y_assignV (et (gS rfl g0) rfl)) ?_
      refine p_nil ?_
      refine hK15 _ _ ?_
      refine fg6 0 2 11 12 3 4 (gS rfl (gS rfl (gS rfl (gS rfl (gS rfl (gS rfl (gS rfl (gS rfl (gS rfl g0))))))))) (gS rfl (gS rfl (gS rfl (gS rfl (gS rfl (gS rfl (gS rfl (gS rfl g0)))))))) (gS rfl (gS rfl (gS rfl (gS rfl (gS rfl (gS rfl (gS rfl g0))))))) (gS rfl (gS rfl (gS rfl (gS rfl (gS rfl (gS rfl g0)))))) (gS rfl g0) g0 (fun g => ?_)
      refine c_region ?_
      refine l_step (y_moveV (et (gS rfl g0) rfl)) ?_
      refine l_step (y_quo (et g0 rfl) rfl (by decide) (quoI (b := 64) ?_)) ?_
      omega
      refine l_step (y_rem (et g0 rfl) rfl (by decide) (remN (b := 5))) ?_
      refine l_step (y_moveV (et (gS rfl (gS rfl (gS rfl (gS rfl g0)))) rfl)) ?_
      refine l_step (y_quo (et g0 rfl) rfl (by decide) (quoI (b := 320) ?_)) ?_
      omega
      refine l_step (y_moveV (et (gS rfl (gS rfl (gS rfl (gS rfl (gS rfl (gS rfl g0)))))) rfl)) ?_
      refine l_step (y_rem (et g0 rfl) rfl (by decide) (remN (b := 64))) ?_
      refine l_step (y_moveV (et (gS rfl (gS rfl (gS rfl (gS rfl (gS rfl (gS rfl (gS rfl g0))))))) rfl)) ?_
      refine l_step (y_idxA Hvaa.underlying438 sz_436 (et (gS rfl (gS rfl (gS rfl (gS rfl (gS rfl (gS rfl (gS rfl (gS rfl (gS rfl (gS rfl (gS rfl (gS rfl g0)))))))))))) rfl) (et (gS rfl (gS rfl (gS rfl (gS rfl (gS rfl g0))))) rfl) ?_ ?_) ?_
      omega
      omega
      refine l_step (y_idxA Hvaa.underlying436 sz_435 (et g0 rfl) (et (gS rfl (gS rfl (gS rfl (gS rfl g0)))) rfl) ?_ ?_) ?_
      omega
      omega
      refine l_step (y_idxA Hvaa.underlying435 sz_4 (et g0 rfl) (et (gS rfl (gS rfl (gS rfl g0))) rfl) ?_ ?_) ?_
      omega
      omega
      refine l_effN (e_store sz_4 (et g0 rfl) (cellsV (et (gS rfl (gS rfl (gS rfl g0))) rfl) rfl) rfl (by intro v hv; simp at hv; subst hv; rfl) k5 (by (rw [hC.size]; simp only [Int.toNat_natCast]; omega))) (fun v17 w17 h17 => ?_)
      obtain ⟨rfl, x17⟩ := h17
      replace kS := kS.ch x17.ch (by first | omega | (omega))
      replace k5 := x17.blk
      replace U := U.st x17 (.inr f5)
      replace V9 := V9.st x17 (by omega)
      simp only [Nat.zero_add, Nat.mul_one, Int.toNat_natCast] at k5
      refine l_nil ?_
      refine hQ14 _ _ _ (in_normal ?_)
      refine hK13 _ _ ?_
      refine fg4 0 2 11 12 (gS rfl (gS rfl (gS rfl (gS rfl (gS rfl (gS rfl (gS rfl (gS rfl (gS rfl (gS rfl (gS rfl (gS rfl (gS rfl (gS rfl (gS rfl (gS rfl g0)))))))))))))))) (gS rfl (gS rfl (gS rfl (gS rfl (gS rfl (gS rfl (gS rfl (gS rfl (gS rfl (gS rfl (gS rfl (gS rfl (gS rfl (gS rfl (gS rfl g0))))))))))))))) (gS rfl (gS rfl (gS rfl (gS rfl (gS rfl (gS rfl (gS rfl (gS rfl (gS rfl (gS rfl (gS rfl (gS rfl (gS rfl (gS rfl g0)))))))))))))) (gS rfl (gS rfl (gS rfl (gS rfl (gS rfl (gS rfl (gS rfl (gS rfl (gS rfl (gS rfl (gS rfl (gS rfl (gS rfl g0))))))))))))) (fun g => ?_)
      refine c_region ?_
      refine l_step (y_add (et g0 rfl) rfl (addIN (y := 1) ?_)) ?_
      omega
      refine l_step (y_moveV (et g0 rfl)) ?_
      refine l_nil ?_
      refine fK4 0 2 11 12 (gS rfl (gS rfl (gS rfl (gS rfl (gS rfl g0))))) (gS rfl (gS rfl (gS rfl (gS rfl g0)))) (gS rfl (gS rfl (gS rfl g0))) g0 (fun g => ?_)
      exact hK9 (1600 - ((n + 1))) _ _ (by omega) ⟨g, _, (n + 1), rfl, rfl, by omega, hC.step hnl, k5, V9⟩
    · skip
      
      have hnl : n = 1600 := by have := of_decide_eq_false cB2; omega
      subst hnl
      rw [hC.full] at k5
      refine c_exit ?_
      refine hQ8 _ _ _ (in_exit ?_)
      refine hK6 _ _ ?_
      refine fg2 0 2 (gS rfl (gS rfl (gS rfl (gS rfl g0)))) (gS rfl (gS rfl (gS rfl g0))) (fun g => ?_)
      refine c_seq (fun K18 hK18 => ?_)
      refine c_seq (fun K19 hK19 => ?_)
      refine c_region ?_
      refine l_step y_assignC ?_
      refine l_nil ?_
      refine hK19 _ _ ?_
      refine c_block (fun Q20 hQ20 => ?_)
      refine fg3 0 2 5 (gS rfl (gS rfl g0)) (gS rfl g0) g0 (fun g => ?_)
      replace k5 : Blk W9 b5 (kCells (kPerm 0 (toA s))) := k5
      refine c_loop (fun k_ s_ W21 => ∃ (g : Nat → Value) (i : Nat), s_ = (upd (upd (upd g 0 (.pointer (some ⟨bS, 0, none⟩))) 2 (.pointer (some ⟨b5, 0, none⟩))) 5 (.int .u8 (i : Nat))) ∧ 24 - i = k_ ∧ (i ≤ 24) ∧ Blk W21 b5 (kCells (kPerm i (toA s))) ∧ Ch (fun k => k = b5) W9 W21) (24 - (0)) ?_ ?_
      · exact ⟨g, 0, rfl, rfl, Nat.zero_le _, k5, Ch.refl _ _⟩
      · skip
        intro k_ s_ W21 hI K21 hK21
        obtain ⟨g, i, rfl, rfl, hi, nk5, V21⟩ := hI
        replace kS := kS.ch V21 (by omega)
        replace k5 := nk5
        replace U := U.cc V21 (by intro b hb; first | exact hb.elim | omega | (simp at hb ⊢; omega))
        refine c_seq (fun K22 hK22 => ?_)
        refine c_seq (fun K23 hK23 => ?_)
        refine c_region ?_
        refine l_step (y_moveV (et g0 rfl)) ?_
        refine l_step (y_lss (et g0 rfl) rfl) ?_
        refine l_nil ?_
        refine hK23 _ _ ?_
        refine fg4 0 2 5 31 (gS rfl (gS rfl (gS rfl (gS rfl g0)))) (gS rfl (gS rfl (gS rfl g0))) (gS rfl (gS rfl g0)) g0 (fun g => ?_)
        refine c_cond (et g0 rfl) (fun cB3 => ?_) (fun cB3 => ?_)
        · skip
          
          have hil : i < 24 := by have := of_decide_eq_true cB3; omega
          refine c_skip ?_
          refine hK22 _ _ ?_
          refine fg3 0 2 5 (gS rfl (gS rfl (gS rfl g0))) (gS rfl (gS rfl g0)) (gS rfl g0) (fun g => ?_)
          refine c_seq (fun K25 hK25 => ?_)
          refine c_block (fun Q26 hQ26 => ?_)
          refine c_seq (fun K27 hK27 => ?_)
          refine c_region ?_
          refine l_eff (e_callV cal_388 (aC (et (gS rfl g0) rfl) aN) (km_theta k5)) (fun v28 w28 h28 => ?_)
          obtain ⟨rfl, kt28, c28⟩ := h28
          replace kS := kS.ch c28 (by omega)
          replace k5 := kt28
          replace V21 := V21.cc c28 (by intro b hb; first | omega | (simp at hb ⊢; omega) | (have := hOo.lim b hb.symm; omega))
          replace U := U.cc c28 (by intro b hb; first | omega | exact .inl hb | exact .inr (hb ▸ f5))
          refine l_nil ?_
          refine hK27 _ _ ?_
          refine fg3 0 2 5 (gS rfl (gS rfl (gS rfl g0))) (gS rfl (gS rfl g0)) (gS rfl g0) (fun g => ?_)
          refine c_seq (fun K29 hK29 => ?_)
          refine c_region ?_
          refine l_eff (e_callV cal_389 (aC (et (gS rfl g0) rfl) aN) (km_rho k5)) (fun v30 w30 h30 => ?_)
          obtain ⟨rfl, u30⟩ := h30
          replace k5 := k5.up u30
          replace kS := kS.up u30
          replace U := U.tr u30
          replace V21 := V21.tr u30
          refine l_eff (e_alloc zr_438) (fun v31 w31 h31 => ?_)
          obtain ⟨b31, rfl, n31⟩ := h31
          have d5_31 : b5 < b31 := Nat.lt_of_lt_of_le k5.lt n31.fresh
          have f31 : w.heap.size ≤ b31 := Nat.le_trans U.size n31.fresh
          have fV21_31 := Nat.le_trans V21.size n31.fresh
          replace k5 := k5.up n31.up
          replace kS := kS.up n31.up
          replace U := U.tr n31.up
          replace V21 := V21.tr n31.up
          have k31 := n31.blk
          obtain ⟨zs31, hz31, k31⟩ : ∃ cs : Array Value, cs.size = 1600 ∧ Blk w31 b31 cs := ⟨_, rfl, k31⟩
          refine l_effN (e_store sz_438 (et g0 rfl) (cellsV (et (gS rfl g0) rfl) rfl) (kc_len _) (by exact kc_one _) k31 (by (rw [hz31]; decide))) (fun v32 w32 h32 => ?_)
          obtain ⟨rfl, x32⟩ := h32
          replace k5 := k5.ch x32.ch (by omega)
          replace kS := kS.ch x32.ch (by first | omega | (omega))
          replace k31 := x32.blk.full (by rw [hz31]; exact (kc_len _).symm)
          replace U := U.st x32 (.inr f31)
          replace V21 := V21.st x32 (by omega)
          try rw [Array.toArray_toList] at k31
          refine l_nil ?_
          refine hK29 _ _ ?_
          refine fg4 0 2 5 6 (gS rfl (gS rfl (gS rfl (gS rfl g0)))) (gS rfl (gS rfl (gS rfl g0))) (gS rfl (gS rfl g0)) g0 (fun g => ?_)
          refine c_seq (fun K33 hK33 => ?_)
          refine c_region ?_
          refine l_eff (e_callV cal_390 (aC (et g0 rfl) aN) (km_pi k31)) (fun v34 w34 h34 => ?_)
          obtain ⟨rfl, u34⟩ := h34
          replace k5 := k5.up u34
          replace k31 := k31.up u34
          replace kS := kS.up u34
          replace U := U.tr u34
          replace V21 := V21.tr u34
          refine l_eff (e_alloc zr_438) (fun v35 w35 h35 => ?_)
          obtain ⟨b35, rfl, n35⟩ := h35
          have d5_35 : b5 < b35 := Nat.lt_of_lt_of_le k5.lt n35.fresh
          have d31_35 : b31 < b35 := Nat.lt_of_lt_of_le k31.lt n35.fresh
          have f35 : w.heap.size ≤ b35 := Nat.le_trans U.size n35.fresh
          have fV21_35 := Nat.le_trans V21.size n35.fresh
          replace k5 := k5.up n35.up
          replace k31 := k31.up n35.up
          replace kS := kS.up n35.up
          replace U := U.tr n35.up
          replace V21 := V21.tr n35.up
          have k35 := n35.blk
          obtain ⟨zs35, hz35, k35⟩ : ∃ cs : Array Value, cs.size = 1600 ∧ Blk w35 b35 cs := ⟨_, rfl, k35⟩
          refine l_effN (e_store sz_438 (et g0 rfl) (cellsV (et (gS rfl g0) rfl) rfl) (kc_len _) (by exact kc_one _) k35 (by (rw [hz35]; decide))) (fun v36 w36 h36 => ?_)
          obtain ⟨rfl, x36⟩ := h36
          replace k5 := k5.ch x36.ch (by omega)
          replace k31 := k31.ch x36.ch (by omega)
          replace kS := kS.ch x36.ch (by first | omega | (omega))
          replace k35 := x36.blk.full (by rw [hz35]; exact (kc_len _).symm)
          replace U := U.st x36 (.inr f35)
          replace V21 := V21.st x36 (by omega)
          try rw [Array.toArray_toList] at k35
          refine l_nil ?_
          refine hK33 _ _ ?_
          refine fg4 0 2 5 7 (gS rfl (gS rfl (gS rfl (gS rfl (gS rfl g0))))) (gS rfl (gS rfl (gS rfl (gS rfl g0)))) (gS rfl (gS rfl (gS rfl g0))) g0 (fun g => ?_)
          refine c_seq (fun K37 hK37 => ?_)
          refine c_region ?_
          refine l_eff (e_callV cal_391 (aC (et g0 rfl) aN) (km_chi k35)) (fun v38 w38 h38 => ?_)
          obtain ⟨rfl, u38⟩ := h38
          replace k5 := k5.up u38
          replace k31 := k31.up u38
          replace k35 := k35.up u38
          replace kS := kS.up u38
          replace U := U.tr u38
          replace V21 := V21.tr u38
          refine l_effN (e_store sz_438 (et (gS rfl (gS rfl (gS rfl g0))) rfl) (cellsV (et g0 rfl) rfl) (kc_len _) (by exact kc_one _) k5 (by (rw [kc_size]; decide))) (fun v39 w39 h39 => ?_)
          obtain ⟨rfl, x39⟩ := h39
          replace k31 := k31.ch x39.ch (by omega)
          replace k35 := k35.ch x39.ch (by omega)
          replace kS := kS.ch x39.ch (by first | omega | (omega))
          replace k5 := x39.blk.full (by rw [kc_size]; exact (kc_len _).symm)
          replace U := U.st x39 (.inr f5)
          replace V21 := V21.st x39 (by omega)
          try rw [Array.toArray_toList] at k5
          refine l_nil ?_
          refine hK37 _ _ ?_
          refine fg3 0 2 5 (gS rfl (gS rfl (gS rfl (gS rfl g0)))) (gS rfl (gS rfl (gS rfl g0))) (gS rfl (gS rfl g0)) (fun g => ?_)
          refine c_region ?_
          refine l_step (y_moveV (et g0 rfl)) ?_
          refine l_eff (e_callV cal_392 (aC (et (gS rfl (gS rfl g0)) rfl) (aC (et g0 rfl) aN)) (km_iota hil k5)) (fun v40 w40 h40 => ?_)
          obtain ⟨rfl, kt40, c40⟩ := h40
          replace k31 := k31.ch c40 (by omega)
          replace k35 := k35.ch c40 (by omega)
          replace kS := kS.ch c40 (by omega)
          replace k5 := kt40
          replace V21 := V21.cc c40 (by intro b hb; first | omega | (simp at hb ⊢; omega) | (have := hOo.lim b hb.symm; omega))
          replace U := U.cc c40 (by intro b hb; first | omega | exact .inl hb | exact .inr (hb ▸ f5))
          refine l_nil ?_
          refine hQ26 _ _ _ (in_normal ?_)
          refine hK25 _ _ ?_
          refine fg3 0 2 5 (gS rfl (gS rfl (gS rfl (gS rfl g0)))) (gS rfl (gS rfl (gS rfl g0))) (gS rfl (gS rfl g0)) (fun g => ?_)
          refine c_region ?_
          refine l_step (y_moveV (et g0 rfl)) ?_
          refine l_step (y_add (et g0 rfl) rfl (wrapU_addN (b := 1) uk8 ?_)) ?_
          omega
          refine l_step (y_assignV (et g0 rfl)) ?_
          refine l_nil ?_
          refine fK3 0 2 5 (gS rfl (gS rfl (gS rfl (gS rfl (gS rfl g0))))) (gS rfl (gS rfl (gS rfl (gS rfl g0)))) g0 (fun g => ?_)
          exact hK21 (24 - ((i + 1))) _ _ (by omega) ⟨g, (i + 1), rfl, rfl, by omega, k5, V21⟩
        · skip
          
          have hil : i = 24 := by have := of_decide_eq_false cB3; omega
          subst hil
          refine c_exit ?_
          refine hQ20 _ _ _ (in_exit ?_)
          refine hK18 _ _ ?_
          refine fg2 0 2 (gS rfl (gS rfl (gS rfl g0))) (gS rfl (gS rfl g0)) (fun g => ?_)
          refine c_seq (fun K41 hK41 => ?_)
          refine c_region ?_
          refine l_step y_moveC ?_
          refine l_nil ?_
          refine hK41 _ _ ?_
          refine c_block (fun Q42 hQ42 => ?_)
          refine fg3 0 2 40 (gS rfl (gS rfl g0)) (gS rfl g0) g0 (fun g => ?_)
          replace kS : Blk W21 bS (sCells (fP s 0)) := by rw [fP_zero]; exact kS
          refine c_loop (fun k_ s_ W43 => ∃ (g : Nat → Value) (n : Nat), s_ = (upd (upd (upd g 0 (.pointer (some ⟨bS, 0, none⟩))) 2 (.pointer (some ⟨b5, 0, none⟩))) 40 (.int .i64 (n : Nat))) ∧ 1600 - n = k_ ∧ (n ≤ 1600) ∧ Blk W43 bS (sCells (fP s n)) ∧ Ch (fun k => k = bS) W21 W43) (1600 - (0)) ?_ ?_
          · exact ⟨g, 0, rfl, rfl, Nat.zero_le _, kS, Ch.refl _ _⟩
          · skip
            intro k_ s_ W43 hI K43 hK43
            obtain ⟨g, n, rfl, rfl, hn, nkS, V43⟩ := hI
            replace k5 := k5.ch V43 (by omega)
            replace kS := nkS
            replace U := U.cc V43 (by intro b hb; first | exact hb.elim | omega | (simp at hb ⊢; omega))
            refine c_seq (fun K44 hK44 => ?_)
            refine c_region ?_
            refine l_step (y_lss (et g0 rfl) rfl) ?_
            refine l_nil ?_
            refine hK44 _ _ ?_
            refine c_seq (fun K45 hK45 => ?_)
            refine c_cond (et g0 rfl) (fun cB4 => ?_) (fun cB4 => ?_)
            · skip
              
              have hnl : n < 1600 := by have := of_decide_eq_true cB4; omega
              refine c_skip ?_
              refine hK45 _ _ ?_
              refine fg3 0 2 40 (gS rfl (gS rfl (gS rfl g0))) (gS rfl (gS rfl g0)) (gS rfl g0) (fun g => ?_)
              refine c_seq (fun K47 hK47 => ?_)
              refine c_block (fun Q48 hQ48 => ?_)
              refine c_seq (fun K49 hK49 => ?_)
              refine c_region ?_
              refine l_step (y_moveV (et g0 rfl)) ?_
              refine l_step (y_assignV (et g0 rfl)) ?_
              refine l_nil ?_
              refine hK49 _ _ ?_
              refine fg4 0 2 40 8 (gS rfl (gS rfl (gS rfl (gS rfl g0)))) (gS rfl (gS rfl (gS rfl g0))) (gS rfl (gS rfl g0)) g0 (fun g => ?_)
              refine c_draw Up 15 [(0, true), (1, true), (2, true), (3, true), (4, true), (5, true), (6, true), (7, true), (8, true), (9, true), (10, true), (11, true), (12, true), (13, true), (14, true), (15, false)] (by kernel_rfl) (fun w50 hu => ⟨Up.refl _, ?_⟩)
              replace k5 := k5.up hu
              replace kS := kS.up hu
              replace U := U.tr hu
              replace V43 := V43.tr hu
              have SU := Up.refl w50
              refine p_step (by exact rfl) (y_moveV (et (gS rfl (gS rfl (gS rfl g0))) rfl)) ?_
              refine p_step (by exact rfl) (y_moveV (et (gS rfl g0) rfl)) ?_
              refine p_step (by exact rfl) (y_moveV (et (gS rfl (gS rfl g0)) rfl)) ?_
              refine p_step (by exact rfl) (y_quo (et g0 rfl) rfl (by decide) (quoI (b := 64) ?_)) ?_
              omega
              refine p_step (by exact rfl) (y_rem (et g0 rfl) rfl (by decide) (remN (b := 5))) ?_
              refine p_step (by exact rfl) (y_moveV (et (gS rfl (gS rfl (gS rfl (gS rfl (gS rfl g0))))) rfl)) ?_
              refine p_step (by exact rfl) (y_quo (et g0 rfl) rfl (by decide) (quoI (b := 320) ?_)) ?_
              omega
              refine p_step (by exact rfl) (y_moveV (et (gS rfl (gS rfl (gS rfl (gS rfl (gS rfl (gS rfl (gS rfl g0))))))) rfl)) ?_
              refine p_step (by exact rfl) (y_rem (et g0 rfl) rfl (by decide) (remN (b := 64))) ?_
              refine p_step (by exact rfl) (y_idxA Hvaa.underlying438 sz_436 (et (gS rfl (gS rfl (gS rfl (gS rfl (gS rfl (gS rfl (gS rfl (gS rfl (gS rfl (gS rfl (gS rfl g0))))))))))) rfl) (et (gS rfl (gS rfl (gS rfl (gS rfl g0)))) rfl) ?_ ?_) ?_
              omega
              omega
              refine p_step (by exact rfl) (y_idxA Hvaa.underlying436 sz_435 (et g0 rfl) (et (gS rfl (gS rfl (gS rfl g0))) rfl) ?_ ?_) ?_
              omega
              omega
              refine p_step (by exact rfl) (y_idxA Hvaa.underlying435 sz_4 (et g0 rfl) (et (gS rfl (gS rfl g0)) rfl) ?_ ?_) ?_
              omega
              omega
              refine p_step (by exact rfl) (y_load1 one_4 (et g0 rfl) (atS (k5.cell (by have h9 := kc_at (a := kPerm 24 (toA s)) (x := n / 64 % 5) (y := n / 320) (z := n % 64) (by omega) (by omega) (by omega); simp only [Nat.zero_add, Nat.mul_one, Int.toNat_natCast]; exact h9)))) ?_
              refine p_step (by exact rfl) (y_nil (et (gS rfl (gS rfl (gS rfl (gS rfl (gS rfl (gS rfl (gS rfl (gS rfl (gS rfl (gS rfl (gS rfl (gS rfl g0)))))))))))) rfl)) ?_
              refine p_step (by exact rfl) (y_idxA Hvaa.underlying383 sz_4 (et g0 rfl) (et (gS rfl (gS rfl (gS rfl (gS rfl (gS rfl (gS rfl (gS rfl (gS rfl (gS rfl (gS rfl (gS rfl (gS rfl g0)))))))))))) rfl) ?_ ?_) ?_
              omega
              omega
              refine p_effN (by exact rfl) (e_store sz_4 (et g0 rfl) (cellsV (et (gS rfl (gS rfl g0)) rfl) rfl) rfl (by intro v hv; simp at hv; subst hv; rfl) kS (by (rw [sc_size]; simp only [Int.toNat_natCast]; omega))) (fun v51 w51 h51 => ?_)
              obtain ⟨rfl, x51⟩ := h51
              replace k5 := k5.ch x51.ch (by omega)
              replace kS := x51.blk
              replace U := U.st x51 (.inl (by first | rfl | (simp; done)))
              replace V43 := V43.st x51 (by omega)
              refine ⟨.inl rfl, ?_⟩
              have h9 := kS
              simp only [Nat.zero_add, Nat.mul_one, Int.toNat_natCast] at h9
              replace kS : Blk w51 bS (sCells (fP s (n + 1))) := by rw [← fP_set hnl]; exact h9
              refine p_nil ?_
              refine hQ48 _ _ _ (in_normal ?_)
              refine hK47 _ _ ?_
              refine fg3 0 2 40 (gS rfl (gS rfl (gS rfl (gS rfl (gS rfl (gS rfl (gS rfl (gS rfl (gS rfl (gS rfl (gS rfl (gS rfl (gS rfl (gS rfl (gS rfl (gS rfl (gS rfl (gS rfl g0)))))))))))))))))) (gS rfl (gS rfl (gS rfl (gS rfl (gS rfl (gS rfl (gS rfl (gS rfl (gS rfl (gS rfl (gS rfl (gS rfl (gS rfl (gS rfl (gS rfl (gS rfl (gS rfl g0))))))))))))))))) (gS rfl (gS rfl (gS rfl (gS rfl (gS rfl (gS rfl (gS rfl (gS rfl (gS rfl (gS rfl (gS rfl (gS rfl (gS rfl (gS rfl (gS rfl (gS rfl g0)))))))))))))))) (fun g => ?_)
              refine c_region ?_
              refine l_step (y_add (et g0 rfl) rfl (addIN (y := 1) ?_)) ?_
              omega
              refine l_step (y_moveV (et g0 rfl)) ?_
              refine l_nil ?_
              refine fK3 0 2 40 (gS rfl (gS rfl (gS rfl (gS rfl g0)))) (gS rfl (gS rfl (gS rfl g0))) g0 (fun g => ?_)
              exact hK43 (1600 - ((n + 1))) _ _ (by omega) ⟨g, (n + 1), rfl, rfl, by omega, kS, V43⟩
            · skip
              
              have hnl : n = 1600 := by have := of_decide_eq_false cB4; omega
              subst hnl
              rw [fP_full] at kS
              refine c_exit ?_
              refine hQ42 _ _ _ (in_exit ?_)
              refine end0 rfl ?_
              exact ⟨rfl, kS, U⟩
end Go.Proofs.YgvaawGreat
