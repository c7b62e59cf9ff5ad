import Derived.Test.YgvaawGreatN3
set_option maxRecDepth 100000
set_option linter.unusedSimpArgs false
set_option linter.unusedVariables false
namespace Go.Proofs.YgvaawGreat
open Go
def cmpN (x y : Nat) : Int := if x < y then -1 else if x = y then 0 else 1
theorem cmp_lt {x y : Nat} (h : x < y) : cmpN x y = -1 := by simp [cmpN, h]
theorem cmp_gt {x y : Nat} (h : y < x) : cmpN x y = 1 := by rw [cmpN, if_neg (by omega), if_neg (by omega)]
theorem cmp_eq {x y : Nat} (h : x = y) : cmpN x y = 0 := by rw [cmpN, if_neg (by omega), if_pos h]
theorem val_split {l : List Nat} {k : Nat} (h : k < l.length) : val 256 l = val 256 (l.take k) + 256 ^ k * (l[k] + 256 * val 256 (l.drop (k + 1))) := by
  rw [← val_u64 h]; exact val_take_drop 256 l k (Nat.le_of_lt h)
theorem len_lt {l m : List Nat} (hd : Dig 256 l) (ht : Tr m) (h : l.length < m.length) : val 256 l < val 256 m := Nat.lt_of_lt_of_le (val_lt hd) (tr_ge ht h)
theorem dig_lt {l m : List Nat} {k : Nat} (hd : Dig 256 l) (hk : k < l.length) (hk2 : k < m.length) (hs : l.drop (k + 1) = m.drop (k + 1)) (hx : l[k] < m[k]) : val 256 l < val 256 m := by
  rw [val_split hk, val_split hk2, hs]
  have h1 : val 256 (l.take k) < 256 ^ k := by have := val_lt (hd.take k); rwa [List.length_take, Nat.min_eq_left (Nat.le_of_lt hk)] at this
  have h2 : 256 ^ k * (l[k] + 256 * val 256 (m.drop (k + 1)) + 1) ≤ 256 ^ k * (m[k] + 256 * val 256 (m.drop (k + 1))) := Nat.mul_le_mul_left _ (by omega)
  rw [Nat.mul_add, Nat.mul_one] at h2
  omega
theorem drop_eq {l m : List Nat} {k : Nat} (hk : k < l.length) (hk2 : k < m.length) (hs : l.drop (k + 1) = m.drop (k + 1)) (hx : l[k] = m[k]) : l.drop k = m.drop k := by
  rw [List.drop_eq_getElem_cons hk, List.drop_eq_getElem_cons hk2, hs, hx]
theorem cmp_raw (s0 c : Nat) (a : Option Addr) (l : List Nat) (w : World) (hW : WV s0 w (.slice a l.length c) l) (hs0 : s0 ≤ w.heap.size) (hc : l.length ≤ c) (h48 : l.length ≤ 281474976710656) (s1 c1 : Nat) (a1 : Option Addr) (l1 : List Nat) (hX : WV s1 w (.slice a1 l1.length c1) l1) (hs1 : s1 ≤ w.heap.size) (hc1 : l1.length ≤ c1) (h481 : l1.length ≤ 281474976710656) :
    Ret 121 [.slice a l.length c, .slice a1 l1.length c1] w (fun v w' => v = .int .i8 (cmpN (val 256 l) (val 256 l1)) ∧ Up w w') := by
  refine enter (n := 48) Hvaa.func121 rfl rfl (Nat.le_of_ble_eq_true rfl) ?_
  have U := Up.refl w
  refine c_seq (fun K1 hK1 => ?_)
  refine c_region ?_
  refine l_step y_assignC ?_
  refine l_nil ?_
  refine hK1 _ _ ?_
  refine fg2 1 0 (gS rfl (gS rfl g0)) (gS rfl g0) (fun g => ?_)
  refine c_seq (fun K2 hK2 => ?_)
  refine c_region ?_
  refine l_step (y_moveV (et g0 rfl)) ?_
  refine l_eff (e_callV cal_88 (aC (et g0 rfl) aN) (trim_spec _ _ _ l _ hW (by omega) (by omega))) (fun v3 w3 h3 => ?_)
  obtain ⟨k, hk, rfl, hT, hv, u3⟩ := h3
  replace hW := hW.up u3
  replace hX := hX.up u3
  replace U := U.tr u3
  have hW2 := hW.take hk
  have hlk : (l.take k).length = k := by simp; omega
  refine l_step (y_assignV (et g0 rfl)) ?_
  refine l_nil ?_
  refine hK2 _ _ ?_
  refine fg2 1 0 (gS rfl (gS rfl (gS rfl (gS rfl g0)))) g0 (fun g => ?_)
  refine c_seq (fun K4 hK4 => ?_)
  refine c_region ?_
  refine l_step (y_moveV (et (gS rfl g0) rfl)) ?_
  refine l_eff (e_callV cal_88 (aC (et g0 rfl) aN) (trim_spec _ _ _ l1 _ hX (by omega) (by omega))) (fun v5 w5 h5 => ?_)
  obtain ⟨j, hj, rfl, hT1, hv1, u5⟩ := h5
  replace hW := hW.up u5
  replace hX := hX.up u5
  replace hW2 := hW2.up u5
  replace U := U.tr u5
  have hX2 := hX.take hj
  have hlj : (l1.take j).length = j := by simp; omega
  refine l_step (y_assignV (et g0 rfl)) ?_
  refine l_nil ?_
  refine hK4 _ _ ?_
  refine fg2 1 0 g0 (gS rfl (gS rfl (gS rfl g0))) (fun g => ?_)
  refine c_seq (fun K6 hK6 => ?_)
  refine c_seq (fun K7 hK7 => ?_)
  refine c_region ?_
  refine l_step (y_moveV (et g0 rfl)) ?_
  refine l_step (y_len Hvaa.underlying95 (et g0 rfl)) ?_
  refine l_step (y_moveV (et (gS rfl (gS rfl (gS rfl g0))) rfl)) ?_
  refine l_step (y_len Hvaa.underlying95 (et g0 rfl)) ?_
  refine l_step (y_lss (et (gS rfl (gS rfl g0)) rfl) (et g0 rfl)) ?_
  refine l_nil ?_
  refine hK7 _ _ ?_
  refine fg3 1 0 14 (gS rfl (gS rfl (gS rfl (gS rfl (gS rfl (gS rfl g0)))))) (gS rfl (gS rfl (gS rfl (gS rfl (gS rfl g0))))) g0 (fun g => ?_)
  refine c_cond (et g0 rfl) (fun cB1 => ?_) (fun cB1 => ?_)
  · skip
    simp only [decide_eq_true_eq, decide_eq_false_iff_not, Int.not_lt, Int.not_le, Bool.not_eq_true', Bool.not_eq_false', Bool.not_eq_eq_eq_not, Bool.not_true, Bool.not_false] at cB1
    refine c_seq (fun K9 hK9 => ?_)
    refine c_region ?_
    refine l_step y_assignC ?_
    refine l_nil ?_
    refine hK9 _ _ ?_
    refine fg1 4 g0 (fun g => ?_)
    refine c_ret ?_
    refine ret1 rfl (res_tmp (et g0 rfl)) ?_
    exact ⟨by rw [← hv, ← hv1, cmp_lt (len_lt hW2.dig hT1 (by omega))], U⟩
  · skip
    simp only [decide_eq_true_eq, decide_eq_false_iff_not, Int.not_lt, Int.not_le, Bool.not_eq_true', Bool.not_eq_false', Bool.not_eq_eq_eq_not, Bool.not_true, Bool.not_false] at cB1
    refine c_skip ?_
    refine hK6 _ _ ?_
    refine fg2 1 0 (gS rfl (gS rfl g0)) (gS rfl g0) (fun g => ?_)
    refine c_seq (fun K10 hK10 => ?_)
    refine c_seq (fun K11 hK11 => ?_)
    refine c_region ?_
    refine l_step (y_moveV (et g0 rfl)) ?_
    refine l_step (y_len Hvaa.underlying95 (et g0 rfl)) ?_
    refine l_step (y_moveV (et (gS rfl (gS rfl (gS rfl g0))) rfl)) ?_
    refine l_step (y_len Hvaa.underlying95 (et g0 rfl)) ?_
    refine l_step (y_gtr (et (gS rfl (gS rfl g0)) rfl) (et g0 rfl)) ?_
    refine l_nil ?_
    refine hK11 _ _ ?_
    refine fg3 1 0 19 (gS rfl (gS rfl (gS rfl (gS rfl (gS rfl (gS rfl g0)))))) (gS rfl (gS rfl (gS rfl (gS rfl (gS rfl g0))))) g0 (fun g => ?_)
    refine c_cond (et g0 rfl) (fun cB2 => ?_) (fun cB2 => ?_)
    · skip
      simp only [decide_eq_true_eq, decide_eq_false_iff_not, Int.not_lt, Int.not_le, Bool.not_eq_true', Bool.not_eq_false', Bool.not_eq_eq_eq_not, Bool.not_true, Bool.not_false] at cB2
      refine c_seq (fun K13 hK13 => ?_)
      refine c_region ?_
      refine l_step y_assignC ?_
      refine l_nil ?_
      refine hK13 _ _ ?_
      refine fg1 4 g0 (fun g => ?_)
      refine c_ret ?_
      refine ret1 rfl (res_tmp (et g0 rfl)) ?_
      exact ⟨by rw [← hv, ← hv1, cmp_gt (len_lt hX2.dig hT (by omega))], U⟩
    · skip
      simp only [decide_eq_true_eq, decide_eq_false_iff_not, Int.not_lt, Int.not_le, Bool.not_eq_true', Bool.not_eq_false', Bool.not_eq_eq_eq_not, Bool.not_true, Bool.not_false] at cB2
      obtain ⟨m, hm⟩ : ∃ m, m = l.take k := ⟨_, rfl⟩
      obtain ⟨p, hp⟩ : ∃ p, p = l1.take j := ⟨_, rfl⟩
      rw [← hm] at hW2 hT hv hlk
      rw [← hp] at hX2 hT1 hv1 hlj
      have hkj : k = j := by omega
      subst hkj
      refine c_skip ?_
      refine hK10 _ _ ?_
      refine fg2 1 0 (gS rfl (gS rfl g0)) (gS rfl g0) (fun g => ?_)
      refine c_seq (fun K14 hK14 => ?_)
      refine c_seq (fun K15 hK15 => ?_)
      refine c_region ?_
      refine l_step (y_moveV (et g0 rfl)) ?_
      refine l_step (y_len Hvaa.underlying95 (et g0 rfl)) ?_
      refine l_step (y_assignV (et g0 rfl)) ?_
      refine l_nil ?_
      refine hK15 _ _ ?_
      refine fg3 1 0 5 (gS rfl (gS rfl (gS rfl (gS rfl g0)))) (gS rfl (gS rfl (gS rfl g0))) g0 (fun g => ?_)
      refine c_block (fun Q16 hQ16 => ?_)
      refine fg3 0 1 5 (gS rfl g0) (gS rfl (gS rfl g0)) g0 (fun g => ?_)
      refine c_loop (fun k_ s_ W17 => ∃ (g : Nat → Value) (i : Nat), s_ = (upd (upd (upd g 0 (.slice a k k)) 1 (.slice a1 k k)) 5 (.int .i64 (i : Nat))) ∧ i = k_ ∧ (i ≤ k) ∧ (m.drop i = p.drop i) ∧ Ch (fun k => False) w5 W17) ((k)) ?_ ?_
      · exact ⟨g, k, rfl, rfl, Nat.le_refl _, by rw [List.drop_of_length_le (by omega), List.drop_of_length_le (by omega)], Ch.refl _ _⟩
      · skip
        intro k_ s_ W17 hI K17 hK17
        obtain ⟨g, i, rfl, rfl, hi, hx, V17⟩ := hI
        replace hW := hW.ch V17 (by first | exact fun h => h | exact fun _ h => h.elim)
        replace hX := hX.ch V17 (by first | exact fun h => h | exact fun _ h => h.elim)
        replace hW2 := hW2.ch V17 (by first | exact fun h => h | exact fun _ h => h.elim)
        replace hX2 := hX2.ch V17 (by first | exact fun h => h | exact fun _ h => h.elim)
        replace U := U.cc V17 (by intro b hb; first | exact hb.elim | omega | (simp at hb ⊢; omega))
        refine c_seq (fun K18 hK18 => ?_)
        refine c_seq (fun K19 hK19 => ?_)
        refine c_region ?_
        refine l_step (y_moveV (et g0 rfl)) ?_
        refine l_step (y_gtr (et g0 rfl) rfl) ?_
        refine l_nil ?_
        refine hK19 _ _ ?_
        refine fg4 0 1 5 23 (gS rfl (gS rfl (gS rfl (gS rfl g0)))) (gS rfl (gS rfl (gS rfl g0))) (gS rfl (gS rfl g0)) g0 (fun g => ?_)
        refine c_cond (et g0 rfl) (fun cB3 => ?_) (fun cB3 => ?_)
        · skip
          simp only [decide_eq_true_eq, decide_eq_false_iff_not, Int.not_lt, Int.not_le, Bool.not_eq_true', Bool.not_eq_false', Bool.not_eq_eq_eq_not, Bool.not_true, Bool.not_false] at cB3
          obtain ⟨i', rfl⟩ : ∃ i', i = i' + 1 := ⟨i - 1, by omega⟩
          refine c_skip ?_
          refine hK18 _ _ ?_
          refine fg3 0 1 5 (gS rfl (gS rfl (gS rfl g0))) (gS rfl (gS rfl g0)) (gS rfl g0) (fun g => ?_)
          refine c_seq (fun K21 hK21 => ?_)
          refine c_block (fun Q22 hQ22 => ?_)
          refine c_seq (fun K23 hK23 => ?_)
          refine c_seq (fun K24 hK24 => ?_)
          refine c_draw Up 11 [(0, true), (1, true), (2, true), (3, true), (4, true), (5, true), (6, true), (7, true), (8, true), (9, true), (10, true)] (by kernel_rfl) (fun w25 hu => ⟨Up.refl _, ?_⟩)
          replace hW := hW.up hu
          replace hX := hX.up hu
          replace hW2 := hW2.up hu
          replace hX2 := hX2.up hu
          replace U := U.tr hu
          replace V17 := V17.tr hu
          have SU := Up.refl w25
          refine p_step (by exact rfl) (y_moveV (et (gS rfl (gS rfl g0)) rfl)) ?_
          refine p_step (by exact rfl) (y_moveV (et (gS rfl g0) rfl)) ?_
          refine p_step (by exact rfl) (y_sub (et g0 rfl) rfl ((subIN (y := 1) ?_ ?_).trans (castE (show i' + 1 - 1 = i' by omega)))) ?_
          omega
          omega
          have hW3 : WV s0 w25 (.slice a m.length k) m := by rw [hlk]; exact hW2
          obtain ⟨ba, oa, ha, hb0, hr⟩ := hW3.at (by omega)
          refine p_step (by exact rfl) (y_idxSa ha Hvaa.underlying95 sz_5 (et (gS rfl (gS rfl g0)) rfl) (et g0 rfl) ?_) ?_
          omega
          refine p_step (by exact rfl) (y_load1 one_5 (et g0 rfl) (atS (row_byte hr (by omega)))) ?_
          refine p_step (by exact rfl) (y_moveV (et (gS rfl (gS rfl (gS rfl (gS rfl (gS rfl (gS rfl g0)))))) rfl)) ?_
          refine p_step (by exact rfl) (y_moveV (et (gS rfl (gS rfl (gS rfl (gS rfl (gS rfl (gS rfl g0)))))) rfl)) ?_
          refine p_step (by exact rfl) (y_sub (et g0 rfl) rfl ((subIN (y := 1) ?_ ?_).trans (castE (show i' + 1 - 1 = i' by omega)))) ?_
          omega
          omega
          have hX3 : WV s1 w25 (.slice a1 p.length k) p := by rw [hlj]; exact hX2
          obtain ⟨bc, oc, hc', hb1, hr1⟩ := hX3.at (by omega)
          refine p_step (by exact rfl) (y_idxSa hc' Hvaa.underlying95 sz_5 (et (gS rfl (gS rfl g0)) rfl) (et g0 rfl) ?_) ?_
          omega
          refine p_step (by exact rfl) (y_load1 one_5 (et g0 rfl) (atS (row_byte hr1 (by omega)))) ?_
          refine p_step (by exact rfl) (y_lss (et (gS rfl (gS rfl (gS rfl (gS rfl (gS rfl g0))))) rfl) (et g0 rfl)) ?_
          refine p_nil ?_
          refine hK24 _ _ ?_
          refine fg4 0 1 5 36 (gS rfl (gS rfl (gS rfl (gS rfl (gS rfl (gS rfl (gS rfl (gS rfl (gS rfl (gS rfl (gS rfl (gS rfl (gS rfl g0))))))))))))) (gS rfl (gS rfl (gS rfl (gS rfl (gS rfl (gS rfl (gS rfl (gS rfl (gS rfl (gS rfl (gS rfl (gS rfl g0)))))))))))) (gS rfl (gS rfl (gS rfl (gS rfl (gS rfl (gS rfl (gS rfl (gS rfl (gS rfl (gS rfl (gS rfl g0))))))))))) g0 (fun g => ?_)
          refine c_cond (et g0 rfl) (fun cB4 => ?_) (fun cB4 => ?_)
          · skip
            simp only [decide_eq_true_eq, decide_eq_false_iff_not, Int.not_lt, Int.not_le, Bool.not_eq_true', Bool.not_eq_false', Bool.not_eq_eq_eq_not, Bool.not_true, Bool.not_false] at cB4
            refine c_seq (fun K27 hK27 => ?_)
            refine c_region ?_
            refine l_step y_assignC ?_
            refine l_nil ?_
            refine hK27 _ _ ?_
            refine fg1 4 g0 (fun g => ?_)
            refine c_ret ?_
            refine hQ22 _ _ _ (in_ret ?_)
            refine hQ16 _ _ _ (in_ret ?_)
            refine ret1 rfl (res_tmp (et g0 rfl)) ?_
            exact ⟨by rw [← hv, ← hv1, cmp_lt (dig_lt hW2.dig (by omega) (by omega) hx (by omega))], U⟩
          · skip
            simp only [decide_eq_true_eq, decide_eq_false_iff_not, Int.not_lt, Int.not_le, Bool.not_eq_true', Bool.not_eq_false', Bool.not_eq_eq_eq_not, Bool.not_true, Bool.not_false] at cB4
            refine c_skip ?_
            refine hK23 _ _ ?_
            refine fg3 0 1 5 (gS rfl (gS rfl (gS rfl g0))) (gS rfl (gS rfl g0)) (gS rfl g0) (fun g => ?_)
            refine c_seq (fun K28 hK28 => ?_)
            refine c_draw Up 11 [(0, true), (1, true), (2, true), (3, true), (4, true), (5, true), (6, true), (7, true), (8, true), (9, true), (10, true)] (by kernel_rfl) (fun w29 hu => ⟨Up.refl _, ?_⟩)
            replace hW := hW.up hu
            replace hX := hX.up hu
            replace hW2 := hW2.up hu
            replace hX2 := hX2.up hu
            replace U := U.tr hu
            replace V17 := V17.tr hu
            have SU := Up.refl w29
            refine p_step (by exact rfl) (y_moveV (et (gS rfl (gS rfl g0)) rfl)) ?_
            refine p_step (by exact rfl) (y_moveV (et (gS rfl g0) rfl)) ?_
            refine p_step (by exact rfl) (y_sub (et g0 rfl) rfl ((subIN (y := 1) ?_ ?_).trans (castE (show i' + 1 - 1 = i' by omega)))) ?_
            omega
            omega
            have hW3 : WV s0 w29 (.slice a m.length k) m := by rw [hlk]; exact hW2
            obtain ⟨ba, oa, ha, hb0, hr⟩ := hW3.at (by omega)
            refine p_step (by exact rfl) (y_idxSa ha Hvaa.underlying95 sz_5 (et (gS rfl (gS rfl g0)) rfl) (et g0 rfl) ?_) ?_
            omega
            refine p_step (by exact rfl) (y_load1 one_5 (et g0 rfl) (atS (row_byte hr (by omega)))) ?_
            refine p_step (by exact rfl) (y_moveV (et (gS rfl (gS rfl (gS rfl (gS rfl (gS rfl (gS rfl g0)))))) rfl)) ?_
            refine p_step (by exact rfl) (y_moveV (et (gS rfl (gS rfl (gS rfl (gS rfl (gS rfl (gS rfl g0)))))) rfl)) ?_
            refine p_step (by exact rfl) (y_sub (et g0 rfl) rfl ((subIN (y := 1) ?_ ?_).trans (castE (show i' + 1 - 1 = i' by omega)))) ?_
            omega
            omega
            have hX3 : WV s1 w29 (.slice a1 p.length k) p := by rw [hlj]; exact hX2
            obtain ⟨bc, oc, hc', hb1, hr1⟩ := hX3.at (by omega)
            refine p_step (by exact rfl) (y_idxSa hc' Hvaa.underlying95 sz_5 (et (gS rfl (gS rfl g0)) rfl) (et g0 rfl) ?_) ?_
            omega
            refine p_step (by exact rfl) (y_load1 one_5 (et g0 rfl) (atS (row_byte hr1 (by omega)))) ?_
            refine p_step (by exact rfl) (y_gtr (et (gS rfl (gS rfl (gS rfl (gS rfl (gS rfl g0))))) rfl) (et g0 rfl)) ?_
            refine p_nil ?_
            refine hK28 _ _ ?_
            refine fg4 0 1 5 47 (gS rfl (gS rfl (gS rfl (gS rfl (gS rfl (gS rfl (gS rfl (gS rfl (gS rfl (gS rfl (gS rfl (gS rfl (gS rfl g0))))))))))))) (gS rfl (gS rfl (gS rfl (gS rfl (gS rfl (gS rfl (gS rfl (gS rfl (gS rfl (gS rfl (gS rfl (gS rfl g0)))))))))))) (gS rfl (gS rfl (gS rfl (gS rfl (gS rfl (gS rfl (gS rfl (gS rfl (gS rfl (gS rfl (gS rfl g0))))))))))) g0 (fun g => ?_)
            refine c_cond (et g0 rfl) (fun cB5 => ?_) (fun cB5 => ?_)
            · skip
              simp only [decide_eq_true_eq, decide_eq_false_iff_not, Int.not_lt, Int.not_le, Bool.not_eq_true', Bool.not_eq_false', Bool.not_eq_eq_eq_not, Bool.not_true, Bool.not_false] at cB5
              refine c_seq (fun K31 hK31 => ?_)
              refine c_region ?_
              refine l_step y_assignC ?_
              refine l_nil ?_
              refine hK31 _ _ ?_
              refine fg1 4 g0 (fun g => ?_)
              refine c_ret ?_
              refine hQ22 _ _ _ (in_ret ?_)
              refine hQ16 _ _ _ (in_ret ?_)
              refine ret1 rfl (res_tmp (et g0 rfl)) ?_
              exact ⟨by rw [← hv, ← hv1, cmp_gt (dig_lt hX2.dig (by omega) (by omega) hx.symm (by omega))], U⟩
            · skip
              simp only [decide_eq_true_eq, decide_eq_false_iff_not, Int.not_lt, Int.not_le, Bool.not_eq_true', Bool.not_eq_false', Bool.not_eq_eq_eq_not, Bool.not_true, Bool.not_false] at cB5
              refine c_skip ?_
              refine hQ22 _ _ _ (in_normal ?_)
              refine hK21 _ _ ?_
              refine fg3 0 1 5 (gS rfl (gS rfl (gS rfl g0))) (gS rfl (gS rfl g0)) (gS rfl g0) (fun g => ?_)
              refine c_region ?_
              refine l_step (y_moveV (et g0 rfl)) ?_
              refine l_step (y_sub (et g0 rfl) rfl ((subIN (y := 1) ?_ ?_).trans (castE (show i' + 1 - 1 = i' by omega)))) ?_
              omega
              omega
              refine l_step (y_assignV (et g0 rfl)) ?_
              refine l_nil ?_
              refine fK3 0 1 5 (gS rfl (gS rfl (gS rfl (gS rfl (gS rfl g0))))) (gS rfl (gS rfl (gS rfl (gS rfl g0)))) g0 (fun g => ?_)
              exact hK17 ((i')) _ _ (by omega) ⟨g, i', rfl, rfl, by omega, drop_eq (by omega) (by omega) hx (by omega), V17⟩
        · skip
          simp only [decide_eq_true_eq, decide_eq_false_iff_not, Int.not_lt, Int.not_le, Bool.not_eq_true', Bool.not_eq_false', Bool.not_eq_eq_eq_not, Bool.not_true, Bool.not_false] at cB3
          have hi0 : i = 0 := by omega
          subst hi0
          refine c_exit ?_
          refine hQ16 _ _ _ (in_exit ?_)
          refine hK14 _ _ ?_
          refine fg0 (fun g => ?_)
          refine c_seq (fun K32 hK32 => ?_)
          refine c_region ?_
          refine l_step y_assignC ?_
          refine l_nil ?_
          refine hK32 _ _ ?_
          refine c_ret ?_
          refine ret1 rfl (res_tmp (et g0 rfl)) ?_
          exact ⟨by rw [← hv, ← hv1, cmp_eq (by rw [← List.drop_zero (l := m), ← List.drop_zero (l := p), hx])], U⟩
theorem bit_val {l : List Nat} {i : Nat} (hd : Dig 256 l) (h : i / 8 < l.length) : val 256 l / 2 ^ i % 2 = l[i / 8] / 2 ^ (i % 8) % 2 := by
  rw [val_split h]
  have e1 : 2 ^ i = 256 ^ (i / 8) * 2 ^ (i % 8) := by
    rw [show (256 : Nat) = 2 ^ 8 from rfl, ← Nat.pow_mul, ← Nat.pow_add]
    congr 1; omega
  have h1 : val 256 (l.take (i / 8)) < 256 ^ (i / 8) := by have := val_lt (hd.take (i / 8)); rwa [List.length_take, Nat.min_eq_left (Nat.le_of_lt h)] at this
  rw [e1, ← Nat.div_div_eq_div_mul, Nat.add_mul_div_left _ _ (Nat.pow_pos (by decide)), Nat.div_eq_of_lt h1, Nat.zero_add]
  have hm : i % 8 < 8 := Nat.mod_lt _ (by decide)
  have e2 : (256 : Nat) = 2 ^ (i % 8) * (2 * 2 ^ (7 - i % 8)) := by
    rw [← Nat.mul_assoc, ← Nat.pow_succ, ← Nat.pow_add, show i % 8 + 1 + (7 - i % 8) = 8 by omega]
  rw [e2, Nat.mul_assoc, Nat.add_mul_div_left _ _ (Nat.pow_pos (by decide)), Nat.mul_assoc, Nat.add_mul_mod_self_left]
theorem bit_out {l : List Nat} {i : Nat} (hd : Dig 256 l) (h : l.length ≤ i / 8) : val 256 l / 2 ^ i % 2 = 0 := by
  have h1 := val_lt hd
  have h2 : 256 ^ l.length ≤ 2 ^ i := by
    rw [show (256 : Nat) = 2 ^ 8 from rfl, ← Nat.pow_mul]
    exact Nat.pow_le_pow_right (by decide) (by omega)
  rw [Nat.div_eq_of_lt (by omega)]
theorem shr8N {a c : Nat} (hc : c ≤ 8) : ((a : Int)).fdiv (2 ^ (min ((c : Int)).toNat IntKind.u8.bits)) = ((a / 2 ^ c : Nat) : Int) := shr_nat hc
theorem bitN {a : Nat} : decide ((((a % 2 : Nat) : Int)) = 1) = decide (a % 2 = 1) := by
  rcases Nat.mod_two_eq_zero_or_one a with h | h <;> simp [h]
theorem bit_raw (i : Nat) (hi : i < 65536) (s0 c : Nat) (a : Option Addr) (l : List Nat) (w : World) (hW : WV s0 w (.slice a l.length c) l) (hs0 : s0 ≤ w.heap.size) (hc : l.length ≤ c) (h48 : l.length ≤ 281474976710656) :
    Ret 330 [.slice a l.length c, .int .u16 i] w (fun v w' => v = .bool (decide (val 256 l / 2 ^ i % 2 = 1)) ∧ Up w w') := by
  refine enter (n := 24) Hvaa.func330 rfl rfl (Nat.le_of_ble_eq_true rfl) ?_
  have U := Up.refl w
  refine c_seq (fun K1 hK1 => ?_)
  refine c_region ?_
  refine l_step y_assignC ?_
  refine l_nil ?_
  refine hK1 _ _ ?_
  refine fg2 1 0 (gS rfl (gS rfl g0)) (gS rfl g0) (fun g => ?_)
  refine c_seq (fun K2 hK2 => ?_)
  refine c_region ?_
  refine l_step (y_moveV (et (gS rfl g0) rfl)) ?_
  refine l_step (y_quo (et g0 rfl) rfl (by decide) (quoU (b := 8) uk16 ?_)) ?_
  omega
  refine l_step (y_conv Hvaa.underlying67 Hvaa.underlying3 (et g0 rfl) (wrapIN ?_)) ?_
  omega
  refine l_step (y_assignV (et g0 rfl)) ?_
  refine l_nil ?_
  refine hK2 _ _ ?_
  refine fg3 1 0 5 (gS rfl (gS rfl (gS rfl (gS rfl (gS rfl g0))))) (gS rfl (gS rfl (gS rfl (gS rfl g0)))) g0 (fun g => ?_)
  refine c_seq (fun K3 hK3 => ?_)
  refine c_region ?_
  refine l_step (y_moveV (et g0 rfl)) ?_
  refine l_step (y_moveV (et (gS rfl (gS rfl g0)) rfl)) ?_
  refine l_step (y_len Hvaa.underlying95 (et g0 rfl)) ?_
  refine l_step (y_lss (et (gS rfl (gS rfl g0)) rfl) (et g0 rfl)) ?_
  refine l_step (y_moveV (et g0 rfl)) ?_
  refine gsplitL (i := 13) g0 (fun q4 => ?_) (fun q4 => ?_)
  · skip
    have hlt : i / 8 < l.length := by have := of_decide_eq_true q4; omega
    obtain ⟨b, o, ha, hb0, hr⟩ := hW.at (by omega)
    have hd8 := hW.dig _ (List.getElem_mem (l := l) (n := i / 8) hlt)
    refine l_gstep (j := 4) (t := 13) (by exact rfl) (by exact rfl) (et g0 rfl) (by decide) (y_moveV (et (gS rfl (gS rfl (gS rfl (gS rfl (gS rfl (gS rfl (gS rfl g0))))))) rfl)) ?_
    refine l_gstep (j := 4) (t := 13) (by exact rfl) (by exact rfl) (et (gS rfl g0) rfl) (by decide) (y_moveV (et (gS rfl (gS rfl (gS rfl (gS rfl (gS rfl (gS rfl (gS rfl g0))))))) rfl)) ?_
    refine l_gstep (j := 4) (t := 13) (by exact rfl) (by exact rfl) (et (gS rfl (gS rfl g0)) rfl) (by decide) (y_idxSa ha Hvaa.underlying95 sz_5 (et (gS rfl g0) rfl) (et g0 rfl) ?_) ?_
    omega
    refine l_gstep (j := 4) (t := 13) (by exact rfl) (by exact rfl) (et (gS rfl (gS rfl (gS rfl g0))) rfl) (by decide) (y_load1 one_5 (et g0 rfl) (at1 (row_byte hr (by omega)))) ?_
    refine l_gstep (j := 4) (t := 13) (by exact rfl) (by exact rfl) (et (gS rfl (gS rfl (gS rfl (gS rfl g0)))) rfl) (by decide) (y_moveV (et (gS rfl (gS rfl (gS rfl (gS rfl (gS rfl (gS rfl (gS rfl (gS rfl (gS rfl (gS rfl (gS rfl (gS rfl g0)))))))))))) rfl)) ?_
    refine l_gstep (j := 4) (t := 13) (by exact rfl) (by exact rfl) (et (gS rfl (gS rfl (gS rfl (gS rfl (gS rfl g0))))) rfl) (by decide) (y_rem (et g0 rfl) rfl (by decide) (remN (b := 8))) ?_
    refine l_gstep (j := 4) (t := 13) (by exact rfl) (by exact rfl) (et (gS rfl (gS rfl (gS rfl (gS rfl (gS rfl (gS rfl g0)))))) rfl) (by decide) (y_shr (et (gS rfl (gS rfl g0)) rfl) (et g0 rfl) ?_ (shr8N ?_)) ?_
    omega
    omega
    refine l_gstep (j := 4) (t := 13) (by exact rfl) (by exact rfl) (et (gS rfl (gS rfl (gS rfl (gS rfl (gS rfl (gS rfl (gS rfl g0))))))) rfl) (by decide) (y_andM 1 2 uk8 (et g0 rfl) rfl ?_ rfl rfl (by decide)) ?_
    exact Nat.lt_of_le_of_lt (Nat.div_le_self _ _) hd8
    refine l_gstep (j := 4) (t := 13) (by exact rfl) (by exact rfl) (et (gS rfl (gS rfl (gS rfl (gS rfl (gS rfl (gS rfl (gS rfl (gS rfl g0)))))))) rfl) (by decide) (y_eql (et g0 rfl) rfl) ?_
    refine l_step (y_pickT (et (gS rfl (gS rfl (gS rfl (gS rfl (gS rfl (gS rfl (gS rfl (gS rfl (gS rfl g0))))))))) rfl) (et g0 rfl)) ?_
    refine l_step (y_assignV (et g0 rfl)) ?_
    refine l_nil ?_
    refine hK3 _ _ ?_
    refine fg1 4 g0 (fun g => ?_)
    refine c_ret ?_
    refine ret1 rfl (res_tmp (et g0 rfl)) ?_
    refine ⟨?_, U⟩
    rw [bit_val hW.dig hlt]
    exact congrArg Value.bool bitN
  · skip
    have hlt : l.length ≤ i / 8 := by have := of_decide_eq_false q4; omega
    refine l_gskip (j := 4) (t := 13) (by exact rfl) (by exact rfl) (et g0 rfl) (by decide) (by decide) ?_
    refine l_gskip (j := 4) (t := 13) (by exact rfl) (by exact rfl) (et (gS rfl g0) rfl) (by decide) (by decide) ?_
    refine l_gskip (j := 4) (t := 13) (by exact rfl) (by exact rfl) (et (gS rfl (gS rfl g0)) rfl) (by decide) (by decide) ?_
    refine l_gskip (j := 4) (t := 13) (by exact rfl) (by exact rfl) (et (gS rfl (gS rfl (gS rfl g0))) rfl) (by decide) (by decide) ?_
    refine l_gskip (j := 4) (t := 13) (by exact rfl) (by exact rfl) (et (gS rfl (gS rfl (gS rfl (gS rfl g0)))) rfl) (by decide) (by decide) ?_
    refine l_gskip (j := 4) (t := 13) (by exact rfl) (by exact rfl) (et (gS rfl (gS rfl (gS rfl (gS rfl (gS rfl g0))))) rfl) (by decide) (by decide) ?_
    refine l_gskip (j := 4) (t := 13) (by exact rfl) (by exact rfl) (et (gS rfl (gS rfl (gS rfl (gS rfl (gS rfl (gS rfl g0)))))) rfl) (by decide) (by decide) ?_
    refine l_gskip (j := 4) (t := 13) (by exact rfl) (by exact rfl) (et (gS rfl (gS rfl (gS rfl (gS rfl (gS rfl (gS rfl (gS rfl g0))))))) rfl) (by decide) (by decide) ?_
    refine l_gskip (j := 4) (t := 13) (by exact rfl) (by exact rfl) (et (gS rfl (gS rfl (gS rfl (gS rfl (gS rfl (gS rfl (gS rfl (gS rfl g0)))))))) rfl) (by decide) (by decide) ?_
    refine l_step (y_pickF (et (gS rfl (gS rfl (gS rfl (gS rfl (gS rfl (gS rfl (gS rfl (gS rfl (gS rfl g0))))))))) rfl) rfl) ?_
    refine l_step (y_assignV (et g0 rfl)) ?_
    refine l_nil ?_
    refine hK3 _ _ ?_
    refine fg1 4 g0 (fun g => ?_)
    refine c_ret ?_
    refine ret1 rfl (res_tmp (et g0 rfl)) ?_
    refine ⟨?_, U⟩
    rw [bit_out hW.dig hlt]
    rfl
theorem pow2_val (k : Nat) : val 256 (List.replicate (k / 8) 0 ++ [2 ^ (k % 8)]) = 2 ^ k := by
  rw [val_snoc, val_rep, List.length_replicate, Nat.zero_add, show (256 : Nat) = 2 ^ 8 from rfl, ← Nat.pow_mul, ← Nat.pow_add]
  congr 1; omega
theorem shl8N {c : Nat} (hc : c ≤ 8) : IntKind.u8.wrap (((1 : Nat) : Int) * 2 ^ (min ((c : Int)).toNat IntKind.u8.bits)) = ((1 * 2 ^ c % 256 : Nat) : Int) := shl_nat uk8 hc
theorem pow_lt8 {c : Nat} (h : c < 8) : 1 * 2 ^ c % 256 = 2 ^ c := by
  have : 2 ^ c ≤ 2 ^ 7 := Nat.pow_le_pow_right (by decide) (by omega)
  have h7 : (2 : Nat) ^ 7 = 128 := rfl
  omega
theorem pow_dig {c : Nat} (h : c < 8) : 2 ^ c < 256 := by
  have : 2 ^ c ≤ 2 ^ 7 := Nat.pow_le_pow_right (by decide) (by omega)
  have h7 : (2 : Nat) ^ 7 = 128 := rfl
  omega
theorem pow2_raw (k : Nat) (w : World) (hk : k < 65536) :
    Ret 396 [.int .u16 k] w (fun v w' => ∃ l', Up w w' ∧ OB w w' v l' ∧ val 256 l' = 2 ^ k ∧ Tr l') := by
  refine enter (n := 17) Hvaa.func396 rfl rfl (Nat.le_of_ble_eq_true rfl) ?_
  have U := Up.refl w
  refine c_seq (fun K1 hK1 => ?_)
  refine c_region ?_
  refine l_step y_assignC ?_
  refine l_nil ?_
  refine hK1 _ _ ?_
  refine fg1 0 (gS rfl g0) (fun g => ?_)
  refine c_seq (fun K2 hK2 => ?_)
  refine c_region ?_
  refine l_step (y_moveV (et g0 rfl)) ?_
  refine l_step (y_quo (et g0 rfl) rfl (by decide) (quoU (b := 8) uk16 ?_)) ?_
  omega
  refine l_step (y_conv Hvaa.underlying67 Hvaa.underlying3 (et g0 rfl) (wrapIN ?_)) ?_
  omega
  refine l_step (y_add (et g0 rfl) rfl (addIN (y := 1) ?_)) ?_
  omega
  refine l_eff (e_make Hvaa.underlying95 sz_5 zr_5 by_5 (et g0 rfl) (et g0 rfl) (by omega) (by omega)) (fun v3 w3 h3 => ?_)
  obtain ⟨b3, rfl, n3⟩ := h3
  have f3 : w.heap.size ≤ b3 := Nat.le_trans U.size n3.fresh
  replace U := U.tr n3.up
  have k3 := mzB n3.blk
  replace k3 : Blk w3 b3 (bL (List.replicate (k / 8) 0 ++ 0 :: [])).toArray := by rw [List.replicate_succ'] at k3; exact k3
  refine l_step (y_assignV (et g0 rfl)) ?_
  refine l_nil ?_
  refine hK2 _ _ ?_
  refine fg2 0 3 (gS rfl (gS rfl (gS rfl (gS rfl (gS rfl (gS rfl g0)))))) g0 (fun g => ?_)
  refine c_seq (fun K4 hK4 => ?_)
  refine c_region ?_
  refine l_step (y_moveV (et g0 rfl)) ?_
  refine l_step (y_moveV (et (gS rfl (gS rfl g0)) rfl)) ?_
  refine l_step (y_quo (et g0 rfl) rfl (by decide) (quoU (b := 8) uk16 ?_)) ?_
  omega
  refine l_step (y_moveV (et (gS rfl (gS rfl (gS rfl (gS rfl g0)))) rfl)) ?_
  refine l_step (y_rem (et g0 rfl) rfl (by decide) (remN (b := 8))) ?_
  refine l_step (y_shl rfl (et g0 rfl) ?_ (shl8N ?_)) ?_
  omega
  omega
  refine l_step (y_idxSa rfl Hvaa.underlying95 sz_5 (et (gS rfl (gS rfl (gS rfl (gS rfl (gS rfl g0))))) rfl) (et (gS rfl (gS rfl (gS rfl g0))) rfl) ?_) ?_
  omega
  rw [pow_lt8 (show k % 8 < 8 by omega)]
  refine l_effN (e_store sz_5 (et g0 rfl) (cellsV (et (gS rfl g0) rfl) rfl) rfl (by first | exact one_bL _ | exact one_uL _ | (intro v hv; simp at hv; subst hv; rfl)) k3 (by (simp only [List.size_toArray, length_bL, List.length_append, List.length_cons, List.length_nil, List.length_replicate]; omega))) (fun v5 w5 h5 => ?_)
  obtain ⟨rfl, x5⟩ := h5
  replace k3 := x5.blk
  replace U := U.st x5 f3
  replace k3 := Blk.setB k3 (by simp)
  refine l_nil ?_
  refine hK4 _ _ ?_
  refine fg1 3 (gS rfl (gS rfl (gS rfl (gS rfl (gS rfl (gS rfl (gS rfl g0))))))) (fun g => ?_)
  refine c_seq (fun K6 hK6 => ?_)
  refine c_region ?_
  refine l_step (y_moveV (et g0 rfl)) ?_
  refine l_step (y_assignV (et g0 rfl)) ?_
  refine l_nil ?_
  refine hK6 _ _ ?_
  refine fg1 2 g0 (fun g => ?_)
  refine c_ret ?_
  refine ret1 rfl (res_tmp (et g0 rfl)) ?_
  exact ⟨_, U, ⟨(Dig.rep _ _ (by decide)).app (Dig.one (pow_dig (by omega))), .inr ⟨_, by simp, f3, k3.lt, by simp; omega, k3⟩⟩, pow2_val k, by intro d hd; rw [List.getLast?_concat] at hd; cases hd; exact Nat.ne_of_gt (Nat.pow_pos (by decide))⟩
end Go.Proofs.YgvaawGreat
