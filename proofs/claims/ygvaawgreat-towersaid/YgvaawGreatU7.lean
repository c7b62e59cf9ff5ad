import Derived.Test.YgvaawGreatU6
set_option maxRecDepth 100000
set_option linter.unusedSimpArgs false
set_option linter.unusedVariables false
namespace Go.Proofs.YgvaawGreat
open Go
/-! four limbs as a function -/
def uF (f : Nat → Nat) : Array Value := (uL [f 0, f 1, f 2, f 3]).toArray
theorem uF_get (f : Nat → Nat) (i : Nat) (h : i < 4) : (uF f)[i]? = some (.int .u64 (f i : Nat)) := by
  have : i = 0 ∨ i = 1 ∨ i = 2 ∨ i = 3 := by omega
  rcases this with rfl | rfl | rfl | rfl <;> rfl
theorem uF_getE (f : Nat → Nat) (i j : Nat) (h : j < 4) (e : i = j) : (uF f)[i]? = some (.int .u64 (f j : Nat)) := by rw [e]; exact uF_get f j h
theorem wV_getE (n i j : Nat) (h : j < 4) (e : i = j) : (wV n).cells[i]? = some (.int .u64 (limb n j : Nat)) := by rw [e]; exact wL_get n j h
theorem uF_size (f : Nat → Nat) : (uF f).size = 4 := rfl
theorem uF_set (f : Nat → Nat) (i x : Nat) (h : i < 4) : spl (uF f) i [uval x] = uF (fun j => if j = i then x else f j) := by
  have : i = 0 ∨ i = 1 ∨ i = 2 ∨ i = 3 := by omega
  rcases this with rfl | rfl | rfl | rfl <;> rfl
theorem Blk.setF {w : World} {b o i x : Nat} {f : Nat → Nat} (h : Blk w b (spl (uF f) o [uval x])) (ho : o = i) (hi : i < 4) : ∃ f' : Nat → Nat, (∀ j, f' j = if j = i then x else f j) ∧ Blk w b (uF f') := by
  subst ho
  rw [uF_set f _ x hi] at h
  exact ⟨_, fun _ => rfl, h⟩
theorem uF_wV (n : Nat) : uF (limb n) = (wL n).toArray := rfl
theorem uF_eq {f g : Nat → Nat} (h : ∀ j, j < 4 → f j = g j) : uF f = uF g := by
  unfold uF; rw [h 0 (by decide), h 1 (by decide), h 2 (by decide), h 3 (by decide)]
theorem wV_uF {f : Nat → Nat} {n : Nat} (h : ∀ j, j < 4 → f j = limb n j) : Value.agg (uF f) = wV n := by
  rw [uF_eq h]; rfl
/-! shifts, limb by limb -/
theorem limb_div (n i k : Nat) : limb (n / 18446744073709551616 ^ i) k = limb n (i + k) := by
  unfold limb; rw [Nat.div_div_eq_div_mul, ← Nat.pow_add]
theorem limb_up (n i k : Nat) : limb (n * 18446744073709551616 ^ i) (i + k) = limb n k := by
  unfold limb
  rw [Nat.pow_add, ← Nat.div_div_eq_div_mul, Nat.mul_div_cancel _ (Nat.pow_pos (by decide))]
theorem limb_up_low (n i k : Nat) (h : k < i) : limb (n * 18446744073709551616 ^ i) k = 0 := by
  unfold limb
  obtain ⟨d, rfl⟩ : ∃ d, i = k + (d + 1) := ⟨i - k - 1, by omega⟩
  rw [Nat.pow_add, Nat.mul_comm (18446744073709551616 ^ k), ← Nat.mul_assoc, Nat.mul_div_cancel _ (Nat.pow_pos (by decide)), Nat.pow_succ, ← Nat.mul_assoc, Nat.mul_mod_left]
theorem limb_mod (n k : Nat) (h : k < 4) : limb (n % W256) k = limb n k := by
  have hw : W256 = 18446744073709551616 ^ k * 18446744073709551616 ^ (3 - k + 1) := by
    rw [← Nat.pow_add, show k + (3 - k + 1) = 4 by omega]; rfl
  unfold limb
  rw [hw, Nat.mod_mul_right_div_self, Nat.pow_succ, Nat.mul_comm, Nat.mod_mul_right_mod]
theorem limb_down (n r : Nat) (hr : r < 64) (k : Nat) : limb (n / 2 ^ r) k = limb n k / 2 ^ r + limb n (k + 1) * 2 ^ (64 - r) % 18446744073709551616 := by
  unfold limb
  rw [Nat.div_div_eq_div_mul, Nat.mul_comm, ← Nat.div_div_eq_div_mul, Nat.pow_succ, ← Nat.div_div_eq_div_mul]
  generalize n / 18446744073709551616 ^ k = y
  have hp : (18446744073709551616 : Nat) = 2 ^ r * 2 ^ (64 - r) := by rw [← Nat.pow_add, show r + (64 - r) = 64 by omega]
  have hr0 : 0 < 2 ^ r := Nat.two_pow_pos r
  have hr1 : 0 < 2 ^ (64 - r) := Nat.two_pow_pos _
  generalize 2 ^ r = p at *
  generalize 2 ^ (64 - r) = t at *
  have e1 : y = p * t * (y / (p * t)) + y % (p * t) := (Nat.div_add_mod y (p * t)).symm
  rw [hp]
  generalize y / (p * t) = Y at *
  have hlt : y % (p * t) < p * t := Nat.mod_lt _ (Nat.mul_pos hr0 hr1)
  generalize y % (p * t) = l at *
  subst e1
  rw [Nat.mul_assoc, Nat.mul_add_div hr0]
  have h2 : l / p < t := Nat.div_lt_of_lt_mul hlt
  have e3 : (Y % (p * t)) * t % (p * t) = t * (Y % p) := by
    rw [Nat.mul_comm (Y % (p * t)), Nat.mul_comm p t, Nat.mul_mod_mul_left, Nat.mod_mul_left_mod]
  rw [e3]
  have e4 : (t * Y + l / p) % (p * t) = t * (Y % p) + l / p := by
    have e5 : Y = p * (Y / p) + Y % p := (Nat.div_add_mod Y p).symm
    have h6 : Y % p < p := Nat.mod_lt _ hr0
    generalize Y / p = Z at *
    generalize Y % p = m at *
    subst e5
    rw [Nat.mul_add, ← Nat.mul_assoc, Nat.mul_comm t p, Nat.add_assoc, Nat.mul_add_mod]
    apply Nat.mod_eq_of_lt
    have h7 : t * m + t ≤ t * p := by rw [← Nat.mul_succ]; exact Nat.mul_le_mul_left t h6
    rw [Nat.mul_comm p t]; omega
  omega
theorem limb_shl (n r : Nat) (hr : r < 64) (k : Nat) : limb (n * 2 ^ r) k = limb n k * 2 ^ r % 18446744073709551616 + (if 0 < k then limb n (k - 1) / 2 ^ (64 - r) else 0) := by
  have hp : (18446744073709551616 : Nat) = 2 ^ (64 - r) * 2 ^ r := by rw [← Nat.pow_add, show 64 - r + r = 64 by omega]
  by_cases hr0 : r = 0
  · subst hr0
    rw [Nat.pow_zero, Nat.mul_one, Nat.mul_one, Nat.mod_eq_of_lt (limb_lt _ _)]
    split
    · rw [Nat.div_eq_of_lt (limb_lt _ _)]; rfl
    · rfl
  have h1 := limb_down (n * 2 ^ r * 2 ^ (64 - r)) (64 - r) (by omega) k
  rw [Nat.mul_div_cancel _ (Nat.two_pow_pos _)] at h1
  rw [h1, Nat.mul_assoc, ← Nat.pow_add, show r + (64 - r) = 64 by omega, show 64 - (64 - r) = r by omega]
  have h2 := limb_up n 1
  rw [Nat.pow_one] at h2
  rw [Nat.add_comm k 1, h2]
  split
  · rename_i hk
    have h3 := h2 (k - 1)
    rw [show 1 + (k - 1) = k by omega] at h3
    rw [h3]; omega
  · rename_i hk
    have : k = 0 := by omega
    subst this
    have h3 := limb_up_low n 1 0 (by decide)
    rw [Nat.pow_one] at h3
    rw [h3]; simp
def eShl (a b : Nat) : Nat := b * 2 ^ (min a 256) % W256
theorem eShl_limb (s b j : Nat) (hs : s < 256) (hj : j < 4) : limb (eShl s b) j = if s / 64 ≤ j then limb b (j - s / 64) * 2 ^ (s % 64) % 18446744073709551616 + (if s / 64 < j then limb b (j - s / 64 - 1) / 2 ^ (64 - s % 64) else 0) else 0 := by
  unfold eShl
  rw [Nat.min_eq_left (by omega), limb_mod _ _ hj]
  have e : b * 2 ^ s = b * 2 ^ (s % 64) * 18446744073709551616 ^ (s / 64) := by
    rw [show (18446744073709551616 : Nat) = 2 ^ 64 from rfl, ← Nat.pow_mul, Nat.mul_assoc, ← Nat.pow_add, show s % 64 + 64 * (s / 64) = s by omega]
  rw [e]
  split
  · rename_i h
    have h1 := limb_up (b * 2 ^ (s % 64)) (s / 64) (j - s / 64)
    rw [show s / 64 + (j - s / 64) = j by omega] at h1
    rw [h1, limb_shl _ _ (by omega)]
    congr 1
    by_cases h2 : s / 64 < j
    · rw [if_pos h2, if_pos (by omega)]
    · rw [if_neg h2, if_neg (by omega)]
  · rename_i h
    exact limb_up_low _ _ _ (by omega)
theorem eShl_big (a b : Nat) (h : 256 ≤ a) : eShl a b = 0 := by
  unfold eShl; rw [Nat.min_eq_right h]; exact Nat.mul_mod_left _ _
theorem shl_spec (a b : Nat) (w : World) (ha : a < W256) (hb : b < W256) :
    Ret 289 [wV a, wV b] w (fun v w' => v = wV (eShl a b) ∧ Up w w') := by
  refine enter (n := 55) Hvaa.func289 rfl rfl (Nat.le_of_ble_eq_true rfl) ?_
  have U := Up.refl w
  refine c_seq (fun K1 hK1 => ?_)
  refine c_region ?_
  refine l_eff (e_boxV (et g0 rfl)) (fun v2 w2 h2 => ?_)
  obtain ⟨b2, rfl, n2⟩ := h2
  have f2 : w.heap.size ≤ b2 := Nat.le_trans U.size n2.fresh
  replace U := U.tr n2.up
  have k2 := n2.blk
  refine l_eff (e_boxV (et (gS rfl (gS rfl g0)) rfl)) (fun v3 w3 h3 => ?_)
  obtain ⟨b3, rfl, n3⟩ := h3
  have d2_3 : b2 < b3 := Nat.lt_of_lt_of_le k2.lt n3.fresh
  have f3 : w.heap.size ≤ b3 := Nat.le_trans U.size n3.fresh
  replace k2 := k2.up n3.up
  replace U := U.tr n3.up
  have k3 := n3.blk
  refine l_eff (e_alloc zr_65) (fun v4 w4 h4 => ?_)
  obtain ⟨b4, rfl, n4⟩ := h4
  have d2_4 : b2 < b4 := Nat.lt_of_lt_of_le k2.lt n4.fresh
  have d3_4 : b3 < b4 := Nat.lt_of_lt_of_le k3.lt n4.fresh
  have f4 : w.heap.size ≤ b4 := Nat.le_trans U.size n4.fresh
  replace k2 := k2.up n4.up
  replace k3 := k3.up n4.up
  replace U := U.tr n4.up
  have k4 := n4.blk
  refine l_nil ?_
  refine hK1 _ _ ?_
  refine fg3 2 3 4 (gS rfl (gS rfl g0)) (gS rfl g0) g0 (fun g => ?_)
  refine c_seq (fun K5 hK5 => ?_)
  refine c_region ?_
  refine l_step (y_loadB agg_65 sz_65 (et (gS rfl (gS rfl g0)) rfl) (by first | (simp only [Value.cells, hV, aV, bV, wV, wL, List.size_toArray, length_bL, length_uL, length_be, size_spl, List.length_cons, List.length_nil, List.length_replicate, Nat.zero_add, Nat.reduceAdd, Nat.reduceLeDiff, Nat.le_refl]; done) | rfl) (at1B k2)) ?_
  refine l_eff (e_callV cal_378 (aC (et g0 rfl) (aC (v := .int .u64 ((256 : Nat) : Int)) rfl aN)) (below_spec _ _ _ (by assumption))) (fun v6 w6 h6 => ?_)
  obtain ⟨x6, rfl, hx6, u6⟩ := h6
  replace k2 := k2.up u6
  replace k3 := k3.up u6
  replace k4 := k4.up u6
  replace U := U.tr u6
  refine l_step (y_moveV (et g0 rfl)) ?_
  refine l_step (y_ext (et g0 rfl) rfl) ?_
  refine l_step (y_ext (et (gS rfl g0) rfl) rfl) ?_
  refine l_step (y_assignV (et (gS rfl g0) rfl)) ?_
  refine l_step (y_assignV (et (gS rfl g0) rfl)) ?_
  refine l_nil ?_
  refine hK5 _ _ ?_
  refine fg4 3 4 5 6 (gS rfl (gS rfl (gS rfl (gS rfl (gS rfl (gS rfl (gS rfl (gS rfl g0)))))))) (gS rfl (gS rfl (gS rfl (gS rfl (gS rfl (gS rfl (gS rfl g0))))))) (gS rfl g0) g0 (fun g => ?_)
  refine c_seq (fun K7 hK7 => ?_)
  refine c_seq (fun K8 hK8 => ?_)
  refine c_region ?_
  refine l_step (y_moveV (et g0 rfl)) ?_
  refine l_step (y_not (et g0 rfl)) ?_
  refine l_nil ?_
  refine hK8 _ _ ?_
  refine fg4 3 4 5 15 (gS rfl (gS rfl (gS rfl (gS rfl (gS rfl g0))))) (gS rfl (gS rfl (gS rfl (gS rfl g0)))) (gS rfl (gS rfl (gS rfl g0))) g0 (fun g => ?_)
  refine c_cond (et g0 rfl) (fun cB1 => ?_) (fun cB1 => ?_)
  · skip
    
    have hA : ¬ (a < 18446744073709551616 ∧ a < 256) := by simp at cB1; omega
    refine c_seq (fun K10 hK10 => ?_)
    refine c_region ?_
    refine l_step (y_bld bN bld65_z) ?_
    refine l_effN (e_store sz_65 (et (gS rfl (gS rfl (gS rfl g0))) rfl) (cellsV (et g0 rfl) rfl) (by first | (simp only [Value.cells, hV, aV, bV, wV, wL, List.size_toArray, length_bL, length_uL, length_be, size_spl, List.length_cons, List.length_nil, List.length_replicate, Nat.zero_add, Nat.reduceAdd, Nat.reduceLeDiff, Nat.le_refl]; done) | rfl) (by first | exact one_bL _ | exact one_uL _ | (intro v hv; simp at hv; subst hv; rfl)) k4 (by first | (simp only [Value.cells, hV, aV, bV, wV, wL, List.size_toArray, length_bL, length_uL, length_be, size_spl, List.length_cons, List.length_nil, List.length_replicate, Nat.zero_add, Nat.reduceAdd, Nat.reduceLeDiff, Nat.le_refl]; done) | exact Nat.le_of_ble_eq_true rfl | simp | omega)) (fun v11 w11 h11 => ?_)
    obtain ⟨rfl, x11⟩ := h11
    replace k2 := k2.ch x11.ch (by omega)
    replace k3 := k3.ch x11.ch (by omega)
    replace k4 := x11.blk.full (by first | (simp only [Value.cells, hV, aV, bV, wV, wL, List.size_toArray, length_bL, length_uL, length_be, size_spl, List.length_cons, List.length_nil, List.length_replicate, Nat.zero_add, Nat.reduceAdd, Nat.reduceLeDiff, Nat.le_refl]; done) | rfl)
    replace U := U.st x11 f4
    refine l_nil ?_
    refine hK10 _ _ ?_
    refine fg1 4 (gS rfl (gS rfl (gS rfl g0))) (fun g => ?_)
    refine c_ret ?_
    refine ret1 rfl (res_blk agg_65 sz_65 (et g0 rfl) (by first | (simp only [Value.cells, hV, aV, bV, wV, wL, List.size_toArray, length_bL, length_uL, length_be, size_spl, List.length_cons, List.length_nil, List.length_replicate, Nat.zero_add, Nat.reduceAdd, Nat.reduceLeDiff, Nat.le_refl]; done) | rfl) k4) ?_
    refine ⟨?_, U⟩
    rw [eShl_big a b (by omega)]
    rfl
  · skip
    
    have hA : a < 18446744073709551616 ∧ a < 256 := by simpa using cB1
    have hxa := hx6 hA.1
    subst hxa
    refine c_skip ?_
    refine hK7 _ _ ?_
    refine fg3 3 4 5 (gS rfl (gS rfl (gS rfl g0))) (gS rfl (gS rfl g0)) (gS rfl g0) (fun g => ?_)
    refine c_seq (fun K12 hK12 => ?_)
    refine c_region ?_
    refine l_eff (e_alloc zr_65) (fun v13 w13 h13 => ?_)
    obtain ⟨b13, rfl, n13⟩ := h13
    have d2_13 : b2 < b13 := Nat.lt_of_lt_of_le k2.lt n13.fresh
    have d3_13 : b3 < b13 := Nat.lt_of_lt_of_le k3.lt n13.fresh
    have d4_13 : b4 < b13 := Nat.lt_of_lt_of_le k4.lt n13.fresh
    have f13 : w.heap.size ≤ b13 := Nat.le_trans U.size n13.fresh
    replace k2 := k2.up n13.up
    replace k3 := k3.up n13.up
    replace k4 := k4.up n13.up
    replace U := U.tr n13.up
    have k13 := n13.blk
    have k13 : Blk w13 b13 (uF fun _ => 0) := k13
    refine l_nil ?_
    refine hK12 _ _ ?_
    refine c_seq (fun K14 hK14 => ?_)
    refine c_seq (fun K15 hK15 => ?_)
    refine c_region ?_
    refine l_step (y_moveV (et (gS rfl g0) rfl)) ?_
    refine l_step (y_quo (et g0 rfl) rfl (by decide) (quoU (b := 64) uk64 ?_)) ?_
    omega
    refine l_step (y_assignV (et g0 rfl)) ?_
    refine l_nil ?_
    refine hK15 _ _ ?_
    refine fg5 3 4 5 7 8 (gS rfl (gS rfl (gS rfl (gS rfl (gS rfl (gS rfl g0)))))) (gS rfl (gS rfl (gS rfl (gS rfl (gS rfl g0))))) (gS rfl (gS rfl (gS rfl (gS rfl g0)))) (gS rfl (gS rfl (gS rfl g0))) g0 (fun g => ?_)
    refine c_block (fun Q16 hQ16 => ?_)
    refine fg5 3 4 5 7 8 (gS rfl (gS rfl (gS rfl (gS rfl g0)))) (gS rfl (gS rfl (gS rfl g0))) (gS rfl (gS rfl g0)) (gS rfl g0) g0 (fun g => ?_)
    have hf0 : ∀ j, j < 4 → (fun _ : Nat => 0) j = if j < x6 / 64 then limb (eShl x6 b) j else 0 := by
      intro j hj
      split
      · rw [eShl_limb _ _ _ hA.2 hj, if_neg (by omega)]
      · rfl
    refine c_loop (fun k s W17 => ∃ (g : Nat → Value) (i : Nat) (f : Nat → Nat), s = (upd (upd (upd (upd (upd g 3 (.pointer (some ⟨b3, 0, none⟩))) 4 (.pointer (some ⟨b4, 0, none⟩))) 5 (.int .u64 (x6 : Nat))) 7 (.pointer (some ⟨b13, 0, none⟩))) 8 (.int .u64 (i : Nat))) ∧ 4 - i = k ∧ (x6 / 64 ≤ i) ∧ (i ≤ 4) ∧ (∀ j, j < 4 → f j = if j < i then limb (eShl x6 b) j else 0) ∧ Blk W17 b13 (uF f) ∧ Ch (fun k => k = b13) w13 W17) (4 - (x6 / 64)) ?_ ?_
    · exact ⟨g, x6 / 64, fun _ => 0, rfl, rfl, Nat.le_refl _, by omega, hf0, k13, Ch.refl _ _⟩
    · skip
      intro k s W17 hI K17 hK17
      obtain ⟨g, i, f, rfl, rfl, hq, hi4, hf, nk13, V17⟩ := hI
      replace k2 := k2.ch V17 (by omega)
      replace k3 := k3.ch V17 (by omega)
      replace k4 := k4.ch V17 (by omega)
      replace k13 := nk13
      replace U := U.cc V17 (by intro b hb; first | omega | (simp at hb ⊢; omega))
      refine c_seq (fun K18 hK18 => ?_)
      refine c_seq (fun K19 hK19 => ?_)
      refine c_region ?_
      refine l_step (y_moveV (et g0 rfl)) ?_
      refine l_step (y_lss (et g0 rfl) rfl) ?_
      refine l_nil ?_
      refine hK19 _ _ ?_
      refine fg6 3 4 5 7 8 20 (gS rfl (gS rfl (gS rfl (gS rfl (gS rfl (gS rfl g0)))))) (gS rfl (gS rfl (gS rfl (gS rfl (gS rfl g0))))) (gS rfl (gS rfl (gS rfl (gS rfl g0)))) (gS rfl (gS rfl (gS rfl g0))) (gS rfl (gS rfl g0)) g0 (fun g => ?_)
      refine c_cond (et g0 rfl) (fun cB2 => ?_) (fun cB2 => ?_)
      · skip
        simp only [decide_eq_true_eq, decide_eq_false_iff_not, Int.not_lt, Int.not_le, Bool.not_eq_true', Bool.not_eq_false', Bool.not_eq_eq_eq_not, Bool.not_true, Bool.not_false] at cB2
        refine c_skip ?_
        refine hK18 _ _ ?_
        refine fg5 3 4 5 7 8 (gS rfl (gS rfl (gS rfl (gS rfl (gS rfl g0))))) (gS rfl (gS rfl (gS rfl (gS rfl g0)))) (gS rfl (gS rfl (gS rfl g0))) (gS rfl (gS rfl g0)) (gS rfl g0) (fun g => ?_)
        refine c_seq (fun K21 hK21 => ?_)
        refine c_block (fun Q22 hQ22 => ?_)
        refine c_seq (fun K23 hK23 => ?_)
        refine c_region ?_
        refine l_step (y_moveV (et g0 rfl)) ?_
        refine l_step (y_moveV (et (gS rfl g0) rfl)) ?_
        refine l_step (y_moveV (et (gS rfl (gS rfl (gS rfl (gS rfl g0)))) rfl)) ?_
        refine l_step (y_quo (et g0 rfl) rfl (by decide) (quoU (b := 64) uk64 ?_)) ?_
        omega
        refine l_step (y_sub (et (gS rfl (gS rfl g0)) rfl) (et g0 rfl) (wrapU_subN uk64 ?_ ?_)) ?_
        omega
        omega
        refine l_step (y_idxA Hvaa.underlying65 sz_26 (et (gS rfl (gS rfl (gS rfl (gS rfl (gS rfl (gS rfl (gS rfl (gS rfl (gS rfl g0))))))))) rfl) (et g0 rfl) ?_ ?_) ?_
        omega
        omega
        refine l_step (y_load1 one_26 (et g0 rfl) (at1 (k3.cell (wV_getE b _ (i - x6 / 64) (by omega) (by omega))))) ?_
        refine l_step (y_moveV (et (gS rfl (gS rfl (gS rfl (gS rfl (gS rfl (gS rfl (gS rfl (gS rfl (gS rfl g0))))))))) rfl)) ?_
        refine l_step (y_rem (et g0 rfl) rfl (by decide) (remN (b := 64))) ?_
        refine l_step (y_shl (et (gS rfl (gS rfl g0)) rfl) (et g0 rfl) ?_ (shlV ?_)) ?_
        omega
        omega
        refine l_step (y_idxA Hvaa.underlying65 sz_26 (et (gS rfl (gS rfl (gS rfl (gS rfl (gS rfl (gS rfl (gS rfl (gS rfl (gS rfl (gS rfl (gS rfl g0))))))))))) rfl) (et (gS rfl (gS rfl (gS rfl (gS rfl (gS rfl (gS rfl (gS rfl (gS rfl (gS rfl g0))))))))) rfl) ?_ ?_) ?_
        omega
        omega
        refine l_effN (e_store sz_26 (et g0 rfl) (cellsV (et (gS rfl g0) rfl) rfl) rfl (by first | exact one_bL _ | exact one_uL _ | (intro v hv; simp at hv; subst hv; rfl)) k13 (by simp only [uF_size, List.length_singleton]; omega)) (fun v24 w24 h24 => ?_)
        obtain ⟨rfl, x24⟩ := h24
        replace k2 := k2.ch x24.ch (by omega)
        replace k3 := k3.ch x24.ch (by omega)
        replace k4 := k4.ch x24.ch (by omega)
        replace k13 := x24.blk
        replace U := U.st x24 f13
        replace V17 := V17.st x24 (by omega)
        obtain ⟨f2, hf2, k13⟩ := k13.setF (i := i) (by simp) (by omega)
        refine l_nil ?_
        refine hK23 _ _ ?_
        refine fg5 3 4 5 7 8 (gS rfl (gS rfl (gS rfl (gS rfl (gS rfl (gS rfl (gS rfl (gS rfl (gS rfl (gS rfl (gS rfl (gS rfl (gS rfl (gS rfl (gS rfl g0))))))))))))))) (gS rfl (gS rfl (gS rfl (gS rfl (gS rfl (gS rfl (gS rfl (gS rfl (gS rfl (gS rfl (gS rfl (gS rfl (gS rfl (gS rfl g0)))))))))))))) (gS rfl (gS rfl (gS rfl (gS rfl (gS rfl (gS rfl (gS rfl (gS rfl (gS rfl (gS rfl (gS rfl (gS rfl (gS rfl g0))))))))))))) (gS rfl (gS rfl (gS rfl (gS rfl (gS rfl (gS rfl (gS rfl (gS rfl (gS rfl (gS rfl (gS rfl (gS rfl g0)))))))))))) (gS rfl (gS rfl (gS rfl (gS rfl (gS rfl (gS rfl (gS rfl (gS rfl (gS rfl (gS rfl (gS rfl g0))))))))))) (fun g => ?_)
        refine c_seq (fun K25 hK25 => ?_)
        refine c_region ?_
        refine l_step (y_moveV (et g0 rfl)) ?_
        refine l_step (y_moveV (et (gS rfl (gS rfl (gS rfl g0))) rfl)) ?_
        refine l_step (y_quo (et g0 rfl) rfl (by decide) (quoU (b := 64) uk64 ?_)) ?_
        omega
        refine l_step (y_gtr (et (gS rfl (gS rfl g0)) rfl) (et g0 rfl)) ?_
        refine l_nil ?_
        refine hK25 _ _ ?_
        refine fg6 3 4 5 7 8 37 (gS rfl (gS rfl (gS rfl (gS rfl (gS rfl (gS rfl (gS rfl (gS rfl g0)))))))) (gS rfl (gS rfl (gS rfl (gS rfl (gS rfl (gS rfl (gS rfl g0))))))) (gS rfl (gS rfl (gS rfl (gS rfl (gS rfl (gS rfl g0)))))) (gS rfl (gS rfl (gS rfl (gS rfl (gS rfl g0))))) (gS rfl (gS rfl (gS rfl (gS rfl g0)))) g0 (fun g => ?_)
        refine c_cond (et g0 rfl) (fun cB3 => ?_) (fun cB3 => ?_)
        · skip
          simp only [decide_eq_true_eq, decide_eq_false_iff_not, Int.not_lt, Int.not_le, Bool.not_eq_true', Bool.not_eq_false', Bool.not_eq_eq_eq_not, Bool.not_true, Bool.not_false] at cB3
          refine c_draw Up 16 [(0, true), (1, true), (2, true), (3, true), (4, true), (5, true), (6, true), (7, true), (8, true), (9, true), (10, true), (11, true), (12, true), (13, true), (14, true), (15, true), (16, false)] (by kernel_rfl) (fun w27 hu => ⟨Up.refl _, ?_⟩)
          replace k2 := k2.up hu
          replace k3 := k3.up hu
          replace k4 := k4.up hu
          replace k13 := k13.up hu
          replace U := U.tr hu
          replace V17 := V17.tr hu
          have SU := Up.refl w27
          refine p_step (by exact rfl) (y_moveV (et (gS rfl g0) rfl)) ?_
          refine p_step (by exact rfl) (y_idxA Hvaa.underlying65 sz_26 (et (gS rfl (gS rfl (gS rfl g0))) rfl) (et g0 rfl) ?_ ?_) ?_
          omega
          omega
          refine p_step (by exact rfl) (y_load1 one_26 (et g0 rfl) (atS (k13.cell (uF_getE f2 _ i (by omega) (by omega))))) ?_
          refine p_step (by exact rfl) (y_moveV (et (gS rfl (gS rfl (gS rfl (gS rfl g0)))) rfl)) ?_
          refine p_step (by exact rfl) (y_moveV (et (gS rfl (gS rfl (gS rfl (gS rfl (gS rfl (gS rfl (gS rfl g0))))))) rfl)) ?_
          refine p_step (by exact rfl) (y_quo (et g0 rfl) rfl (by decide) (quoU (b := 64) uk64 ?_)) ?_
          omega
          refine p_step (by exact rfl) (y_sub (et (gS rfl (gS rfl g0)) rfl) (et g0 rfl) (wrapU_subN uk64 ?_ ?_)) ?_
          omega
          omega
          refine p_step (by exact rfl) (y_sub (et g0 rfl) rfl (wrapU_subN (b := 1) uk64 ?_ ?_)) ?_
          omega
          omega
          refine p_step (by exact rfl) (y_idxA Hvaa.underlying65 sz_26 (et (gS rfl (gS rfl (gS rfl (gS rfl (gS rfl (gS rfl (gS rfl (gS rfl (gS rfl (gS rfl (gS rfl (gS rfl (gS rfl g0))))))))))))) rfl) (et g0 rfl) ?_ ?_) ?_
          omega
          omega
          refine p_step (by exact rfl) (y_load1 one_26 (et g0 rfl) (atS (k3.cell (wV_getE b _ (i - x6 / 64 - 1) (by omega) (by omega))))) ?_
          refine p_step (by exact rfl) (y_moveV (et (gS rfl (gS rfl (gS rfl (gS rfl (gS rfl (gS rfl (gS rfl (gS rfl (gS rfl (gS rfl (gS rfl (gS rfl (gS rfl g0))))))))))))) rfl)) ?_
          refine p_step (by exact rfl) (y_rem (et g0 rfl) rfl (by decide) (remN (b := 64))) ?_
          refine p_step (by exact rfl) (y_sub rfl (et g0 rfl) (wrapU_subN (a := 64) uk64 ?_ ?_)) ?_
          omega
          omega
          refine p_step (by exact rfl) (y_shr (et (gS rfl (gS rfl (gS rfl g0))) rfl) (et g0 rfl) ?_ (shrV ?_)) ?_
          omega
          omega
          refine p_step (by exact rfl) (y_orT (x6 % 64) uk64 (et (gS rfl (gS rfl (gS rfl (gS rfl (gS rfl (gS rfl (gS rfl (gS rfl (gS rfl (gS rfl (gS rfl g0))))))))))) rfl) (et g0 rfl) ?_ ?_ ?_ ?_) ?_
          exact rot_low (limb_lt _ _) (by omega)
          (rw [hf2, if_pos rfl]; exact rot_hi (by omega))
          (rw [hf2, if_pos rfl]; exact Nat.mod_lt _ (by decide))
          exact Nat.lt_of_le_of_lt (Nat.div_le_self _ _) (limb_lt _ _)
          refine p_step (by exact rfl) (y_idxA Hvaa.underlying65 sz_26 (et (gS rfl (gS rfl (gS rfl (gS rfl (gS rfl (gS rfl (gS rfl (gS rfl (gS rfl (gS rfl (gS rfl (gS rfl (gS rfl (gS rfl (gS rfl (gS rfl (gS rfl g0))))))))))))))))) rfl) (et (gS rfl (gS rfl (gS rfl (gS rfl (gS rfl (gS rfl (gS rfl (gS rfl (gS rfl (gS rfl (gS rfl (gS rfl (gS rfl (gS rfl g0)))))))))))))) rfl) ?_ ?_) ?_
          omega
          omega
          refine p_effN (by exact rfl) (e_store sz_26 (et g0 rfl) (cellsV (et (gS rfl g0) rfl) rfl) rfl (by first | exact one_bL _ | exact one_uL _ | (intro v hv; simp at hv; subst hv; rfl)) k13 (by simp only [uF_size, List.length_singleton]; omega)) (fun v28 w28 h28 => ?_)
          obtain ⟨rfl, x28⟩ := h28
          replace k2 := k2.ch x28.ch (by omega)
          replace k3 := k3.ch x28.ch (by omega)
          replace k4 := k4.ch x28.ch (by omega)
          replace k13 := x28.blk
          replace U := U.st x28 f13
          replace V17 := V17.st x28 (by omega)
          refine ⟨.inl rfl, ?_⟩
          obtain ⟨f3, hf3, k13⟩ := k13.setF (i := i) (by simp) (by omega)
          have hfN : ∀ j, j < 4 → f3 j = if j < i + 1 then limb (eShl x6 b) j else 0 := by
            intro j hj
            rw [hf3]
            by_cases hji : j = i
            · subst hji
              rw [if_pos rfl, if_pos (by omega), hf2, if_pos rfl, eShl_limb _ _ _ hA.2 hj, if_pos hq, if_pos (by omega)]
            · rw [if_neg hji, hf2, if_neg hji, hf j hj]
              by_cases h9 : j < i
              · rw [if_pos h9, if_pos (by omega)]
              · rw [if_neg h9, if_neg (by omega)]
          refine p_nil ?_
          refine hQ22 _ _ _ (in_normal ?_)
          refine hK21 _ _ ?_
          refine fg5 3 4 5 7 8 (gS rfl (gS rfl (gS rfl (gS rfl (gS rfl (gS rfl (gS rfl (gS rfl (gS rfl (gS rfl (gS rfl (gS rfl (gS rfl (gS rfl (gS rfl (gS rfl (gS rfl (gS rfl (gS rfl (gS rfl (gS rfl g0))))))))))))))))))))) (gS rfl (gS rfl (gS rfl (gS rfl (gS rfl (gS rfl (gS rfl (gS rfl (gS rfl (gS rfl (gS rfl (gS rfl (gS rfl (gS rfl (gS rfl (gS rfl (gS rfl (gS rfl (gS rfl (gS rfl g0)))))))))))))))))))) (gS rfl (gS rfl (gS rfl (gS rfl (gS rfl (gS rfl (gS rfl (gS rfl (gS rfl (gS rfl (gS rfl (gS rfl (gS rfl (gS rfl (gS rfl (gS rfl (gS rfl (gS rfl (gS rfl g0))))))))))))))))))) (gS rfl (gS rfl (gS rfl (gS rfl (gS rfl (gS rfl (gS rfl (gS rfl (gS rfl (gS rfl (gS rfl (gS rfl (gS rfl (gS rfl (gS rfl (gS rfl (gS rfl (gS rfl g0)))))))))))))))))) (gS rfl (gS rfl (gS rfl (gS rfl (gS rfl (gS rfl (gS rfl (gS rfl (gS rfl (gS rfl (gS rfl (gS rfl (gS rfl (gS rfl (gS rfl (gS rfl (gS rfl g0))))))))))))))))) (fun g => ?_)
          refine c_region ?_
          refine l_step (y_moveV (et g0 rfl)) ?_
          refine l_step (y_add (et g0 rfl) rfl (wrapU_addN (b := 1) uk64 ?_)) ?_
          omega
          refine l_step (y_assignV (et g0 rfl)) ?_
          refine l_nil ?_
          refine fK5 3 4 5 7 8 (gS rfl (gS rfl (gS rfl (gS rfl (gS rfl (gS rfl (gS rfl g0))))))) (gS rfl (gS rfl (gS rfl (gS rfl (gS rfl (gS rfl g0)))))) (gS rfl (gS rfl (gS rfl (gS rfl (gS rfl g0))))) (gS rfl (gS rfl (gS rfl (gS rfl g0)))) g0 (fun g => ?_)
          exact hK17 (4 - (i + 1)) _ _ (by omega) ⟨g, i + 1, _, rfl, rfl, by omega, by omega, hfN, k13, V17⟩
        · skip
          simp only [decide_eq_true_eq, decide_eq_false_iff_not, Int.not_lt, Int.not_le, Bool.not_eq_true', Bool.not_eq_false', Bool.not_eq_eq_eq_not, Bool.not_true, Bool.not_false] at cB3
          have hfN : ∀ j, j < 4 → f2 j = if j < i + 1 then limb (eShl x6 b) j else 0 := by
            intro j hj
            rw [hf2]
            by_cases hji : j = i
            · subst hji
              rw [if_pos rfl, if_pos (by omega), eShl_limb _ _ _ hA.2 hj, if_pos hq, if_neg (by omega)]; rfl
            · rw [if_neg hji, hf j hj]
              by_cases h9 : j < i
              · rw [if_pos h9, if_pos (by omega)]
              · rw [if_neg h9, if_neg (by omega)]
          refine c_skip ?_
          refine hQ22 _ _ _ (in_normal ?_)
          refine hK21 _ _ ?_
          refine fg5 3 4 5 7 8 (gS rfl (gS rfl (gS rfl (gS rfl (gS rfl g0))))) (gS rfl (gS rfl (gS rfl (gS rfl g0)))) (gS rfl (gS rfl (gS rfl g0))) (gS rfl (gS rfl g0)) (gS rfl g0) (fun g => ?_)
          refine c_region ?_
          refine l_step (y_moveV (et g0 rfl)) ?_
          refine l_step (y_add (et g0 rfl) rfl (wrapU_addN (b := 1) uk64 ?_)) ?_
          omega
          refine l_step (y_assignV (et g0 rfl)) ?_
          refine l_nil ?_
          refine fK5 3 4 5 7 8 (gS rfl (gS rfl (gS rfl (gS rfl (gS rfl (gS rfl (gS rfl g0))))))) (gS rfl (gS rfl (gS rfl (gS rfl (gS rfl (gS rfl g0)))))) (gS rfl (gS rfl (gS rfl (gS rfl (gS rfl g0))))) (gS rfl (gS rfl (gS rfl (gS rfl g0)))) g0 (fun g => ?_)
          exact hK17 (4 - (i + 1)) _ _ (by omega) ⟨g, i + 1, _, rfl, rfl, by omega, by omega, hfN, k13, V17⟩
      · skip
        simp only [decide_eq_true_eq, decide_eq_false_iff_not, Int.not_lt, Int.not_le, Bool.not_eq_true', Bool.not_eq_false', Bool.not_eq_eq_eq_not, Bool.not_true, Bool.not_false] at cB2
        refine c_exit ?_
        refine hQ16 _ _ _ (in_exit ?_)
        refine hK14 _ _ ?_
        refine fg2 4 7 (gS rfl (gS rfl (gS rfl (gS rfl g0)))) (gS rfl (gS rfl g0)) (fun g => ?_)
        refine c_seq (fun K29 hK29 => ?_)
        refine c_region ?_
        refine l_step (y_loadB agg_65 sz_65 (et g0 rfl) rfl (at1B k13)) ?_
        refine l_effN (e_store sz_65 (et (gS rfl (gS rfl g0)) rfl) (cellsV (et g0 rfl) rfl) (by first | (simp only [Value.cells, hV, aV, bV, wV, wL, List.size_toArray, length_bL, length_uL, length_be, size_spl, List.length_cons, List.length_nil, List.length_replicate, Nat.zero_add, Nat.reduceAdd, Nat.reduceLeDiff, Nat.le_refl]; done) | rfl) (by first | exact one_bL _ | exact one_uL _ | (intro v hv; simp at hv; subst hv; rfl)) k4 (by first | (simp only [Value.cells, hV, aV, bV, wV, wL, List.size_toArray, length_bL, length_uL, length_be, size_spl, List.length_cons, List.length_nil, List.length_replicate, Nat.zero_add, Nat.reduceAdd, Nat.reduceLeDiff, Nat.le_refl]; done) | exact Nat.le_of_ble_eq_true rfl | simp | omega)) (fun v30 w30 h30 => ?_)
        obtain ⟨rfl, x30⟩ := h30
        replace k2 := k2.ch x30.ch (by omega)
        replace k3 := k3.ch x30.ch (by omega)
        replace k13 := k13.ch x30.ch (by omega)
        replace k4 := x30.blk.full (by first | (simp only [Value.cells, hV, aV, bV, wV, wL, List.size_toArray, length_bL, length_uL, length_be, size_spl, List.length_cons, List.length_nil, List.length_replicate, Nat.zero_add, Nat.reduceAdd, Nat.reduceLeDiff, Nat.le_refl]; done) | rfl)
        replace U := U.st x30 f4
        refine l_nil ?_
        refine hK29 _ _ ?_
        refine fg1 4 (gS rfl (gS rfl g0)) (fun g => ?_)
        refine c_ret ?_
        refine ret1 rfl (res_blk agg_65 sz_65 (et g0 rfl) (by first | (simp only [Value.cells, hV, aV, bV, wV, wL, List.size_toArray, length_bL, length_uL, length_be, size_spl, List.length_cons, List.length_nil, List.length_replicate, Nat.zero_add, Nat.reduceAdd, Nat.reduceLeDiff, Nat.le_refl]; done) | rfl) k4) ?_
        refine ⟨wV_uF (fun j hj => ?_), U⟩
        rw [hf j hj, if_pos (by omega)]
end Go.Proofs.YgvaawGreat
