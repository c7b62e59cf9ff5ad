import Derived.Test.YgvaawGreatD3
set_option maxRecDepth 100000
set_option linter.unusedSimpArgs false
set_option linter.unusedVariables false
namespace Go.Proofs.YgvaawGreat
open Go
/-! Knuth's two bounds -/
theorem kn_up (q u v W V2 U3 m0 v0 : Nat) (hu : u = m0 + W * U3) (hv : v = v0 + W * V2) (hm : m0 < W) (h : q = 18446744073709551615 ∨ U3 < (q + 1) * V2) (hb : u < v * 18446744073709551616) : u < (q + 1) * v := by
  rcases h with h | h
  · subst h
    have : (18446744073709551615 + 1) * v = v * 18446744073709551616 := by omega
    rw [this]; exact hb
  · have h1 : W * (U3 + 1) ≤ W * ((q + 1) * V2) := Nat.mul_le_mul_left _ h
    have h2 : (q + 1) * v = (q + 1) * v0 + W * ((q + 1) * V2) := by subst hv; grind
    rw [h2]
    rw [Nat.mul_add, Nat.mul_one] at h1
    generalize W * ((q + 1) * V2) = z at *
    generalize (q + 1) * v0 = y at *
    generalize W * U3 = x at *
    omega
theorem kn_lo (q u v W V2 U3 m0 v0 : Nat) (hu : u = m0 + W * U3) (hv : v = v0 + W * V2) (hv0 : v0 < W) (hq : q + 1 < 18446744073709551616) (hV : 18446744073709551616 ≤ V2) (h : (q + 1) * V2 ≤ U3) : q * v ≤ u := by
  have h1 : W * ((q + 1) * V2) ≤ W * U3 := Nat.mul_le_mul_left _ h
  have h2 : q * v0 ≤ q * W := Nat.mul_le_mul_left _ (Nat.le_of_lt hv0)
  have h3 : q * W ≤ V2 * W := Nat.mul_le_mul_right _ (by omega)
  have e1 : q * v = q * v0 + q * (W * V2) := by subst hv; rw [Nat.mul_add]
  have e2 : W * ((q + 1) * V2) = q * (W * V2) + V2 * W := by grind
  omega
theorem kn_case0 (q u v d P : Nat) (h : d + q * v = u + 0 * P) (hup : u < (q + 1) * v) : u / v = q ∧ u % v = d := by
  have hd : d < v := by rw [Nat.add_mul] at hup; omega
  have hu : u = v * q + d := by rw [Nat.mul_comm]; omega
  have h0 : 0 < v := by omega
  subst hu
  exact ⟨by rw [Nat.mul_add_div h0, Nat.div_eq_of_lt hd, Nat.add_zero], by rw [Nat.mul_add_mod, Nat.mod_eq_of_lt hd]⟩
theorem kn_case1 (q u v d d2 k2 P : Nat) (h : d + (q + 1) * v = u + 1 * P) (hd : d < P) (h2 : d2 + k2 * P = d + v) (hd2 : d2 < P) (hlo : q * v ≤ u) (hvP : v ≤ P) : u / v = q ∧ u % v = d2 := by
  have e1 : (q + 1) * v = q * v + v := by rw [Nat.add_mul, Nat.one_mul]
  have h3 : u < (q + 1) * v := by omega
  have hk : k2 = 1 := by
    have e2 : d2 + k2 * P + q * v = u + P := by omega
    rcases Nat.lt_or_ge k2 1 with hk | hk
    · have : k2 = 0 := by omega
      subst this; omega
    · rcases Nat.lt_or_ge 1 k2 with hk2 | hk2
      · have : 2 * P ≤ k2 * P := Nat.mul_le_mul_right _ hk2
        omega
      · omega
  subst hk
  refine kn_case0 q u v d2 P ?_ h3
  omega
theorem val3 (M0 : List Nat) (a b c : Nat) : val 18446744073709551616 (M0 ++ [a, b, c]) = val 18446744073709551616 M0 + 18446744073709551616 ^ M0.length * ((c * 18446744073709551616 + b) * 18446744073709551616 + a) := by
  rw [val_append]; simp only [val_cons, val_nil]; congr 2; omega
theorem val2 (M0 : List Nat) (a b : Nat) : val 18446744073709551616 (M0 ++ [a, b]) = val 18446744073709551616 M0 + 18446744073709551616 ^ M0.length * (b * 18446744073709551616 + a) := by
  rw [val_append]; simp only [val_cons, val_nil]; congr 2; omega
theorem high_le (u v W high mid low top next m0 v0 : Nat) (hu : u = m0 + W * ((high * 18446744073709551616 + mid) * 18446744073709551616 + low)) (hv : v = v0 + W * (top * 18446744073709551616 + next)) (hv0 : v0 < W) (hn : next < 18446744073709551616) (hb : u < v * 18446744073709551616) : high ≤ top := by
  rcases Nat.lt_or_ge top high with h | h
  · exfalso
    have h1 : v + 1 ≤ W * ((top + 1) * 18446744073709551616) := by
      have : W * (top * 18446744073709551616 + next + 1) ≤ W * ((top + 1) * 18446744073709551616) := Nat.mul_le_mul_left _ (by omega)
      rw [Nat.mul_add, Nat.mul_one] at this
      omega
    have h2 : W * ((top + 1) * 18446744073709551616) ≤ W * (high * 18446744073709551616) := Nat.mul_le_mul_left _ (Nat.mul_le_mul_right _ h)
    have h3 : v * 18446744073709551616 ≤ W * (high * 18446744073709551616) * 18446744073709551616 := Nat.mul_le_mul_right _ (by omega)
    have h4 : W * ((high * 18446744073709551616 + mid) * 18446744073709551616 + low) = W * (high * 18446744073709551616) * 18446744073709551616 + W * (mid * 18446744073709551616 + low) := by grind
    omega
  · exact h
theorem round_spec (b o cap bv capv : Nat) (L M0 R V0 RV : List Nat) (low mid high next top : Nat) (w : World) (hbb : b ≠ bv) (ho : o = L.length) (hlen : M0.length = V0.length) (hlv : V0.length < 1000) (hdu : Dig 18446744073709551616 (M0 ++ [low, mid, high])) (hdv : Dig 18446744073709551616 (V0 ++ [next, top])) (htop : 9223372036854775808 ≤ top) (hb : val 18446744073709551616 (M0 ++ [low, mid, high]) < val 18446744073709551616 (V0 ++ [next, top]) * 18446744073709551616) (kB : Blk w b (uL (L ++ ((M0 ++ [low, mid, high]) ++ R))).toArray) (kC : Blk w bv (uL ((V0 ++ [next, top]) ++ RV)).toArray) :
    Ret 419 [.slice (some ⟨b, o, none⟩) (M0 ++ [low, mid, high]).length cap, .slice (some ⟨bv, 0, none⟩) (V0 ++ [next, top]).length capv] w (fun v w' => ∃ (q f : Nat) (t : Bool) (D : List Nat), v = .tuple #[.int .u64 q, .int .u8 f, .bool t] ∧ q = val 18446744073709551616 (M0 ++ [low, mid, high]) / val 18446744073709551616 (V0 ++ [next, top]) ∧ D.length = (M0 ++ [low, mid, high]).length ∧ Dig 18446744073709551616 D ∧ val 18446744073709551616 D = val 18446744073709551616 (M0 ++ [low, mid, high]) % val 18446744073709551616 (V0 ++ [next, top]) ∧ Blk w' b (uL (L ++ (D ++ R))).toArray ∧ Ch (fun k => k = b) w w') := by
  have lB := kB.lt
  have lC := kC.lt
  have hvv := val2 V0 next top
  have huu := val3 M0 low mid high
  have hm0 := val_lt (hdu.left)
  have hv0 := val_lt (hdv.left)
  have dlow : low < 18446744073709551616 := hdu.right.head
  have dmid : mid < 18446744073709551616 := hdu.right.tail.head
  have dhigh : high < 18446744073709551616 := hdu.right.tail.tail.head
  have dnext : next < 18446744073709551616 := hdv.right.head
  have dtop : top < 18446744073709551616 := hdv.right.tail.head
  rw [hlen] at hm0 huu
  have hhl := high_le _ _ _ high mid low top next _ _ huu hvv hv0 dnext hb
  have hlV : (V0 ++ [next, top]).length = V0.length + 2 := by simp
  have hlM : (M0 ++ [low, mid, high]).length = V0.length + 3 := by simp [hlen]
  have hvP : val 18446744073709551616 (V0 ++ [next, top]) ≤ 18446744073709551616 ^ (M0 ++ [low, mid, high]).length := by
    have := val_lt hdv
    rw [hlM]; rw [hlV] at this
    exact Nat.le_of_lt (Nat.lt_of_lt_of_le this (Nat.pow_le_pow_right (by decide) (by omega)))
  generalize hgu : val 18446744073709551616 (M0 ++ [low, mid, high]) = u at *
  generalize hgv : val 18446744073709551616 (V0 ++ [next, top]) = v at *
  generalize val 18446744073709551616 M0 = m0 at *
  generalize val 18446744073709551616 V0 = v0 at *
  refine enter (n := 50) Hvaa.func419 rfl rfl (Nat.le_of_ble_eq_true rfl) ?_
  have U : Ch (fun k => k = b) w w := Ch.refl _ w
  refine c_seq (fun K1 hK1 => ?_)
  refine c_region ?_
  refine l_step y_assignC ?_
  refine l_step y_assignC ?_
  refine l_step y_assignC ?_
  refine l_nil ?_
  refine hK1 _ _ ?_
  refine fg2 1 0 (gS rfl (gS rfl (gS rfl (gS rfl g0)))) (gS rfl (gS rfl (gS rfl g0))) (fun g => ?_)
  refine c_seq (fun K2 hK2 => ?_)
  refine c_region ?_
  refine l_step (y_moveV (et (gS rfl g0) rfl)) ?_
  refine l_step (y_len Hvaa.underlying317 (et g0 rfl)) ?_
  refine l_step (y_assignV (et g0 rfl)) ?_
  refine l_nil ?_
  refine hK2 _ _ ?_
  refine fg3 1 0 7 (gS rfl (gS rfl (gS rfl (gS rfl g0)))) (gS rfl (gS rfl (gS rfl g0))) g0 (fun g => ?_)
  refine c_seq (fun K3 hK3 => ?_)
  refine c_draw Up 30 [(0, true), (1, true), (2, true), (3, true), (4, true), (5, true), (6, true), (7, true), (8, true), (9, true), (10, true), (11, true), (12, true), (13, true), (14, true), (15, true), (16, true), (17, true), (18, true), (19, true), (20, true), (21, true), (22, true), (23, true), (24, false), (25, true), (26, true), (27, true), (28, true), (29, true)] (by kernel_rfl) (fun w4 hu => ⟨Up.refl _, ?_⟩)
  replace kB := kB.up hu
  replace kC := kC.up hu
  replace U := U.tr hu
  have SU := Up.refl w4
  refine p_step (by exact rfl) (y_moveV (et (gS rfl g0) rfl)) ?_
  refine p_step (by exact rfl) (y_moveV (et (gS rfl g0) rfl)) ?_
  refine p_step (by exact rfl) (y_idxS Hvaa.underlying317 sz_26 (et (gS rfl g0) rfl) (et g0 rfl) ?_ ?_) ?_
  exact Int.natCast_nonneg _
  omega
  refine p_step (by exact rfl) (y_load1 one_26 (et g0 rfl) (atS ((show Blk _ b (uL (L ++ M0 ++ [low, mid] ++ high :: R)).toArray from (by simpa using kB)).cell (uL_get (L ++ M0 ++ [low, mid]) high _ _ (by first | (simp [ho, hlen]; done) | (simp [ho, hlen]; omega)))))) ?_
  refine p_step (by exact rfl) (y_moveV (et (gS rfl (gS rfl (gS rfl (gS rfl (gS rfl g0))))) rfl)) ?_
  refine p_step (by exact rfl) (y_moveV (et (gS rfl (gS rfl (gS rfl (gS rfl (gS rfl g0))))) rfl)) ?_
  refine p_step (by exact rfl) (y_sub (et g0 rfl) rfl (subIN (y := 1) ?_ ?_)) ?_
  omega
  omega
  refine p_step (by exact rfl) (y_idxS Hvaa.underlying317 sz_26 (et (gS rfl (gS rfl g0)) rfl) (et g0 rfl) ?_ ?_) ?_
  exact Int.natCast_nonneg _
  omega
  refine p_step (by exact rfl) (y_load1 one_26 (et g0 rfl) (atS ((show Blk _ b (uL (L ++ M0 ++ [low] ++ mid :: (high :: R))).toArray from (by simpa using kB)).cell (uL_get (L ++ M0 ++ [low]) mid _ _ (by first | (simp [ho, hlen]; done) | (simp [ho, hlen]; omega)))))) ?_
  refine p_step (by exact rfl) (y_moveV (et (gS rfl (gS rfl (gS rfl (gS rfl (gS rfl (gS rfl (gS rfl (gS rfl (gS rfl (gS rfl g0)))))))))) rfl)) ?_
  refine p_step (by exact rfl) (y_moveV (et (gS rfl (gS rfl (gS rfl (gS rfl (gS rfl (gS rfl (gS rfl (gS rfl (gS rfl (gS rfl g0)))))))))) rfl)) ?_
  refine p_step (by exact rfl) (y_sub (et g0 rfl) rfl (subIN (y := 2) ?_ ?_)) ?_
  omega
  omega
  refine p_step (by exact rfl) (y_idxS Hvaa.underlying317 sz_26 (et (gS rfl (gS rfl g0)) rfl) (et g0 rfl) ?_ ?_) ?_
  exact Int.natCast_nonneg _
  omega
  refine p_step (by exact rfl) (y_load1 one_26 (et g0 rfl) (atS ((show Blk _ b (uL (L ++ M0 ++ low :: (mid :: high :: R))).toArray from (by simpa using kB)).cell (uL_get (L ++ M0) low _ _ (by first | (simp [ho, hlen]; done) | (simp [ho, hlen]; omega)))))) ?_
  refine p_step (by exact rfl) (y_moveV (et (gS rfl (gS rfl (gS rfl (gS rfl (gS rfl (gS rfl (gS rfl (gS rfl (gS rfl (gS rfl (gS rfl (gS rfl (gS rfl (gS rfl (gS rfl (gS rfl g0)))))))))))))))) rfl)) ?_
  refine p_step (by exact rfl) (y_moveV (et (gS rfl (gS rfl (gS rfl (gS rfl (gS rfl (gS rfl (gS rfl (gS rfl (gS rfl (gS rfl (gS rfl (gS rfl (gS rfl (gS rfl (gS rfl g0))))))))))))))) rfl)) ?_
  refine p_step (by exact rfl) (y_sub (et g0 rfl) rfl (subIN (y := 1) ?_ ?_)) ?_
  omega
  omega
  refine p_step (by exact rfl) (y_idxS Hvaa.underlying317 sz_26 (et (gS rfl (gS rfl g0)) rfl) (et g0 rfl) ?_ ?_) ?_
  exact Int.natCast_nonneg _
  omega
  refine p_step (by exact rfl) (y_load1 one_26 (et g0 rfl) (atS ((show Blk _ bv (uL (V0 ++ [next] ++ top :: RV)).toArray from (by simpa using kC)).cell (uL_get (V0 ++ [next]) top _ _ (by first | (simp; done) | (simp; omega)))))) ?_
  refine p_step (by exact rfl) (y_moveV (et (gS rfl (gS rfl (gS rfl (gS rfl (gS rfl (gS rfl (gS rfl (gS rfl (gS rfl (gS rfl (gS rfl (gS rfl (gS rfl (gS rfl (gS rfl (gS rfl (gS rfl (gS rfl (gS rfl (gS rfl (gS rfl g0))))))))))))))))))))) rfl)) ?_
  refine p_step (by exact rfl) (y_moveV (et (gS rfl (gS rfl (gS rfl (gS rfl (gS rfl (gS rfl (gS rfl (gS rfl (gS rfl (gS rfl (gS rfl (gS rfl (gS rfl (gS rfl (gS rfl (gS rfl (gS rfl (gS rfl (gS rfl (gS rfl g0)))))))))))))))))))) rfl)) ?_
  refine p_step (by exact rfl) (y_sub (et g0 rfl) rfl (subIN (y := 2) ?_ ?_)) ?_
  omega
  omega
  refine p_step (by exact rfl) (y_idxS Hvaa.underlying317 sz_26 (et (gS rfl (gS rfl g0)) rfl) (et g0 rfl) ?_ ?_) ?_
  exact Int.natCast_nonneg _
  omega
  refine p_step (by exact rfl) (y_load1 one_26 (et g0 rfl) (atS ((show Blk _ bv (uL (V0 ++ next :: (top :: RV))).toArray from (by simpa using kC)).cell (uL_get (V0) next _ _ (by first | (simp; done) | (simp; omega)))))) ?_
  refine p_eff (by exact rfl) (e_callV cal_425 (aC (et (gS rfl (gS rfl (gS rfl (gS rfl (gS rfl (gS rfl (gS rfl (gS rfl (gS rfl (gS rfl (gS rfl (gS rfl (gS rfl (gS rfl (gS rfl (gS rfl (gS rfl (gS rfl (gS rfl (gS rfl g0)))))))))))))))))))) rfl) (aC (et (gS rfl (gS rfl (gS rfl (gS rfl (gS rfl (gS rfl (gS rfl (gS rfl (gS rfl (gS rfl (gS rfl (gS rfl (gS rfl (gS rfl (gS rfl g0))))))))))))))) rfl) (aC (et (gS rfl (gS rfl (gS rfl (gS rfl (gS rfl (gS rfl (gS rfl (gS rfl (gS rfl (gS rfl g0)))))))))) rfl) (aC (et (gS rfl (gS rfl (gS rfl (gS rfl (gS rfl g0))))) rfl) (aC (et g0 rfl) aN))))) (trial_spec high mid low top next _ dmid dlow dtop dnext hhl)) (fun v5 w5 h5 => ?_)
  obtain ⟨q, f, rfl, hq, hq1, hq2, u5⟩ := h5
  replace kB := kB.up u5
  replace kC := kC.up u5
  replace U := U.tr u5
  refine ⟨.inr (SU.tr u5), ?_⟩
  replace SU := SU.tr u5
  refine p_step (by exact rfl) (y_moveV (et g0 rfl)) ?_
  refine p_step (by exact rfl) (y_ext (et g0 rfl) rfl) ?_
  refine p_step (by exact rfl) (y_ext (et (gS rfl g0) rfl) rfl) ?_
  refine p_step (by exact rfl) (y_assignV (et (gS rfl g0) rfl)) ?_
  refine p_step (by exact rfl) (y_assignV (et (gS rfl g0) rfl)) ?_
  refine p_nil ?_
  refine hK3 _ _ ?_
  refine fg4 1 0 4 5 (gS rfl (gS rfl (gS rfl (gS rfl (gS rfl (gS rfl (gS rfl (gS rfl (gS rfl (gS rfl (gS rfl (gS rfl (gS rfl (gS rfl (gS rfl (gS rfl (gS rfl (gS rfl (gS rfl (gS rfl (gS rfl (gS rfl (gS rfl (gS rfl (gS rfl (gS rfl (gS rfl (gS rfl (gS rfl (gS rfl (gS rfl (gS rfl g0)))))))))))))))))))))))))))))))) (gS rfl (gS rfl (gS rfl (gS rfl (gS rfl (gS rfl (gS rfl (gS rfl (gS rfl (gS rfl (gS rfl (gS rfl (gS rfl (gS rfl (gS rfl (gS rfl (gS rfl (gS rfl (gS rfl (gS rfl (gS rfl (gS rfl (gS rfl (gS rfl (gS rfl (gS rfl (gS rfl (gS rfl (gS rfl (gS rfl (gS rfl g0))))))))))))))))))))))))))))))) (gS rfl g0) g0 (fun g => ?_)
  refine c_seq (fun K6 hK6 => ?_)
  refine c_seq (fun K7 hK7 => ?_)
  refine c_region ?_
  refine l_step (y_moveV (et (gS rfl (gS rfl g0)) rfl)) ?_
  refine l_step (y_moveV (et (gS rfl (gS rfl (gS rfl (gS rfl g0)))) rfl)) ?_
  refine l_step (y_moveV (et (gS rfl (gS rfl (gS rfl g0))) rfl)) ?_
  refine l_eff (e_callV cal_426 (aC (et (gS rfl (gS rfl g0)) rfl) (aC (et (gS rfl g0) rfl) (aC (et g0 rfl) aN))) (takeTimes_spec b o cap bv capv q L (M0 ++ [low, mid, high]) R (V0 ++ [next, top]) RV _ hbb ho hq (by omega) (by omega) hdu hdv kB kC)) (fun v8 w8 h8 => ?_)
  obtain ⟨k, D, rfl, hk, hDl, hD, hDv, nB, c8⟩ := h8
  replace kC := kC.ch c8 (by omega)
  replace kB := nB
  replace U := U.cc c8 (by intro b hb; first | omega | exact .inl hb | exact .inr (hb ▸ U))
  rw [hgu, hgv] at hDv
  have hDlt := val_lt hD
  rw [hDl] at hDlt
  generalize hgd : val 18446744073709551616 D = d at *
  refine l_nil ?_
  refine hK7 _ _ ?_
  refine fg5 1 0 4 5 41 (gS rfl (gS rfl (gS rfl (gS rfl (gS rfl (gS rfl (gS rfl g0))))))) (gS rfl (gS rfl (gS rfl (gS rfl (gS rfl (gS rfl g0)))))) (gS rfl (gS rfl (gS rfl (gS rfl (gS rfl g0))))) (gS rfl (gS rfl (gS rfl (gS rfl g0)))) g0 (fun g => ?_)
  refine c_cond (et g0 rfl) (fun cB1 => ?_) (fun cB1 => ?_)
  · skip
    
    have hk1 : k = 1 := by have := of_decide_eq_true cB1; omega
    subst hk1
    have hq0 : q ≠ 0 := fun h0 => by subst h0; rw [Nat.zero_mul] at hDv; omega
    obtain ⟨p, rfl⟩ : ∃ p, q = p + 1 := ⟨q - 1, by omega⟩
    have hlo := kn_lo p u v _ _ _ m0 v0 huu hvv hv0 hq (by omega) hq1
    refine c_seq (fun K10 hK10 => ?_)
    refine c_region ?_
    refine l_step (y_moveV (et (gS rfl (gS rfl (gS rfl g0))) rfl)) ?_
    refine l_step (y_moveV (et (gS rfl (gS rfl (gS rfl (gS rfl (gS rfl g0))))) rfl)) ?_
    have hpb := putBack_spec b o cap bv capv L D R (V0 ++ [next, top]) RV w8 hbb ho (by omega) (by omega) hD hdv kB kC
    rw [hDl] at hpb
    refine l_eff (e_callV cal_427 (aC (et (gS rfl g0) rfl) (aC (et g0 rfl) aN)) hpb) (fun v11 w11 h11 => ?_)
    obtain ⟨rfl, k2, D2, hD2l, hD2, hD2v, nB, c11⟩ := h11
    replace kC := kC.ch c11 (by omega)
    replace kB := nB
    replace U := U.cc c11 (by intro b hb; first | omega | exact .inl hb | exact .inr (hb ▸ U))
    rw [hgd, hgv] at hD2v
    have hD2lt := val_lt hD2
    rw [hD2l] at hD2lt
    refine l_nil ?_
    refine hK10 _ _ ?_
    refine fg2 4 5 (gS rfl (gS rfl (gS rfl (gS rfl (gS rfl g0))))) (gS rfl (gS rfl (gS rfl (gS rfl g0)))) (fun g => ?_)
    refine c_seq (fun K12 hK12 => ?_)
    refine c_region ?_
    refine l_step (y_moveV (et (gS rfl g0) rfl)) ?_
    refine l_step (y_sub (et g0 rfl) rfl (subOne ?_)) ?_
    omega
    refine l_step (y_moveV (et (gS rfl (gS rfl g0)) rfl)) ?_
    refine l_step (y_assignV (et (gS rfl g0) rfl)) ?_
    refine l_step (y_assignV (et (gS rfl g0) rfl)) ?_
    refine l_step y_assignC ?_
    refine l_nil ?_
    refine hK12 _ _ ?_
    refine fg3 4 5 6 (gS rfl (gS rfl g0)) (gS rfl g0) g0 (fun g => ?_)
    refine c_ret ?_
    refine ret3 rfl (res_tmp (et (gS rfl (gS rfl g0)) rfl)) (res_tmp (et (gS rfl g0) rfl)) (res_tmp (et g0 rfl)) ?_
    obtain ⟨e1, e2⟩ := kn_case1 p u v d _ k2 _ hDv hDlt hD2v hD2lt hlo hvP
    exact ⟨p, f, true, D2, rfl, e1.symm, hD2l, hD2, e2.symm, kB, U⟩
  · skip
    
    have hk0 : k = 0 := by have := of_decide_eq_false cB1; omega
    subst hk0
    refine c_skip ?_
    refine hK6 _ _ ?_
    refine fg2 4 5 (gS rfl (gS rfl g0)) (gS rfl g0) (fun g => ?_)
    refine c_seq (fun K13 hK13 => ?_)
    refine c_region ?_
    refine l_step (y_moveV (et (gS rfl g0) rfl)) ?_
    refine l_step (y_moveV (et (gS rfl g0) rfl)) ?_
    refine l_step (y_assignV (et (gS rfl g0) rfl)) ?_
    refine l_step (y_assignV (et (gS rfl g0) rfl)) ?_
    refine l_step y_assignC ?_
    refine l_nil ?_
    refine hK13 _ _ ?_
    refine fg3 4 5 6 (gS rfl (gS rfl g0)) (gS rfl g0) g0 (fun g => ?_)
    refine c_ret ?_
    refine ret3 rfl (res_tmp (et (gS rfl (gS rfl g0)) rfl)) (res_tmp (et (gS rfl g0) rfl)) (res_tmp (et g0 rfl)) ?_
    obtain ⟨e1, e2⟩ := kn_case0 q u v d _ hDv (kn_up q u v _ _ _ m0 v0 huu hvv hm0 hq2 hb)
    exact ⟨q, f, false, D, rfl, e1.symm, hDl, hD, by rw [hgd]; exact e2.symm, kB, U⟩
end Go.Proofs.YgvaawGreat
