import Derived.Test.YgvaawGreatU10
set_option maxRecDepth 100000
set_option linter.unusedSimpArgs false
set_option linter.unusedVariables false
namespace Go.Proofs.YgvaawGreat
open Go
/-! bits.Div64 -/
theorem half_lt (A Y u q : Nat) (h1 : A < Y) (hu : u < 4294967296) (hq : 4294967296 ≤ q) : A * 4294967296 + u < q * Y := by
  have : 4294967296 * Y ≤ q * Y := Nat.mul_le_mul_right _ hq
  omega
theorem half_eq (q Y a b A r : Nat) (hY : Y = a * 4294967296 + b) (h : q * a + r = A) : q * Y + r * 4294967296 = A * 4294967296 + q * b := by
  subst hY; subst h; grind
theorem half_brk (q a b r A Y : Nat) (hY : Y = a * 4294967296 + b) (hb : b < 4294967296) (h : q * a + r = A) (hA : A < Y) (hr : 4294967296 ≤ r) : q < 4294967296 := by
  rcases Nat.lt_or_ge q 4294967296 with h1 | h1
  · exact h1
  · have : 4294967296 * a ≤ q * a := Nat.mul_le_mul_right _ h1
    omega
theorem half_le (q a b r A Y u : Nat) (hY : Y = a * 4294967296 + b) (hb : b < 4294967296) (h : q * a + r = A) (hq : q < 4294967296) (hr : 4294967296 ≤ r) : q * Y ≤ A * 4294967296 + u := by
  have h1 := half_eq q Y a b A r hY h
  have h2 : q * b ≤ 4294967295 * 4294967295 := Nat.mul_le_mul (by omega) (by omega)
  omega
theorem half_fst (A a b Y : Nat) (ha : 0 < a) (hY : Y = a * 4294967296 + b) (hb : b < 4294967296) (u : Nat) (hu : u < 4294967296) : A * 4294967296 + u < (A / a + 1) * Y := by
  have h1 : A < (A / a + 1) * a := by
    have := Nat.div_add_mod A a
    have := Nat.mod_lt A ha
    rw [Nat.add_mul, Nat.one_mul, Nat.mul_comm]; omega
  subst hY
  have h2 : (A / a + 1) * (a * 4294967296 + b) = ((A / a + 1) * a) * 4294967296 + (A / a + 1) * b := by rw [Nat.mul_add, Nat.mul_assoc]
  rw [h2]
  generalize (A / a + 1) * a = z at *
  omega
theorem subM {a b R : Nat} (h : a = b + R) (hR : R < 18446744073709551616) : IntKind.u64.wrap (((a % 18446744073709551616 : Nat) : Int) - ((b % 18446744073709551616 : Nat) : Int)) = ((R : Nat) : Int) := by
  subst h
  rw [wrapU_sub uk64 (Nat.le_of_lt (Nat.mod_lt _ (by decide)))]
  congr 1; omega
theorem addM {a b c : Nat} (h : c = a + b) : IntKind.u64.wrap (((a % 18446744073709551616 : Nat) : Int) + (b : Int)) = ((c % 18446744073709551616 : Nat) : Int) := by
  subst h
  rw [wrapU_add uk64]
  congr 1; omega
theorem div_fin (n y q r s : Nat) (hy : 0 < y) (h : n * 2 ^ s = q * (y * 2 ^ s) + r) (hr : r < y * 2 ^ s) : n / y = q ∧ n % y = r / 2 ^ s := by
  have h0 : 0 < 2 ^ s := Nat.two_pow_pos s
  have h1 : r % 2 ^ s = 0 := by
    have e : (n * 2 ^ s) % 2 ^ s = (q * (y * 2 ^ s) + r) % 2 ^ s := by rw [h]
    rw [Nat.mul_mod_left, ← Nat.mul_assoc, Nat.mul_comm (q * y), Nat.mul_add_mod] at e
    exact e.symm
  obtain ⟨t, rfl⟩ : ∃ t, r = t * 2 ^ s := ⟨r / 2 ^ s, by rw [Nat.div_mul_cancel (Nat.dvd_of_mod_eq_zero h1)]⟩
  have ht : t < y := Nat.lt_of_mul_lt_mul_right hr
  have hn : n = q * y + t := by
    rw [← Nat.mul_assoc, ← Nat.add_mul] at h
    exact Nat.eq_of_mul_eq_mul_right h0 h
  subst hn
  rw [Nat.mul_div_cancel _ h0]
  constructor
  · rw [Nat.mul_comm, Nat.mul_add_div hy, Nat.div_eq_of_lt ht, Nat.add_zero]
  · rw [Nat.mul_comm, Nat.mul_add_mod, Nat.mod_eq_of_lt ht]
def Kept (p : Prop) : Prop := p
theorem mulH {p : Nat} (h : p < 4294967296) : p * 4294967296 < 18446744073709551616 := by omega
theorem mulAH {p q : Nat} (h : p < 4294967296) (hq : q < 4294967296) : p * 4294967296 + q < 18446744073709551616 := by omega
theorem half_gt {q Y r R b u : Nat} (heq : q * Y + r * 4294967296 = R * 4294967296 + q * b) (h : decide (((q * b : Nat) : Int) > ((4294967296 * r + u : Nat) : Int)) = true) : R * 4294967296 + u < q * Y := by
  have := of_decide_eq_true h
  generalize q * Y = z at *
  generalize q * b = y at *
  omega
theorem half_ngt {q Y r R b u : Nat} (heq : q * Y + r * 4294967296 = R * 4294967296 + q * b) (h : decide (((q * b : Nat) : Int) > ((4294967296 * r + u : Nat) : Int)) = false) : q * Y ≤ R * 4294967296 + u := by
  have := of_decide_eq_false h
  generalize q * Y = z at *
  generalize q * b = y at *
  omega
theorem split32 (A u10 u1 u0 : Nat) (hu1 : u10 / 4294967296 = u1) (hu0 : u10 % 4294967296 = u0) : A * 18446744073709551616 + u10 = (A * 4294967296 + u1) * 4294967296 + u0 := by omega
theorem div_fin2 (hi lo y sh A u10 u1 u0 p R p0 R2 Y : Nat) (hy0 : 0 < y) (hN : (hi * 18446744073709551616 + lo) * 2 ^ sh = A * 18446744073709551616 + u10) (hY : y * 2 ^ sh = Y) (hu1 : u10 / 4294967296 = u1) (hu0 : u10 % 4294967296 = u0) (hR : A * 4294967296 + u1 = p * Y + R) (hR2 : R * 4294967296 + u0 = p0 * Y + R2) (hl : R2 < Y) : (hi * 18446744073709551616 + lo) / y = p * 4294967296 + p0 ∧ (hi * 18446744073709551616 + lo) % y = R2 / 2 ^ sh := by
  have e1 := split32 A u10 u1 u0 hu1 hu0
  have hfin : (hi * 18446744073709551616 + lo) * 2 ^ sh = (p * 4294967296 + p0) * (y * 2 ^ sh) + R2 := by
    rw [hN, hY, e1, hR, Nat.add_mul (p * Y) R, Nat.add_assoc, hR2]
    grind
  exact div_fin _ y _ R2 sh hy0 hfin (by rw [hY]; exact hl)
theorem castE {x y : Nat} (h : x = y) : ((x : Nat) : Int) = (y : Nat) := by rw [h]
theorem valE {k : IntKind} {x y : Nat} (h : x = y) : Value.int k ((x : Nat) : Int) = Value.int k (y : Nat) := by rw [h]
theorem Yv.to {S : World → Prop} {n : Nat} {s : Nat → Value} {o : Oper} {v v' : Value} (h : Yv S n s o v) (e : v = v') : Yv S n s o v' := e ▸ h
theorem cvS {y s : Nat} (hs : s + bitLen y = 64) : IntKind.u64.wrap ((64 : Int) - (bitLen y : Nat)) = ((s : Nat) : Int) := by
  rw [show (64 : Int) - (bitLen y : Nat) = (s : Int) by omega]; exact wrapU_id uk64 (by omega)
theorem subOne {p : Nat} (h : p + 1 < 18446744073709551616) : IntKind.u64.wrap (((p + 1 : Nat) : Int) - 1) = ((p : Nat) : Int) := by
  rw [show ((p + 1 : Nat) : Int) - 1 = (p : Int) by omega]; exact wrapU_id uk64 (by omega)
set_option maxHeartbeats 2000000 in
theorem bdiv64_spec (hi lo y : Nat) (w : World) (hlo : lo < 18446744073709551616) (hy : y < 18446744073709551616) (hhy : hi < y) :
    Ret 407 [.int .u64 hi, .int .u64 lo, .int .u64 y] w (fun v w' => v = .tuple #[.int .u64 (((hi * 18446744073709551616 + lo) / y : Nat) : Int), .int .u64 (((hi * 18446744073709551616 + lo) % y : Nat) : Int)] ∧ Up w w') := by
  have hy0 : 0 < y := by omega
  have hbs := bitLen_spec y
  have hble := bl_le y 64 hy
  have hbl0 := bl_pos y (by omega)
  obtain ⟨sh, hs⟩ : ∃ sh, sh + bitLen y = 64 := ⟨64 - bitLen y, by omega⟩
  have h0 : 0 < 2 ^ sh := Nat.two_pow_pos sh
  have hBs : (18446744073709551616 : Nat) = 2 ^ bitLen y * 2 ^ sh := by rw [← Nat.pow_add, Nat.add_comm, hs]
  have hBs2 : (9223372036854775808 : Nat) = 2 ^ (bitLen y - 1) * 2 ^ sh := by rw [← Nat.pow_add, show bitLen y - 1 + sh = 63 by omega]
  obtain ⟨Y, hY⟩ : ∃ Y, y * 2 ^ sh = Y := ⟨_, rfl⟩
  have hYlt : Y < 18446744073709551616 := by rw [hBs, ← hY]; exact Nat.mul_lt_mul_of_pos_right hbs.1 h0
  have hYge : 9223372036854775808 ≤ Y := by rw [hBs2, ← hY]; exact Nat.mul_le_mul_right _ (hbs.2 (by omega))
  obtain ⟨a, ha⟩ : ∃ a, Y / 4294967296 = a := ⟨_, rfl⟩
  obtain ⟨b, hb⟩ : ∃ b, Y % 4294967296 = b := ⟨_, rfl⟩
  have hYab : Y = a * 4294967296 + b := by omega
  have hb2 : b < 4294967296 := by omega
  have ha1 : 2147483648 ≤ a := by omega
  have ha2 : a < 4294967296 := by omega
  obtain ⟨u10, hu10⟩ : ∃ u, lo * 2 ^ sh % 18446744073709551616 = u := ⟨_, rfl⟩
  obtain ⟨u1, hu1⟩ : ∃ u, u10 / 4294967296 = u := ⟨_, rfl⟩
  obtain ⟨u0, hu0⟩ : ∃ u, u10 % 4294967296 = u := ⟨_, rfl⟩
  have hu1l : u1 < 4294967296 := by omega
  have hu0l : u0 < 4294967296 := by omega
  obtain ⟨A, hA⟩ : ∃ A, hi * 2 ^ sh + lo / 2 ^ (64 - sh) = A := ⟨_, rfl⟩
  have hlow : lo / 2 ^ (64 - sh) < 2 ^ sh := by
    rw [Nat.div_lt_iff_lt_mul (Nat.two_pow_pos _), ← Nat.pow_add, show sh + (64 - sh) = 64 by omega]; exact hlo
  have hhs : hi * 2 ^ sh + 2 ^ sh ≤ Y := by rw [← hY, ← Nat.succ_mul]; exact Nat.mul_le_mul_right _ hhy
  have hAY : A < Y := by omega
  have hN : (hi * 18446744073709551616 + lo) * 2 ^ sh = A * 18446744073709551616 + u10 := by
    have e1 : lo * 2 ^ sh = (lo / 2 ^ (64 - sh)) * 18446744073709551616 + u10 := by
      have e2 : lo * 2 ^ sh / 18446744073709551616 = lo / 2 ^ (64 - sh) := by
        rw [show (18446744073709551616 : Nat) = 2 ^ (64 - sh) * 2 ^ sh by rw [← Nat.pow_add, show 64 - sh + sh = 64 by omega], Nat.mul_div_mul_right _ _ h0]
      rw [← e2, ← hu10]
      have := Nat.div_add_mod (lo * 2 ^ sh) 18446744073709551616
      omega
    rw [← hA, Nat.add_mul, e1]
    generalize lo / 2 ^ (64 - sh) = z
    grind
  have hshl : hi * 2 ^ sh % 18446744073709551616 = hi * 2 ^ sh := Nat.mod_eq_of_lt (by omega)
  have hshY : y * 2 ^ sh % 18446744073709551616 = Y := by rw [hY]; exact Nat.mod_eq_of_lt hYlt
  refine enter (n := 135) Hvaa.func407 rfl rfl (Nat.le_of_ble_eq_true rfl) ?_
  have U := Up.refl w
  refine c_seq (fun K1 hK1 => ?_)
  refine c_region ?_
  refine l_step y_assignC ?_
  refine l_step y_assignC ?_
  refine l_nil ?_
  refine hK1 _ _ ?_
  refine fg3 2 1 0 (gS rfl (gS rfl (gS rfl (gS rfl g0)))) (gS rfl (gS rfl (gS rfl g0))) (gS rfl (gS rfl g0)) (fun g => ?_)
  refine c_seq (fun K2 hK2 => ?_)
  refine c_seq (fun K3 hK3 => ?_)
  refine c_region ?_
  refine l_step (y_moveV (et (gS rfl (gS rfl g0)) rfl)) ?_
  refine l_step (y_eql (et g0 rfl) rfl) ?_
  refine l_nil ?_
  refine hK3 _ _ ?_
  refine fg4 2 1 0 20 (gS rfl (gS rfl (gS rfl (gS rfl g0)))) (gS rfl (gS rfl (gS rfl g0))) (gS rfl (gS rfl g0)) g0 (fun g => ?_)
  refine c_false (et g0 rfl) (by exact decide_eq_false (by omega)) ?_
  refine c_skip ?_
  refine hK2 _ _ ?_
  refine fg3 2 1 0 (gS rfl (gS rfl (gS rfl g0))) (gS rfl (gS rfl g0)) (gS rfl g0) (fun g => ?_)
  refine c_seq (fun K5 hK5 => ?_)
  refine c_seq (fun K6 hK6 => ?_)
  refine c_region ?_
  refine l_step (y_moveV (et (gS rfl (gS rfl g0)) rfl)) ?_
  refine l_step (y_moveV (et (gS rfl g0) rfl)) ?_
  refine l_step (y_leq (et (gS rfl g0) rfl) (et g0 rfl)) ?_
  refine l_nil ?_
  refine hK6 _ _ ?_
  refine fg4 2 1 0 24 (gS rfl (gS rfl (gS rfl (gS rfl (gS rfl g0))))) (gS rfl (gS rfl (gS rfl (gS rfl g0)))) (gS rfl (gS rfl (gS rfl g0))) g0 (fun g => ?_)
  refine c_false (et g0 rfl) (by exact decide_eq_false (by omega)) ?_
  refine c_skip ?_
  refine hK5 _ _ ?_
  refine fg3 2 1 0 (gS rfl (gS rfl (gS rfl g0))) (gS rfl (gS rfl g0)) (gS rfl g0) (fun g => ?_)
  refine c_seq (fun K8 hK8 => ?_)
  refine c_seq (fun K9 hK9 => ?_)
  refine c_region ?_
  refine l_step (y_moveV (et g0 rfl)) ?_
  refine l_step (y_eql (et g0 rfl) rfl) ?_
  refine l_nil ?_
  refine hK9 _ _ ?_
  refine fg4 2 1 0 27 (gS rfl (gS rfl (gS rfl (gS rfl g0)))) (gS rfl (gS rfl (gS rfl g0))) (gS rfl (gS rfl g0)) g0 (fun g => ?_)
  refine c_cond (et g0 rfl) (fun cB3 => ?_) (fun cB3 => ?_)
  · skip
    
    have hz : hi = 0 := by have := of_decide_eq_true cB3; omega
    subst hz
    refine c_seq (fun K11 hK11 => ?_)
    refine c_draw Up 8 [(0, true), (1, true), (2, true), (3, true), (4, true), (5, true), (6, true), (7, true)] (by kernel_rfl) (fun w12 hu => ⟨Up.refl _, ?_⟩)
    replace U := U.tr hu
    have SU := Up.refl w12
    refine p_step (by exact rfl) (y_moveV (et (gS rfl (gS rfl g0)) rfl)) ?_
    refine p_step (by exact rfl) (y_moveV (et (gS rfl (gS rfl (gS rfl (gS rfl g0)))) rfl)) ?_
    refine p_step (by exact rfl) (y_quo (et (gS rfl g0) rfl) (et g0 rfl) (by omega) (quoU uk64 ?_)) ?_
    omega
    refine p_step (by exact rfl) (y_moveV (et (gS rfl (gS rfl (gS rfl (gS rfl (gS rfl g0))))) rfl)) ?_
    refine p_step (by exact rfl) (y_moveV (et (gS rfl (gS rfl (gS rfl (gS rfl (gS rfl (gS rfl (gS rfl g0))))))) rfl)) ?_
    refine p_step (by exact rfl) (y_rem (et (gS rfl g0) rfl) (et g0 rfl) (by omega) remN) ?_
    refine p_step (by exact rfl) (y_assignV (et (gS rfl (gS rfl (gS rfl g0))) rfl)) ?_
    refine p_step (by exact rfl) (y_assignV (et (gS rfl g0) rfl)) ?_
    refine p_nil ?_
    refine hK11 _ _ ?_
    refine fg2 6 7 (gS rfl g0) g0 (fun g => ?_)
    refine c_ret ?_
    refine ret2 rfl (res_tmp (et (gS rfl g0) rfl)) (res_tmp (et g0 rfl)) ?_
    refine ⟨?_, U⟩
    rw [Nat.zero_mul, Nat.zero_add]
  · skip
    
    have hz : hi ≠ 0 := by have := of_decide_eq_false cB3; omega
    refine c_skip ?_
    refine hK8 _ _ ?_
    refine fg3 2 1 0 (gS rfl (gS rfl (gS rfl g0))) (gS rfl (gS rfl g0)) (gS rfl g0) (fun g => ?_)
    refine c_seq (fun K13 hK13 => ?_)
    refine c_region ?_
    refine l_step (y_moveV (et (gS rfl (gS rfl g0)) rfl)) ?_
    refine l_eff (e_callV cal_417 (aC (et g0 rfl) aN) (blz64_spec _ _ hy)) (fun v14 w14 h14 => ?_)
    obtain ⟨rfl, u14⟩ := h14
    replace U := U.tr u14
    refine l_step (y_conv Hvaa.underlying3 Hvaa.underlying192 (et g0 rfl) (cvS hs)) ?_
    refine l_step (y_assignV (et g0 rfl)) ?_
    refine l_nil ?_
    refine hK13 _ _ ?_
    refine fg4 2 1 0 8 (gS rfl (gS rfl (gS rfl (gS rfl (gS rfl (gS rfl g0)))))) (gS rfl (gS rfl (gS rfl (gS rfl (gS rfl g0))))) (gS rfl (gS rfl (gS rfl (gS rfl g0)))) g0 (fun g => ?_)
    refine c_seq (fun K15 hK15 => ?_)
    refine c_region ?_
    refine l_step (y_moveV (et (gS rfl (gS rfl (gS rfl g0))) rfl)) ?_
    refine l_step (y_moveV (et (gS rfl g0) rfl)) ?_
    refine l_step (y_shl (et (gS rfl g0) rfl) (et g0 rfl) ?_ ((shlV ?_).trans (castE hshY))) ?_
    omega
    omega
    refine l_step (y_assignV (et g0 rfl)) ?_
    refine l_nil ?_
    refine hK15 _ _ ?_
    refine fg4 2 1 0 8 g0 (gS rfl (gS rfl (gS rfl (gS rfl (gS rfl (gS rfl g0)))))) (gS rfl (gS rfl (gS rfl (gS rfl (gS rfl g0))))) (gS rfl (gS rfl (gS rfl (gS rfl g0)))) (fun g => ?_)
    refine c_seq (fun K16 hK16 => ?_)
    refine c_region ?_
    refine l_step (y_moveV (et (gS rfl (gS rfl (gS rfl g0))) rfl)) ?_
    refine l_step (y_shr (et g0 rfl) rfl (by decide) ((shr64C 32 4294967296 (by decide) rfl).trans (castE ha))) ?_
    refine l_step (y_assignV (et g0 rfl)) ?_
    refine l_nil ?_
    refine hK16 _ _ ?_
    refine fg5 2 1 0 8 9 (gS rfl (gS rfl (gS rfl (gS rfl (gS rfl (gS rfl g0)))))) (gS rfl (gS rfl (gS rfl (gS rfl (gS rfl g0))))) (gS rfl (gS rfl (gS rfl (gS rfl g0)))) (gS rfl (gS rfl (gS rfl g0))) g0 (fun g => ?_)
    refine c_seq (fun K17 hK17 => ?_)
    refine c_region ?_
    refine l_step (y_moveV (et (gS rfl (gS rfl (gS rfl (gS rfl g0)))) rfl)) ?_
    refine l_step ((y_andM 32 4294967296 uk64 (et g0 rfl) rfl ?_ rfl rfl (by decide)).to (valE hb)) ?_
    omega
    refine l_step (y_assignV (et g0 rfl)) ?_
    refine l_nil ?_
    refine hK17 _ _ ?_
    refine fg6 2 1 0 8 9 10 (gS rfl (gS rfl (gS rfl (gS rfl (gS rfl (gS rfl (gS rfl g0))))))) (gS rfl (gS rfl (gS rfl (gS rfl (gS rfl (gS rfl g0)))))) (gS rfl (gS rfl (gS rfl (gS rfl (gS rfl g0))))) (gS rfl (gS rfl (gS rfl (gS rfl g0)))) (gS rfl (gS rfl (gS rfl g0))) g0 (fun g => ?_)
    refine c_seq (fun K18 hK18 => ?_)
    refine c_region ?_
    refine l_step (y_moveV (et (gS rfl (gS rfl (gS rfl g0))) rfl)) ?_
    refine l_step (y_moveV (et (gS rfl (gS rfl (gS rfl g0))) rfl)) ?_
    refine l_step (y_shl (et (gS rfl g0) rfl) (et g0 rfl) ?_ ((shlV ?_).trans (castE hshl))) ?_
    omega
    omega
    refine l_step (y_moveV (et (gS rfl (gS rfl (gS rfl (gS rfl (gS rfl (gS rfl (gS rfl g0))))))) rfl)) ?_
    refine l_step (y_moveV (et (gS rfl (gS rfl (gS rfl (gS rfl (gS rfl (gS rfl g0)))))) rfl)) ?_
    refine l_step (y_sub rfl (et g0 rfl) (wrapU_subN (a := 64) uk64 ?_ ?_)) ?_
    omega
    omega
    refine l_step (y_shr (et (gS rfl (gS rfl g0)) rfl) (et g0 rfl) ?_ (shrV ?_)) ?_
    omega
    omega
    refine l_step ((y_orT sh uk64 (et (gS rfl (gS rfl (gS rfl (gS rfl g0)))) rfl) (et g0 rfl) ?_ ?_ ?_ ?_).to (valE hA)) ?_
    exact hlow
    exact Nat.mul_mod_left _ _
    omega
    exact Nat.lt_of_le_of_lt (Nat.div_le_self _ _) hlo
    refine l_step (y_assignV (et g0 rfl)) ?_
    refine l_nil ?_
    refine hK18 _ _ ?_
    refine fg6 2 1 8 9 10 11 (gS rfl (gS rfl (gS rfl (gS rfl (gS rfl (gS rfl (gS rfl (gS rfl (gS rfl (gS rfl (gS rfl (gS rfl (gS rfl (gS rfl g0)))))))))))))) (gS rfl (gS rfl (gS rfl (gS rfl (gS rfl (gS rfl (gS rfl (gS rfl (gS rfl (gS rfl (gS rfl (gS rfl (gS rfl g0))))))))))))) (gS rfl (gS rfl (gS rfl (gS rfl (gS rfl (gS rfl (gS rfl (gS rfl (gS rfl (gS rfl (gS rfl g0))))))))))) (gS rfl (gS rfl (gS rfl (gS rfl (gS rfl (gS rfl (gS rfl (gS rfl (gS rfl (gS rfl g0)))))))))) (gS rfl (gS rfl (gS rfl (gS rfl (gS rfl (gS rfl (gS rfl (gS rfl (gS rfl g0))))))))) g0 (fun g => ?_)
    refine c_seq (fun K19 hK19 => ?_)
    refine c_region ?_
    refine l_step (y_moveV (et (gS rfl (gS rfl (gS rfl (gS rfl g0)))) rfl)) ?_
    refine l_step (y_moveV (et (gS rfl (gS rfl (gS rfl (gS rfl g0)))) rfl)) ?_
    refine l_step (y_shl (et (gS rfl g0) rfl) (et g0 rfl) ?_ ((shlV ?_).trans (castE hu10))) ?_
    omega
    omega
    refine l_step (y_assignV (et g0 rfl)) ?_
    refine l_nil ?_
    refine hK19 _ _ ?_
    refine fg6 2 8 9 10 11 12 (gS rfl (gS rfl (gS rfl (gS rfl (gS rfl (gS rfl (gS rfl (gS rfl (gS rfl g0))))))))) (gS rfl (gS rfl (gS rfl (gS rfl (gS rfl (gS rfl (gS rfl g0))))))) (gS rfl (gS rfl (gS rfl (gS rfl (gS rfl (gS rfl g0)))))) (gS rfl (gS rfl (gS rfl (gS rfl (gS rfl g0))))) (gS rfl (gS rfl (gS rfl (gS rfl g0)))) g0 (fun g => ?_)
    refine c_seq (fun K20 hK20 => ?_)
    refine c_region ?_
    refine l_step (y_moveV (et g0 rfl)) ?_
    refine l_step (y_shr (et g0 rfl) rfl (by decide) ((shr64C 32 4294967296 (by decide) rfl).trans (castE hu1))) ?_
    refine l_step (y_assignV (et g0 rfl)) ?_
    refine l_nil ?_
    refine hK20 _ _ ?_
    refine fg7 2 8 9 10 11 12 13 (gS rfl (gS rfl (gS rfl (gS rfl (gS rfl (gS rfl (gS rfl (gS rfl g0)))))))) (gS rfl (gS rfl (gS rfl (gS rfl (gS rfl (gS rfl (gS rfl g0))))))) (gS rfl (gS rfl (gS rfl (gS rfl (gS rfl (gS rfl g0)))))) (gS rfl (gS rfl (gS rfl (gS rfl (gS rfl g0))))) (gS rfl (gS rfl (gS rfl (gS rfl g0)))) (gS rfl (gS rfl (gS rfl g0))) g0 (fun g => ?_)
    refine c_seq (fun K21 hK21 => ?_)
    refine c_region ?_
    refine l_step (y_moveV (et (gS rfl g0) rfl)) ?_
    refine l_step ((y_andM 32 4294967296 uk64 (et g0 rfl) rfl ?_ rfl rfl (by decide)).to (valE hu0)) ?_
    omega
    refine l_step (y_assignV (et g0 rfl)) ?_
    refine l_nil ?_
    refine hK21 _ _ ?_
    refine fg7 2 8 9 10 11 13 14 (gS rfl (gS rfl (gS rfl (gS rfl (gS rfl (gS rfl (gS rfl (gS rfl (gS rfl g0))))))))) (gS rfl (gS rfl (gS rfl (gS rfl (gS rfl (gS rfl (gS rfl (gS rfl g0)))))))) (gS rfl (gS rfl (gS rfl (gS rfl (gS rfl (gS rfl (gS rfl g0))))))) (gS rfl (gS rfl (gS rfl (gS rfl (gS rfl (gS rfl g0)))))) (gS rfl (gS rfl (gS rfl (gS rfl (gS rfl g0))))) (gS rfl (gS rfl (gS rfl g0))) g0 (fun g => ?_)
    refine c_seq (fun K22 hK22 => ?_)
    refine c_region ?_
    refine l_step (y_moveV (et (gS rfl (gS rfl g0)) rfl)) ?_
    refine l_step (y_moveV (et (gS rfl (gS rfl (gS rfl (gS rfl (gS rfl g0))))) rfl)) ?_
    refine l_step (y_quo (et (gS rfl g0) rfl) (et g0 rfl) (by omega) (quoU uk64 ?_)) ?_
    omega
    refine l_step (y_assignV (et g0 rfl)) ?_
    refine l_nil ?_
    refine hK22 _ _ ?_
    refine fg8 2 8 9 10 11 13 14 15 (gS rfl (gS rfl (gS rfl (gS rfl (gS rfl (gS rfl (gS rfl (gS rfl (gS rfl (gS rfl g0)))))))))) (gS rfl (gS rfl (gS rfl (gS rfl (gS rfl (gS rfl (gS rfl (gS rfl (gS rfl g0))))))))) (gS rfl (gS rfl (gS rfl (gS rfl (gS rfl (gS rfl (gS rfl (gS rfl g0)))))))) (gS rfl (gS rfl (gS rfl (gS rfl (gS rfl (gS rfl (gS rfl g0))))))) (gS rfl (gS rfl (gS rfl (gS rfl (gS rfl (gS rfl g0)))))) (gS rfl (gS rfl (gS rfl (gS rfl (gS rfl g0))))) (gS rfl (gS rfl (gS rfl (gS rfl g0)))) g0 (fun g => ?_)
    refine c_seq (fun K23 hK23 => ?_)
    refine c_region ?_
    refine l_step (y_moveV (et (gS rfl (gS rfl (gS rfl g0))) rfl)) ?_
    refine l_step (y_moveV (et (gS rfl g0) rfl)) ?_
    refine l_step (y_moveV (et (gS rfl (gS rfl (gS rfl (gS rfl (gS rfl (gS rfl (gS rfl g0))))))) rfl)) ?_
    refine l_step (y_mul (et (gS rfl g0) rfl) (et g0 rfl) (wrapU_mulN uk64 ?_)) ?_
    (have := Nat.div_mul_le_self A a; omega)
    refine l_step (y_sub (et (gS rfl (gS rfl (gS rfl g0))) rfl) (et g0 rfl) (wrapU_subN uk64 ?_ ?_)) ?_
    exact Nat.div_mul_le_self A a
    omega
    refine l_step (y_assignV (et g0 rfl)) ?_
    refine l_nil ?_
    refine hK23 _ _ ?_
    refine fg9 2 8 9 10 11 13 14 15 16 (gS rfl (gS rfl (gS rfl (gS rfl (gS rfl (gS rfl (gS rfl (gS rfl (gS rfl (gS rfl (gS rfl (gS rfl (gS rfl g0))))))))))))) (gS rfl (gS rfl (gS rfl (gS rfl (gS rfl (gS rfl (gS rfl (gS rfl (gS rfl (gS rfl (gS rfl (gS rfl g0)))))))))))) (gS rfl (gS rfl (gS rfl (gS rfl (gS rfl (gS rfl (gS rfl (gS rfl (gS rfl (gS rfl (gS rfl g0))))))))))) (gS rfl (gS rfl (gS rfl (gS rfl (gS rfl (gS rfl (gS rfl (gS rfl (gS rfl (gS rfl g0)))))))))) (gS rfl (gS rfl (gS rfl (gS rfl (gS rfl (gS rfl (gS rfl (gS rfl (gS rfl g0))))))))) (gS rfl (gS rfl (gS rfl (gS rfl (gS rfl (gS rfl (gS rfl (gS rfl g0)))))))) (gS rfl (gS rfl (gS rfl (gS rfl (gS rfl (gS rfl (gS rfl g0))))))) (gS rfl (gS rfl (gS rfl (gS rfl (gS rfl (gS rfl g0)))))) g0 (fun g => ?_)
    refine c_seq (fun K24 hK24 => ?_)
    refine c_block (fun Q25 hQ25 => ?_)
    refine fg9 2 8 9 10 11 13 14 15 16 (gS rfl (gS rfl (gS rfl (gS rfl (gS rfl (gS rfl (gS rfl (gS rfl g0)))))))) (gS rfl (gS rfl (gS rfl (gS rfl (gS rfl (gS rfl (gS rfl g0))))))) (gS rfl (gS rfl (gS rfl (gS rfl (gS rfl (gS rfl g0)))))) (gS rfl (gS rfl (gS rfl (gS rfl (gS rfl g0))))) (gS rfl (gS rfl (gS rfl (gS rfl g0)))) (gS rfl (gS rfl (gS rfl g0))) (gS rfl (gS rfl g0)) (gS rfl g0) g0 (fun g => ?_)
    replace hN : Kept _ := hN
    replace hY : Kept _ := hY
    have hsl : sh ≤ 64 := by omega
    clear hBs hBs2 hlow hhs hshl hshY hA hbs hble hbl0 hs
    refine c_loop (fun k s W26 => ∃ (g : Nat → Value) (q r : Nat), s = (upd (upd (upd (upd (upd (upd (upd (upd (upd g 2 (.int .u64 (Y : Nat))) 8 (.int .u64 (sh : Nat))) 9 (.int .u64 (a : Nat))) 10 (.int .u64 (b : Nat))) 11 (.int .u64 (A : Nat))) 13 (.int .u64 (u1 : Nat))) 14 (.int .u64 (u0 : Nat))) 15 (.int .u64 (q : Nat))) 16 (.int .u64 (r : Nat))) ∧ q = k ∧ (q * a + r = A) ∧ (A * 4294967296 + u1 < (q + 1) * Y) ∧ (r < 4294967296) ∧ Ch (fun k => False) w14 W26) ((A / a)) ?_ ?_
    · exact ⟨g, A / a, A - A / a * a, rfl, rfl, by have := Nat.div_mul_le_self A a; omega, half_fst A a b Y (by omega) hYab hb2 u1 hu1l, by have := Nat.div_add_mod A a; have := Nat.mod_lt A (show a > 0 by omega); have := Nat.mul_comm a (A / a); omega, Ch.refl _ _⟩
    · skip
      intro k s W26 hI K26 hK26
      obtain ⟨g, q, r, rfl, rfl, hq, hup, hrH, V26⟩ := hI
      replace U := U.cc V26 (by intro b hb; first | exact hb.elim | omega | (simp at hb ⊢; omega))
      have hqB : q ≤ A := by have := Nat.mul_le_mul_left q (show 1 ≤ a by omega); omega
      refine c_seq (fun K27 hK27 => ?_)
      refine c_seq (fun K28 hK28 => ?_)
      refine c_region ?_
      refine l_step (y_moveV (et (gS rfl g0) rfl)) ?_
      refine l_step (y_geq (et g0 rfl) rfl) ?_
      refine l_step (y_moveV (et g0 rfl)) ?_
      refine gsplitL (i := 69) g0 (fun q29 => ?_) (fun q29 => ?_)
      · skip
        have hgt : (A * 4294967296 + u1) < q * Y := half_lt _ _ _ _ hAY hu1l (by have := of_decide_eq_true q29; omega)
        refine l_gskip (j := 2) (t := 69) (by exact rfl) (by exact rfl) (et g0 rfl) (by decide) (by decide) ?_
        refine l_gskip (j := 2) (t := 69) (by exact rfl) (by exact rfl) (et (gS rfl g0) rfl) (by decide) (by decide) ?_
        refine l_gskip (j := 2) (t := 69) (by exact rfl) (by exact rfl) (et (gS rfl (gS rfl g0)) rfl) (by decide) (by decide) ?_
        refine l_gskip (j := 2) (t := 69) (by exact rfl) (by exact rfl) (et (gS rfl (gS rfl (gS rfl g0))) rfl) (by decide) (by decide) ?_
        refine l_gskip (j := 2) (t := 69) (by exact rfl) (by exact rfl) (et (gS rfl (gS rfl (gS rfl (gS rfl g0)))) rfl) (by decide) (by decide) ?_
        refine l_gskip (j := 2) (t := 69) (by exact rfl) (by exact rfl) (et (gS rfl (gS rfl (gS rfl (gS rfl (gS rfl g0))))) rfl) (by decide) (by decide) ?_
        refine l_gskip (j := 2) (t := 69) (by exact rfl) (by exact rfl) (et (gS rfl (gS rfl (gS rfl (gS rfl (gS rfl (gS rfl g0)))))) rfl) (by decide) (by decide) ?_
        refine l_gskip (j := 2) (t := 69) (by exact rfl) (by exact rfl) (et (gS rfl (gS rfl (gS rfl (gS rfl (gS rfl (gS rfl (gS rfl g0))))))) rfl) (by decide) (by decide) ?_
        refine l_step (y_pickT (et (gS rfl (gS rfl (gS rfl (gS rfl (gS rfl (gS rfl (gS rfl (gS rfl g0)))))))) rfl) rfl) ?_
        refine l_nil ?_
        refine hK28 _ _ ?_
        refine fg10 2 8 9 10 11 13 14 15 16 78 (gS rfl (gS rfl (gS rfl (gS rfl (gS rfl (gS rfl (gS rfl (gS rfl (gS rfl (gS rfl (gS rfl (gS rfl (gS rfl (gS rfl (gS rfl (gS rfl (gS rfl (gS rfl (gS rfl (gS rfl (gS rfl g0))))))))))))))))))))) (gS rfl (gS rfl (gS rfl (gS rfl (gS rfl (gS rfl (gS rfl (gS rfl (gS rfl (gS rfl (gS rfl (gS rfl (gS rfl (gS rfl (gS rfl (gS rfl (gS rfl (gS rfl (gS rfl (gS rfl g0)))))))))))))))))))) (gS rfl (gS rfl (gS rfl (gS rfl (gS rfl (gS rfl (gS rfl (gS rfl (gS rfl (gS rfl (gS rfl (gS rfl (gS rfl (gS rfl (gS rfl (gS rfl (gS rfl (gS rfl (gS rfl g0))))))))))))))))))) (gS rfl (gS rfl (gS rfl (gS rfl (gS rfl (gS rfl (gS rfl (gS rfl (gS rfl (gS rfl (gS rfl (gS rfl (gS rfl (gS rfl (gS rfl (gS rfl (gS rfl (gS rfl g0)))))))))))))))))) (gS rfl (gS rfl (gS rfl (gS rfl (gS rfl (gS rfl (gS rfl (gS rfl (gS rfl (gS rfl (gS rfl (gS rfl (gS rfl (gS rfl (gS rfl (gS rfl (gS rfl g0))))))))))))))))) (gS rfl (gS rfl (gS rfl (gS rfl (gS rfl (gS rfl (gS rfl (gS rfl (gS rfl (gS rfl (gS rfl (gS rfl (gS rfl (gS rfl (gS rfl (gS rfl g0)))))))))))))))) (gS rfl (gS rfl (gS rfl (gS rfl (gS rfl (gS rfl (gS rfl (gS rfl (gS rfl (gS rfl (gS rfl (gS rfl (gS rfl (gS rfl (gS rfl g0))))))))))))))) (gS rfl (gS rfl (gS rfl (gS rfl (gS rfl (gS rfl (gS rfl (gS rfl (gS rfl (gS rfl (gS rfl (gS rfl (gS rfl (gS rfl g0)))))))))))))) (gS rfl (gS rfl (gS rfl (gS rfl (gS rfl (gS rfl (gS rfl (gS rfl (gS rfl (gS rfl (gS rfl (gS rfl (gS rfl g0))))))))))))) g0 (fun g => ?_)
        refine c_true (et g0 rfl) rfl ?_
        refine c_skip ?_
        refine hK27 _ _ ?_
        refine fg9 2 8 9 10 11 13 14 15 16 (gS rfl (gS rfl (gS rfl (gS rfl (gS rfl (gS rfl (gS rfl (gS rfl (gS rfl g0))))))))) (gS rfl (gS rfl (gS rfl (gS rfl (gS rfl (gS rfl (gS rfl (gS rfl g0)))))))) (gS rfl (gS rfl (gS rfl (gS rfl (gS rfl (gS rfl (gS rfl g0))))))) (gS rfl (gS rfl (gS rfl (gS rfl (gS rfl (gS rfl g0)))))) (gS rfl (gS rfl (gS rfl (gS rfl (gS rfl g0))))) (gS rfl (gS rfl (gS rfl (gS rfl g0)))) (gS rfl (gS rfl (gS rfl g0))) (gS rfl (gS rfl g0)) (gS rfl g0) (fun g => ?_)
        refine c_block (fun Q31 hQ31 => ?_)
        refine c_seq (fun K32 hK32 => ?_)
        refine c_region ?_
        refine l_step (y_moveV (et (gS rfl g0) rfl)) ?_
        have hq0 : q ≠ 0 := fun h0 => by rw [h0, Nat.zero_mul] at hgt; omega
        obtain ⟨p, rfl⟩ : ∃ p, q = p + 1 := ⟨q - 1, by omega⟩
        have hup : (A * 4294967296 + u1) < (p + 1) * Y := hgt
        have hq2 : p * a + (r + a) = A := by rw [Nat.add_mul] at hq; omega
        refine l_step (y_sub (et g0 rfl) rfl (subOne ?_)) ?_
        omega
        refine l_step (y_assignV (et g0 rfl)) ?_
        refine l_nil ?_
        refine hK32 _ _ ?_
        refine fg9 2 8 9 10 11 13 14 15 16 (gS rfl (gS rfl (gS rfl (gS rfl (gS rfl (gS rfl (gS rfl (gS rfl (gS rfl (gS rfl (gS rfl g0))))))))))) (gS rfl (gS rfl (gS rfl (gS rfl (gS rfl (gS rfl (gS rfl (gS rfl (gS rfl (gS rfl g0)))))))))) (gS rfl (gS rfl (gS rfl (gS rfl (gS rfl (gS rfl (gS rfl (gS rfl (gS rfl g0))))))))) (gS rfl (gS rfl (gS rfl (gS rfl (gS rfl (gS rfl (gS rfl (gS rfl g0)))))))) (gS rfl (gS rfl (gS rfl (gS rfl (gS rfl (gS rfl (gS rfl g0))))))) (gS rfl (gS rfl (gS rfl (gS rfl (gS rfl (gS rfl g0)))))) (gS rfl (gS rfl (gS rfl (gS rfl (gS rfl g0))))) g0 (gS rfl (gS rfl (gS rfl g0))) (fun g => ?_)
        refine c_seq (fun K33 hK33 => ?_)
        refine c_region ?_
        refine l_step (y_moveV (et g0 rfl)) ?_
        refine l_step (y_moveV (et (gS rfl (gS rfl (gS rfl (gS rfl (gS rfl (gS rfl (gS rfl g0))))))) rfl)) ?_
        refine l_step (y_add (et (gS rfl g0) rfl) (et g0 rfl) (wrapU_addN uk64 ?_)) ?_
        omega
        refine l_step (y_assignV (et g0 rfl)) ?_
        refine l_nil ?_
        refine hK33 _ _ ?_
        refine fg9 2 8 9 10 11 13 14 15 16 (gS rfl (gS rfl (gS rfl (gS rfl (gS rfl (gS rfl (gS rfl (gS rfl (gS rfl (gS rfl (gS rfl (gS rfl g0)))))))))))) (gS rfl (gS rfl (gS rfl (gS rfl (gS rfl (gS rfl (gS rfl (gS rfl (gS rfl (gS rfl (gS rfl g0))))))))))) (gS rfl (gS rfl (gS rfl (gS rfl (gS rfl (gS rfl (gS rfl (gS rfl (gS rfl (gS rfl g0)))))))))) (gS rfl (gS rfl (gS rfl (gS rfl (gS rfl (gS rfl (gS rfl (gS rfl (gS rfl g0))))))))) (gS rfl (gS rfl (gS rfl (gS rfl (gS rfl (gS rfl (gS rfl (gS rfl g0)))))))) (gS rfl (gS rfl (gS rfl (gS rfl (gS rfl (gS rfl (gS rfl g0))))))) (gS rfl (gS rfl (gS rfl (gS rfl (gS rfl (gS rfl g0)))))) (gS rfl (gS rfl (gS rfl (gS rfl (gS rfl g0))))) g0 (fun g => ?_)
        refine c_seq (fun K34 hK34 => ?_)
        refine c_region ?_
        refine l_step (y_moveV (et g0 rfl)) ?_
        refine l_step (y_geq (et g0 rfl) rfl) ?_
        refine l_nil ?_
        refine hK34 _ _ ?_
        refine fg10 2 8 9 10 11 13 14 15 16 85 (gS rfl (gS rfl (gS rfl (gS rfl (gS rfl (gS rfl (gS rfl (gS rfl (gS rfl (gS rfl g0)))))))))) (gS rfl (gS rfl (gS rfl (gS rfl (gS rfl (gS rfl (gS rfl (gS rfl (gS rfl g0))))))))) (gS rfl (gS rfl (gS rfl (gS rfl (gS rfl (gS rfl (gS rfl (gS rfl g0)))))))) (gS rfl (gS rfl (gS rfl (gS rfl (gS rfl (gS rfl (gS rfl g0))))))) (gS rfl (gS rfl (gS rfl (gS rfl (gS rfl (gS rfl g0)))))) (gS rfl (gS rfl (gS rfl (gS rfl (gS rfl g0))))) (gS rfl (gS rfl (gS rfl (gS rfl g0)))) (gS rfl (gS rfl (gS rfl g0))) (gS rfl (gS rfl g0)) g0 (fun g => ?_)
        refine c_cond (et g0 rfl) (fun cB5 => ?_) (fun cB5 => ?_)
        · skip
          
          have hbrk : 4294967296 ≤ r + a := by have := of_decide_eq_true cB5; omega
          have hpl := half_brk p a b (r + a) A Y hYab hb2 hq2 hAY hbrk
          have hle := half_le p a b (r + a) A Y u1 hYab hb2 hq2 hpl hbrk
          obtain ⟨R, hR⟩ : ∃ Z, (A * 4294967296 + u1) = p * Y + Z := Nat.exists_eq_add_of_le hle
          have hRl : R < Y := by rw [Nat.add_mul] at hup; omega
          refine c_exit ?_
          refine hQ31 _ _ _ (in_past (by decide) ?_)
          refine hQ25 _ _ _ (in_exit ?_)
          refine hK24 _ _ ?_
          refine fg8 2 8 9 10 11 13 14 15 (gS rfl (gS rfl (gS rfl (gS rfl (gS rfl (gS rfl (gS rfl (gS rfl (gS rfl g0))))))))) (gS rfl (gS rfl (gS rfl (gS rfl (gS rfl (gS rfl (gS rfl (gS rfl g0)))))))) (gS rfl (gS rfl (gS rfl (gS rfl (gS rfl (gS rfl (gS rfl g0))))))) (gS rfl (gS rfl (gS rfl (gS rfl (gS rfl (gS rfl g0)))))) (gS rfl (gS rfl (gS rfl (gS rfl (gS rfl g0))))) (gS rfl (gS rfl (gS rfl (gS rfl g0)))) (gS rfl (gS rfl (gS rfl g0))) (gS rfl (gS rfl g0)) (fun g => ?_)
          refine c_seq (fun K36 hK36 => ?_)
          refine c_region ?_
          refine l_step (y_moveV (et (gS rfl (gS rfl (gS rfl g0))) rfl)) ?_
          refine l_step (y_mul (et g0 rfl) rfl (wrapU_mul (b := 4294967296) uk64)) ?_
          refine l_step (y_moveV (et (gS rfl (gS rfl (gS rfl (gS rfl g0)))) rfl)) ?_
          refine l_step (y_add (et (gS rfl g0) rfl) (et g0 rfl) (addM rfl)) ?_
          refine l_step (y_moveV (et (gS rfl (gS rfl (gS rfl (gS rfl g0)))) rfl)) ?_
          refine l_step (y_moveV (et (gS rfl (gS rfl (gS rfl (gS rfl (gS rfl (gS rfl (gS rfl (gS rfl (gS rfl (gS rfl (gS rfl (gS rfl g0)))))))))))) rfl)) ?_
          refine l_step (y_mul (et (gS rfl g0) rfl) (et g0 rfl) (wrapU_mul uk64)) ?_
          refine l_step (y_sub (et (gS rfl (gS rfl (gS rfl g0))) rfl) (et g0 rfl) (subM hR ?_)) ?_
          omega
          refine l_step (y_assignV (et g0 rfl)) ?_
          refine l_nil ?_
          refine hK36 _ _ ?_
          refine fg7 2 8 9 10 14 15 17 (gS rfl (gS rfl (gS rfl (gS rfl (gS rfl (gS rfl (gS rfl (gS rfl (gS rfl (gS rfl (gS rfl (gS rfl (gS rfl (gS rfl (gS rfl (gS rfl g0)))))))))))))))) (gS rfl (gS rfl (gS rfl (gS rfl (gS rfl (gS rfl (gS rfl (gS rfl (gS rfl (gS rfl (gS rfl (gS rfl (gS rfl (gS rfl (gS rfl g0))))))))))))))) (gS rfl (gS rfl (gS rfl (gS rfl (gS rfl (gS rfl (gS rfl (gS rfl (gS rfl (gS rfl (gS rfl (gS rfl (gS rfl (gS rfl g0)))))))))))))) (gS rfl (gS rfl (gS rfl (gS rfl (gS rfl (gS rfl (gS rfl (gS rfl (gS rfl (gS rfl (gS rfl (gS rfl (gS rfl g0))))))))))))) (gS rfl (gS rfl (gS rfl (gS rfl (gS rfl (gS rfl (gS rfl (gS rfl (gS rfl (gS rfl g0)))))))))) (gS rfl (gS rfl (gS rfl (gS rfl (gS rfl (gS rfl (gS rfl (gS rfl (gS rfl g0))))))))) g0 (fun g => ?_)
          refine c_seq (fun K37 hK37 => ?_)
          refine c_region ?_
          refine l_step (y_moveV (et g0 rfl)) ?_
          refine l_step (y_moveV (et (gS rfl (gS rfl (gS rfl (gS rfl (gS rfl g0))))) rfl)) ?_
          refine l_step (y_quo (et (gS rfl g0) rfl) (et g0 rfl) (by omega) (quoU uk64 ?_)) ?_
          omega
          refine l_step (y_assignV (et g0 rfl)) ?_
          refine l_nil ?_
          refine hK37 _ _ ?_
          refine fg8 2 8 9 10 14 15 17 18 (gS rfl (gS rfl (gS rfl (gS rfl (gS rfl (gS rfl (gS rfl (gS rfl (gS rfl (gS rfl g0)))))))))) (gS rfl (gS rfl (gS rfl (gS rfl (gS rfl (gS rfl (gS rfl (gS rfl (gS rfl g0))))))))) (gS rfl (gS rfl (gS rfl (gS rfl (gS rfl (gS rfl (gS rfl (gS rfl g0)))))))) (gS rfl (gS rfl (gS rfl (gS rfl (gS rfl (gS rfl (gS rfl g0))))))) (gS rfl (gS rfl (gS rfl (gS rfl (gS rfl (gS rfl g0)))))) (gS rfl (gS rfl (gS rfl (gS rfl (gS rfl g0))))) (gS rfl (gS rfl (gS rfl (gS rfl g0)))) g0 (fun g => ?_)
          refine c_seq (fun K38 hK38 => ?_)
          refine c_region ?_
          refine l_step (y_moveV (et (gS rfl g0) rfl)) ?_
          refine l_step (y_moveV (et (gS rfl g0) rfl)) ?_
          refine l_step (y_moveV (et (gS rfl (gS rfl (gS rfl (gS rfl (gS rfl (gS rfl (gS rfl g0))))))) rfl)) ?_
          refine l_step (y_mul (et (gS rfl g0) rfl) (et g0 rfl) (wrapU_mulN uk64 ?_)) ?_
          (have := Nat.div_mul_le_self R a; omega)
          refine l_step (y_sub (et (gS rfl (gS rfl (gS rfl g0))) rfl) (et g0 rfl) (wrapU_subN uk64 ?_ ?_)) ?_
          exact Nat.div_mul_le_self R a
          omega
          refine l_step (y_assignV (et g0 rfl)) ?_
          refine l_nil ?_
          refine hK38 _ _ ?_
          refine fg9 2 8 9 10 14 15 17 18 16 (gS rfl (gS rfl (gS rfl (gS rfl (gS rfl (gS rfl (gS rfl (gS rfl (gS rfl (gS rfl (gS rfl (gS rfl (gS rfl g0))))))))))))) (gS rfl (gS rfl (gS rfl (gS rfl (gS rfl (gS rfl (gS rfl (gS rfl (gS rfl (gS rfl (gS rfl (gS rfl g0)))))))))))) (gS rfl (gS rfl (gS rfl (gS rfl (gS rfl (gS rfl (gS rfl (gS rfl (gS rfl (gS rfl (gS rfl g0))))))))))) (gS rfl (gS rfl (gS rfl (gS rfl (gS rfl (gS rfl (gS rfl (gS rfl (gS rfl (gS rfl g0)))))))))) (gS rfl (gS rfl (gS rfl (gS rfl (gS rfl (gS rfl (gS rfl (gS rfl (gS rfl g0))))))))) (gS rfl (gS rfl (gS rfl (gS rfl (gS rfl (gS rfl (gS rfl (gS rfl g0)))))))) (gS rfl (gS rfl (gS rfl (gS rfl (gS rfl (gS rfl (gS rfl g0))))))) (gS rfl (gS rfl (gS rfl (gS rfl (gS rfl (gS rfl g0)))))) g0 (fun g => ?_)
          refine c_seq (fun K39 hK39 => ?_)
          refine c_block (fun Q40 hQ40 => ?_)
          refine fg9 2 8 9 10 14 15 16 17 18 (gS rfl (gS rfl (gS rfl (gS rfl (gS rfl (gS rfl (gS rfl (gS rfl g0)))))))) (gS rfl (gS rfl (gS rfl (gS rfl (gS rfl (gS rfl (gS rfl g0))))))) (gS rfl (gS rfl (gS rfl (gS rfl (gS rfl (gS rfl g0)))))) (gS rfl (gS rfl (gS rfl (gS rfl (gS rfl g0))))) (gS rfl (gS rfl (gS rfl (gS rfl g0)))) (gS rfl (gS rfl (gS rfl g0))) g0 (gS rfl (gS rfl g0)) (gS rfl g0) (fun g => ?_)
          refine c_loop (fun k s W41 => ∃ (g : Nat → Value) (q r : Nat), s = (upd (upd (upd (upd (upd (upd (upd (upd (upd g 2 (.int .u64 (Y : Nat))) 8 (.int .u64 (sh : Nat))) 9 (.int .u64 (a : Nat))) 10 (.int .u64 (b : Nat))) 14 (.int .u64 (u0 : Nat))) 15 (.int .u64 (p : Nat))) 16 (.int .u64 (r : Nat))) 17 (.int .u64 (R : Nat))) 18 (.int .u64 (q : Nat))) ∧ q = k ∧ (q * a + r = R) ∧ (R * 4294967296 + u0 < (q + 1) * Y) ∧ (r < 4294967296) ∧ Ch (fun k => False) W26 W41) ((R / a)) ?_ ?_
          · exact ⟨g, R / a, R - R / a * a, rfl, rfl, by have := Nat.div_mul_le_self R a; omega, half_fst R a b Y (by omega) hYab hb2 u0 hu0l, by have := Nat.div_add_mod R a; have := Nat.mod_lt R (show a > 0 by omega); have := Nat.mul_comm a (R / a); omega, Ch.refl _ _⟩
          · skip
            intro k s W41 hI K41 hK41
            obtain ⟨g, q, r, rfl, rfl, hq, hup, hrH, V41⟩ := hI
            replace U := U.cc V41 (by intro b hb; first | exact hb.elim | omega | (simp at hb ⊢; omega))
            have hqB : q ≤ R := by have := Nat.mul_le_mul_left q (show 1 ≤ a by omega); omega
            refine c_seq (fun K42 hK42 => ?_)
            refine c_seq (fun K43 hK43 => ?_)
            refine c_region ?_
            refine l_step (y_moveV (et g0 rfl)) ?_
            refine l_step (y_geq (et g0 rfl) rfl) ?_
            refine l_step (y_moveV (et g0 rfl)) ?_
            refine gsplitL (i := 104) g0 (fun q44 => ?_) (fun q44 => ?_)
            · skip
              have hgt : (R * 4294967296 + u0) < q * Y := half_lt _ _ _ _ hRl hu0l (by have := of_decide_eq_true q44; omega)
              refine l_gskip (j := 2) (t := 104) (by exact rfl) (by exact rfl) (et g0 rfl) (by decide) (by decide) ?_
              refine l_gskip (j := 2) (t := 104) (by exact rfl) (by exact rfl) (et (gS rfl g0) rfl) (by decide) (by decide) ?_
              refine l_gskip (j := 2) (t := 104) (by exact rfl) (by exact rfl) (et (gS rfl (gS rfl g0)) rfl) (by decide) (by decide) ?_
              refine l_gskip (j := 2) (t := 104) (by exact rfl) (by exact rfl) (et (gS rfl (gS rfl (gS rfl g0))) rfl) (by decide) (by decide) ?_
              refine l_gskip (j := 2) (t := 104) (by exact rfl) (by exact rfl) (et (gS rfl (gS rfl (gS rfl (gS rfl g0)))) rfl) (by decide) (by decide) ?_
              refine l_gskip (j := 2) (t := 104) (by exact rfl) (by exact rfl) (et (gS rfl (gS rfl (gS rfl (gS rfl (gS rfl g0))))) rfl) (by decide) (by decide) ?_
              refine l_gskip (j := 2) (t := 104) (by exact rfl) (by exact rfl) (et (gS rfl (gS rfl (gS rfl (gS rfl (gS rfl (gS rfl g0)))))) rfl) (by decide) (by decide) ?_
              refine l_gskip (j := 2) (t := 104) (by exact rfl) (by exact rfl) (et (gS rfl (gS rfl (gS rfl (gS rfl (gS rfl (gS rfl (gS rfl g0))))))) rfl) (by decide) (by decide) ?_
              refine l_step (y_pickT (et (gS rfl (gS rfl (gS rfl (gS rfl (gS rfl (gS rfl (gS rfl (gS rfl g0)))))))) rfl) rfl) ?_
              refine l_nil ?_
              refine hK43 _ _ ?_
              refine fg10 2 8 9 10 14 15 16 17 18 113 (gS rfl (gS rfl (gS rfl (gS rfl (gS rfl (gS rfl (gS rfl (gS rfl (gS rfl (gS rfl (gS rfl (gS rfl (gS rfl (gS rfl (gS rfl (gS rfl (gS rfl (gS rfl (gS rfl (gS rfl (gS rfl g0))))))))))))))))))))) (gS rfl (gS rfl (gS rfl (gS rfl (gS rfl (gS rfl (gS rfl (gS rfl (gS rfl (gS rfl (gS rfl (gS rfl (gS rfl (gS rfl (gS rfl (gS rfl (gS rfl (gS rfl (gS rfl (gS rfl g0)))))))))))))))))))) (gS rfl (gS rfl (gS rfl (gS rfl (gS rfl (gS rfl (gS rfl (gS rfl (gS rfl (gS rfl (gS rfl (gS rfl (gS rfl (gS rfl (gS rfl (gS rfl (gS rfl (gS rfl (gS rfl g0))))))))))))))))))) (gS rfl (gS rfl (gS rfl (gS rfl (gS rfl (gS rfl (gS rfl (gS rfl (gS rfl (gS rfl (gS rfl (gS rfl (gS rfl (gS rfl (gS rfl (gS rfl (gS rfl (gS rfl g0)))))))))))))))))) (gS rfl (gS rfl (gS rfl (gS rfl (gS rfl (gS rfl (gS rfl (gS rfl (gS rfl (gS rfl (gS rfl (gS rfl (gS rfl (gS rfl (gS rfl (gS rfl (gS rfl g0))))))))))))))))) (gS rfl (gS rfl (gS rfl (gS rfl (gS rfl (gS rfl (gS rfl (gS rfl (gS rfl (gS rfl (gS rfl (gS rfl (gS rfl (gS rfl (gS rfl (gS rfl g0)))))))))))))))) (gS rfl (gS rfl (gS rfl (gS rfl (gS rfl (gS rfl (gS rfl (gS rfl (gS rfl (gS rfl (gS rfl (gS rfl (gS rfl (gS rfl (gS rfl g0))))))))))))))) (gS rfl (gS rfl (gS rfl (gS rfl (gS rfl (gS rfl (gS rfl (gS rfl (gS rfl (gS rfl (gS rfl (gS rfl (gS rfl (gS rfl g0)))))))))))))) (gS rfl (gS rfl (gS rfl (gS rfl (gS rfl (gS rfl (gS rfl (gS rfl (gS rfl (gS rfl (gS rfl (gS rfl (gS rfl g0))))))))))))) g0 (fun g => ?_)
              refine c_true (et g0 rfl) rfl ?_
              refine c_skip ?_
              refine hK42 _ _ ?_
              refine fg9 2 8 9 10 14 15 16 17 18 (gS rfl (gS rfl (gS rfl (gS rfl (gS rfl (gS rfl (gS rfl (gS rfl (gS rfl g0))))))))) (gS rfl (gS rfl (gS rfl (gS rfl (gS rfl (gS rfl (gS rfl (gS rfl g0)))))))) (gS rfl (gS rfl (gS rfl (gS rfl (gS rfl (gS rfl (gS rfl g0))))))) (gS rfl (gS rfl (gS rfl (gS rfl (gS rfl (gS rfl g0)))))) (gS rfl (gS rfl (gS rfl (gS rfl (gS rfl g0))))) (gS rfl (gS rfl (gS rfl (gS rfl g0)))) (gS rfl (gS rfl (gS rfl g0))) (gS rfl (gS rfl g0)) (gS rfl g0) (fun g => ?_)
              refine c_block (fun Q46 hQ46 => ?_)
              refine c_seq (fun K47 hK47 => ?_)
              refine c_region ?_
              refine l_step (y_moveV (et g0 rfl)) ?_
              have hq0 : q ≠ 0 := fun h0 => by rw [h0, Nat.zero_mul] at hgt; omega
              obtain ⟨p0, rfl⟩ : ∃ p, q = p + 1 := ⟨q - 1, by omega⟩
              have hup : (R * 4294967296 + u0) < (p0 + 1) * Y := hgt
              have hq2 : p0 * a + (r + a) = R := by rw [Nat.add_mul] at hq; omega
              refine l_step (y_sub (et g0 rfl) rfl (subOne ?_)) ?_
              omega
              refine l_step (y_assignV (et g0 rfl)) ?_
              refine l_nil ?_
              refine hK47 _ _ ?_
              refine fg9 2 8 9 10 14 15 16 17 18 (gS rfl (gS rfl (gS rfl (gS rfl (gS rfl (gS rfl (gS rfl (gS rfl (gS rfl (gS rfl (gS rfl g0))))))))))) (gS rfl (gS rfl (gS rfl (gS rfl (gS rfl (gS rfl (gS rfl (gS rfl (gS rfl (gS rfl g0)))))))))) (gS rfl (gS rfl (gS rfl (gS rfl (gS rfl (gS rfl (gS rfl (gS rfl (gS rfl g0))))))))) (gS rfl (gS rfl (gS rfl (gS rfl (gS rfl (gS rfl (gS rfl (gS rfl g0)))))))) (gS rfl (gS rfl (gS rfl (gS rfl (gS rfl (gS rfl (gS rfl g0))))))) (gS rfl (gS rfl (gS rfl (gS rfl (gS rfl (gS rfl g0)))))) (gS rfl (gS rfl (gS rfl (gS rfl (gS rfl g0))))) (gS rfl (gS rfl (gS rfl (gS rfl g0)))) g0 (fun g => ?_)
              refine c_seq (fun K48 hK48 => ?_)
              refine c_region ?_
              refine l_step (y_moveV (et (gS rfl (gS rfl g0)) rfl)) ?_
              refine l_step (y_moveV (et (gS rfl (gS rfl (gS rfl (gS rfl (gS rfl (gS rfl (gS rfl g0))))))) rfl)) ?_
              refine l_step (y_add (et (gS rfl g0) rfl) (et g0 rfl) (wrapU_addN uk64 ?_)) ?_
              omega
              refine l_step (y_assignV (et g0 rfl)) ?_
              refine l_nil ?_
              refine hK48 _ _ ?_
              refine fg9 2 8 9 10 14 15 16 17 18 (gS rfl (gS rfl (gS rfl (gS rfl (gS rfl (gS rfl (gS rfl (gS rfl (gS rfl (gS rfl (gS rfl (gS rfl g0)))))))))))) (gS rfl (gS rfl (gS rfl (gS rfl (gS rfl (gS rfl (gS rfl (gS rfl (gS rfl (gS rfl (gS rfl g0))))))))))) (gS rfl (gS rfl (gS rfl (gS rfl (gS rfl (gS rfl (gS rfl (gS rfl (gS rfl (gS rfl g0)))))))))) (gS rfl (gS rfl (gS rfl (gS rfl (gS rfl (gS rfl (gS rfl (gS rfl (gS rfl g0))))))))) (gS rfl (gS rfl (gS rfl (gS rfl (gS rfl (gS rfl (gS rfl (gS rfl g0)))))))) (gS rfl (gS rfl (gS rfl (gS rfl (gS rfl (gS rfl (gS rfl g0))))))) g0 (gS rfl (gS rfl (gS rfl (gS rfl (gS rfl g0))))) (gS rfl (gS rfl (gS rfl (gS rfl g0)))) (fun g => ?_)
              refine c_seq (fun K49 hK49 => ?_)
              refine c_region ?_
              refine l_step (y_moveV (et (gS rfl (gS rfl g0)) rfl)) ?_
              refine l_step (y_geq (et g0 rfl) rfl) ?_
              refine l_nil ?_
              refine hK49 _ _ ?_
              refine fg10 2 8 9 10 14 15 16 17 18 120 (gS rfl (gS rfl (gS rfl (gS rfl (gS rfl (gS rfl (gS rfl (gS rfl (gS rfl (gS rfl g0)))))))))) (gS rfl (gS rfl (gS rfl (gS rfl (gS rfl (gS rfl (gS rfl (gS rfl (gS rfl g0))))))))) (gS rfl (gS rfl (gS rfl (gS rfl (gS rfl (gS rfl (gS rfl (gS rfl g0)))))))) (gS rfl (gS rfl (gS rfl (gS rfl (gS rfl (gS rfl (gS rfl g0))))))) (gS rfl (gS rfl (gS rfl (gS rfl (gS rfl (gS rfl g0)))))) (gS rfl (gS rfl (gS rfl (gS rfl (gS rfl g0))))) (gS rfl (gS rfl (gS rfl (gS rfl g0)))) (gS rfl (gS rfl (gS rfl g0))) (gS rfl (gS rfl g0)) g0 (fun g => ?_)
              refine c_cond (et g0 rfl) (fun cB7 => ?_) (fun cB7 => ?_)
              · skip
                
                have hbrk : 4294967296 ≤ r + a := by have := of_decide_eq_true cB7; omega
                have hp0l := half_brk p0 a b (r + a) R Y hYab hb2 hq2 hRl hbrk
                have hle := half_le p0 a b (r + a) R Y u0 hYab hb2 hq2 hp0l hbrk
                obtain ⟨R2, hR2⟩ : ∃ Z, (R * 4294967296 + u0) = p0 * Y + Z := Nat.exists_eq_add_of_le hle
                have hR2l : R2 < Y := by rw [Nat.add_mul] at hup; omega
                refine c_exit ?_
                refine hQ46 _ _ _ (in_past (by decide) ?_)
                refine hQ40 _ _ _ (in_exit ?_)
                refine hK39 _ _ ?_
                refine fg6 2 8 14 15 17 18 (gS rfl (gS rfl (gS rfl (gS rfl (gS rfl (gS rfl (gS rfl (gS rfl (gS rfl g0))))))))) (gS rfl (gS rfl (gS rfl (gS rfl (gS rfl (gS rfl (gS rfl (gS rfl g0)))))))) (gS rfl (gS rfl (gS rfl (gS rfl (gS rfl g0))))) (gS rfl (gS rfl (gS rfl (gS rfl g0)))) (gS rfl (gS rfl g0)) (gS rfl g0) (fun g => ?_)
                refine c_seq (fun K51 hK51 => ?_)
                refine c_region ?_
                refine l_step (y_moveV (et (gS rfl (gS rfl g0)) rfl)) ?_
                refine l_step (y_mul (et g0 rfl) rfl (wrapU_mulN (b := 4294967296) uk64 ?_)) ?_
                exact mulH hpl
                refine l_step (y_moveV (et (gS rfl (gS rfl g0)) rfl)) ?_
                refine l_step (y_add (et (gS rfl g0) rfl) (et g0 rfl) (wrapU_addN uk64 ?_)) ?_
                exact mulAH hpl hp0l
                refine l_step (y_moveV (et (gS rfl (gS rfl (gS rfl (gS rfl (gS rfl g0))))) rfl)) ?_
                refine l_step (y_mul (et g0 rfl) rfl (wrapU_mul (b := 4294967296) uk64)) ?_
                refine l_step (y_moveV (et (gS rfl (gS rfl (gS rfl (gS rfl (gS rfl (gS rfl (gS rfl (gS rfl (gS rfl g0))))))))) rfl)) ?_
                refine l_step (y_add (et (gS rfl g0) rfl) (et g0 rfl) (addM rfl)) ?_
                refine l_step (y_moveV (et (gS rfl (gS rfl (gS rfl (gS rfl (gS rfl (gS rfl (gS rfl (gS rfl g0)))))))) rfl)) ?_
                refine l_step (y_moveV (et (gS rfl (gS rfl (gS rfl (gS rfl (gS rfl (gS rfl (gS rfl (gS rfl (gS rfl (gS rfl (gS rfl (gS rfl (gS rfl (gS rfl g0)))))))))))))) rfl)) ?_
                refine l_step (y_mul (et (gS rfl g0) rfl) (et g0 rfl) (wrapU_mul uk64)) ?_
                refine l_step (y_sub (et (gS rfl (gS rfl (gS rfl g0))) rfl) (et g0 rfl) (subM hR2 ?_)) ?_
                omega
                refine l_step (y_moveV (et (gS rfl (gS rfl (gS rfl (gS rfl (gS rfl (gS rfl (gS rfl (gS rfl (gS rfl (gS rfl (gS rfl (gS rfl (gS rfl (gS rfl (gS rfl (gS rfl g0)))))))))))))))) rfl)) ?_
                refine l_step (y_shr (et (gS rfl g0) rfl) (et g0 rfl) ?_ (shrV ?_)) ?_
                omega
                omega
                refine l_step (y_assignV (et (gS rfl (gS rfl (gS rfl (gS rfl (gS rfl (gS rfl (gS rfl (gS rfl (gS rfl (gS rfl g0)))))))))) rfl)) ?_
                refine l_step (y_assignV (et (gS rfl g0) rfl)) ?_
                refine l_nil ?_
                refine hK51 _ _ ?_
                refine fg2 6 7 (gS rfl g0) g0 (fun g => ?_)
                refine c_ret ?_
                refine ret2 rfl (res_tmp (et (gS rfl g0) rfl)) (res_tmp (et g0 rfl)) ?_
                refine ⟨?_, U⟩
                obtain ⟨f1, f2⟩ := div_fin2 hi lo y sh A u10 u1 u0 p R p0 R2 Y hy0 hN hY hu1 hu0 hR hR2 hR2l
                rw [f1, f2]
              · skip
                
                have hnb : r + a < 4294967296 := by have := of_decide_eq_false cB7; omega
                refine c_skip ?_
                refine hQ46 _ _ _ (in_normal ?_)
                refine fK9 2 8 9 10 14 15 16 17 18 (gS rfl (gS rfl (gS rfl (gS rfl (gS rfl (gS rfl (gS rfl (gS rfl (gS rfl g0))))))))) (gS rfl (gS rfl (gS rfl (gS rfl (gS rfl (gS rfl (gS rfl (gS rfl g0)))))))) (gS rfl (gS rfl (gS rfl (gS rfl (gS rfl (gS rfl (gS rfl g0))))))) (gS rfl (gS rfl (gS rfl (gS rfl (gS rfl (gS rfl g0)))))) (gS rfl (gS rfl (gS rfl (gS rfl (gS rfl g0))))) (gS rfl (gS rfl (gS rfl (gS rfl g0)))) (gS rfl (gS rfl (gS rfl g0))) (gS rfl (gS rfl g0)) (gS rfl g0) (fun g => ?_)
                exact hK41 ((p0)) _ _ (by omega) ⟨g, p0, r + a, rfl, rfl, hq2, hup, hnb, V41⟩
            · skip
              have hqH : q < 4294967296 := by have := of_decide_eq_false q44; omega
              have hqb : q * b ≤ 4294967295 * 4294967295 := Nat.mul_le_mul (by omega) (by omega)
              have heq := half_eq q Y a b R r hYab hq
              refine l_gstep (j := 2) (t := 104) (by exact rfl) (by exact rfl) (et g0 rfl) (by decide) (y_moveV (et (gS rfl (gS rfl (gS rfl (gS rfl g0)))) rfl)) ?_
              refine l_gstep (j := 2) (t := 104) (by exact rfl) (by exact rfl) (et (gS rfl g0) rfl) (by decide) (y_moveV (et (gS rfl (gS rfl (gS rfl (gS rfl (gS rfl (gS rfl (gS rfl (gS rfl (gS rfl (gS rfl g0)))))))))) rfl)) ?_
              refine l_gstep (j := 2) (t := 104) (by exact rfl) (by exact rfl) (et (gS rfl (gS rfl g0)) rfl) (by decide) (y_mul (et (gS rfl g0) rfl) (et g0 rfl) (wrapU_mulN uk64 ?_)) ?_
              omega
              refine l_gstep (j := 2) (t := 104) (by exact rfl) (by exact rfl) (et (gS rfl (gS rfl (gS rfl g0))) rfl) (by decide) (y_moveV (et (gS rfl (gS rfl (gS rfl (gS rfl (gS rfl (gS rfl (gS rfl (gS rfl (gS rfl g0))))))))) rfl)) ?_
              refine l_gstep (j := 2) (t := 104) (by exact rfl) (by exact rfl) (et (gS rfl (gS rfl (gS rfl (gS rfl g0)))) rfl) (by decide) (y_mul rfl (et g0 rfl) (wrapU_mulN (a := 4294967296) uk64 ?_)) ?_
              omega
              refine l_gstep (j := 2) (t := 104) (by exact rfl) (by exact rfl) (et (gS rfl (gS rfl (gS rfl (gS rfl (gS rfl g0))))) rfl) (by decide) (y_moveV (et (gS rfl (gS rfl (gS rfl (gS rfl (gS rfl (gS rfl (gS rfl (gS rfl (gS rfl (gS rfl (gS rfl (gS rfl (gS rfl g0))))))))))))) rfl)) ?_
              refine l_gstep (j := 2) (t := 104) (by exact rfl) (by exact rfl) (et (gS rfl (gS rfl (gS rfl (gS rfl (gS rfl (gS rfl g0)))))) rfl) (by decide) (y_add (et (gS rfl g0) rfl) (et g0 rfl) (wrapU_addN uk64 ?_)) ?_
              omega
              refine l_gstep (j := 2) (t := 104) (by exact rfl) (by exact rfl) (et (gS rfl (gS rfl (gS rfl (gS rfl (gS rfl (gS rfl (gS rfl g0))))))) rfl) (by decide) (y_gtr (et (gS rfl (gS rfl (gS rfl (gS rfl g0)))) rfl) (et g0 rfl)) ?_
              refine l_step (y_pickF (et (gS rfl (gS rfl (gS rfl (gS rfl (gS rfl (gS rfl (gS rfl (gS rfl g0)))))))) rfl) (et g0 rfl)) ?_
              refine l_nil ?_
              refine hK43 _ _ ?_
              refine fg10 2 8 9 10 14 15 16 17 18 113 (gS rfl (gS rfl (gS rfl (gS rfl (gS rfl (gS rfl (gS rfl (gS rfl (gS rfl (gS rfl (gS rfl (gS rfl (gS rfl (gS rfl (gS rfl (gS rfl (gS rfl (gS rfl (gS rfl (gS rfl (gS rfl g0))))))))))))))))))))) (gS rfl (gS rfl (gS rfl (gS rfl (gS rfl (gS rfl (gS rfl (gS rfl (gS rfl (gS rfl (gS rfl (gS rfl (gS rfl (gS rfl (gS rfl (gS rfl (gS rfl (gS rfl (gS rfl (gS rfl g0)))))))))))))))))))) (gS rfl (gS rfl (gS rfl (gS rfl (gS rfl (gS rfl (gS rfl (gS rfl (gS rfl (gS rfl (gS rfl (gS rfl (gS rfl (gS rfl (gS rfl (gS rfl (gS rfl (gS rfl (gS rfl g0))))))))))))))))))) (gS rfl (gS rfl (gS rfl (gS rfl (gS rfl (gS rfl (gS rfl (gS rfl (gS rfl (gS rfl (gS rfl (gS rfl (gS rfl (gS rfl (gS rfl (gS rfl (gS rfl (gS rfl g0)))))))))))))))))) (gS rfl (gS rfl (gS rfl (gS rfl (gS rfl (gS rfl (gS rfl (gS rfl (gS rfl (gS rfl (gS rfl (gS rfl (gS rfl (gS rfl (gS rfl (gS rfl (gS rfl g0))))))))))))))))) (gS rfl (gS rfl (gS rfl (gS rfl (gS rfl (gS rfl (gS rfl (gS rfl (gS rfl (gS rfl (gS rfl (gS rfl (gS rfl (gS rfl (gS rfl (gS rfl g0)))))))))))))))) (gS rfl (gS rfl (gS rfl (gS rfl (gS rfl (gS rfl (gS rfl (gS rfl (gS rfl (gS rfl (gS rfl (gS rfl (gS rfl (gS rfl (gS rfl g0))))))))))))))) (gS rfl (gS rfl (gS rfl (gS rfl (gS rfl (gS rfl (gS rfl (gS rfl (gS rfl (gS rfl (gS rfl (gS rfl (gS rfl (gS rfl g0)))))))))))))) (gS rfl (gS rfl (gS rfl (gS rfl (gS rfl (gS rfl (gS rfl (gS rfl (gS rfl (gS rfl (gS rfl (gS rfl (gS rfl g0))))))))))))) g0 (fun g => ?_)
              refine c_cond (et g0 rfl) (fun cB6 => ?_) (fun cB6 => ?_)
              · skip
                
                have hgt : (R * 4294967296 + u0) < q * Y := half_gt heq cB6
                refine c_skip ?_
                refine hK42 _ _ ?_
                refine fg9 2 8 9 10 14 15 16 17 18 (gS rfl (gS rfl (gS rfl (gS rfl (gS rfl (gS rfl (gS rfl (gS rfl (gS rfl g0))))))))) (gS rfl (gS rfl (gS rfl (gS rfl (gS rfl (gS rfl (gS rfl (gS rfl g0)))))))) (gS rfl (gS rfl (gS rfl (gS rfl (gS rfl (gS rfl (gS rfl g0))))))) (gS rfl (gS rfl (gS rfl (gS rfl (gS rfl (gS rfl g0)))))) (gS rfl (gS rfl (gS rfl (gS rfl (gS rfl g0))))) (gS rfl (gS rfl (gS rfl (gS rfl g0)))) (gS rfl (gS rfl (gS rfl g0))) (gS rfl (gS rfl g0)) (gS rfl g0) (fun g => ?_)
                refine c_block (fun Q53 hQ53 => ?_)
                refine c_seq (fun K54 hK54 => ?_)
                refine c_region ?_
                refine l_step (y_moveV (et g0 rfl)) ?_
                have hq0 : q ≠ 0 := fun h0 => by rw [h0, Nat.zero_mul] at hgt; omega
                obtain ⟨p0, rfl⟩ : ∃ p, q = p + 1 := ⟨q - 1, by omega⟩
                have hup : (R * 4294967296 + u0) < (p0 + 1) * Y := hgt
                have hq2 : p0 * a + (r + a) = R := by rw [Nat.add_mul] at hq; omega
                refine l_step (y_sub (et g0 rfl) rfl (subOne ?_)) ?_
                omega
                refine l_step (y_assignV (et g0 rfl)) ?_
                refine l_nil ?_
                refine hK54 _ _ ?_
                refine fg9 2 8 9 10 14 15 16 17 18 (gS rfl (gS rfl (gS rfl (gS rfl (gS rfl (gS rfl (gS rfl (gS rfl (gS rfl (gS rfl (gS rfl g0))))))))))) (gS rfl (gS rfl (gS rfl (gS rfl (gS rfl (gS rfl (gS rfl (gS rfl (gS rfl (gS rfl g0)))))))))) (gS rfl (gS rfl (gS rfl (gS rfl (gS rfl (gS rfl (gS rfl (gS rfl (gS rfl g0))))))))) (gS rfl (gS rfl (gS rfl (gS rfl (gS rfl (gS rfl (gS rfl (gS rfl g0)))))))) (gS rfl (gS rfl (gS rfl (gS rfl (gS rfl (gS rfl (gS rfl g0))))))) (gS rfl (gS rfl (gS rfl (gS rfl (gS rfl (gS rfl g0)))))) (gS rfl (gS rfl (gS rfl (gS rfl (gS rfl g0))))) (gS rfl (gS rfl (gS rfl (gS rfl g0)))) g0 (fun g => ?_)
                refine c_seq (fun K55 hK55 => ?_)
                refine c_region ?_
                refine l_step (y_moveV (et (gS rfl (gS rfl g0)) rfl)) ?_
                refine l_step (y_moveV (et (gS rfl (gS rfl (gS rfl (gS rfl (gS rfl (gS rfl (gS rfl g0))))))) rfl)) ?_
                refine l_step (y_add (et (gS rfl g0) rfl) (et g0 rfl) (wrapU_addN uk64 ?_)) ?_
                omega
                refine l_step (y_assignV (et g0 rfl)) ?_
                refine l_nil ?_
                refine hK55 _ _ ?_
                refine fg9 2 8 9 10 14 15 16 17 18 (gS rfl (gS rfl (gS rfl (gS rfl (gS rfl (gS rfl (gS rfl (gS rfl (gS rfl (gS rfl (gS rfl (gS rfl g0)))))))))))) (gS rfl (gS rfl (gS rfl (gS rfl (gS rfl (gS rfl (gS rfl (gS rfl (gS rfl (gS rfl (gS rfl g0))))))))))) (gS rfl (gS rfl (gS rfl (gS rfl (gS rfl (gS rfl (gS rfl (gS rfl (gS rfl (gS rfl g0)))))))))) (gS rfl (gS rfl (gS rfl (gS rfl (gS rfl (gS rfl (gS rfl (gS rfl (gS rfl g0))))))))) (gS rfl (gS rfl (gS rfl (gS rfl (gS rfl (gS rfl (gS rfl (gS rfl g0)))))))) (gS rfl (gS rfl (gS rfl (gS rfl (gS rfl (gS rfl (gS rfl g0))))))) g0 (gS rfl (gS rfl (gS rfl (gS rfl (gS rfl g0))))) (gS rfl (gS rfl (gS rfl (gS rfl g0)))) (fun g => ?_)
                refine c_seq (fun K56 hK56 => ?_)
                refine c_region ?_
                refine l_step (y_moveV (et (gS rfl (gS rfl g0)) rfl)) ?_
                refine l_step (y_geq (et g0 rfl) rfl) ?_
                refine l_nil ?_
                refine hK56 _ _ ?_
                refine fg10 2 8 9 10 14 15 16 17 18 120 (gS rfl (gS rfl (gS rfl (gS rfl (gS rfl (gS rfl (gS rfl (gS rfl (gS rfl (gS rfl g0)))))))))) (gS rfl (gS rfl (gS rfl (gS rfl (gS rfl (gS rfl (gS rfl (gS rfl (gS rfl g0))))))))) (gS rfl (gS rfl (gS rfl (gS rfl (gS rfl (gS rfl (gS rfl (gS rfl g0)))))))) (gS rfl (gS rfl (gS rfl (gS rfl (gS rfl (gS rfl (gS rfl g0))))))) (gS rfl (gS rfl (gS rfl (gS rfl (gS rfl (gS rfl g0)))))) (gS rfl (gS rfl (gS rfl (gS rfl (gS rfl g0))))) (gS rfl (gS rfl (gS rfl (gS rfl g0)))) (gS rfl (gS rfl (gS rfl g0))) (gS rfl (gS rfl g0)) g0 (fun g => ?_)
                refine c_cond (et g0 rfl) (fun cB7 => ?_) (fun cB7 => ?_)
                · skip
                  
                  have hbrk : 4294967296 ≤ r + a := by have := of_decide_eq_true cB7; omega
                  have hp0l := half_brk p0 a b (r + a) R Y hYab hb2 hq2 hRl hbrk
                  have hle := half_le p0 a b (r + a) R Y u0 hYab hb2 hq2 hp0l hbrk
                  obtain ⟨R2, hR2⟩ : ∃ Z, (R * 4294967296 + u0) = p0 * Y + Z := Nat.exists_eq_add_of_le hle
                  have hR2l : R2 < Y := by rw [Nat.add_mul] at hup; omega
                  refine c_exit ?_
                  refine hQ53 _ _ _ (in_past (by decide) ?_)
                  refine hQ40 _ _ _ (in_exit ?_)
                  refine hK39 _ _ ?_
                  refine fg6 2 8 14 15 17 18 (gS rfl (gS rfl (gS rfl (gS rfl (gS rfl (gS rfl (gS rfl (gS rfl (gS rfl g0))))))))) (gS rfl (gS rfl (gS rfl (gS rfl (gS rfl (gS rfl (gS rfl (gS rfl g0)))))))) (gS rfl (gS rfl (gS rfl (gS rfl (gS rfl g0))))) (gS rfl (gS rfl (gS rfl (gS rfl g0)))) (gS rfl (gS rfl g0)) (gS rfl g0) (fun g => ?_)
                  refine c_seq (fun K58 hK58 => ?_)
                  refine c_region ?_
                  refine l_step (y_moveV (et (gS rfl (gS rfl g0)) rfl)) ?_
                  refine l_step (y_mul (et g0 rfl) rfl (wrapU_mulN (b := 4294967296) uk64 ?_)) ?_
                  exact mulH hpl
                  refine l_step (y_moveV (et (gS rfl (gS rfl g0)) rfl)) ?_
                  refine l_step (y_add (et (gS rfl g0) rfl) (et g0 rfl) (wrapU_addN uk64 ?_)) ?_
                  exact mulAH hpl hp0l
                  refine l_step (y_moveV (et (gS rfl (gS rfl (gS rfl (gS rfl (gS rfl g0))))) rfl)) ?_
                  refine l_step (y_mul (et g0 rfl) rfl (wrapU_mul (b := 4294967296) uk64)) ?_
                  refine l_step (y_moveV (et (gS rfl (gS rfl (gS rfl (gS rfl (gS rfl (gS rfl (gS rfl (gS rfl (gS rfl g0))))))))) rfl)) ?_
                  refine l_step (y_add (et (gS rfl g0) rfl) (et g0 rfl) (addM rfl)) ?_
                  refine l_step (y_moveV (et (gS rfl (gS rfl (gS rfl (gS rfl (gS rfl (gS rfl (gS rfl (gS rfl g0)))))))) rfl)) ?_
                  refine l_step (y_moveV (et (gS rfl (gS rfl (gS rfl (gS rfl (gS rfl (gS rfl (gS rfl (gS rfl (gS rfl (gS rfl (gS rfl (gS rfl (gS rfl (gS rfl g0)))))))))))))) rfl)) ?_
                  refine l_step (y_mul (et (gS rfl g0) rfl) (et g0 rfl) (wrapU_mul uk64)) ?_
                  refine l_step (y_sub (et (gS rfl (gS rfl (gS rfl g0))) rfl) (et g0 rfl) (subM hR2 ?_)) ?_
                  omega
                  refine l_step (y_moveV (et (gS rfl (gS rfl (gS rfl (gS rfl (gS rfl (gS rfl (gS rfl (gS rfl (gS rfl (gS rfl (gS rfl (gS rfl (gS rfl (gS rfl (gS rfl (gS rfl g0)))))))))))))))) rfl)) ?_
                  refine l_step (y_shr (et (gS rfl g0) rfl) (et g0 rfl) ?_ (shrV ?_)) ?_
                  omega
                  omega
                  refine l_step (y_assignV (et (gS rfl (gS rfl (gS rfl (gS rfl (gS rfl (gS rfl (gS rfl (gS rfl (gS rfl (gS rfl g0)))))))))) rfl)) ?_
                  refine l_step (y_assignV (et (gS rfl g0) rfl)) ?_
                  refine l_nil ?_
                  refine hK58 _ _ ?_
                  refine fg2 6 7 (gS rfl g0) g0 (fun g => ?_)
                  refine c_ret ?_
                  refine ret2 rfl (res_tmp (et (gS rfl g0) rfl)) (res_tmp (et g0 rfl)) ?_
                  refine ⟨?_, U⟩
                  obtain ⟨f1, f2⟩ := div_fin2 hi lo y sh A u10 u1 u0 p R p0 R2 Y hy0 hN hY hu1 hu0 hR hR2 hR2l
                  rw [f1, f2]
                · skip
                  
                  have hnb : r + a < 4294967296 := by have := of_decide_eq_false cB7; omega
                  refine c_skip ?_
                  refine hQ53 _ _ _ (in_normal ?_)
                  refine fK9 2 8 9 10 14 15 16 17 18 (gS rfl (gS rfl (gS rfl (gS rfl (gS rfl (gS rfl (gS rfl (gS rfl (gS rfl g0))))))))) (gS rfl (gS rfl (gS rfl (gS rfl (gS rfl (gS rfl (gS rfl (gS rfl g0)))))))) (gS rfl (gS rfl (gS rfl (gS rfl (gS rfl (gS rfl (gS rfl g0))))))) (gS rfl (gS rfl (gS rfl (gS rfl (gS rfl (gS rfl g0)))))) (gS rfl (gS rfl (gS rfl (gS rfl (gS rfl g0))))) (gS rfl (gS rfl (gS rfl (gS rfl g0)))) (gS rfl (gS rfl (gS rfl g0))) (gS rfl (gS rfl g0)) (gS rfl g0) (fun g => ?_)
                  exact hK41 ((p0)) _ _ (by omega) ⟨g, p0, r + a, rfl, rfl, hq2, hup, hnb, V41⟩
              · skip
                
                have hle : q * Y ≤ (R * 4294967296 + u0) := half_ngt heq cB6
                obtain ⟨p0, rfl⟩ : ∃ p, p = q := ⟨_, rfl⟩
                have hp0l : p0 < 4294967296 := hqH
                obtain ⟨R2, hR2⟩ : ∃ Z, (R * 4294967296 + u0) = p0 * Y + Z := Nat.exists_eq_add_of_le hle
                have hR2l : R2 < Y := by rw [Nat.add_mul] at hup; omega
                refine c_exit ?_
                refine hQ40 _ _ _ (in_exit ?_)
                refine hK39 _ _ ?_
                refine fg6 2 8 14 15 17 18 (gS rfl (gS rfl (gS rfl (gS rfl (gS rfl (gS rfl (gS rfl (gS rfl (gS rfl g0))))))))) (gS rfl (gS rfl (gS rfl (gS rfl (gS rfl (gS rfl (gS rfl (gS rfl g0)))))))) (gS rfl (gS rfl (gS rfl (gS rfl (gS rfl g0))))) (gS rfl (gS rfl (gS rfl (gS rfl g0)))) (gS rfl (gS rfl g0)) (gS rfl g0) (fun g => ?_)
                refine c_seq (fun K59 hK59 => ?_)
                refine c_region ?_
                refine l_step (y_moveV (et (gS rfl (gS rfl g0)) rfl)) ?_
                refine l_step (y_mul (et g0 rfl) rfl (wrapU_mulN (b := 4294967296) uk64 ?_)) ?_
                exact mulH hpl
                refine l_step (y_moveV (et (gS rfl (gS rfl g0)) rfl)) ?_
                refine l_step (y_add (et (gS rfl g0) rfl) (et g0 rfl) (wrapU_addN uk64 ?_)) ?_
                exact mulAH hpl hp0l
                refine l_step (y_moveV (et (gS rfl (gS rfl (gS rfl (gS rfl (gS rfl g0))))) rfl)) ?_
                refine l_step (y_mul (et g0 rfl) rfl (wrapU_mul (b := 4294967296) uk64)) ?_
                refine l_step (y_moveV (et (gS rfl (gS rfl (gS rfl (gS rfl (gS rfl (gS rfl (gS rfl (gS rfl (gS rfl g0))))))))) rfl)) ?_
                refine l_step (y_add (et (gS rfl g0) rfl) (et g0 rfl) (addM rfl)) ?_
                refine l_step (y_moveV (et (gS rfl (gS rfl (gS rfl (gS rfl (gS rfl (gS rfl (gS rfl (gS rfl g0)))))))) rfl)) ?_
                refine l_step (y_moveV (et (gS rfl (gS rfl (gS rfl (gS rfl (gS rfl (gS rfl (gS rfl (gS rfl (gS rfl (gS rfl (gS rfl (gS rfl (gS rfl (gS rfl g0)))))))))))))) rfl)) ?_
                refine l_step (y_mul (et (gS rfl g0) rfl) (et g0 rfl) (wrapU_mul uk64)) ?_
                refine l_step (y_sub (et (gS rfl (gS rfl (gS rfl g0))) rfl) (et g0 rfl) (subM hR2 ?_)) ?_
                omega
                refine l_step (y_moveV (et (gS rfl (gS rfl (gS rfl (gS rfl (gS rfl (gS rfl (gS rfl (gS rfl (gS rfl (gS rfl (gS rfl (gS rfl (gS rfl (gS rfl (gS rfl (gS rfl g0)))))))))))))))) rfl)) ?_
                refine l_step (y_shr (et (gS rfl g0) rfl) (et g0 rfl) ?_ (shrV ?_)) ?_
                omega
                omega
                refine l_step (y_assignV (et (gS rfl (gS rfl (gS rfl (gS rfl (gS rfl (gS rfl (gS rfl (gS rfl (gS rfl (gS rfl g0)))))))))) rfl)) ?_
                refine l_step (y_assignV (et (gS rfl g0) rfl)) ?_
                refine l_nil ?_
                refine hK59 _ _ ?_
                refine fg2 6 7 (gS rfl g0) g0 (fun g => ?_)
                refine c_ret ?_
                refine ret2 rfl (res_tmp (et (gS rfl g0) rfl)) (res_tmp (et g0 rfl)) ?_
                refine ⟨?_, U⟩
                obtain ⟨f1, f2⟩ := div_fin2 hi lo y sh A u10 u1 u0 p R p0 R2 Y hy0 hN hY hu1 hu0 hR hR2 hR2l
                rw [f1, f2]
        · skip
          
          have hnb : r + a < 4294967296 := by have := of_decide_eq_false cB5; omega
          refine c_skip ?_
          refine hQ31 _ _ _ (in_normal ?_)
          refine fK9 2 8 9 10 11 13 14 15 16 (gS rfl (gS rfl (gS rfl (gS rfl (gS rfl (gS rfl (gS rfl (gS rfl (gS rfl g0))))))))) (gS rfl (gS rfl (gS rfl (gS rfl (gS rfl (gS rfl (gS rfl (gS rfl g0)))))))) (gS rfl (gS rfl (gS rfl (gS rfl (gS rfl (gS rfl (gS rfl g0))))))) (gS rfl (gS rfl (gS rfl (gS rfl (gS rfl (gS rfl g0)))))) (gS rfl (gS rfl (gS rfl (gS rfl (gS rfl g0))))) (gS rfl (gS rfl (gS rfl (gS rfl g0)))) (gS rfl (gS rfl (gS rfl g0))) (gS rfl (gS rfl g0)) (gS rfl g0) (fun g => ?_)
          exact hK26 ((p)) _ _ (by omega) ⟨g, p, r + a, rfl, rfl, hq2, hup, hnb, V26⟩
      · skip
        have hqH : q < 4294967296 := by have := of_decide_eq_false q29; omega
        have hqb : q * b ≤ 4294967295 * 4294967295 := Nat.mul_le_mul (by omega) (by omega)
        have heq := half_eq q Y a b A r hYab hq
        refine l_gstep (j := 2) (t := 69) (by exact rfl) (by exact rfl) (et g0 rfl) (by decide) (y_moveV (et (gS rfl (gS rfl (gS rfl (gS rfl (gS rfl g0))))) rfl)) ?_
        refine l_gstep (j := 2) (t := 69) (by exact rfl) (by exact rfl) (et (gS rfl g0) rfl) (by decide) (y_moveV (et (gS rfl (gS rfl (gS rfl (gS rfl (gS rfl (gS rfl (gS rfl (gS rfl (gS rfl (gS rfl g0)))))))))) rfl)) ?_
        refine l_gstep (j := 2) (t := 69) (by exact rfl) (by exact rfl) (et (gS rfl (gS rfl g0)) rfl) (by decide) (y_mul (et (gS rfl g0) rfl) (et g0 rfl) (wrapU_mulN uk64 ?_)) ?_
        omega
        refine l_gstep (j := 2) (t := 69) (by exact rfl) (by exact rfl) (et (gS rfl (gS rfl (gS rfl g0))) rfl) (by decide) (y_moveV (et (gS rfl (gS rfl (gS rfl (gS rfl (gS rfl (gS rfl (gS rfl g0))))))) rfl)) ?_
        refine l_gstep (j := 2) (t := 69) (by exact rfl) (by exact rfl) (et (gS rfl (gS rfl (gS rfl (gS rfl g0)))) rfl) (by decide) (y_mul rfl (et g0 rfl) (wrapU_mulN (a := 4294967296) uk64 ?_)) ?_
        omega
        refine l_gstep (j := 2) (t := 69) (by exact rfl) (by exact rfl) (et (gS rfl (gS rfl (gS rfl (gS rfl (gS rfl g0))))) rfl) (by decide) (y_moveV (et (gS rfl (gS rfl (gS rfl (gS rfl (gS rfl (gS rfl (gS rfl (gS rfl (gS rfl (gS rfl (gS rfl (gS rfl g0)))))))))))) rfl)) ?_
        refine l_gstep (j := 2) (t := 69) (by exact rfl) (by exact rfl) (et (gS rfl (gS rfl (gS rfl (gS rfl (gS rfl (gS rfl g0)))))) rfl) (by decide) (y_add (et (gS rfl g0) rfl) (et g0 rfl) (wrapU_addN uk64 ?_)) ?_
        omega
        refine l_gstep (j := 2) (t := 69) (by exact rfl) (by exact rfl) (et (gS rfl (gS rfl (gS rfl (gS rfl (gS rfl (gS rfl (gS rfl g0))))))) rfl) (by decide) (y_gtr (et (gS rfl (gS rfl (gS rfl (gS rfl g0)))) rfl) (et g0 rfl)) ?_
        refine l_step (y_pickF (et (gS rfl (gS rfl (gS rfl (gS rfl (gS rfl (gS rfl (gS rfl (gS rfl g0)))))))) rfl) (et g0 rfl)) ?_
        refine l_nil ?_
        refine hK28 _ _ ?_
        refine fg10 2 8 9 10 11 13 14 15 16 78 (gS rfl (gS rfl (gS rfl (gS rfl (gS rfl (gS rfl (gS rfl (gS rfl (gS rfl (gS rfl (gS rfl (gS rfl (gS rfl (gS rfl (gS rfl (gS rfl (gS rfl (gS rfl (gS rfl (gS rfl (gS rfl g0))))))))))))))))))))) (gS rfl (gS rfl (gS rfl (gS rfl (gS rfl (gS rfl (gS rfl (gS rfl (gS rfl (gS rfl (gS rfl (gS rfl (gS rfl (gS rfl (gS rfl (gS rfl (gS rfl (gS rfl (gS rfl (gS rfl g0)))))))))))))))))))) (gS rfl (gS rfl (gS rfl (gS rfl (gS rfl (gS rfl (gS rfl (gS rfl (gS rfl (gS rfl (gS rfl (gS rfl (gS rfl (gS rfl (gS rfl (gS rfl (gS rfl (gS rfl (gS rfl g0))))))))))))))))))) (gS rfl (gS rfl (gS rfl (gS rfl (gS rfl (gS rfl (gS rfl (gS rfl (gS rfl (gS rfl (gS rfl (gS rfl (gS rfl (gS rfl (gS rfl (gS rfl (gS rfl (gS rfl g0)))))))))))))))))) (gS rfl (gS rfl (gS rfl (gS rfl (gS rfl (gS rfl (gS rfl (gS rfl (gS rfl (gS rfl (gS rfl (gS rfl (gS rfl (gS rfl (gS rfl (gS rfl (gS rfl g0))))))))))))))))) (gS rfl (gS rfl (gS rfl (gS rfl (gS rfl (gS rfl (gS rfl (gS rfl (gS rfl (gS rfl (gS rfl (gS rfl (gS rfl (gS rfl (gS rfl (gS rfl g0)))))))))))))))) (gS rfl (gS rfl (gS rfl (gS rfl (gS rfl (gS rfl (gS rfl (gS rfl (gS rfl (gS rfl (gS rfl (gS rfl (gS rfl (gS rfl (gS rfl g0))))))))))))))) (gS rfl (gS rfl (gS rfl (gS rfl (gS rfl (gS rfl (gS rfl (gS rfl (gS rfl (gS rfl (gS rfl (gS rfl (gS rfl (gS rfl g0)))))))))))))) (gS rfl (gS rfl (gS rfl (gS rfl (gS rfl (gS rfl (gS rfl (gS rfl (gS rfl (gS rfl (gS rfl (gS rfl (gS rfl g0))))))))))))) g0 (fun g => ?_)
        refine c_cond (et g0 rfl) (fun cB4 => ?_) (fun cB4 => ?_)
        · skip
          
          have hgt : (A * 4294967296 + u1) < q * Y := half_gt heq cB4
          refine c_skip ?_
          refine hK27 _ _ ?_
          refine fg9 2 8 9 10 11 13 14 15 16 (gS rfl (gS rfl (gS rfl (gS rfl (gS rfl (gS rfl (gS rfl (gS rfl (gS rfl g0))))))))) (gS rfl (gS rfl (gS rfl (gS rfl (gS rfl (gS rfl (gS rfl (gS rfl g0)))))))) (gS rfl (gS rfl (gS rfl (gS rfl (gS rfl (gS rfl (gS rfl g0))))))) (gS rfl (gS rfl (gS rfl (gS rfl (gS rfl (gS rfl g0)))))) (gS rfl (gS rfl (gS rfl (gS rfl (gS rfl g0))))) (gS rfl (gS rfl (gS rfl (gS rfl g0)))) (gS rfl (gS rfl (gS rfl g0))) (gS rfl (gS rfl g0)) (gS rfl g0) (fun g => ?_)
          refine c_block (fun Q61 hQ61 => ?_)
          refine c_seq (fun K62 hK62 => ?_)
          refine c_region ?_
          refine l_step (y_moveV (et (gS rfl g0) rfl)) ?_
          have hq0 : q ≠ 0 := fun h0 => by rw [h0, Nat.zero_mul] at hgt; omega
          obtain ⟨p, rfl⟩ : ∃ p, q = p + 1 := ⟨q - 1, by omega⟩
          have hup : (A * 4294967296 + u1) < (p + 1) * Y := hgt
          have hq2 : p * a + (r + a) = A := by rw [Nat.add_mul] at hq; omega
          refine l_step (y_sub (et g0 rfl) rfl (subOne ?_)) ?_
          omega
          refine l_step (y_assignV (et g0 rfl)) ?_
          refine l_nil ?_
          refine hK62 _ _ ?_
          refine fg9 2 8 9 10 11 13 14 15 16 (gS rfl (gS rfl (gS rfl (gS rfl (gS rfl (gS rfl (gS rfl (gS rfl (gS rfl (gS rfl (gS rfl g0))))))))))) (gS rfl (gS rfl (gS rfl (gS rfl (gS rfl (gS rfl (gS rfl (gS rfl (gS rfl (gS rfl g0)))))))))) (gS rfl (gS rfl (gS rfl (gS rfl (gS rfl (gS rfl (gS rfl (gS rfl (gS rfl g0))))))))) (gS rfl (gS rfl (gS rfl (gS rfl (gS rfl (gS rfl (gS rfl (gS rfl g0)))))))) (gS rfl (gS rfl (gS rfl (gS rfl (gS rfl (gS rfl (gS rfl g0))))))) (gS rfl (gS rfl (gS rfl (gS rfl (gS rfl (gS rfl g0)))))) (gS rfl (gS rfl (gS rfl (gS rfl (gS rfl g0))))) g0 (gS rfl (gS rfl (gS rfl g0))) (fun g => ?_)
          refine c_seq (fun K63 hK63 => ?_)
          refine c_region ?_
          refine l_step (y_moveV (et g0 rfl)) ?_
          refine l_step (y_moveV (et (gS rfl (gS rfl (gS rfl (gS rfl (gS rfl (gS rfl (gS rfl g0))))))) rfl)) ?_
          refine l_step (y_add (et (gS rfl g0) rfl) (et g0 rfl) (wrapU_addN uk64 ?_)) ?_
          omega
          refine l_step (y_assignV (et g0 rfl)) ?_
          refine l_nil ?_
          refine hK63 _ _ ?_
          refine fg9 2 8 9 10 11 13 14 15 16 (gS rfl (gS rfl (gS rfl (gS rfl (gS rfl (gS rfl (gS rfl (gS rfl (gS rfl (gS rfl (gS rfl (gS rfl g0)))))))))))) (gS rfl (gS rfl (gS rfl (gS rfl (gS rfl (gS rfl (gS rfl (gS rfl (gS rfl (gS rfl (gS rfl g0))))))))))) (gS rfl (gS rfl (gS rfl (gS rfl (gS rfl (gS rfl (gS rfl (gS rfl (gS rfl (gS rfl g0)))))))))) (gS rfl (gS rfl (gS rfl (gS rfl (gS rfl (gS rfl (gS rfl (gS rfl (gS rfl g0))))))))) (gS rfl (gS rfl (gS rfl (gS rfl (gS rfl (gS rfl (gS rfl (gS rfl g0)))))))) (gS rfl (gS rfl (gS rfl (gS rfl (gS rfl (gS rfl (gS rfl g0))))))) (gS rfl (gS rfl (gS rfl (gS rfl (gS rfl (gS rfl g0)))))) (gS rfl (gS rfl (gS rfl (gS rfl (gS rfl g0))))) g0 (fun g => ?_)
          refine c_seq (fun K64 hK64 => ?_)
          refine c_region ?_
          refine l_step (y_moveV (et g0 rfl)) ?_
          refine l_step (y_geq (et g0 rfl) rfl) ?_
          refine l_nil ?_
          refine hK64 _ _ ?_
          refine fg10 2 8 9 10 11 13 14 15 16 85 (gS rfl (gS rfl (gS rfl (gS rfl (gS rfl (gS rfl (gS rfl (gS rfl (gS rfl (gS rfl g0)))))))))) (gS rfl (gS rfl (gS rfl (gS rfl (gS rfl (gS rfl (gS rfl (gS rfl (gS rfl g0))))))))) (gS rfl (gS rfl (gS rfl (gS rfl (gS rfl (gS rfl (gS rfl (gS rfl g0)))))))) (gS rfl (gS rfl (gS rfl (gS rfl (gS rfl (gS rfl (gS rfl g0))))))) (gS rfl (gS rfl (gS rfl (gS rfl (gS rfl (gS rfl g0)))))) (gS rfl (gS rfl (gS rfl (gS rfl (gS rfl g0))))) (gS rfl (gS rfl (gS rfl (gS rfl g0)))) (gS rfl (gS rfl (gS rfl g0))) (gS rfl (gS rfl g0)) g0 (fun g => ?_)
          refine c_cond (et g0 rfl) (fun cB5 => ?_) (fun cB5 => ?_)
          · skip
            
            have hbrk : 4294967296 ≤ r + a := by have := of_decide_eq_true cB5; omega
            have hpl := half_brk p a b (r + a) A Y hYab hb2 hq2 hAY hbrk
            have hle := half_le p a b (r + a) A Y u1 hYab hb2 hq2 hpl hbrk
            obtain ⟨R, hR⟩ : ∃ Z, (A * 4294967296 + u1) = p * Y + Z := Nat.exists_eq_add_of_le hle
            have hRl : R < Y := by rw [Nat.add_mul] at hup; omega
            refine c_exit ?_
            refine hQ61 _ _ _ (in_past (by decide) ?_)
            refine hQ25 _ _ _ (in_exit ?_)
            refine hK24 _ _ ?_
            refine fg8 2 8 9 10 11 13 14 15 (gS rfl (gS rfl (gS rfl (gS rfl (gS rfl (gS rfl (gS rfl (gS rfl (gS rfl g0))))))))) (gS rfl (gS rfl (gS rfl (gS rfl (gS rfl (gS rfl (gS rfl (gS rfl g0)))))))) (gS rfl (gS rfl (gS rfl (gS rfl (gS rfl (gS rfl (gS rfl g0))))))) (gS rfl (gS rfl (gS rfl (gS rfl (gS rfl (gS rfl g0)))))) (gS rfl (gS rfl (gS rfl (gS rfl (gS rfl g0))))) (gS rfl (gS rfl (gS rfl (gS rfl g0)))) (gS rfl (gS rfl (gS rfl g0))) (gS rfl (gS rfl g0)) (fun g => ?_)
            refine c_seq (fun K66 hK66 => ?_)
            refine c_region ?_
            refine l_step (y_moveV (et (gS rfl (gS rfl (gS rfl g0))) rfl)) ?_
            refine l_step (y_mul (et g0 rfl) rfl (wrapU_mul (b := 4294967296) uk64)) ?_
            refine l_step (y_moveV (et (gS rfl (gS rfl (gS rfl (gS rfl g0)))) rfl)) ?_
            refine l_step (y_add (et (gS rfl g0) rfl) (et g0 rfl) (addM rfl)) ?_
            refine l_step (y_moveV (et (gS rfl (gS rfl (gS rfl (gS rfl g0)))) rfl)) ?_
            refine l_step (y_moveV (et (gS rfl (gS rfl (gS rfl (gS rfl (gS rfl (gS rfl (gS rfl (gS rfl (gS rfl (gS rfl (gS rfl (gS rfl g0)))))))))))) rfl)) ?_
            refine l_step (y_mul (et (gS rfl g0) rfl) (et g0 rfl) (wrapU_mul uk64)) ?_
            refine l_step (y_sub (et (gS rfl (gS rfl (gS rfl g0))) rfl) (et g0 rfl) (subM hR ?_)) ?_
            omega
            refine l_step (y_assignV (et g0 rfl)) ?_
            refine l_nil ?_
            refine hK66 _ _ ?_
            refine fg7 2 8 9 10 14 15 17 (gS rfl (gS rfl (gS rfl (gS rfl (gS rfl (gS rfl (gS rfl (gS rfl (gS rfl (gS rfl (gS rfl (gS rfl (gS rfl (gS rfl (gS rfl (gS rfl g0)))))))))))))))) (gS rfl (gS rfl (gS rfl (gS rfl (gS rfl (gS rfl (gS rfl (gS rfl (gS rfl (gS rfl (gS rfl (gS rfl (gS rfl (gS rfl (gS rfl g0))))))))))))))) (gS rfl (gS rfl (gS rfl (gS rfl (gS rfl (gS rfl (gS rfl (gS rfl (gS rfl (gS rfl (gS rfl (gS rfl (gS rfl (gS rfl g0)))))))))))))) (gS rfl (gS rfl (gS rfl (gS rfl (gS rfl (gS rfl (gS rfl (gS rfl (gS rfl (gS rfl (gS rfl (gS rfl (gS rfl g0))))))))))))) (gS rfl (gS rfl (gS rfl (gS rfl (gS rfl (gS rfl (gS rfl (gS rfl (gS rfl (gS rfl g0)))))))))) (gS rfl (gS rfl (gS rfl (gS rfl (gS rfl (gS rfl (gS rfl (gS rfl (gS rfl g0))))))))) g0 (fun g => ?_)
            refine c_seq (fun K67 hK67 => ?_)
            refine c_region ?_
            refine l_step (y_moveV (et g0 rfl)) ?_
            refine l_step (y_moveV (et (gS rfl (gS rfl (gS rfl (gS rfl (gS rfl g0))))) rfl)) ?_
            refine l_step (y_quo (et (gS rfl g0) rfl) (et g0 rfl) (by omega) (quoU uk64 ?_)) ?_
            omega
            refine l_step (y_assignV (et g0 rfl)) ?_
            refine l_nil ?_
            refine hK67 _ _ ?_
            refine fg8 2 8 9 10 14 15 17 18 (gS rfl (gS rfl (gS rfl (gS rfl (gS rfl (gS rfl (gS rfl (gS rfl (gS rfl (gS rfl g0)))))))))) (gS rfl (gS rfl (gS rfl (gS rfl (gS rfl (gS rfl (gS rfl (gS rfl (gS rfl g0))))))))) (gS rfl (gS rfl (gS rfl (gS rfl (gS rfl (gS rfl (gS rfl (gS rfl g0)))))))) (gS rfl (gS rfl (gS rfl (gS rfl (gS rfl (gS rfl (gS rfl g0))))))) (gS rfl (gS rfl (gS rfl (gS rfl (gS rfl (gS rfl g0)))))) (gS rfl (gS rfl (gS rfl (gS rfl (gS rfl g0))))) (gS rfl (gS rfl (gS rfl (gS rfl g0)))) g0 (fun g => ?_)
            refine c_seq (fun K68 hK68 => ?_)
            refine c_region ?_
            refine l_step (y_moveV (et (gS rfl g0) rfl)) ?_
            refine l_step (y_moveV (et (gS rfl g0) rfl)) ?_
            refine l_step (y_moveV (et (gS rfl (gS rfl (gS rfl (gS rfl (gS rfl (gS rfl (gS rfl g0))))))) rfl)) ?_
            refine l_step (y_mul (et (gS rfl g0) rfl) (et g0 rfl) (wrapU_mulN uk64 ?_)) ?_
            (have := Nat.div_mul_le_self R a; omega)
            refine l_step (y_sub (et (gS rfl (gS rfl (gS rfl g0))) rfl) (et g0 rfl) (wrapU_subN uk64 ?_ ?_)) ?_
            exact Nat.div_mul_le_self R a
            omega
            refine l_step (y_assignV (et g0 rfl)) ?_
            refine l_nil ?_
            refine hK68 _ _ ?_
            refine fg9 2 8 9 10 14 15 17 18 16 (gS rfl (gS rfl (gS rfl (gS rfl (gS rfl (gS rfl (gS rfl (gS rfl (gS rfl (gS rfl (gS rfl (gS rfl (gS rfl g0))))))))))))) (gS rfl (gS rfl (gS rfl (gS rfl (gS rfl (gS rfl (gS rfl (gS rfl (gS rfl (gS rfl (gS rfl (gS rfl g0)))))))))))) (gS rfl (gS rfl (gS rfl (gS rfl (gS rfl (gS rfl (gS rfl (gS rfl (gS rfl (gS rfl (gS rfl g0))))))))))) (gS rfl (gS rfl (gS rfl (gS rfl (gS rfl (gS rfl (gS rfl (gS rfl (gS rfl (gS rfl g0)))))))))) (gS rfl (gS rfl (gS rfl (gS rfl (gS rfl (gS rfl (gS rfl (gS rfl (gS rfl g0))))))))) (gS rfl (gS rfl (gS rfl (gS rfl (gS rfl (gS rfl (gS rfl (gS rfl g0)))))))) (gS rfl (gS rfl (gS rfl (gS rfl (gS rfl (gS rfl (gS rfl g0))))))) (gS rfl (gS rfl (gS rfl (gS rfl (gS rfl (gS rfl g0)))))) g0 (fun g => ?_)
            refine c_seq (fun K69 hK69 => ?_)
            refine c_block (fun Q70 hQ70 => ?_)
            refine fg9 2 8 9 10 14 15 16 17 18 (gS rfl (gS rfl (gS rfl (gS rfl (gS rfl (gS rfl (gS rfl (gS rfl g0)))))))) (gS rfl (gS rfl (gS rfl (gS rfl (gS rfl (gS rfl (gS rfl g0))))))) (gS rfl (gS rfl (gS rfl (gS rfl (gS rfl (gS rfl g0)))))) (gS rfl (gS rfl (gS rfl (gS rfl (gS rfl g0))))) (gS rfl (gS rfl (gS rfl (gS rfl g0)))) (gS rfl (gS rfl (gS rfl g0))) g0 (gS rfl (gS rfl g0)) (gS rfl g0) (fun g => ?_)
            refine c_loop (fun k s W71 => ∃ (g : Nat → Value) (q r : Nat), s = (upd (upd (upd (upd (upd (upd (upd (upd (upd g 2 (.int .u64 (Y : Nat))) 8 (.int .u64 (sh : Nat))) 9 (.int .u64 (a : Nat))) 10 (.int .u64 (b : Nat))) 14 (.int .u64 (u0 : Nat))) 15 (.int .u64 (p : Nat))) 16 (.int .u64 (r : Nat))) 17 (.int .u64 (R : Nat))) 18 (.int .u64 (q : Nat))) ∧ q = k ∧ (q * a + r = R) ∧ (R * 4294967296 + u0 < (q + 1) * Y) ∧ (r < 4294967296) ∧ Ch (fun k => False) W26 W71) ((R / a)) ?_ ?_
            · exact ⟨g, R / a, R - R / a * a, rfl, rfl, by have := Nat.div_mul_le_self R a; omega, half_fst R a b Y (by omega) hYab hb2 u0 hu0l, by have := Nat.div_add_mod R a; have := Nat.mod_lt R (show a > 0 by omega); have := Nat.mul_comm a (R / a); omega, Ch.refl _ _⟩
            · skip
              intro k s W71 hI K71 hK71
              obtain ⟨g, q, r, rfl, rfl, hq, hup, hrH, V71⟩ := hI
              replace U := U.cc V71 (by intro b hb; first | exact hb.elim | omega | (simp at hb ⊢; omega))
              have hqB : q ≤ R := by have := Nat.mul_le_mul_left q (show 1 ≤ a by omega); omega
              refine c_seq (fun K72 hK72 => ?_)
              refine c_seq (fun K73 hK73 => ?_)
              refine c_region ?_
              refine l_step (y_moveV (et g0 rfl)) ?_
              refine l_step (y_geq (et g0 rfl) rfl) ?_
              refine l_step (y_moveV (et g0 rfl)) ?_
              refine gsplitL (i := 104) g0 (fun q74 => ?_) (fun q74 => ?_)
              · skip
                have hgt : (R * 4294967296 + u0) < q * Y := half_lt _ _ _ _ hRl hu0l (by have := of_decide_eq_true q74; omega)
                refine l_gskip (j := 2) (t := 104) (by exact rfl) (by exact rfl) (et g0 rfl) (by decide) (by decide) ?_
                refine l_gskip (j := 2) (t := 104) (by exact rfl) (by exact rfl) (et (gS rfl g0) rfl) (by decide) (by decide) ?_
                refine l_gskip (j := 2) (t := 104) (by exact rfl) (by exact rfl) (et (gS rfl (gS rfl g0)) rfl) (by decide) (by decide) ?_
                refine l_gskip (j := 2) (t := 104) (by exact rfl) (by exact rfl) (et (gS rfl (gS rfl (gS rfl g0))) rfl) (by decide) (by decide) ?_
                refine l_gskip (j := 2) (t := 104) (by exact rfl) (by exact rfl) (et (gS rfl (gS rfl (gS rfl (gS rfl g0)))) rfl) (by decide) (by decide) ?_
                refine l_gskip (j := 2) (t := 104) (by exact rfl) (by exact rfl) (et (gS rfl (gS rfl (gS rfl (gS rfl (gS rfl g0))))) rfl) (by decide) (by decide) ?_
                refine l_gskip (j := 2) (t := 104) (by exact rfl) (by exact rfl) (et (gS rfl (gS rfl (gS rfl (gS rfl (gS rfl (gS rfl g0)))))) rfl) (by decide) (by decide) ?_
                refine l_gskip (j := 2) (t := 104) (by exact rfl) (by exact rfl) (et (gS rfl (gS rfl (gS rfl (gS rfl (gS rfl (gS rfl (gS rfl g0))))))) rfl) (by decide) (by decide) ?_
                refine l_step (y_pickT (et (gS rfl (gS rfl (gS rfl (gS rfl (gS rfl (gS rfl (gS rfl (gS rfl g0)))))))) rfl) rfl) ?_
                refine l_nil ?_
                refine hK73 _ _ ?_
                refine fg10 2 8 9 10 14 15 16 17 18 113 (gS rfl (gS rfl (gS rfl (gS rfl (gS rfl (gS rfl (gS rfl (gS rfl (gS rfl (gS rfl (gS rfl (gS rfl (gS rfl (gS rfl (gS rfl (gS rfl (gS rfl (gS rfl (gS rfl (gS rfl (gS rfl g0))))))))))))))))))))) (gS rfl (gS rfl (gS rfl (gS rfl (gS rfl (gS rfl (gS rfl (gS rfl (gS rfl (gS rfl (gS rfl (gS rfl (gS rfl (gS rfl (gS rfl (gS rfl (gS rfl (gS rfl (gS rfl (gS rfl g0)))))))))))))))))))) (gS rfl (gS rfl (gS rfl (gS rfl (gS rfl (gS rfl (gS rfl (gS rfl (gS rfl (gS rfl (gS rfl (gS rfl (gS rfl (gS rfl (gS rfl (gS rfl (gS rfl (gS rfl (gS rfl g0))))))))))))))))))) (gS rfl (gS rfl (gS rfl (gS rfl (gS rfl (gS rfl (gS rfl (gS rfl (gS rfl (gS rfl (gS rfl (gS rfl (gS rfl (gS rfl (gS rfl (gS rfl (gS rfl (gS rfl g0)))))))))))))))))) (gS rfl (gS rfl (gS rfl (gS rfl (gS rfl (gS rfl (gS rfl (gS rfl (gS rfl (gS rfl (gS rfl (gS rfl (gS rfl (gS rfl (gS rfl (gS rfl (gS rfl g0))))))))))))))))) (gS rfl (gS rfl (gS rfl (gS rfl (gS rfl (gS rfl (gS rfl (gS rfl (gS rfl (gS rfl (gS rfl (gS rfl (gS rfl (gS rfl (gS rfl (gS rfl g0)))))))))))))))) (gS rfl (gS rfl (gS rfl (gS rfl (gS rfl (gS rfl (gS rfl (gS rfl (gS rfl (gS rfl (gS rfl (gS rfl (gS rfl (gS rfl (gS rfl g0))))))))))))))) (gS rfl (gS rfl (gS rfl (gS rfl (gS rfl (gS rfl (gS rfl (gS rfl (gS rfl (gS rfl (gS rfl (gS rfl (gS rfl (gS rfl g0)))))))))))))) (gS rfl (gS rfl (gS rfl (gS rfl (gS rfl (gS rfl (gS rfl (gS rfl (gS rfl (gS rfl (gS rfl (gS rfl (gS rfl g0))))))))))))) g0 (fun g => ?_)
                refine c_true (et g0 rfl) rfl ?_
                refine c_skip ?_
                refine hK72 _ _ ?_
                refine fg9 2 8 9 10 14 15 16 17 18 (gS rfl (gS rfl (gS rfl (gS rfl (gS rfl (gS rfl (gS rfl (gS rfl (gS rfl g0))))))))) (gS rfl (gS rfl (gS rfl (gS rfl (gS rfl (gS rfl (gS rfl (gS rfl g0)))))))) (gS rfl (gS rfl (gS rfl (gS rfl (gS rfl (gS rfl (gS rfl g0))))))) (gS rfl (gS rfl (gS rfl (gS rfl (gS rfl (gS rfl g0)))))) (gS rfl (gS rfl (gS rfl (gS rfl (gS rfl g0))))) (gS rfl (gS rfl (gS rfl (gS rfl g0)))) (gS rfl (gS rfl (gS rfl g0))) (gS rfl (gS rfl g0)) (gS rfl g0) (fun g => ?_)
                refine c_block (fun Q76 hQ76 => ?_)
                refine c_seq (fun K77 hK77 => ?_)
                refine c_region ?_
                refine l_step (y_moveV (et g0 rfl)) ?_
                have hq0 : q ≠ 0 := fun h0 => by rw [h0, Nat.zero_mul] at hgt; omega
                obtain ⟨p0, rfl⟩ : ∃ p, q = p + 1 := ⟨q - 1, by omega⟩
                have hup : (R * 4294967296 + u0) < (p0 + 1) * Y := hgt
                have hq2 : p0 * a + (r + a) = R := by rw [Nat.add_mul] at hq; omega
                refine l_step (y_sub (et g0 rfl) rfl (subOne ?_)) ?_
                omega
                refine l_step (y_assignV (et g0 rfl)) ?_
                refine l_nil ?_
                refine hK77 _ _ ?_
                refine fg9 2 8 9 10 14 15 16 17 18 (gS rfl (gS rfl (gS rfl (gS rfl (gS rfl (gS rfl (gS rfl (gS rfl (gS rfl (gS rfl (gS rfl g0))))))))))) (gS rfl (gS rfl (gS rfl (gS rfl (gS rfl (gS rfl (gS rfl (gS rfl (gS rfl (gS rfl g0)))))))))) (gS rfl (gS rfl (gS rfl (gS rfl (gS rfl (gS rfl (gS rfl (gS rfl (gS rfl g0))))))))) (gS rfl (gS rfl (gS rfl (gS rfl (gS rfl (gS rfl (gS rfl (gS rfl g0)))))))) (gS rfl (gS rfl (gS rfl (gS rfl (gS rfl (gS rfl (gS rfl g0))))))) (gS rfl (gS rfl (gS rfl (gS rfl (gS rfl (gS rfl g0)))))) (gS rfl (gS rfl (gS rfl (gS rfl (gS rfl g0))))) (gS rfl (gS rfl (gS rfl (gS rfl g0)))) g0 (fun g => ?_)
                refine c_seq (fun K78 hK78 => ?_)
                refine c_region ?_
                refine l_step (y_moveV (et (gS rfl (gS rfl g0)) rfl)) ?_
                refine l_step (y_moveV (et (gS rfl (gS rfl (gS rfl (gS rfl (gS rfl (gS rfl (gS rfl g0))))))) rfl)) ?_
                refine l_step (y_add (et (gS rfl g0) rfl) (et g0 rfl) (wrapU_addN uk64 ?_)) ?_
                omega
                refine l_step (y_assignV (et g0 rfl)) ?_
                refine l_nil ?_
                refine hK78 _ _ ?_
                refine fg9 2 8 9 10 14 15 16 17 18 (gS rfl (gS rfl (gS rfl (gS rfl (gS rfl (gS rfl (gS rfl (gS rfl (gS rfl (gS rfl (gS rfl (gS rfl g0)))))))))))) (gS rfl (gS rfl (gS rfl (gS rfl (gS rfl (gS rfl (gS rfl (gS rfl (gS rfl (gS rfl (gS rfl g0))))))))))) (gS rfl (gS rfl (gS rfl (gS rfl (gS rfl (gS rfl (gS rfl (gS rfl (gS rfl (gS rfl g0)))))))))) (gS rfl (gS rfl (gS rfl (gS rfl (gS rfl (gS rfl (gS rfl (gS rfl (gS rfl g0))))))))) (gS rfl (gS rfl (gS rfl (gS rfl (gS rfl (gS rfl (gS rfl (gS rfl g0)))))))) (gS rfl (gS rfl (gS rfl (gS rfl (gS rfl (gS rfl (gS rfl g0))))))) g0 (gS rfl (gS rfl (gS rfl (gS rfl (gS rfl g0))))) (gS rfl (gS rfl (gS rfl (gS rfl g0)))) (fun g => ?_)
                refine c_seq (fun K79 hK79 => ?_)
                refine c_region ?_
                refine l_step (y_moveV (et (gS rfl (gS rfl g0)) rfl)) ?_
                refine l_step (y_geq (et g0 rfl) rfl) ?_
                refine l_nil ?_
                refine hK79 _ _ ?_
                refine fg10 2 8 9 10 14 15 16 17 18 120 (gS rfl (gS rfl (gS rfl (gS rfl (gS rfl (gS rfl (gS rfl (gS rfl (gS rfl (gS rfl g0)))))))))) (gS rfl (gS rfl (gS rfl (gS rfl (gS rfl (gS rfl (gS rfl (gS rfl (gS rfl g0))))))))) (gS rfl (gS rfl (gS rfl (gS rfl (gS rfl (gS rfl (gS rfl (gS rfl g0)))))))) (gS rfl (gS rfl (gS rfl (gS rfl (gS rfl (gS rfl (gS rfl g0))))))) (gS rfl (gS rfl (gS rfl (gS rfl (gS rfl (gS rfl g0)))))) (gS rfl (gS rfl (gS rfl (gS rfl (gS rfl g0))))) (gS rfl (gS rfl (gS rfl (gS rfl g0)))) (gS rfl (gS rfl (gS rfl g0))) (gS rfl (gS rfl g0)) g0 (fun g => ?_)
                refine c_cond (et g0 rfl) (fun cB7 => ?_) (fun cB7 => ?_)
                · skip
                  
                  have hbrk : 4294967296 ≤ r + a := by have := of_decide_eq_true cB7; omega
                  have hp0l := half_brk p0 a b (r + a) R Y hYab hb2 hq2 hRl hbrk
                  have hle := half_le p0 a b (r + a) R Y u0 hYab hb2 hq2 hp0l hbrk
                  obtain ⟨R2, hR2⟩ : ∃ Z, (R * 4294967296 + u0) = p0 * Y + Z := Nat.exists_eq_add_of_le hle
                  have hR2l : R2 < Y := by rw [Nat.add_mul] at hup; omega
                  refine c_exit ?_
                  refine hQ76 _ _ _ (in_past (by decide) ?_)
                  refine hQ70 _ _ _ (in_exit ?_)
                  refine hK69 _ _ ?_
                  refine fg6 2 8 14 15 17 18 (gS rfl (gS rfl (gS rfl (gS rfl (gS rfl (gS rfl (gS rfl (gS rfl (gS rfl g0))))))))) (gS rfl (gS rfl (gS rfl (gS rfl (gS rfl (gS rfl (gS rfl (gS rfl g0)))))))) (gS rfl (gS rfl (gS rfl (gS rfl (gS rfl g0))))) (gS rfl (gS rfl (gS rfl (gS rfl g0)))) (gS rfl (gS rfl g0)) (gS rfl g0) (fun g => ?_)
                  refine c_seq (fun K81 hK81 => ?_)
                  refine c_region ?_
                  refine l_step (y_moveV (et (gS rfl (gS rfl g0)) rfl)) ?_
                  refine l_step (y_mul (et g0 rfl) rfl (wrapU_mulN (b := 4294967296) uk64 ?_)) ?_
                  exact mulH hpl
                  refine l_step (y_moveV (et (gS rfl (gS rfl g0)) rfl)) ?_
                  refine l_step (y_add (et (gS rfl g0) rfl) (et g0 rfl) (wrapU_addN uk64 ?_)) ?_
                  exact mulAH hpl hp0l
                  refine l_step (y_moveV (et (gS rfl (gS rfl (gS rfl (gS rfl (gS rfl g0))))) rfl)) ?_
                  refine l_step (y_mul (et g0 rfl) rfl (wrapU_mul (b := 4294967296) uk64)) ?_
                  refine l_step (y_moveV (et (gS rfl (gS rfl (gS rfl (gS rfl (gS rfl (gS rfl (gS rfl (gS rfl (gS rfl g0))))))))) rfl)) ?_
                  refine l_step (y_add (et (gS rfl g0) rfl) (et g0 rfl) (addM rfl)) ?_
                  refine l_step (y_moveV (et (gS rfl (gS rfl (gS rfl (gS rfl (gS rfl (gS rfl (gS rfl (gS rfl g0)))))))) rfl)) ?_
                  refine l_step (y_moveV (et (gS rfl (gS rfl (gS rfl (gS rfl (gS rfl (gS rfl (gS rfl (gS rfl (gS rfl (gS rfl (gS rfl (gS rfl (gS rfl (gS rfl g0)))))))))))))) rfl)) ?_
                  refine l_step (y_mul (et (gS rfl g0) rfl) (et g0 rfl) (wrapU_mul uk64)) ?_
                  refine l_step (y_sub (et (gS rfl (gS rfl (gS rfl g0))) rfl) (et g0 rfl) (subM hR2 ?_)) ?_
                  omega
                  refine l_step (y_moveV (et (gS rfl (gS rfl (gS rfl (gS rfl (gS rfl (gS rfl (gS rfl (gS rfl (gS rfl (gS rfl (gS rfl (gS rfl (gS rfl (gS rfl (gS rfl (gS rfl g0)))))))))))))))) rfl)) ?_
                  refine l_step (y_shr (et (gS rfl g0) rfl) (et g0 rfl) ?_ (shrV ?_)) ?_
                  omega
                  omega
                  refine l_step (y_assignV (et (gS rfl (gS rfl (gS rfl (gS rfl (gS rfl (gS rfl (gS rfl (gS rfl (gS rfl (gS rfl g0)))))))))) rfl)) ?_
                  refine l_step (y_assignV (et (gS rfl g0) rfl)) ?_
                  refine l_nil ?_
                  refine hK81 _ _ ?_
                  refine fg2 6 7 (gS rfl g0) g0 (fun g => ?_)
                  refine c_ret ?_
                  refine ret2 rfl (res_tmp (et (gS rfl g0) rfl)) (res_tmp (et g0 rfl)) ?_
                  refine ⟨?_, U⟩
                  obtain ⟨f1, f2⟩ := div_fin2 hi lo y sh A u10 u1 u0 p R p0 R2 Y hy0 hN hY hu1 hu0 hR hR2 hR2l
                  rw [f1, f2]
                · skip
                  
                  have hnb : r + a < 4294967296 := by have := of_decide_eq_false cB7; omega
                  refine c_skip ?_
                  refine hQ76 _ _ _ (in_normal ?_)
                  refine fK9 2 8 9 10 14 15 16 17 18 (gS rfl (gS rfl (gS rfl (gS rfl (gS rfl (gS rfl (gS rfl (gS rfl (gS rfl g0))))))))) (gS rfl (gS rfl (gS rfl (gS rfl (gS rfl (gS rfl (gS rfl (gS rfl g0)))))))) (gS rfl (gS rfl (gS rfl (gS rfl (gS rfl (gS rfl (gS rfl g0))))))) (gS rfl (gS rfl (gS rfl (gS rfl (gS rfl (gS rfl g0)))))) (gS rfl (gS rfl (gS rfl (gS rfl (gS rfl g0))))) (gS rfl (gS rfl (gS rfl (gS rfl g0)))) (gS rfl (gS rfl (gS rfl g0))) (gS rfl (gS rfl g0)) (gS rfl g0) (fun g => ?_)
                  exact hK71 ((p0)) _ _ (by omega) ⟨g, p0, r + a, rfl, rfl, hq2, hup, hnb, V71⟩
              · skip
                have hqH : q < 4294967296 := by have := of_decide_eq_false q74; omega
                have hqb : q * b ≤ 4294967295 * 4294967295 := Nat.mul_le_mul (by omega) (by omega)
                have heq := half_eq q Y a b R r hYab hq
                refine l_gstep (j := 2) (t := 104) (by exact rfl) (by exact rfl) (et g0 rfl) (by decide) (y_moveV (et (gS rfl (gS rfl (gS rfl (gS rfl g0)))) rfl)) ?_
                refine l_gstep (j := 2) (t := 104) (by exact rfl) (by exact rfl) (et (gS rfl g0) rfl) (by decide) (y_moveV (et (gS rfl (gS rfl (gS rfl (gS rfl (gS rfl (gS rfl (gS rfl (gS rfl (gS rfl (gS rfl g0)))))))))) rfl)) ?_
                refine l_gstep (j := 2) (t := 104) (by exact rfl) (by exact rfl) (et (gS rfl (gS rfl g0)) rfl) (by decide) (y_mul (et (gS rfl g0) rfl) (et g0 rfl) (wrapU_mulN uk64 ?_)) ?_
                omega
                refine l_gstep (j := 2) (t := 104) (by exact rfl) (by exact rfl) (et (gS rfl (gS rfl (gS rfl g0))) rfl) (by decide) (y_moveV (et (gS rfl (gS rfl (gS rfl (gS rfl (gS rfl (gS rfl (gS rfl (gS rfl (gS rfl g0))))))))) rfl)) ?_
                refine l_gstep (j := 2) (t := 104) (by exact rfl) (by exact rfl) (et (gS rfl (gS rfl (gS rfl (gS rfl g0)))) rfl) (by decide) (y_mul rfl (et g0 rfl) (wrapU_mulN (a := 4294967296) uk64 ?_)) ?_
                omega
                refine l_gstep (j := 2) (t := 104) (by exact rfl) (by exact rfl) (et (gS rfl (gS rfl (gS rfl (gS rfl (gS rfl g0))))) rfl) (by decide) (y_moveV (et (gS rfl (gS rfl (gS rfl (gS rfl (gS rfl (gS rfl (gS rfl (gS rfl (gS rfl (gS rfl (gS rfl (gS rfl (gS rfl g0))))))))))))) rfl)) ?_
                refine l_gstep (j := 2) (t := 104) (by exact rfl) (by exact rfl) (et (gS rfl (gS rfl (gS rfl (gS rfl (gS rfl (gS rfl g0)))))) rfl) (by decide) (y_add (et (gS rfl g0) rfl) (et g0 rfl) (wrapU_addN uk64 ?_)) ?_
                omega
                refine l_gstep (j := 2) (t := 104) (by exact rfl) (by exact rfl) (et (gS rfl (gS rfl (gS rfl (gS rfl (gS rfl (gS rfl (gS rfl g0))))))) rfl) (by decide) (y_gtr (et (gS rfl (gS rfl (gS rfl (gS rfl g0)))) rfl) (et g0 rfl)) ?_
                refine l_step (y_pickF (et (gS rfl (gS rfl (gS rfl (gS rfl (gS rfl (gS rfl (gS rfl (gS rfl g0)))))))) rfl) (et g0 rfl)) ?_
                refine l_nil ?_
                refine hK73 _ _ ?_
                refine fg10 2 8 9 10 14 15 16 17 18 113 (gS rfl (gS rfl (gS rfl (gS rfl (gS rfl (gS rfl (gS rfl (gS rfl (gS rfl (gS rfl (gS rfl (gS rfl (gS rfl (gS rfl (gS rfl (gS rfl (gS rfl (gS rfl (gS rfl (gS rfl (gS rfl g0))))))))))))))))))))) (gS rfl (gS rfl (gS rfl (gS rfl (gS rfl (gS rfl (gS rfl (gS rfl (gS rfl (gS rfl (gS rfl (gS rfl (gS rfl (gS rfl (gS rfl (gS rfl (gS rfl (gS rfl (gS rfl (gS rfl g0)))))))))))))))))))) (gS rfl (gS rfl (gS rfl (gS rfl (gS rfl (gS rfl (gS rfl (gS rfl (gS rfl (gS rfl (gS rfl (gS rfl (gS rfl (gS rfl (gS rfl (gS rfl (gS rfl (gS rfl (gS rfl g0))))))))))))))))))) (gS rfl (gS rfl (gS rfl (gS rfl (gS rfl (gS rfl (gS rfl (gS rfl (gS rfl (gS rfl (gS rfl (gS rfl (gS rfl (gS rfl (gS rfl (gS rfl (gS rfl (gS rfl g0)))))))))))))))))) (gS rfl (gS rfl (gS rfl (gS rfl (gS rfl (gS rfl (gS rfl (gS rfl (gS rfl (gS rfl (gS rfl (gS rfl (gS rfl (gS rfl (gS rfl (gS rfl (gS rfl g0))))))))))))))))) (gS rfl (gS rfl (gS rfl (gS rfl (gS rfl (gS rfl (gS rfl (gS rfl (gS rfl (gS rfl (gS rfl (gS rfl (gS rfl (gS rfl (gS rfl (gS rfl g0)))))))))))))))) (gS rfl (gS rfl (gS rfl (gS rfl (gS rfl (gS rfl (gS rfl (gS rfl (gS rfl (gS rfl (gS rfl (gS rfl (gS rfl (gS rfl (gS rfl g0))))))))))))))) (gS rfl (gS rfl (gS rfl (gS rfl (gS rfl (gS rfl (gS rfl (gS rfl (gS rfl (gS rfl (gS rfl (gS rfl (gS rfl (gS rfl g0)))))))))))))) (gS rfl (gS rfl (gS rfl (gS rfl (gS rfl (gS rfl (gS rfl (gS rfl (gS rfl (gS rfl (gS rfl (gS rfl (gS rfl g0))))))))))))) g0 (fun g => ?_)
                refine c_cond (et g0 rfl) (fun cB6 => ?_) (fun cB6 => ?_)
                · skip
                  
                  have hgt : (R * 4294967296 + u0) < q * Y := half_gt heq cB6
                  refine c_skip ?_
                  refine hK72 _ _ ?_
                  refine fg9 2 8 9 10 14 15 16 17 18 (gS rfl (gS rfl (gS rfl (gS rfl (gS rfl (gS rfl (gS rfl (gS rfl (gS rfl g0))))))))) (gS rfl (gS rfl (gS rfl (gS rfl (gS rfl (gS rfl (gS rfl (gS rfl g0)))))))) (gS rfl (gS rfl (gS rfl (gS rfl (gS rfl (gS rfl (gS rfl g0))))))) (gS rfl (gS rfl (gS rfl (gS rfl (gS rfl (gS rfl g0)))))) (gS rfl (gS rfl (gS rfl (gS rfl (gS rfl g0))))) (gS rfl (gS rfl (gS rfl (gS rfl g0)))) (gS rfl (gS rfl (gS rfl g0))) (gS rfl (gS rfl g0)) (gS rfl g0) (fun g => ?_)
                  refine c_block (fun Q83 hQ83 => ?_)
                  refine c_seq (fun K84 hK84 => ?_)
                  refine c_region ?_
                  refine l_step (y_moveV (et g0 rfl)) ?_
                  have hq0 : q ≠ 0 := fun h0 => by rw [h0, Nat.zero_mul] at hgt; omega
                  obtain ⟨p0, rfl⟩ : ∃ p, q = p + 1 := ⟨q - 1, by omega⟩
                  have hup : (R * 4294967296 + u0) < (p0 + 1) * Y := hgt
                  have hq2 : p0 * a + (r + a) = R := by rw [Nat.add_mul] at hq; omega
                  refine l_step (y_sub (et g0 rfl) rfl (subOne ?_)) ?_
                  omega
                  refine l_step (y_assignV (et g0 rfl)) ?_
                  refine l_nil ?_
                  refine hK84 _ _ ?_
                  refine fg9 2 8 9 10 14 15 16 17 18 (gS rfl (gS rfl (gS rfl (gS rfl (gS rfl (gS rfl (gS rfl (gS rfl (gS rfl (gS rfl (gS rfl g0))))))))))) (gS rfl (gS rfl (gS rfl (gS rfl (gS rfl (gS rfl (gS rfl (gS rfl (gS rfl (gS rfl g0)))))))))) (gS rfl (gS rfl (gS rfl (gS rfl (gS rfl (gS rfl (gS rfl (gS rfl (gS rfl g0))))))))) (gS rfl (gS rfl (gS rfl (gS rfl (gS rfl (gS rfl (gS rfl (gS rfl g0)))))))) (gS rfl (gS rfl (gS rfl (gS rfl (gS rfl (gS rfl (gS rfl g0))))))) (gS rfl (gS rfl (gS rfl (gS rfl (gS rfl (gS rfl g0)))))) (gS rfl (gS rfl (gS rfl (gS rfl (gS rfl g0))))) (gS rfl (gS rfl (gS rfl (gS rfl g0)))) g0 (fun g => ?_)
                  refine c_seq (fun K85 hK85 => ?_)
                  refine c_region ?_
                  refine l_step (y_moveV (et (gS rfl (gS rfl g0)) rfl)) ?_
                  refine l_step (y_moveV (et (gS rfl (gS rfl (gS rfl (gS rfl (gS rfl (gS rfl (gS rfl g0))))))) rfl)) ?_
                  refine l_step (y_add (et (gS rfl g0) rfl) (et g0 rfl) (wrapU_addN uk64 ?_)) ?_
                  omega
                  refine l_step (y_assignV (et g0 rfl)) ?_
                  refine l_nil ?_
                  refine hK85 _ _ ?_
                  refine fg9 2 8 9 10 14 15 16 17 18 (gS rfl (gS rfl (gS rfl (gS rfl (gS rfl (gS rfl (gS rfl (gS rfl (gS rfl (gS rfl (gS rfl (gS rfl g0)))))))))))) (gS rfl (gS rfl (gS rfl (gS rfl (gS rfl (gS rfl (gS rfl (gS rfl (gS rfl (gS rfl (gS rfl g0))))))))))) (gS rfl (gS rfl (gS rfl (gS rfl (gS rfl (gS rfl (gS rfl (gS rfl (gS rfl (gS rfl g0)))))))))) (gS rfl (gS rfl (gS rfl (gS rfl (gS rfl (gS rfl (gS rfl (gS rfl (gS rfl g0))))))))) (gS rfl (gS rfl (gS rfl (gS rfl (gS rfl (gS rfl (gS rfl (gS rfl g0)))))))) (gS rfl (gS rfl (gS rfl (gS rfl (gS rfl (gS rfl (gS rfl g0))))))) g0 (gS rfl (gS rfl (gS rfl (gS rfl (gS rfl g0))))) (gS rfl (gS rfl (gS rfl (gS rfl g0)))) (fun g => ?_)
                  refine c_seq (fun K86 hK86 => ?_)
                  refine c_region ?_
                  refine l_step (y_moveV (et (gS rfl (gS rfl g0)) rfl)) ?_
                  refine l_step (y_geq (et g0 rfl) rfl) ?_
                  refine l_nil ?_
                  refine hK86 _ _ ?_
                  refine fg10 2 8 9 10 14 15 16 17 18 120 (gS rfl (gS rfl (gS rfl (gS rfl (gS rfl (gS rfl (gS rfl (gS rfl (gS rfl (gS rfl g0)))))))))) (gS rfl (gS rfl (gS rfl (gS rfl (gS rfl (gS rfl (gS rfl (gS rfl (gS rfl g0))))))))) (gS rfl (gS rfl (gS rfl (gS rfl (gS rfl (gS rfl (gS rfl (gS rfl g0)))))))) (gS rfl (gS rfl (gS rfl (gS rfl (gS rfl (gS rfl (gS rfl g0))))))) (gS rfl (gS rfl (gS rfl (gS rfl (gS rfl (gS rfl g0)))))) (gS rfl (gS rfl (gS rfl (gS rfl (gS rfl g0))))) (gS rfl (gS rfl (gS rfl (gS rfl g0)))) (gS rfl (gS rfl (gS rfl g0))) (gS rfl (gS rfl g0)) g0 (fun g => ?_)
                  refine c_cond (et g0 rfl) (fun cB7 => ?_) (fun cB7 => ?_)
                  · skip
                    
                    have hbrk : 4294967296 ≤ r + a := by have := of_decide_eq_true cB7; omega
                    have hp0l := half_brk p0 a b (r + a) R Y hYab hb2 hq2 hRl hbrk
                    have hle := half_le p0 a b (r + a) R Y u0 hYab hb2 hq2 hp0l hbrk
                    obtain ⟨R2, hR2⟩ : ∃ Z, (R * 4294967296 + u0) = p0 * Y + Z := Nat.exists_eq_add_of_le hle
                    have hR2l : R2 < Y := by rw [Nat.add_mul] at hup; omega
                    refine c_exit ?_
                    refine hQ83 _ _ _ (in_past (by decide) ?_)
                    refine hQ70 _ _ _ (in_exit ?_)
                    refine hK69 _ _ ?_
                    refine fg6 2 8 14 15 17 18 (gS rfl (gS rfl (gS rfl (gS rfl (gS rfl (gS rfl (gS rfl (gS rfl (gS rfl g0))))))))) (gS rfl (gS rfl (gS rfl (gS rfl (gS rfl (gS rfl (gS rfl (gS rfl g0)))))))) (gS rfl (gS rfl (gS rfl (gS rfl (gS rfl g0))))) (gS rfl (gS rfl (gS rfl (gS rfl g0)))) (gS rfl (gS rfl g0)) (gS rfl g0) (fun g => ?_)
                    refine c_seq (fun K88 hK88 => ?_)
                    refine c_region ?_
                    refine l_step (y_moveV (et (gS rfl (gS rfl g0)) rfl)) ?_
                    refine l_step (y_mul (et g0 rfl) rfl (wrapU_mulN (b := 4294967296) uk64 ?_)) ?_
                    exact mulH hpl
                    refine l_step (y_moveV (et (gS rfl (gS rfl g0)) rfl)) ?_
                    refine l_step (y_add (et (gS rfl g0) rfl) (et g0 rfl) (wrapU_addN uk64 ?_)) ?_
                    exact mulAH hpl hp0l
                    refine l_step (y_moveV (et (gS rfl (gS rfl (gS rfl (gS rfl (gS rfl g0))))) rfl)) ?_
                    refine l_step (y_mul (et g0 rfl) rfl (wrapU_mul (b := 4294967296) uk64)) ?_
                    refine l_step (y_moveV (et (gS rfl (gS rfl (gS rfl (gS rfl (gS rfl (gS rfl (gS rfl (gS rfl (gS rfl g0))))))))) rfl)) ?_
                    refine l_step (y_add (et (gS rfl g0) rfl) (et g0 rfl) (addM rfl)) ?_
                    refine l_step (y_moveV (et (gS rfl (gS rfl (gS rfl (gS rfl (gS rfl (gS rfl (gS rfl (gS rfl g0)))))))) rfl)) ?_
                    refine l_step (y_moveV (et (gS rfl (gS rfl (gS rfl (gS rfl (gS rfl (gS rfl (gS rfl (gS rfl (gS rfl (gS rfl (gS rfl (gS rfl (gS rfl (gS rfl g0)))))))))))))) rfl)) ?_
                    refine l_step (y_mul (et (gS rfl g0) rfl) (et g0 rfl) (wrapU_mul uk64)) ?_
                    refine l_step (y_sub (et (gS rfl (gS rfl (gS rfl g0))) rfl) (et g0 rfl) (subM hR2 ?_)) ?_
                    omega
                    refine l_step (y_moveV (et (gS rfl (gS rfl (gS rfl (gS rfl (gS rfl (gS rfl (gS rfl (gS rfl (gS rfl (gS rfl (gS rfl (gS rfl (gS rfl (gS rfl (gS rfl (gS rfl g0)))))))))))))))) rfl)) ?_
                    refine l_step (y_shr (et (gS rfl g0) rfl) (et g0 rfl) ?_ (shrV ?_)) ?_
                    omega
                    omega
                    refine l_step (y_assignV (et (gS rfl (gS rfl (gS rfl (gS rfl (gS rfl (gS rfl (gS rfl (gS rfl (gS rfl (gS rfl g0)))))))))) rfl)) ?_
                    refine l_step (y_assignV (et (gS rfl g0) rfl)) ?_
                    refine l_nil ?_
                    refine hK88 _ _ ?_
                    refine fg2 6 7 (gS rfl g0) g0 (fun g => ?_)
                    refine c_ret ?_
                    refine ret2 rfl (res_tmp (et (gS rfl g0) rfl)) (res_tmp (et g0 rfl)) ?_
                    refine ⟨?_, U⟩
                    obtain ⟨f1, f2⟩ := div_fin2 hi lo y sh A u10 u1 u0 p R p0 R2 Y hy0 hN hY hu1 hu0 hR hR2 hR2l
                    rw [f1, f2]
                  · skip
                    
                    have hnb : r + a < 4294967296 := by have := of_decide_eq_false cB7; omega
                    refine c_skip ?_
                    refine hQ83 _ _ _ (in_normal ?_)
                    refine fK9 2 8 9 10 14 15 16 17 18 (gS rfl (gS rfl (gS rfl (gS rfl (gS rfl (gS rfl (gS rfl (gS rfl (gS rfl g0))))))))) (gS rfl (gS rfl (gS rfl (gS rfl (gS rfl (gS rfl (gS rfl (gS rfl g0)))))))) (gS rfl (gS rfl (gS rfl (gS rfl (gS rfl (gS rfl (gS rfl g0))))))) (gS rfl (gS rfl (gS rfl (gS rfl (gS rfl (gS rfl g0)))))) (gS rfl (gS rfl (gS rfl (gS rfl (gS rfl g0))))) (gS rfl (gS rfl (gS rfl (gS rfl g0)))) (gS rfl (gS rfl (gS rfl g0))) (gS rfl (gS rfl g0)) (gS rfl g0) (fun g => ?_)
                    exact hK71 ((p0)) _ _ (by omega) ⟨g, p0, r + a, rfl, rfl, hq2, hup, hnb, V71⟩
                · skip
                  
                  have hle : q * Y ≤ (R * 4294967296 + u0) := half_ngt heq cB6
                  obtain ⟨p0, rfl⟩ : ∃ p, p = q := ⟨_, rfl⟩
                  have hp0l : p0 < 4294967296 := hqH
                  obtain ⟨R2, hR2⟩ : ∃ Z, (R * 4294967296 + u0) = p0 * Y + Z := Nat.exists_eq_add_of_le hle
                  have hR2l : R2 < Y := by rw [Nat.add_mul] at hup; omega
                  refine c_exit ?_
                  refine hQ70 _ _ _ (in_exit ?_)
                  refine hK69 _ _ ?_
                  refine fg6 2 8 14 15 17 18 (gS rfl (gS rfl (gS rfl (gS rfl (gS rfl (gS rfl (gS rfl (gS rfl (gS rfl g0))))))))) (gS rfl (gS rfl (gS rfl (gS rfl (gS rfl (gS rfl (gS rfl (gS rfl g0)))))))) (gS rfl (gS rfl (gS rfl (gS rfl (gS rfl g0))))) (gS rfl (gS rfl (gS rfl (gS rfl g0)))) (gS rfl (gS rfl g0)) (gS rfl g0) (fun g => ?_)
                  refine c_seq (fun K89 hK89 => ?_)
                  refine c_region ?_
                  refine l_step (y_moveV (et (gS rfl (gS rfl g0)) rfl)) ?_
                  refine l_step (y_mul (et g0 rfl) rfl (wrapU_mulN (b := 4294967296) uk64 ?_)) ?_
                  exact mulH hpl
                  refine l_step (y_moveV (et (gS rfl (gS rfl g0)) rfl)) ?_
                  refine l_step (y_add (et (gS rfl g0) rfl) (et g0 rfl) (wrapU_addN uk64 ?_)) ?_
                  exact mulAH hpl hp0l
                  refine l_step (y_moveV (et (gS rfl (gS rfl (gS rfl (gS rfl (gS rfl g0))))) rfl)) ?_
                  refine l_step (y_mul (et g0 rfl) rfl (wrapU_mul (b := 4294967296) uk64)) ?_
                  refine l_step (y_moveV (et (gS rfl (gS rfl (gS rfl (gS rfl (gS rfl (gS rfl (gS rfl (gS rfl (gS rfl g0))))))))) rfl)) ?_
                  refine l_step (y_add (et (gS rfl g0) rfl) (et g0 rfl) (addM rfl)) ?_
                  refine l_step (y_moveV (et (gS rfl (gS rfl (gS rfl (gS rfl (gS rfl (gS rfl (gS rfl (gS rfl g0)))))))) rfl)) ?_
                  refine l_step (y_moveV (et (gS rfl (gS rfl (gS rfl (gS rfl (gS rfl (gS rfl (gS rfl (gS rfl (gS rfl (gS rfl (gS rfl (gS rfl (gS rfl (gS rfl g0)))))))))))))) rfl)) ?_
                  refine l_step (y_mul (et (gS rfl g0) rfl) (et g0 rfl) (wrapU_mul uk64)) ?_
                  refine l_step (y_sub (et (gS rfl (gS rfl (gS rfl g0))) rfl) (et g0 rfl) (subM hR2 ?_)) ?_
                  omega
                  refine l_step (y_moveV (et (gS rfl (gS rfl (gS rfl (gS rfl (gS rfl (gS rfl (gS rfl (gS rfl (gS rfl (gS rfl (gS rfl (gS rfl (gS rfl (gS rfl (gS rfl (gS rfl g0)))))))))))))))) rfl)) ?_
                  refine l_step (y_shr (et (gS rfl g0) rfl) (et g0 rfl) ?_ (shrV ?_)) ?_
                  omega
                  omega
                  refine l_step (y_assignV (et (gS rfl (gS rfl (gS rfl (gS rfl (gS rfl (gS rfl (gS rfl (gS rfl (gS rfl (gS rfl g0)))))))))) rfl)) ?_
                  refine l_step (y_assignV (et (gS rfl g0) rfl)) ?_
                  refine l_nil ?_
                  refine hK89 _ _ ?_
                  refine fg2 6 7 (gS rfl g0) g0 (fun g => ?_)
                  refine c_ret ?_
                  refine ret2 rfl (res_tmp (et (gS rfl g0) rfl)) (res_tmp (et g0 rfl)) ?_
                  refine ⟨?_, U⟩
                  obtain ⟨f1, f2⟩ := div_fin2 hi lo y sh A u10 u1 u0 p R p0 R2 Y hy0 hN hY hu1 hu0 hR hR2 hR2l
                  rw [f1, f2]
          · skip
            
            have hnb : r + a < 4294967296 := by have := of_decide_eq_false cB5; omega
            refine c_skip ?_
            refine hQ61 _ _ _ (in_normal ?_)
            refine fK9 2 8 9 10 11 13 14 15 16 (gS rfl (gS rfl (gS rfl (gS rfl (gS rfl (gS rfl (gS rfl (gS rfl (gS rfl g0))))))))) (gS rfl (gS rfl (gS rfl (gS rfl (gS rfl (gS rfl (gS rfl (gS rfl g0)))))))) (gS rfl (gS rfl (gS rfl (gS rfl (gS rfl (gS rfl (gS rfl g0))))))) (gS rfl (gS rfl (gS rfl (gS rfl (gS rfl (gS rfl g0)))))) (gS rfl (gS rfl (gS rfl (gS rfl (gS rfl g0))))) (gS rfl (gS rfl (gS rfl (gS rfl g0)))) (gS rfl (gS rfl (gS rfl g0))) (gS rfl (gS rfl g0)) (gS rfl g0) (fun g => ?_)
            exact hK26 ((p)) _ _ (by omega) ⟨g, p, r + a, rfl, rfl, hq2, hup, hnb, V26⟩
        · skip
          
          have hle : q * Y ≤ (A * 4294967296 + u1) := half_ngt heq cB4
          obtain ⟨p, rfl⟩ : ∃ p, p = q := ⟨_, rfl⟩
          have hpl : p < 4294967296 := hqH
          obtain ⟨R, hR⟩ : ∃ Z, (A * 4294967296 + u1) = p * Y + Z := Nat.exists_eq_add_of_le hle
          have hRl : R < Y := by rw [Nat.add_mul] at hup; omega
          refine c_exit ?_
          refine hQ25 _ _ _ (in_exit ?_)
          refine hK24 _ _ ?_
          refine fg8 2 8 9 10 11 13 14 15 (gS rfl (gS rfl (gS rfl (gS rfl (gS rfl (gS rfl (gS rfl (gS rfl (gS rfl g0))))))))) (gS rfl (gS rfl (gS rfl (gS rfl (gS rfl (gS rfl (gS rfl (gS rfl g0)))))))) (gS rfl (gS rfl (gS rfl (gS rfl (gS rfl (gS rfl (gS rfl g0))))))) (gS rfl (gS rfl (gS rfl (gS rfl (gS rfl (gS rfl g0)))))) (gS rfl (gS rfl (gS rfl (gS rfl (gS rfl g0))))) (gS rfl (gS rfl (gS rfl (gS rfl g0)))) (gS rfl (gS rfl (gS rfl g0))) (gS rfl (gS rfl g0)) (fun g => ?_)
          refine c_seq (fun K90 hK90 => ?_)
          refine c_region ?_
          refine l_step (y_moveV (et (gS rfl (gS rfl (gS rfl g0))) rfl)) ?_
          refine l_step (y_mul (et g0 rfl) rfl (wrapU_mul (b := 4294967296) uk64)) ?_
          refine l_step (y_moveV (et (gS rfl (gS rfl (gS rfl (gS rfl g0)))) rfl)) ?_
          refine l_step (y_add (et (gS rfl g0) rfl) (et g0 rfl) (addM rfl)) ?_
          refine l_step (y_moveV (et (gS rfl (gS rfl (gS rfl (gS rfl g0)))) rfl)) ?_
          refine l_step (y_moveV (et (gS rfl (gS rfl (gS rfl (gS rfl (gS rfl (gS rfl (gS rfl (gS rfl (gS rfl (gS rfl (gS rfl (gS rfl g0)))))))))))) rfl)) ?_
          refine l_step (y_mul (et (gS rfl g0) rfl) (et g0 rfl) (wrapU_mul uk64)) ?_
          refine l_step (y_sub (et (gS rfl (gS rfl (gS rfl g0))) rfl) (et g0 rfl) (subM hR ?_)) ?_
          omega
          refine l_step (y_assignV (et g0 rfl)) ?_
          refine l_nil ?_
          refine hK90 _ _ ?_
          refine fg7 2 8 9 10 14 15 17 (gS rfl (gS rfl (gS rfl (gS rfl (gS rfl (gS rfl (gS rfl (gS rfl (gS rfl (gS rfl (gS rfl (gS rfl (gS rfl (gS rfl (gS rfl (gS rfl g0)))))))))))))))) (gS rfl (gS rfl (gS rfl (gS rfl (gS rfl (gS rfl (gS rfl (gS rfl (gS rfl (gS rfl (gS rfl (gS rfl (gS rfl (gS rfl (gS rfl g0))))))))))))))) (gS rfl (gS rfl (gS rfl (gS rfl (gS rfl (gS rfl (gS rfl (gS rfl (gS rfl (gS rfl (gS rfl (gS rfl (gS rfl (gS rfl g0)))))))))))))) (gS rfl (gS rfl (gS rfl (gS rfl (gS rfl (gS rfl (gS rfl (gS rfl (gS rfl (gS rfl (gS rfl (gS rfl (gS rfl g0))))))))))))) (gS rfl (gS rfl (gS rfl (gS rfl (gS rfl (gS rfl (gS rfl (gS rfl (gS rfl (gS rfl g0)))))))))) (gS rfl (gS rfl (gS rfl (gS rfl (gS rfl (gS rfl (gS rfl (gS rfl (gS rfl g0))))))))) g0 (fun g => ?_)
          refine c_seq (fun K91 hK91 => ?_)
          refine c_region ?_
          refine l_step (y_moveV (et g0 rfl)) ?_
          refine l_step (y_moveV (et (gS rfl (gS rfl (gS rfl (gS rfl (gS rfl g0))))) rfl)) ?_
          refine l_step (y_quo (et (gS rfl g0) rfl) (et g0 rfl) (by omega) (quoU uk64 ?_)) ?_
          omega
          refine l_step (y_assignV (et g0 rfl)) ?_
          refine l_nil ?_
          refine hK91 _ _ ?_
          refine fg8 2 8 9 10 14 15 17 18 (gS rfl (gS rfl (gS rfl (gS rfl (gS rfl (gS rfl (gS rfl (gS rfl (gS rfl (gS rfl g0)))))))))) (gS rfl (gS rfl (gS rfl (gS rfl (gS rfl (gS rfl (gS rfl (gS rfl (gS rfl g0))))))))) (gS rfl (gS rfl (gS rfl (gS rfl (gS rfl (gS rfl (gS rfl (gS rfl g0)))))))) (gS rfl (gS rfl (gS rfl (gS rfl (gS rfl (gS rfl (gS rfl g0))))))) (gS rfl (gS rfl (gS rfl (gS rfl (gS rfl (gS rfl g0)))))) (gS rfl (gS rfl (gS rfl (gS rfl (gS rfl g0))))) (gS rfl (gS rfl (gS rfl (gS rfl g0)))) g0 (fun g => ?_)
          refine c_seq (fun K92 hK92 => ?_)
          refine c_region ?_
          refine l_step (y_moveV (et (gS rfl g0) rfl)) ?_
          refine l_step (y_moveV (et (gS rfl g0) rfl)) ?_
          refine l_step (y_moveV (et (gS rfl (gS rfl (gS rfl (gS rfl (gS rfl (gS rfl (gS rfl g0))))))) rfl)) ?_
          refine l_step (y_mul (et (gS rfl g0) rfl) (et g0 rfl) (wrapU_mulN uk64 ?_)) ?_
          (have := Nat.div_mul_le_self R a; omega)
          refine l_step (y_sub (et (gS rfl (gS rfl (gS rfl g0))) rfl) (et g0 rfl) (wrapU_subN uk64 ?_ ?_)) ?_
          exact Nat.div_mul_le_self R a
          omega
          refine l_step (y_assignV (et g0 rfl)) ?_
          refine l_nil ?_
          refine hK92 _ _ ?_
          refine fg9 2 8 9 10 14 15 17 18 16 (gS rfl (gS rfl (gS rfl (gS rfl (gS rfl (gS rfl (gS rfl (gS rfl (gS rfl (gS rfl (gS rfl (gS rfl (gS rfl g0))))))))))))) (gS rfl (gS rfl (gS rfl (gS rfl (gS rfl (gS rfl (gS rfl (gS rfl (gS rfl (gS rfl (gS rfl (gS rfl g0)))))))))))) (gS rfl (gS rfl (gS rfl (gS rfl (gS rfl (gS rfl (gS rfl (gS rfl (gS rfl (gS rfl (gS rfl g0))))))))))) (gS rfl (gS rfl (gS rfl (gS rfl (gS rfl (gS rfl (gS rfl (gS rfl (gS rfl (gS rfl g0)))))))))) (gS rfl (gS rfl (gS rfl (gS rfl (gS rfl (gS rfl (gS rfl (gS rfl (gS rfl g0))))))))) (gS rfl (gS rfl (gS rfl (gS rfl (gS rfl (gS rfl (gS rfl (gS rfl g0)))))))) (gS rfl (gS rfl (gS rfl (gS rfl (gS rfl (gS rfl (gS rfl g0))))))) (gS rfl (gS rfl (gS rfl (gS rfl (gS rfl (gS rfl g0)))))) g0 (fun g => ?_)
          refine c_seq (fun K93 hK93 => ?_)
          refine c_block (fun Q94 hQ94 => ?_)
          refine fg9 2 8 9 10 14 15 16 17 18 (gS rfl (gS rfl (gS rfl (gS rfl (gS rfl (gS rfl (gS rfl (gS rfl g0)))))))) (gS rfl (gS rfl (gS rfl (gS rfl (gS rfl (gS rfl (gS rfl g0))))))) (gS rfl (gS rfl (gS rfl (gS rfl (gS rfl (gS rfl g0)))))) (gS rfl (gS rfl (gS rfl (gS rfl (gS rfl g0))))) (gS rfl (gS rfl (gS rfl (gS rfl g0)))) (gS rfl (gS rfl (gS rfl g0))) g0 (gS rfl (gS rfl g0)) (gS rfl g0) (fun g => ?_)
          refine c_loop (fun k s W95 => ∃ (g : Nat → Value) (q r : Nat), s = (upd (upd (upd (upd (upd (upd (upd (upd (upd g 2 (.int .u64 (Y : Nat))) 8 (.int .u64 (sh : Nat))) 9 (.int .u64 (a : Nat))) 10 (.int .u64 (b : Nat))) 14 (.int .u64 (u0 : Nat))) 15 (.int .u64 (p : Nat))) 16 (.int .u64 (r : Nat))) 17 (.int .u64 (R : Nat))) 18 (.int .u64 (q : Nat))) ∧ q = k ∧ (q * a + r = R) ∧ (R * 4294967296 + u0 < (q + 1) * Y) ∧ (r < 4294967296) ∧ Ch (fun k => False) W26 W95) ((R / a)) ?_ ?_
          · exact ⟨g, R / a, R - R / a * a, rfl, rfl, by have := Nat.div_mul_le_self R a; omega, half_fst R a b Y (by omega) hYab hb2 u0 hu0l, by have := Nat.div_add_mod R a; have := Nat.mod_lt R (show a > 0 by omega); have := Nat.mul_comm a (R / a); omega, Ch.refl _ _⟩
          · skip
            intro k s W95 hI K95 hK95
            obtain ⟨g, q, r, rfl, rfl, hq, hup, hrH, V95⟩ := hI
            replace U := U.cc V95 (by intro b hb; first | exact hb.elim | omega | (simp at hb ⊢; omega))
            have hqB : q ≤ R := by have := Nat.mul_le_mul_left q (show 1 ≤ a by omega); omega
            refine c_seq (fun K96 hK96 => ?_)
            refine c_seq (fun K97 hK97 => ?_)
            refine c_region ?_
            refine l_step (y_moveV (et g0 rfl)) ?_
            refine l_step (y_geq (et g0 rfl) rfl) ?_
            refine l_step (y_moveV (et g0 rfl)) ?_
            refine gsplitL (i := 104) g0 (fun q98 => ?_) (fun q98 => ?_)
            · skip
              have hgt : (R * 4294967296 + u0) < q * Y := half_lt _ _ _ _ hRl hu0l (by have := of_decide_eq_true q98; omega)
              refine l_gskip (j := 2) (t := 104) (by exact rfl) (by exact rfl) (et g0 rfl) (by decide) (by decide) ?_
              refine l_gskip (j := 2) (t := 104) (by exact rfl) (by exact rfl) (et (gS rfl g0) rfl) (by decide) (by decide) ?_
              refine l_gskip (j := 2) (t := 104) (by exact rfl) (by exact rfl) (et (gS rfl (gS rfl g0)) rfl) (by decide) (by decide) ?_
              refine l_gskip (j := 2) (t := 104) (by exact rfl) (by exact rfl) (et (gS rfl (gS rfl (gS rfl g0))) rfl) (by decide) (by decide) ?_
              refine l_gskip (j := 2) (t := 104) (by exact rfl) (by exact rfl) (et (gS rfl (gS rfl (gS rfl (gS rfl g0)))) rfl) (by decide) (by decide) ?_
              refine l_gskip (j := 2) (t := 104) (by exact rfl) (by exact rfl) (et (gS rfl (gS rfl (gS rfl (gS rfl (gS rfl g0))))) rfl) (by decide) (by decide) ?_
              refine l_gskip (j := 2) (t := 104) (by exact rfl) (by exact rfl) (et (gS rfl (gS rfl (gS rfl (gS rfl (gS rfl (gS rfl g0)))))) rfl) (by decide) (by decide) ?_
              refine l_gskip (j := 2) (t := 104) (by exact rfl) (by exact rfl) (et (gS rfl (gS rfl (gS rfl (gS rfl (gS rfl (gS rfl (gS rfl g0))))))) rfl) (by decide) (by decide) ?_
              refine l_step (y_pickT (et (gS rfl (gS rfl (gS rfl (gS rfl (gS rfl (gS rfl (gS rfl (gS rfl g0)))))))) rfl) rfl) ?_
              refine l_nil ?_
              refine hK97 _ _ ?_
              refine fg10 2 8 9 10 14 15 16 17 18 113 (gS rfl (gS rfl (gS rfl (gS rfl (gS rfl (gS rfl (gS rfl (gS rfl (gS rfl (gS rfl (gS rfl (gS rfl (gS rfl (gS rfl (gS rfl (gS rfl (gS rfl (gS rfl (gS rfl (gS rfl (gS rfl g0))))))))))))))))))))) (gS rfl (gS rfl (gS rfl (gS rfl (gS rfl (gS rfl (gS rfl (gS rfl (gS rfl (gS rfl (gS rfl (gS rfl (gS rfl (gS rfl (gS rfl (gS rfl (gS rfl (gS rfl (gS rfl (gS rfl g0)))))))))))))))))))) (gS rfl (gS rfl (gS rfl (gS rfl (gS rfl (gS rfl (gS rfl (gS rfl (gS rfl (gS rfl (gS rfl (gS rfl (gS rfl (gS rfl (gS rfl (gS rfl (gS rfl (gS rfl (gS rfl g0))))))))))))))))))) (gS rfl (gS rfl (gS rfl (gS rfl (gS rfl (gS rfl (gS rfl (gS rfl (gS rfl (gS rfl (gS rfl (gS rfl (gS rfl (gS rfl (gS rfl (gS rfl (gS rfl (gS rfl g0)))))))))))))))))) (gS rfl (gS rfl (gS rfl (gS rfl (gS rfl (gS rfl (gS rfl (gS rfl (gS rfl (gS rfl (gS rfl (gS rfl (gS rfl (gS rfl (gS rfl (gS rfl (gS rfl g0))))))))))))))))) (gS rfl (gS rfl (gS rfl (gS rfl (gS rfl (gS rfl (gS rfl (gS rfl (gS rfl (gS rfl (gS rfl (gS rfl (gS rfl (gS rfl (gS rfl (gS rfl g0)))))))))))))))) (gS rfl (gS rfl (gS rfl (gS rfl (gS rfl (gS rfl (gS rfl (gS rfl (gS rfl (gS rfl (gS rfl (gS rfl (gS rfl (gS rfl (gS rfl g0))))))))))))))) (gS rfl (gS rfl (gS rfl (gS rfl (gS rfl (gS rfl (gS rfl (gS rfl (gS rfl (gS rfl (gS rfl (gS rfl (gS rfl (gS rfl g0)))))))))))))) (gS rfl (gS rfl (gS rfl (gS rfl (gS rfl (gS rfl (gS rfl (gS rfl (gS rfl (gS rfl (gS rfl (gS rfl (gS rfl g0))))))))))))) g0 (fun g => ?_)
              refine c_true (et g0 rfl) rfl ?_
              refine c_skip ?_
              refine hK96 _ _ ?_
              refine fg9 2 8 9 10 14 15 16 17 18 (gS rfl (gS rfl (gS rfl (gS rfl (gS rfl (gS rfl (gS rfl (gS rfl (gS rfl g0))))))))) (gS rfl (gS rfl (gS rfl (gS rfl (gS rfl (gS rfl (gS rfl (gS rfl g0)))))))) (gS rfl (gS rfl (gS rfl (gS rfl (gS rfl (gS rfl (gS rfl g0))))))) (gS rfl (gS rfl (gS rfl (gS rfl (gS rfl (gS rfl g0)))))) (gS rfl (gS rfl (gS rfl (gS rfl (gS rfl g0))))) (gS rfl (gS rfl (gS rfl (gS rfl g0)))) (gS rfl (gS rfl (gS rfl g0))) (gS rfl (gS rfl g0)) (gS rfl g0) (fun g => ?_)
              refine c_block (fun Q100 hQ100 => ?_)
              refine c_seq (fun K101 hK101 => ?_)
              refine c_region ?_
              refine l_step (y_moveV (et g0 rfl)) ?_
              have hq0 : q ≠ 0 := fun h0 => by rw [h0, Nat.zero_mul] at hgt; omega
              obtain ⟨p0, rfl⟩ : ∃ p, q = p + 1 := ⟨q - 1, by omega⟩
              have hup : (R * 4294967296 + u0) < (p0 + 1) * Y := hgt
              have hq2 : p0 * a + (r + a) = R := by rw [Nat.add_mul] at hq; omega
              refine l_step (y_sub (et g0 rfl) rfl (subOne ?_)) ?_
              omega
              refine l_step (y_assignV (et g0 rfl)) ?_
              refine l_nil ?_
              refine hK101 _ _ ?_
              refine fg9 2 8 9 10 14 15 16 17 18 (gS rfl (gS rfl (gS rfl (gS rfl (gS rfl (gS rfl (gS rfl (gS rfl (gS rfl (gS rfl (gS rfl g0))))))))))) (gS rfl (gS rfl (gS rfl (gS rfl (gS rfl (gS rfl (gS rfl (gS rfl (gS rfl (gS rfl g0)))))))))) (gS rfl (gS rfl (gS rfl (gS rfl (gS rfl (gS rfl (gS rfl (gS rfl (gS rfl g0))))))))) (gS rfl (gS rfl (gS rfl (gS rfl (gS rfl (gS rfl (gS rfl (gS rfl g0)))))))) (gS rfl (gS rfl (gS rfl (gS rfl (gS rfl (gS rfl (gS rfl g0))))))) (gS rfl (gS rfl (gS rfl (gS rfl (gS rfl (gS rfl g0)))))) (gS rfl (gS rfl (gS rfl (gS rfl (gS rfl g0))))) (gS rfl (gS rfl (gS rfl (gS rfl g0)))) g0 (fun g => ?_)
              refine c_seq (fun K102 hK102 => ?_)
              refine c_region ?_
              refine l_step (y_moveV (et (gS rfl (gS rfl g0)) rfl)) ?_
              refine l_step (y_moveV (et (gS rfl (gS rfl (gS rfl (gS rfl (gS rfl (gS rfl (gS rfl g0))))))) rfl)) ?_
              refine l_step (y_add (et (gS rfl g0) rfl) (et g0 rfl) (wrapU_addN uk64 ?_)) ?_
              omega
              refine l_step (y_assignV (et g0 rfl)) ?_
              refine l_nil ?_
              refine hK102 _ _ ?_
              refine fg9 2 8 9 10 14 15 16 17 18 (gS rfl (gS rfl (gS rfl (gS rfl (gS rfl (gS rfl (gS rfl (gS rfl (gS rfl (gS rfl (gS rfl (gS rfl g0)))))))))))) (gS rfl (gS rfl (gS rfl (gS rfl (gS rfl (gS rfl (gS rfl (gS rfl (gS rfl (gS rfl (gS rfl g0))))))))))) (gS rfl (gS rfl (gS rfl (gS rfl (gS rfl (gS rfl (gS rfl (gS rfl (gS rfl (gS rfl g0)))))))))) (gS rfl (gS rfl (gS rfl (gS rfl (gS rfl (gS rfl (gS rfl (gS rfl (gS rfl g0))))))))) (gS rfl (gS rfl (gS rfl (gS rfl (gS rfl (gS rfl (gS rfl (gS rfl g0)))))))) (gS rfl (gS rfl (gS rfl (gS rfl (gS rfl (gS rfl (gS rfl g0))))))) g0 (gS rfl (gS rfl (gS rfl (gS rfl (gS rfl g0))))) (gS rfl (gS rfl (gS rfl (gS rfl g0)))) (fun g => ?_)
              refine c_seq (fun K103 hK103 => ?_)
              refine c_region ?_
              refine l_step (y_moveV (et (gS rfl (gS rfl g0)) rfl)) ?_
              refine l_step (y_geq (et g0 rfl) rfl) ?_
              refine l_nil ?_
              refine hK103 _ _ ?_
              refine fg10 2 8 9 10 14 15 16 17 18 120 (gS rfl (gS rfl (gS rfl (gS rfl (gS rfl (gS rfl (gS rfl (gS rfl (gS rfl (gS rfl g0)))))))))) (gS rfl (gS rfl (gS rfl (gS rfl (gS rfl (gS rfl (gS rfl (gS rfl (gS rfl g0))))))))) (gS rfl (gS rfl (gS rfl (gS rfl (gS rfl (gS rfl (gS rfl (gS rfl g0)))))))) (gS rfl (gS rfl (gS rfl (gS rfl (gS rfl (gS rfl (gS rfl g0))))))) (gS rfl (gS rfl (gS rfl (gS rfl (gS rfl (gS rfl g0)))))) (gS rfl (gS rfl (gS rfl (gS rfl (gS rfl g0))))) (gS rfl (gS rfl (gS rfl (gS rfl g0)))) (gS rfl (gS rfl (gS rfl g0))) (gS rfl (gS rfl g0)) g0 (fun g => ?_)
              refine c_cond (et g0 rfl) (fun cB7 => ?_) (fun cB7 => ?_)
              · skip
                
                have hbrk : 4294967296 ≤ r + a := by have := of_decide_eq_true cB7; omega
                have hp0l := half_brk p0 a b (r + a) R Y hYab hb2 hq2 hRl hbrk
                have hle := half_le p0 a b (r + a) R Y u0 hYab hb2 hq2 hp0l hbrk
                obtain ⟨R2, hR2⟩ : ∃ Z, (R * 4294967296 + u0) = p0 * Y + Z := Nat.exists_eq_add_of_le hle
                have hR2l : R2 < Y := by rw [Nat.add_mul] at hup; omega
                refine c_exit ?_
                refine hQ100 _ _ _ (in_past (by decide) ?_)
                refine hQ94 _ _ _ (in_exit ?_)
                refine hK93 _ _ ?_
                refine fg6 2 8 14 15 17 18 (gS rfl (gS rfl (gS rfl (gS rfl (gS rfl (gS rfl (gS rfl (gS rfl (gS rfl g0))))))))) (gS rfl (gS rfl (gS rfl (gS rfl (gS rfl (gS rfl (gS rfl (gS rfl g0)))))))) (gS rfl (gS rfl (gS rfl (gS rfl (gS rfl g0))))) (gS rfl (gS rfl (gS rfl (gS rfl g0)))) (gS rfl (gS rfl g0)) (gS rfl g0) (fun g => ?_)
                refine c_seq (fun K105 hK105 => ?_)
                refine c_region ?_
                refine l_step (y_moveV (et (gS rfl (gS rfl g0)) rfl)) ?_
                refine l_step (y_mul (et g0 rfl) rfl (wrapU_mulN (b := 4294967296) uk64 ?_)) ?_
                exact mulH hpl
                refine l_step (y_moveV (et (gS rfl (gS rfl g0)) rfl)) ?_
                refine l_step (y_add (et (gS rfl g0) rfl) (et g0 rfl) (wrapU_addN uk64 ?_)) ?_
                exact mulAH hpl hp0l
                refine l_step (y_moveV (et (gS rfl (gS rfl (gS rfl (gS rfl (gS rfl g0))))) rfl)) ?_
                refine l_step (y_mul (et g0 rfl) rfl (wrapU_mul (b := 4294967296) uk64)) ?_
                refine l_step (y_moveV (et (gS rfl (gS rfl (gS rfl (gS rfl (gS rfl (gS rfl (gS rfl (gS rfl (gS rfl g0))))))))) rfl)) ?_
                refine l_step (y_add (et (gS rfl g0) rfl) (et g0 rfl) (addM rfl)) ?_
                refine l_step (y_moveV (et (gS rfl (gS rfl (gS rfl (gS rfl (gS rfl (gS rfl (gS rfl (gS rfl g0)))))))) rfl)) ?_
                refine l_step (y_moveV (et (gS rfl (gS rfl (gS rfl (gS rfl (gS rfl (gS rfl (gS rfl (gS rfl (gS rfl (gS rfl (gS rfl (gS rfl (gS rfl (gS rfl g0)))))))))))))) rfl)) ?_
                refine l_step (y_mul (et (gS rfl g0) rfl) (et g0 rfl) (wrapU_mul uk64)) ?_
                refine l_step (y_sub (et (gS rfl (gS rfl (gS rfl g0))) rfl) (et g0 rfl) (subM hR2 ?_)) ?_
                omega
                refine l_step (y_moveV (et (gS rfl (gS rfl (gS rfl (gS rfl (gS rfl (gS rfl (gS rfl (gS rfl (gS rfl (gS rfl (gS rfl (gS rfl (gS rfl (gS rfl (gS rfl (gS rfl g0)))))))))))))))) rfl)) ?_
                refine l_step (y_shr (et (gS rfl g0) rfl) (et g0 rfl) ?_ (shrV ?_)) ?_
                omega
                omega
                refine l_step (y_assignV (et (gS rfl (gS rfl (gS rfl (gS rfl (gS rfl (gS rfl (gS rfl (gS rfl (gS rfl (gS rfl g0)))))))))) rfl)) ?_
                refine l_step (y_assignV (et (gS rfl g0) rfl)) ?_
                refine l_nil ?_
                refine hK105 _ _ ?_
                refine fg2 6 7 (gS rfl g0) g0 (fun g => ?_)
                refine c_ret ?_
                refine ret2 rfl (res_tmp (et (gS rfl g0) rfl)) (res_tmp (et g0 rfl)) ?_
                refine ⟨?_, U⟩
                obtain ⟨f1, f2⟩ := div_fin2 hi lo y sh A u10 u1 u0 p R p0 R2 Y hy0 hN hY hu1 hu0 hR hR2 hR2l
                rw [f1, f2]
              · skip
                
                have hnb : r + a < 4294967296 := by have := of_decide_eq_false cB7; omega
                refine c_skip ?_
                refine hQ100 _ _ _ (in_normal ?_)
                refine fK9 2 8 9 10 14 15 16 17 18 (gS rfl (gS rfl (gS rfl (gS rfl (gS rfl (gS rfl (gS rfl (gS rfl (gS rfl g0))))))))) (gS rfl (gS rfl (gS rfl (gS rfl (gS rfl (gS rfl (gS rfl (gS rfl g0)))))))) (gS rfl (gS rfl (gS rfl (gS rfl (gS rfl (gS rfl (gS rfl g0))))))) (gS rfl (gS rfl (gS rfl (gS rfl (gS rfl (gS rfl g0)))))) (gS rfl (gS rfl (gS rfl (gS rfl (gS rfl g0))))) (gS rfl (gS rfl (gS rfl (gS rfl g0)))) (gS rfl (gS rfl (gS rfl g0))) (gS rfl (gS rfl g0)) (gS rfl g0) (fun g => ?_)
                exact hK95 ((p0)) _ _ (by omega) ⟨g, p0, r + a, rfl, rfl, hq2, hup, hnb, V95⟩
            · skip
              have hqH : q < 4294967296 := by have := of_decide_eq_false q98; omega
              have hqb : q * b ≤ 4294967295 * 4294967295 := Nat.mul_le_mul (by omega) (by omega)
              have heq := half_eq q Y a b R r hYab hq
              refine l_gstep (j := 2) (t := 104) (by exact rfl) (by exact rfl) (et g0 rfl) (by decide) (y_moveV (et (gS rfl (gS rfl (gS rfl (gS rfl g0)))) rfl)) ?_
              refine l_gstep (j := 2) (t := 104) (by exact rfl) (by exact rfl) (et (gS rfl g0) rfl) (by decide) (y_moveV (et (gS rfl (gS rfl (gS rfl (gS rfl (gS rfl (gS rfl (gS rfl (gS rfl (gS rfl (gS rfl g0)))))))))) rfl)) ?_
              refine l_gstep (j := 2) (t := 104) (by exact rfl) (by exact rfl) (et (gS rfl (gS rfl g0)) rfl) (by decide) (y_mul (et (gS rfl g0) rfl) (et g0 rfl) (wrapU_mulN uk64 ?_)) ?_
              omega
              refine l_gstep (j := 2) (t := 104) (by exact rfl) (by exact rfl) (et (gS rfl (gS rfl (gS rfl g0))) rfl) (by decide) (y_moveV (et (gS rfl (gS rfl (gS rfl (gS rfl (gS rfl (gS rfl (gS rfl (gS rfl (gS rfl g0))))))))) rfl)) ?_
              refine l_gstep (j := 2) (t := 104) (by exact rfl) (by exact rfl) (et (gS rfl (gS rfl (gS rfl (gS rfl g0)))) rfl) (by decide) (y_mul rfl (et g0 rfl) (wrapU_mulN (a := 4294967296) uk64 ?_)) ?_
              omega
              refine l_gstep (j := 2) (t := 104) (by exact rfl) (by exact rfl) (et (gS rfl (gS rfl (gS rfl (gS rfl (gS rfl g0))))) rfl) (by decide) (y_moveV (et (gS rfl (gS rfl (gS rfl (gS rfl (gS rfl (gS rfl (gS rfl (gS rfl (gS rfl (gS rfl (gS rfl (gS rfl (gS rfl g0))))))))))))) rfl)) ?_
              refine l_gstep (j := 2) (t := 104) (by exact rfl) (by exact rfl) (et (gS rfl (gS rfl (gS rfl (gS rfl (gS rfl (gS rfl g0)))))) rfl) (by decide) (y_add (et (gS rfl g0) rfl) (et g0 rfl) (wrapU_addN uk64 ?_)) ?_
              omega
              refine l_gstep (j := 2) (t := 104) (by exact rfl) (by exact rfl) (et (gS rfl (gS rfl (gS rfl (gS rfl (gS rfl (gS rfl (gS rfl g0))))))) rfl) (by decide) (y_gtr (et (gS rfl (gS rfl (gS rfl (gS rfl g0)))) rfl) (et g0 rfl)) ?_
              refine l_step (y_pickF (et (gS rfl (gS rfl (gS rfl (gS rfl (gS rfl (gS rfl (gS rfl (gS rfl g0)))))))) rfl) (et g0 rfl)) ?_
              refine l_nil ?_
              refine hK97 _ _ ?_
              refine fg10 2 8 9 10 14 15 16 17 18 113 (gS rfl (gS rfl (gS rfl (gS rfl (gS rfl (gS rfl (gS rfl (gS rfl (gS rfl (gS rfl (gS rfl (gS rfl (gS rfl (gS rfl (gS rfl (gS rfl (gS rfl (gS rfl (gS rfl (gS rfl (gS rfl g0))))))))))))))))))))) (gS rfl (gS rfl (gS rfl (gS rfl (gS rfl (gS rfl (gS rfl (gS rfl (gS rfl (gS rfl (gS rfl (gS rfl (gS rfl (gS rfl (gS rfl (gS rfl (gS rfl (gS rfl (gS rfl (gS rfl g0)))))))))))))))))))) (gS rfl (gS rfl (gS rfl (gS rfl (gS rfl (gS rfl (gS rfl (gS rfl (gS rfl (gS rfl (gS rfl (gS rfl (gS rfl (gS rfl (gS rfl (gS rfl (gS rfl (gS rfl (gS rfl g0))))))))))))))))))) (gS rfl (gS rfl (gS rfl (gS rfl (gS rfl (gS rfl (gS rfl (gS rfl (gS rfl (gS rfl (gS rfl (gS rfl (gS rfl (gS rfl (gS rfl (gS rfl (gS rfl (gS rfl g0)))))))))))))))))) (gS rfl (gS rfl (gS rfl (gS rfl (gS rfl (gS rfl (gS rfl (gS rfl (gS rfl (gS rfl (gS rfl (gS rfl (gS rfl (gS rfl (gS rfl (gS rfl (gS rfl g0))))))))))))))))) (gS rfl (gS rfl (gS rfl (gS rfl (gS rfl (gS rfl (gS rfl (gS rfl (gS rfl (gS rfl (gS rfl (gS rfl (gS rfl (gS rfl (gS rfl (gS rfl g0)))))))))))))))) (gS rfl (gS rfl (gS rfl (gS rfl (gS rfl (gS rfl (gS rfl (gS rfl (gS rfl (gS rfl (gS rfl (gS rfl (gS rfl (gS rfl (gS rfl g0))))))))))))))) (gS rfl (gS rfl (gS rfl (gS rfl (gS rfl (gS rfl (gS rfl (gS rfl (gS rfl (gS rfl (gS rfl (gS rfl (gS rfl (gS rfl g0)))))))))))))) (gS rfl (gS rfl (gS rfl (gS rfl (gS rfl (gS rfl (gS rfl (gS rfl (gS rfl (gS rfl (gS rfl (gS rfl (gS rfl g0))))))))))))) g0 (fun g => ?_)
              refine c_cond (et g0 rfl) (fun cB6 => ?_) (fun cB6 => ?_)
              · skip
                
                have hgt : (R * 4294967296 + u0) < q * Y := half_gt heq cB6
                refine c_skip ?_
                refine hK96 _ _ ?_
                refine fg9 2 8 9 10 14 15 16 17 18 (gS rfl (gS rfl (gS rfl (gS rfl (gS rfl (gS rfl (gS rfl (gS rfl (gS rfl g0))))))))) (gS rfl (gS rfl (gS rfl (gS rfl (gS rfl (gS rfl (gS rfl (gS rfl g0)))))))) (gS rfl (gS rfl (gS rfl (gS rfl (gS rfl (gS rfl (gS rfl g0))))))) (gS rfl (gS rfl (gS rfl (gS rfl (gS rfl (gS rfl g0)))))) (gS rfl (gS rfl (gS rfl (gS rfl (gS rfl g0))))) (gS rfl (gS rfl (gS rfl (gS rfl g0)))) (gS rfl (gS rfl (gS rfl g0))) (gS rfl (gS rfl g0)) (gS rfl g0) (fun g => ?_)
                refine c_block (fun Q107 hQ107 => ?_)
                refine c_seq (fun K108 hK108 => ?_)
                refine c_region ?_
                refine l_step (y_moveV (et g0 rfl)) ?_
                have hq0 : q ≠ 0 := fun h0 => by rw [h0, Nat.zero_mul] at hgt; omega
                obtain ⟨p0, rfl⟩ : ∃ p, q = p + 1 := ⟨q - 1, by omega⟩
                have hup : (R * 4294967296 + u0) < (p0 + 1) * Y := hgt
                have hq2 : p0 * a + (r + a) = R := by rw [Nat.add_mul] at hq; omega
                refine l_step (y_sub (et g0 rfl) rfl (subOne ?_)) ?_
                omega
                refine l_step (y_assignV (et g0 rfl)) ?_
                refine l_nil ?_
                refine hK108 _ _ ?_
                refine fg9 2 8 9 10 14 15 16 17 18 (gS rfl (gS rfl (gS rfl (gS rfl (gS rfl (gS rfl (gS rfl (gS rfl (gS rfl (gS rfl (gS rfl g0))))))))))) (gS rfl (gS rfl (gS rfl (gS rfl (gS rfl (gS rfl (gS rfl (gS rfl (gS rfl (gS rfl g0)))))))))) (gS rfl (gS rfl (gS rfl (gS rfl (gS rfl (gS rfl (gS rfl (gS rfl (gS rfl g0))))))))) (gS rfl (gS rfl (gS rfl (gS rfl (gS rfl (gS rfl (gS rfl (gS rfl g0)))))))) (gS rfl (gS rfl (gS rfl (gS rfl (gS rfl (gS rfl (gS rfl g0))))))) (gS rfl (gS rfl (gS rfl (gS rfl (gS rfl (gS rfl g0)))))) (gS rfl (gS rfl (gS rfl (gS rfl (gS rfl g0))))) (gS rfl (gS rfl (gS rfl (gS rfl g0)))) g0 (fun g => ?_)
                refine c_seq (fun K109 hK109 => ?_)
                refine c_region ?_
                refine l_step (y_moveV (et (gS rfl (gS rfl g0)) rfl)) ?_
                refine l_step (y_moveV (et (gS rfl (gS rfl (gS rfl (gS rfl (gS rfl (gS rfl (gS rfl g0))))))) rfl)) ?_
                refine l_step (y_add (et (gS rfl g0) rfl) (et g0 rfl) (wrapU_addN uk64 ?_)) ?_
                omega
                refine l_step (y_assignV (et g0 rfl)) ?_
                refine l_nil ?_
                refine hK109 _ _ ?_
                refine fg9 2 8 9 10 14 15 16 17 18 (gS rfl (gS rfl (gS rfl (gS rfl (gS rfl (gS rfl (gS rfl (gS rfl (gS rfl (gS rfl (gS rfl (gS rfl g0)))))))))))) (gS rfl (gS rfl (gS rfl (gS rfl (gS rfl (gS rfl (gS rfl (gS rfl (gS rfl (gS rfl (gS rfl g0))))))))))) (gS rfl (gS rfl (gS rfl (gS rfl (gS rfl (gS rfl (gS rfl (gS rfl (gS rfl (gS rfl g0)))))))))) (gS rfl (gS rfl (gS rfl (gS rfl (gS rfl (gS rfl (gS rfl (gS rfl (gS rfl g0))))))))) (gS rfl (gS rfl (gS rfl (gS rfl (gS rfl (gS rfl (gS rfl (gS rfl g0)))))))) (gS rfl (gS rfl (gS rfl (gS rfl (gS rfl (gS rfl (gS rfl g0))))))) g0 (gS rfl (gS rfl (gS rfl (gS rfl (gS rfl g0))))) (gS rfl (gS rfl (gS rfl (gS rfl g0)))) (fun g => ?_)
                refine c_seq (fun K110 hK110 => ?_)
                refine c_region ?_
                refine l_step (y_moveV (et (gS rfl (gS rfl g0)) rfl)) ?_
                refine l_step (y_geq (et g0 rfl) rfl) ?_
                refine l_nil ?_
                refine hK110 _ _ ?_
                refine fg10 2 8 9 10 14 15 16 17 18 120 (gS rfl (gS rfl (gS rfl (gS rfl (gS rfl (gS rfl (gS rfl (gS rfl (gS rfl (gS rfl g0)))))))))) (gS rfl (gS rfl (gS rfl (gS rfl (gS rfl (gS rfl (gS rfl (gS rfl (gS rfl g0))))))))) (gS rfl (gS rfl (gS rfl (gS rfl (gS rfl (gS rfl (gS rfl (gS rfl g0)))))))) (gS rfl (gS rfl (gS rfl (gS rfl (gS rfl (gS rfl (gS rfl g0))))))) (gS rfl (gS rfl (gS rfl (gS rfl (gS rfl (gS rfl g0)))))) (gS rfl (gS rfl (gS rfl (gS rfl (gS rfl g0))))) (gS rfl (gS rfl (gS rfl (gS rfl g0)))) (gS rfl (gS rfl (gS rfl g0))) (gS rfl (gS rfl g0)) g0 (fun g => ?_)
                refine c_cond (et g0 rfl) (fun cB7 => ?_) (fun cB7 => ?_)
                · skip
                  
                  have hbrk : 4294967296 ≤ r + a := by have := of_decide_eq_true cB7; omega
                  have hp0l := half_brk p0 a b (r + a) R Y hYab hb2 hq2 hRl hbrk
                  have hle := half_le p0 a b (r + a) R Y u0 hYab hb2 hq2 hp0l hbrk
                  obtain ⟨R2, hR2⟩ : ∃ Z, (R * 4294967296 + u0) = p0 * Y + Z := Nat.exists_eq_add_of_le hle
                  have hR2l : R2 < Y := by rw [Nat.add_mul] at hup; omega
                  refine c_exit ?_
                  refine hQ107 _ _ _ (in_past (by decide) ?_)
                  refine hQ94 _ _ _ (in_exit ?_)
                  refine hK93 _ _ ?_
                  refine fg6 2 8 14 15 17 18 (gS rfl (gS rfl (gS rfl (gS rfl (gS rfl (gS rfl (gS rfl (gS rfl (gS rfl g0))))))))) (gS rfl (gS rfl (gS rfl (gS rfl (gS rfl (gS rfl (gS rfl (gS rfl g0)))))))) (gS rfl (gS rfl (gS rfl (gS rfl (gS rfl g0))))) (gS rfl (gS rfl (gS rfl (gS rfl g0)))) (gS rfl (gS rfl g0)) (gS rfl g0) (fun g => ?_)
                  refine c_seq (fun K112 hK112 => ?_)
                  refine c_region ?_
                  refine l_step (y_moveV (et (gS rfl (gS rfl g0)) rfl)) ?_
                  refine l_step (y_mul (et g0 rfl) rfl (wrapU_mulN (b := 4294967296) uk64 ?_)) ?_
                  exact mulH hpl
                  refine l_step (y_moveV (et (gS rfl (gS rfl g0)) rfl)) ?_
                  refine l_step (y_add (et (gS rfl g0) rfl) (et g0 rfl) (wrapU_addN uk64 ?_)) ?_
                  exact mulAH hpl hp0l
                  refine l_step (y_moveV (et (gS rfl (gS rfl (gS rfl (gS rfl (gS rfl g0))))) rfl)) ?_
                  refine l_step (y_mul (et g0 rfl) rfl (wrapU_mul (b := 4294967296) uk64)) ?_
                  refine l_step (y_moveV (et (gS rfl (gS rfl (gS rfl (gS rfl (gS rfl (gS rfl (gS rfl (gS rfl (gS rfl g0))))))))) rfl)) ?_
                  refine l_step (y_add (et (gS rfl g0) rfl) (et g0 rfl) (addM rfl)) ?_
                  refine l_step (y_moveV (et (gS rfl (gS rfl (gS rfl (gS rfl (gS rfl (gS rfl (gS rfl (gS rfl g0)))))))) rfl)) ?_
                  refine l_step (y_moveV (et (gS rfl (gS rfl (gS rfl (gS rfl (gS rfl (gS rfl (gS rfl (gS rfl (gS rfl (gS rfl (gS rfl (gS rfl (gS rfl (gS rfl g0)))))))))))))) rfl)) ?_
                  refine l_step (y_mul (et (gS rfl g0) rfl) (et g0 rfl) (wrapU_mul uk64)) ?_
                  refine l_step (y_sub (et (gS rfl (gS rfl (gS rfl g0))) rfl) (et g0 rfl) (subM hR2 ?_)) ?_
                  omega
                  refine l_step (y_moveV (et (gS rfl (gS rfl (gS rfl (gS rfl (gS rfl (gS rfl (gS rfl (gS rfl (gS rfl (gS rfl (gS rfl (gS rfl (gS rfl (gS rfl (gS rfl (gS rfl g0)))))))))))))))) rfl)) ?_
                  refine l_step (y_shr (et (gS rfl g0) rfl) (et g0 rfl) ?_ (shrV ?_)) ?_
                  omega
                  omega
                  refine l_step (y_assignV (et (gS rfl (gS rfl (gS rfl (gS rfl (gS rfl (gS rfl (gS rfl (gS rfl (gS rfl (gS rfl g0)))))))))) rfl)) ?_
                  refine l_step (y_assignV (et (gS rfl g0) rfl)) ?_
                  refine l_nil ?_
                  refine hK112 _ _ ?_
                  refine fg2 6 7 (gS rfl g0) g0 (fun g => ?_)
                  refine c_ret ?_
                  refine ret2 rfl (res_tmp (et (gS rfl g0) rfl)) (res_tmp (et g0 rfl)) ?_
                  refine ⟨?_, U⟩
                  obtain ⟨f1, f2⟩ := div_fin2 hi lo y sh A u10 u1 u0 p R p0 R2 Y hy0 hN hY hu1 hu0 hR hR2 hR2l
                  rw [f1, f2]
                · skip
                  
                  have hnb : r + a < 4294967296 := by have := of_decide_eq_false cB7; omega
                  refine c_skip ?_
                  refine hQ107 _ _ _ (in_normal ?_)
                  refine fK9 2 8 9 10 14 15 16 17 18 (gS rfl (gS rfl (gS rfl (gS rfl (gS rfl (gS rfl (gS rfl (gS rfl (gS rfl g0))))))))) (gS rfl (gS rfl (gS rfl (gS rfl (gS rfl (gS rfl (gS rfl (gS rfl g0)))))))) (gS rfl (gS rfl (gS rfl (gS rfl (gS rfl (gS rfl (gS rfl g0))))))) (gS rfl (gS rfl (gS rfl (gS rfl (gS rfl (gS rfl g0)))))) (gS rfl (gS rfl (gS rfl (gS rfl (gS rfl g0))))) (gS rfl (gS rfl (gS rfl (gS rfl g0)))) (gS rfl (gS rfl (gS rfl g0))) (gS rfl (gS rfl g0)) (gS rfl g0) (fun g => ?_)
                  exact hK95 ((p0)) _ _ (by omega) ⟨g, p0, r + a, rfl, rfl, hq2, hup, hnb, V95⟩
              · skip
                
                have hle : q * Y ≤ (R * 4294967296 + u0) := half_ngt heq cB6
                obtain ⟨p0, rfl⟩ : ∃ p, p = q := ⟨_, rfl⟩
                have hp0l : p0 < 4294967296 := hqH
                obtain ⟨R2, hR2⟩ : ∃ Z, (R * 4294967296 + u0) = p0 * Y + Z := Nat.exists_eq_add_of_le hle
                have hR2l : R2 < Y := by rw [Nat.add_mul] at hup; omega
                refine c_exit ?_
                refine hQ94 _ _ _ (in_exit ?_)
                refine hK93 _ _ ?_
                refine fg6 2 8 14 15 17 18 (gS rfl (gS rfl (gS rfl (gS rfl (gS rfl (gS rfl (gS rfl (gS rfl (gS rfl g0))))))))) (gS rfl (gS rfl (gS rfl (gS rfl (gS rfl (gS rfl (gS rfl (gS rfl g0)))))))) (gS rfl (gS rfl (gS rfl (gS rfl (gS rfl g0))))) (gS rfl (gS rfl (gS rfl (gS rfl g0)))) (gS rfl (gS rfl g0)) (gS rfl g0) (fun g => ?_)
                refine c_seq (fun K113 hK113 => ?_)
                refine c_region ?_
                refine l_step (y_moveV (et (gS rfl (gS rfl g0)) rfl)) ?_
                refine l_step (y_mul (et g0 rfl) rfl (wrapU_mulN (b := 4294967296) uk64 ?_)) ?_
                exact mulH hpl
                refine l_step (y_moveV (et (gS rfl (gS rfl g0)) rfl)) ?_
                refine l_step (y_add (et (gS rfl g0) rfl) (et g0 rfl) (wrapU_addN uk64 ?_)) ?_
                exact mulAH hpl hp0l
                refine l_step (y_moveV (et (gS rfl (gS rfl (gS rfl (gS rfl (gS rfl g0))))) rfl)) ?_
                refine l_step (y_mul (et g0 rfl) rfl (wrapU_mul (b := 4294967296) uk64)) ?_
                refine l_step (y_moveV (et (gS rfl (gS rfl (gS rfl (gS rfl (gS rfl (gS rfl (gS rfl (gS rfl (gS rfl g0))))))))) rfl)) ?_
                refine l_step (y_add (et (gS rfl g0) rfl) (et g0 rfl) (addM rfl)) ?_
                refine l_step (y_moveV (et (gS rfl (gS rfl (gS rfl (gS rfl (gS rfl (gS rfl (gS rfl (gS rfl g0)))))))) rfl)) ?_
                refine l_step (y_moveV (et (gS rfl (gS rfl (gS rfl (gS rfl (gS rfl (gS rfl (gS rfl (gS rfl (gS rfl (gS rfl (gS rfl (gS rfl (gS rfl (gS rfl g0)))))))))))))) rfl)) ?_
                refine l_step (y_mul (et (gS rfl g0) rfl) (et g0 rfl) (wrapU_mul uk64)) ?_
                refine l_step (y_sub (et (gS rfl (gS rfl (gS rfl g0))) rfl) (et g0 rfl) (subM hR2 ?_)) ?_
                omega
                refine l_step (y_moveV (et (gS rfl (gS rfl (gS rfl (gS rfl (gS rfl (gS rfl (gS rfl (gS rfl (gS rfl (gS rfl (gS rfl (gS rfl (gS rfl (gS rfl (gS rfl (gS rfl g0)))))))))))))))) rfl)) ?_
                refine l_step (y_shr (et (gS rfl g0) rfl) (et g0 rfl) ?_ (shrV ?_)) ?_
                omega
                omega
                refine l_step (y_assignV (et (gS rfl (gS rfl (gS rfl (gS rfl (gS rfl (gS rfl (gS rfl (gS rfl (gS rfl (gS rfl g0)))))))))) rfl)) ?_
                refine l_step (y_assignV (et (gS rfl g0) rfl)) ?_
                refine l_nil ?_
                refine hK113 _ _ ?_
                refine fg2 6 7 (gS rfl g0) g0 (fun g => ?_)
                refine c_ret ?_
                refine ret2 rfl (res_tmp (et (gS rfl g0) rfl)) (res_tmp (et g0 rfl)) ?_
                refine ⟨?_, U⟩
                obtain ⟨f1, f2⟩ := div_fin2 hi lo y sh A u10 u1 u0 p R p0 R2 Y hy0 hN hY hu1 hu0 hR hR2 hR2l
                rw [f1, f2]
end Go.Proofs.YgvaawGreat
