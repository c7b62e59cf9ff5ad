import Derived.Test.YgvaawGreatNum2
set_option linter.unusedSimpArgs false
set_option linter.unusedVariables false
namespace Go.Proofs.YgvaawGreat
open Go
theorem tabAt (S : ByteArray) (h : ∀ q : Fin 256, S[q.val]? = some (UInt8.ofNat (bitLen q.val))) (i : Nat) (hi : i < 256) : S[i]? = some (UInt8.ofNat (bitLen i)) := h ⟨i, hi⟩
theorem bl_shift (x b N : Nat) (hN : 2 ^ b = N) (h : N ≤ x) : bitLen x = b + bitLen (x / N) := by
  subst hN
  refine bitLen_shift x b ?_
  have := Nat.div_pos h (Nat.two_pow_pos b)
  omega
theorem bl_le (x k : Nat) (h : x < 2 ^ k) : bitLen x ≤ k := by
  by_cases h0 : x = 0
  · subst h0; simp [bitLen]
  · have h2 := (bitLen_spec x).2 h0
    rcases Nat.lt_or_ge k (bitLen x) with h3 | h3
    · have h4 : 2 ^ k ≤ 2 ^ (bitLen x - 1) := Nat.pow_le_pow_right (by decide) (by omega)
      omega
    · exact h3
section
variable {S : World → Prop} {n : Nat} {s : Nat → Value} {d : Option Nat} {ty : TypeId} {pos : String} {af : Array Edge} {g : Option (Nat × Bool)}
theorem y_strIdx {x y : Operand} {T i : Nat} {k : IntKind} {t : ByteArray} {c : UInt8} (hU : Hvaa.prog.underlying T = some .string) (hx : ev n s x = .string t) (hy : ev n s y = .int k i) (hb : t[i]? = some c) : Yv S n s ⟨d, .index T x y, ty, pos, af, g⟩ (.int .u8 (c.toNat : Nat)) := fun w _ => by
  simp [execOp, hx, hy, Instr.index, asIntOf, run_underlying hU, hb]
theorem y_tab {x y : Operand} {T i : Nat} {k : IntKind} {t : ByteArray} (hU : Hvaa.prog.underlying T = some .string) (hx : ev n s x = .string t) (hy : ev n s y = .int k i) (hb : ∀ q : Fin 256, t[q.val]? = some (UInt8.ofNat (bitLen q.val))) (hi : i < 256) : Yv S n s ⟨d, .index T x y, ty, pos, af, g⟩ (.int .u8 (bitLen i : Nat)) := by
  have := y_strIdx (S := S) (d := d) (ty := ty) (pos := pos) (af := af) (g := g) hU hx hy (hb ⟨i, hi⟩)
  have e : (UInt8.ofNat (bitLen i)).toNat = bitLen i := by
    have := bitLen_le8 i hi
    simp; omega
  rw [e] at this
  exact this
end
theorem lt9 (i : Nat) (hi : i < 256) : ((bitLen i : Nat) : Int) ≤ 8 := by
  have := bitLen_le8 i hi
  omega
theorem i64b {a b : Int} (hb : b ≤ 8) (ha : a ≤ 64) : a + b ≤ 9223372036854775807 := by omega
theorem toNat_bl (i : Nat) (hi : i < 256) : (UInt8.ofNat (bitLen i)).toNat = bitLen i := by
  have := bitLen_le8 i hi
  simp; omega
set_option maxRecDepth 100000 in
theorem blen64_spec (x : Nat) (w : World) (hx : x < 18446744073709551616) :
    Ret 357 [.int .u64 x] w (fun v w' => v = .int .i64 (bitLen x : Nat) ∧ Up w w') := by
  have a1 : 4294967296 ≤ x → bitLen x = 32 + bitLen (x / 4294967296) := bl_shift x 32 4294967296 rfl
  have a2 : 65536 ≤ x → bitLen x = 16 + bitLen (x / 65536) := bl_shift x 16 65536 rfl
  have a3 : 256 ≤ x → bitLen x = 8 + bitLen (x / 256) := bl_shift x 8 256 rfl
  have a4 : 65536 ≤ x / 4294967296 → bitLen (x / 4294967296) = 16 + bitLen (x / 4294967296 / 65536) := bl_shift _ 16 65536 rfl
  have a5 : 256 ≤ x / 4294967296 → bitLen (x / 4294967296) = 8 + bitLen (x / 4294967296 / 256) := bl_shift _ 8 256 rfl
  have a6 : 256 ≤ x / 4294967296 / 65536 → bitLen (x / 4294967296 / 65536) = 8 + bitLen (x / 4294967296 / 65536 / 256) := bl_shift _ 8 256 rfl
  have a7 : 256 ≤ x / 65536 → bitLen (x / 65536) = 8 + bitLen (x / 65536 / 256) := bl_shift _ 8 256 rfl
  refine enter (n := 25) Hvaa.func357 rfl rfl (Nat.le_of_ble_eq_true rfl) ?_
  have U := Up.refl w
  refine c_seq (fun K1 hK1 => ?_)
  refine c_region ?_
  refine l_step y_assignC ?_
  refine l_nil ?_
  refine hK1 _ _ ?_
  refine c_seq (fun K2 hK2 => ?_)
  refine c_seq (fun K3 hK3 => ?_)
  refine c_region ?_
  refine l_step (y_moveV (et (gS rfl g0) rfl)) ?_
  refine l_step (y_geq (et g0 rfl) rfl) ?_
  refine l_nil ?_
  refine hK3 _ _ ?_
  refine fg3 0 2 4 (gS rfl (gS rfl (gS rfl g0))) (gS rfl (gS rfl g0)) g0 (fun g => ?_)
  refine c_cond (et g0 rfl) (fun cB1 => ?_) (fun cB1 => ?_)
  · skip
    simp only [decide_eq_true_eq, decide_eq_false_iff_not, Int.not_lt, Int.not_le, Bool.not_eq_true', Bool.not_eq_false', Bool.not_eq_eq_eq_not, Bool.not_true, Bool.not_false] at cB1
    refine c_seq (fun K5 hK5 => ?_)
    refine c_region ?_
    refine l_step (y_moveV (et (gS rfl (gS rfl g0)) rfl)) ?_
    refine l_step (y_shr (et g0 rfl) rfl (by decide) (shr64C 32 4294967296 (by decide) rfl)) ?_
    refine l_step (y_assignV (et g0 rfl)) ?_
    refine l_nil ?_
    refine hK5 _ _ ?_
    refine fg1 0 g0 (fun g => ?_)
    refine c_region ?_
    refine l_step y_assignC ?_
    refine l_nil ?_
    refine hK2 _ _ ?_
    refine c_seq (fun K6 hK6 => ?_)
    refine c_seq (fun K7 hK7 => ?_)
    refine c_region ?_
    refine l_step (y_moveV (et (gS rfl g0) rfl)) ?_
    refine l_step (y_geq (et g0 rfl) rfl) ?_
    refine l_nil ?_
    refine hK7 _ _ ?_
    refine fg3 0 2 8 (gS rfl (gS rfl (gS rfl g0))) (gS rfl (gS rfl g0)) g0 (fun g => ?_)
    refine c_cond (et g0 rfl) (fun cB2 => ?_) (fun cB2 => ?_)
    · skip
      simp only [decide_eq_true_eq, decide_eq_false_iff_not, Int.not_lt, Int.not_le, Bool.not_eq_true', Bool.not_eq_false', Bool.not_eq_eq_eq_not, Bool.not_true, Bool.not_false] at cB2
      refine c_seq (fun K9 hK9 => ?_)
      refine c_region ?_
      refine l_step (y_moveV (et (gS rfl (gS rfl g0)) rfl)) ?_
      refine l_step (y_shr (et g0 rfl) rfl (by decide) (shr64C 16 65536 (by decide) rfl)) ?_
      refine l_step (y_assignV (et g0 rfl)) ?_
      refine l_nil ?_
      refine hK9 _ _ ?_
      refine fg2 0 2 g0 (gS rfl (gS rfl (gS rfl (gS rfl g0)))) (fun g => ?_)
      refine c_region ?_
      refine l_step (y_moveV (et g0 rfl)) ?_
      refine l_step (y_add (et g0 rfl) rfl (wrap_i64 ?_ ?_)) ?_
      omega
      omega
      refine l_step (y_assignV (et g0 rfl)) ?_
      refine l_nil ?_
      refine hK6 _ _ ?_
      refine fg2 0 2 (gS rfl (gS rfl (gS rfl (gS rfl g0)))) g0 (fun g => ?_)
      refine c_seq (fun K10 hK10 => ?_)
      refine c_seq (fun K11 hK11 => ?_)
      refine c_region ?_
      refine l_step (y_moveV (et (gS rfl g0) rfl)) ?_
      refine l_step (y_geq (et g0 rfl) rfl) ?_
      refine l_nil ?_
      refine hK11 _ _ ?_
      refine fg3 0 2 14 (gS rfl (gS rfl (gS rfl g0))) (gS rfl (gS rfl g0)) g0 (fun g => ?_)
      refine c_cond (et g0 rfl) (fun cB3 => ?_) (fun cB3 => ?_)
      · skip
        simp only [decide_eq_true_eq, decide_eq_false_iff_not, Int.not_lt, Int.not_le, Bool.not_eq_true', Bool.not_eq_false', Bool.not_eq_eq_eq_not, Bool.not_true, Bool.not_false] at cB3
        refine c_seq (fun K13 hK13 => ?_)
        refine c_region ?_
        refine l_step (y_moveV (et (gS rfl (gS rfl g0)) rfl)) ?_
        refine l_step (y_shr (et g0 rfl) rfl (by decide) (shr64C 8 256 (by decide) rfl)) ?_
        refine l_step (y_assignV (et g0 rfl)) ?_
        refine l_nil ?_
        refine hK13 _ _ ?_
        refine fg2 0 2 g0 (gS rfl (gS rfl (gS rfl (gS rfl g0)))) (fun g => ?_)
        refine c_region ?_
        refine l_step (y_moveV (et g0 rfl)) ?_
        refine l_step (y_add (et g0 rfl) rfl (wrap_i64 ?_ ?_)) ?_
        omega
        omega
        refine l_step (y_assignV (et g0 rfl)) ?_
        refine l_nil ?_
        refine hK10 _ _ ?_
        refine fg2 0 2 (gS rfl (gS rfl (gS rfl (gS rfl g0)))) g0 (fun g => ?_)
        refine c_seq (fun K14 hK14 => ?_)
        refine c_region ?_
        refine l_step (y_moveV (et g0 rfl)) ?_
        refine l_step (y_moveV (et (gS rfl (gS rfl g0)) rfl)) ?_
        refine l_step (y_conv Hvaa.underlying26 Hvaa.underlying5 (et g0 rfl) (wrapU_id uk8 ?_)) ?_
        omega
        refine l_step (y_tab Hvaa.underlying9 rfl (et g0 rfl) (by decide +kernel) ?_) ?_
        omega
        refine l_step (y_conv Hvaa.underlying5 Hvaa.underlying3 (et g0 rfl) (wrap_i64 ?_ ?_)) ?_
        omega
        exact Int.le_trans (lt9 _ (by omega)) (by decide)
        refine l_step (y_add (et (gS rfl (gS rfl (gS rfl (gS rfl g0)))) rfl) (et g0 rfl) (wrap_i64 ?_ ?_)) ?_
        omega
        exact i64b (lt9 _ (by omega)) (by omega)
        refine l_step (y_assignV (et g0 rfl)) ?_
        refine l_nil ?_
        refine hK14 _ _ ?_
        refine fg1 2 g0 (fun g => ?_)
        refine c_ret ?_
        refine ret1 rfl (res_tmp (et g0 rfl)) ?_
        refine ⟨?_, U⟩
        congr 1
        omega
      · skip
        simp only [decide_eq_true_eq, decide_eq_false_iff_not, Int.not_lt, Int.not_le, Bool.not_eq_true', Bool.not_eq_false', Bool.not_eq_eq_eq_not, Bool.not_true, Bool.not_false] at cB3
        refine c_skip ?_
        refine hK10 _ _ ?_
        refine fg2 0 2 (gS rfl (gS rfl g0)) (gS rfl g0) (fun g => ?_)
        refine c_seq (fun K15 hK15 => ?_)
        refine c_region ?_
        refine l_step (y_moveV (et g0 rfl)) ?_
        refine l_step (y_moveV (et (gS rfl (gS rfl g0)) rfl)) ?_
        refine l_step (y_conv Hvaa.underlying26 Hvaa.underlying5 (et g0 rfl) (wrapU_id uk8 ?_)) ?_
        omega
        refine l_step (y_tab Hvaa.underlying9 rfl (et g0 rfl) (by decide +kernel) ?_) ?_
        omega
        refine l_step (y_conv Hvaa.underlying5 Hvaa.underlying3 (et g0 rfl) (wrap_i64 ?_ ?_)) ?_
        omega
        exact Int.le_trans (lt9 _ (by omega)) (by decide)
        refine l_step (y_add (et (gS rfl (gS rfl (gS rfl (gS rfl g0)))) rfl) (et g0 rfl) (wrap_i64 ?_ ?_)) ?_
        omega
        exact i64b (lt9 _ (by omega)) (by omega)
        refine l_step (y_assignV (et g0 rfl)) ?_
        refine l_nil ?_
        refine hK15 _ _ ?_
        refine fg1 2 g0 (fun g => ?_)
        refine c_ret ?_
        refine ret1 rfl (res_tmp (et g0 rfl)) ?_
        refine ⟨?_, U⟩
        congr 1
        omega
    · skip
      simp only [decide_eq_true_eq, decide_eq_false_iff_not, Int.not_lt, Int.not_le, Bool.not_eq_true', Bool.not_eq_false', Bool.not_eq_eq_eq_not, Bool.not_true, Bool.not_false] at cB2
      refine c_skip ?_
      refine hK6 _ _ ?_
      refine fg2 0 2 (gS rfl (gS rfl g0)) (gS rfl g0) (fun g => ?_)
      refine c_seq (fun K16 hK16 => ?_)
      refine c_seq (fun K17 hK17 => ?_)
      refine c_region ?_
      refine l_step (y_moveV (et (gS rfl g0) rfl)) ?_
      refine l_step (y_geq (et g0 rfl) rfl) ?_
      refine l_nil ?_
      refine hK17 _ _ ?_
      refine fg3 0 2 14 (gS rfl (gS rfl (gS rfl g0))) (gS rfl (gS rfl g0)) g0 (fun g => ?_)
      refine c_cond (et g0 rfl) (fun cB3 => ?_) (fun cB3 => ?_)
      · skip
        simp only [decide_eq_true_eq, decide_eq_false_iff_not, Int.not_lt, Int.not_le, Bool.not_eq_true', Bool.not_eq_false', Bool.not_eq_eq_eq_not, Bool.not_true, Bool.not_false] at cB3
        refine c_seq (fun K19 hK19 => ?_)
        refine c_region ?_
        refine l_step (y_moveV (et (gS rfl (gS rfl g0)) rfl)) ?_
        refine l_step (y_shr (et g0 rfl) rfl (by decide) (shr64C 8 256 (by decide) rfl)) ?_
        refine l_step (y_assignV (et g0 rfl)) ?_
        refine l_nil ?_
        refine hK19 _ _ ?_
        refine fg2 0 2 g0 (gS rfl (gS rfl (gS rfl (gS rfl g0)))) (fun g => ?_)
        refine c_region ?_
        refine l_step (y_moveV (et g0 rfl)) ?_
        refine l_step (y_add (et g0 rfl) rfl (wrap_i64 ?_ ?_)) ?_
        omega
        omega
        refine l_step (y_assignV (et g0 rfl)) ?_
        refine l_nil ?_
        refine hK16 _ _ ?_
        refine fg2 0 2 (gS rfl (gS rfl (gS rfl (gS rfl g0)))) g0 (fun g => ?_)
        refine c_seq (fun K20 hK20 => ?_)
        refine c_region ?_
        refine l_step (y_moveV (et g0 rfl)) ?_
        refine l_step (y_moveV (et (gS rfl (gS rfl g0)) rfl)) ?_
        refine l_step (y_conv Hvaa.underlying26 Hvaa.underlying5 (et g0 rfl) (wrapU_id uk8 ?_)) ?_
        omega
        refine l_step (y_tab Hvaa.underlying9 rfl (et g0 rfl) (by decide +kernel) ?_) ?_
        omega
        refine l_step (y_conv Hvaa.underlying5 Hvaa.underlying3 (et g0 rfl) (wrap_i64 ?_ ?_)) ?_
        omega
        exact Int.le_trans (lt9 _ (by omega)) (by decide)
        refine l_step (y_add (et (gS rfl (gS rfl (gS rfl (gS rfl g0)))) rfl) (et g0 rfl) (wrap_i64 ?_ ?_)) ?_
        omega
        exact i64b (lt9 _ (by omega)) (by omega)
        refine l_step (y_assignV (et g0 rfl)) ?_
        refine l_nil ?_
        refine hK20 _ _ ?_
        refine fg1 2 g0 (fun g => ?_)
        refine c_ret ?_
        refine ret1 rfl (res_tmp (et g0 rfl)) ?_
        refine ⟨?_, U⟩
        congr 1
        omega
      · skip
        simp only [decide_eq_true_eq, decide_eq_false_iff_not, Int.not_lt, Int.not_le, Bool.not_eq_true', Bool.not_eq_false', Bool.not_eq_eq_eq_not, Bool.not_true, Bool.not_false] at cB3
        refine c_skip ?_
        refine hK16 _ _ ?_
        refine fg2 0 2 (gS rfl (gS rfl g0)) (gS rfl g0) (fun g => ?_)
        refine c_seq (fun K21 hK21 => ?_)
        refine c_region ?_
        refine l_step (y_moveV (et g0 rfl)) ?_
        refine l_step (y_moveV (et (gS rfl (gS rfl g0)) rfl)) ?_
        refine l_step (y_conv Hvaa.underlying26 Hvaa.underlying5 (et g0 rfl) (wrapU_id uk8 ?_)) ?_
        omega
        refine l_step (y_tab Hvaa.underlying9 rfl (et g0 rfl) (by decide +kernel) ?_) ?_
        omega
        refine l_step (y_conv Hvaa.underlying5 Hvaa.underlying3 (et g0 rfl) (wrap_i64 ?_ ?_)) ?_
        omega
        exact Int.le_trans (lt9 _ (by omega)) (by decide)
        refine l_step (y_add (et (gS rfl (gS rfl (gS rfl (gS rfl g0)))) rfl) (et g0 rfl) (wrap_i64 ?_ ?_)) ?_
        omega
        exact i64b (lt9 _ (by omega)) (by omega)
        refine l_step (y_assignV (et g0 rfl)) ?_
        refine l_nil ?_
        refine hK21 _ _ ?_
        refine fg1 2 g0 (fun g => ?_)
        refine c_ret ?_
        refine ret1 rfl (res_tmp (et g0 rfl)) ?_
        refine ⟨?_, U⟩
        congr 1
        omega
  · skip
    simp only [decide_eq_true_eq, decide_eq_false_iff_not, Int.not_lt, Int.not_le, Bool.not_eq_true', Bool.not_eq_false', Bool.not_eq_eq_eq_not, Bool.not_true, Bool.not_false] at cB1
    refine c_skip ?_
    refine hK2 _ _ ?_
    refine fg2 0 2 (gS rfl (gS rfl g0)) (gS rfl g0) (fun g => ?_)
    refine c_seq (fun K22 hK22 => ?_)
    refine c_seq (fun K23 hK23 => ?_)
    refine c_region ?_
    refine l_step (y_moveV (et (gS rfl g0) rfl)) ?_
    refine l_step (y_geq (et g0 rfl) rfl) ?_
    refine l_nil ?_
    refine hK23 _ _ ?_
    refine fg3 0 2 8 (gS rfl (gS rfl (gS rfl g0))) (gS rfl (gS rfl g0)) g0 (fun g => ?_)
    refine c_cond (et g0 rfl) (fun cB2 => ?_) (fun cB2 => ?_)
    · skip
      simp only [decide_eq_true_eq, decide_eq_false_iff_not, Int.not_lt, Int.not_le, Bool.not_eq_true', Bool.not_eq_false', Bool.not_eq_eq_eq_not, Bool.not_true, Bool.not_false] at cB2
      refine c_seq (fun K25 hK25 => ?_)
      refine c_region ?_
      refine l_step (y_moveV (et (gS rfl (gS rfl g0)) rfl)) ?_
      refine l_step (y_shr (et g0 rfl) rfl (by decide) (shr64C 16 65536 (by decide) rfl)) ?_
      refine l_step (y_assignV (et g0 rfl)) ?_
      refine l_nil ?_
      refine hK25 _ _ ?_
      refine fg2 0 2 g0 (gS rfl (gS rfl (gS rfl (gS rfl g0)))) (fun g => ?_)
      refine c_region ?_
      refine l_step (y_moveV (et g0 rfl)) ?_
      refine l_step (y_add (et g0 rfl) rfl (wrap_i64 ?_ ?_)) ?_
      omega
      omega
      refine l_step (y_assignV (et g0 rfl)) ?_
      refine l_nil ?_
      refine hK22 _ _ ?_
      refine fg2 0 2 (gS rfl (gS rfl (gS rfl (gS rfl g0)))) g0 (fun g => ?_)
      refine c_seq (fun K26 hK26 => ?_)
      refine c_seq (fun K27 hK27 => ?_)
      refine c_region ?_
      refine l_step (y_moveV (et (gS rfl g0) rfl)) ?_
      refine l_step (y_geq (et g0 rfl) rfl) ?_
      refine l_nil ?_
      refine hK27 _ _ ?_
      refine fg3 0 2 14 (gS rfl (gS rfl (gS rfl g0))) (gS rfl (gS rfl g0)) g0 (fun g => ?_)
      refine c_cond (et g0 rfl) (fun cB3 => ?_) (fun cB3 => ?_)
      · skip
        simp only [decide_eq_true_eq, decide_eq_false_iff_not, Int.not_lt, Int.not_le, Bool.not_eq_true', Bool.not_eq_false', Bool.not_eq_eq_eq_not, Bool.not_true, Bool.not_false] at cB3
        refine c_seq (fun K29 hK29 => ?_)
        refine c_region ?_
        refine l_step (y_moveV (et (gS rfl (gS rfl g0)) rfl)) ?_
        refine l_step (y_shr (et g0 rfl) rfl (by decide) (shr64C 8 256 (by decide) rfl)) ?_
        refine l_step (y_assignV (et g0 rfl)) ?_
        refine l_nil ?_
        refine hK29 _ _ ?_
        refine fg2 0 2 g0 (gS rfl (gS rfl (gS rfl (gS rfl g0)))) (fun g => ?_)
        refine c_region ?_
        refine l_step (y_moveV (et g0 rfl)) ?_
        refine l_step (y_add (et g0 rfl) rfl (wrap_i64 ?_ ?_)) ?_
        omega
        omega
        refine l_step (y_assignV (et g0 rfl)) ?_
        refine l_nil ?_
        refine hK26 _ _ ?_
        refine fg2 0 2 (gS rfl (gS rfl (gS rfl (gS rfl g0)))) g0 (fun g => ?_)
        refine c_seq (fun K30 hK30 => ?_)
        refine c_region ?_
        refine l_step (y_moveV (et g0 rfl)) ?_
        refine l_step (y_moveV (et (gS rfl (gS rfl g0)) rfl)) ?_
        refine l_step (y_conv Hvaa.underlying26 Hvaa.underlying5 (et g0 rfl) (wrapU_id uk8 ?_)) ?_
        omega
        refine l_step (y_tab Hvaa.underlying9 rfl (et g0 rfl) (by decide +kernel) ?_) ?_
        omega
        refine l_step (y_conv Hvaa.underlying5 Hvaa.underlying3 (et g0 rfl) (wrap_i64 ?_ ?_)) ?_
        omega
        exact Int.le_trans (lt9 _ (by omega)) (by decide)
        refine l_step (y_add (et (gS rfl (gS rfl (gS rfl (gS rfl g0)))) rfl) (et g0 rfl) (wrap_i64 ?_ ?_)) ?_
        omega
        exact i64b (lt9 _ (by omega)) (by omega)
        refine l_step (y_assignV (et g0 rfl)) ?_
        refine l_nil ?_
        refine hK30 _ _ ?_
        refine fg1 2 g0 (fun g => ?_)
        refine c_ret ?_
        refine ret1 rfl (res_tmp (et g0 rfl)) ?_
        refine ⟨?_, U⟩
        congr 1
        omega
      · skip
        simp only [decide_eq_true_eq, decide_eq_false_iff_not, Int.not_lt, Int.not_le, Bool.not_eq_true', Bool.not_eq_false', Bool.not_eq_eq_eq_not, Bool.not_true, Bool.not_false] at cB3
        refine c_skip ?_
        refine hK26 _ _ ?_
        refine fg2 0 2 (gS rfl (gS rfl g0)) (gS rfl g0) (fun g => ?_)
        refine c_seq (fun K31 hK31 => ?_)
        refine c_region ?_
        refine l_step (y_moveV (et g0 rfl)) ?_
        refine l_step (y_moveV (et (gS rfl (gS rfl g0)) rfl)) ?_
        refine l_step (y_conv Hvaa.underlying26 Hvaa.underlying5 (et g0 rfl) (wrapU_id uk8 ?_)) ?_
        omega
        refine l_step (y_tab Hvaa.underlying9 rfl (et g0 rfl) (by decide +kernel) ?_) ?_
        omega
        refine l_step (y_conv Hvaa.underlying5 Hvaa.underlying3 (et g0 rfl) (wrap_i64 ?_ ?_)) ?_
        omega
        exact Int.le_trans (lt9 _ (by omega)) (by decide)
        refine l_step (y_add (et (gS rfl (gS rfl (gS rfl (gS rfl g0)))) rfl) (et g0 rfl) (wrap_i64 ?_ ?_)) ?_
        omega
        exact i64b (lt9 _ (by omega)) (by omega)
        refine l_step (y_assignV (et g0 rfl)) ?_
        refine l_nil ?_
        refine hK31 _ _ ?_
        refine fg1 2 g0 (fun g => ?_)
        refine c_ret ?_
        refine ret1 rfl (res_tmp (et g0 rfl)) ?_
        refine ⟨?_, U⟩
        congr 1
        omega
    · skip
      simp only [decide_eq_true_eq, decide_eq_false_iff_not, Int.not_lt, Int.not_le, Bool.not_eq_true', Bool.not_eq_false', Bool.not_eq_eq_eq_not, Bool.not_true, Bool.not_false] at cB2
      refine c_skip ?_
      refine hK22 _ _ ?_
      refine fg2 0 2 (gS rfl (gS rfl g0)) (gS rfl g0) (fun g => ?_)
      refine c_seq (fun K32 hK32 => ?_)
      refine c_seq (fun K33 hK33 => ?_)
      refine c_region ?_
      refine l_step (y_moveV (et (gS rfl g0) rfl)) ?_
      refine l_step (y_geq (et g0 rfl) rfl) ?_
      refine l_nil ?_
      refine hK33 _ _ ?_
      refine fg3 0 2 14 (gS rfl (gS rfl (gS rfl g0))) (gS rfl (gS rfl g0)) g0 (fun g => ?_)
      refine c_cond (et g0 rfl) (fun cB3 => ?_) (fun cB3 => ?_)
      · skip
        simp only [decide_eq_true_eq, decide_eq_false_iff_not, Int.not_lt, Int.not_le, Bool.not_eq_true', Bool.not_eq_false', Bool.not_eq_eq_eq_not, Bool.not_true, Bool.not_false] at cB3
        refine c_seq (fun K35 hK35 => ?_)
        refine c_region ?_
        refine l_step (y_moveV (et (gS rfl (gS rfl g0)) rfl)) ?_
        refine l_step (y_shr (et g0 rfl) rfl (by decide) (shr64C 8 256 (by decide) rfl)) ?_
        refine l_step (y_assignV (et g0 rfl)) ?_
        refine l_nil ?_
        refine hK35 _ _ ?_
        refine fg2 0 2 g0 (gS rfl (gS rfl (gS rfl (gS rfl g0)))) (fun g => ?_)
        refine c_region ?_
        refine l_step (y_moveV (et g0 rfl)) ?_
        refine l_step (y_add (et g0 rfl) rfl (wrap_i64 ?_ ?_)) ?_
        omega
        omega
        refine l_step (y_assignV (et g0 rfl)) ?_
        refine l_nil ?_
        refine hK32 _ _ ?_
        refine fg2 0 2 (gS rfl (gS rfl (gS rfl (gS rfl g0)))) g0 (fun g => ?_)
        refine c_seq (fun K36 hK36 => ?_)
        refine c_region ?_
        refine l_step (y_moveV (et g0 rfl)) ?_
        refine l_step (y_moveV (et (gS rfl (gS rfl g0)) rfl)) ?_
        refine l_step (y_conv Hvaa.underlying26 Hvaa.underlying5 (et g0 rfl) (wrapU_id uk8 ?_)) ?_
        omega
        refine l_step (y_tab Hvaa.underlying9 rfl (et g0 rfl) (by decide +kernel) ?_) ?_
        omega
        refine l_step (y_conv Hvaa.underlying5 Hvaa.underlying3 (et g0 rfl) (wrap_i64 ?_ ?_)) ?_
        omega
        exact Int.le_trans (lt9 _ (by omega)) (by decide)
        refine l_step (y_add (et (gS rfl (gS rfl (gS rfl (gS rfl g0)))) rfl) (et g0 rfl) (wrap_i64 ?_ ?_)) ?_
        omega
        exact i64b (lt9 _ (by omega)) (by omega)
        refine l_step (y_assignV (et g0 rfl)) ?_
        refine l_nil ?_
        refine hK36 _ _ ?_
        refine fg1 2 g0 (fun g => ?_)
        refine c_ret ?_
        refine ret1 rfl (res_tmp (et g0 rfl)) ?_
        refine ⟨?_, U⟩
        congr 1
        omega
      · skip
        simp only [decide_eq_true_eq, decide_eq_false_iff_not, Int.not_lt, Int.not_le, Bool.not_eq_true', Bool.not_eq_false', Bool.not_eq_eq_eq_not, Bool.not_true, Bool.not_false] at cB3
        refine c_skip ?_
        refine hK32 _ _ ?_
        refine fg2 0 2 (gS rfl (gS rfl g0)) (gS rfl g0) (fun g => ?_)
        refine c_seq (fun K37 hK37 => ?_)
        refine c_region ?_
        refine l_step (y_moveV (et g0 rfl)) ?_
        refine l_step (y_moveV (et (gS rfl (gS rfl g0)) rfl)) ?_
        refine l_step (y_conv Hvaa.underlying26 Hvaa.underlying5 (et g0 rfl) (wrapU_id uk8 ?_)) ?_
        omega
        refine l_step (y_tab Hvaa.underlying9 rfl (et g0 rfl) (by decide +kernel) ?_) ?_
        omega
        refine l_step (y_conv Hvaa.underlying5 Hvaa.underlying3 (et g0 rfl) (wrap_i64 ?_ ?_)) ?_
        omega
        exact Int.le_trans (lt9 _ (by omega)) (by decide)
        refine l_step (y_add (et (gS rfl (gS rfl (gS rfl (gS rfl g0)))) rfl) (et g0 rfl) (wrap_i64 ?_ ?_)) ?_
        omega
        exact i64b (lt9 _ (by omega)) (by omega)
        refine l_step (y_assignV (et g0 rfl)) ?_
        refine l_nil ?_
        refine hK37 _ _ ?_
        refine fg1 2 g0 (fun g => ?_)
        refine c_ret ?_
        refine ret1 rfl (res_tmp (et g0 rfl)) ?_
        refine ⟨?_, U⟩
        congr 1
        omega
end Go.Proofs.YgvaawGreat
