import Derived.Test.YgvaawGreatY23
set_option maxRecDepth 100000
set_option linter.unusedSimpArgs false
set_option linter.unusedVariables false
namespace Go.Proofs.YgvaawGreat
open Go
/-! Bounds of what the words' arithmetic answers. -/
theorem W_1 : 1 < W256 := by decide
theorem W0 : 0 < W256 := by decide
theorem one_zero_lt (b : Bool) : (if b = true then 1 else 0) < W256 := by split; exact W_1; exact W0
theorem div_ltW {a : Nat} (b : Nat) (h : a < W256) : a / b < W256 := Nat.lt_of_le_of_lt (Nat.div_le_self _ _) h
theorem mod_ltW {a : Nat} (b : Nat) (h : a < W256) : a % b < W256 := Nat.lt_of_le_of_lt (Nat.mod_le _ _) h
theorem sxt_le (b n N : Nat) (h : n ≤ N) (hn : 0 < n) : sxt b n N < N := by
  unfold sxt
  have := Nat.mod_lt b hn
  split <;> omega
theorem aluN_lt (o a b c : Nat) (ha : a < W256) (hb : b < W256) (hc : c < W256) : aluN o a b c < W256 := by
  unfold aluN
  have hm : ∀ x, x % W256 < W256 := fun x => Nat.mod_lt _ W0
  by_cases h : o = 1
  · rw [if_pos h]; exact hm _
  rw [if_neg h]; clear h; by_cases h : o = 2
  · rw [if_pos h]; exact hm _
  rw [if_neg h]; clear h; by_cases h : o = 3
  · rw [if_pos h]; exact hm _
  rw [if_neg h]; clear h; by_cases h : o = 4
  · rw [if_pos h]; exact div_ltW _ ha
  rw [if_neg h]; clear h; by_cases h : o = 5
  · rw [if_pos h]; unfold eSdiv; exact sgn_lt _ _ (div_ltW _ (sgn_lt _ _ ha))
  rw [if_neg h]; clear h; by_cases h : o = 6
  · rw [if_pos h]; split; exact W0; exact mod_ltW _ ha
  rw [if_neg h]; clear h; by_cases h : o = 7
  · rw [if_pos h]; unfold eSmod; refine sgn_lt _ _ ?_; split; exact W0; exact mod_ltW _ (sgn_lt _ _ ha)
  rw [if_neg h]; clear h; by_cases h : o = 8
  · rw [if_pos h]; unfold eAddmod; split; exact W0; exact Nat.lt_trans (Nat.mod_lt _ (by omega)) hc
  rw [if_neg h]; clear h; by_cases h : o = 9
  · rw [if_pos h]; unfold eMulmod; split; exact W0; exact Nat.lt_trans (Nat.mod_lt _ (by omega)) hc
  rw [if_neg h]; clear h; by_cases h : o = 10
  · rw [if_pos h]; exact hm _
  rw [if_neg h]; clear h; by_cases h : o = 11
  · rw [if_pos h]; unfold eSext; split
    · refine sxt_le _ _ _ ?_ (Nat.two_pow_pos _)
      rw [← W256_2]; exact Nat.pow_le_pow_right (by decide) (by omega)
    · exact hb
  rw [if_neg h]; clear h; by_cases h : o = 16
  · rw [if_pos h]; exact one_zero_lt _
  rw [if_neg h]; clear h; by_cases h : o = 17
  · rw [if_pos h]; exact one_zero_lt _
  rw [if_neg h]; clear h; by_cases h : o = 18
  · rw [if_pos h]; exact one_zero_lt _
  rw [if_neg h]; clear h; by_cases h : o = 19
  · rw [if_pos h]; exact one_zero_lt _
  rw [if_neg h]; clear h; by_cases h : o = 20
  · rw [if_pos h]; exact one_zero_lt _
  rw [if_neg h]; clear h; by_cases h : o = 21
  · rw [if_pos h]; exact one_zero_lt _
  rw [if_neg h]; clear h; by_cases h : o = 22
  · rw [if_pos h]; exact Nat.lt_of_le_of_lt Nat.and_le_left ha
  rw [if_neg h]; clear h; by_cases h : o = 23
  · rw [if_pos h]; rw [← W256_2] at ha hb ⊢; exact Nat.or_lt_two_pow ha hb
  rw [if_neg h]; clear h; by_cases h : o = 24
  · rw [if_pos h]; rw [← W256_2] at ha hb ⊢; exact Nat.xor_lt_two_pow ha hb
  rw [if_neg h]; clear h; by_cases h : o = 25
  · rw [if_pos h]; have := W0; omega
  rw [if_neg h]; clear h; by_cases h : o = 26
  · rw [if_pos h]; exact Nat.lt_trans (eByte_lt a b) (by decide)
  rw [if_neg h]; clear h; by_cases h : o = 27
  · rw [if_pos h]; exact hm _
  rw [if_neg h]; clear h; by_cases h : o = 28
  · rw [if_pos h]; exact div_ltW _ hb
  rw [if_neg h]; clear h; by_cases h : o = 29
  · rw [if_pos h]; unfold eSar; split
    · exact div_ltW _ hb
    · exact Nat.lt_of_le_of_lt (Nat.sub_le _ _) (Nat.sub_lt W0 (by decide))
  rw [if_neg h]; exact W0
theorem ofBE_bd {l : List Nat} (hd : Dig 256 l) (h : l.length ≤ 32) : ofBE l < 256 ^ 32 := Nat.lt_of_lt_of_le (ofBE_lt l hd) (Nat.pow_le_pow_right (by decide) h)
end Go.Proofs.YgvaawGreat
