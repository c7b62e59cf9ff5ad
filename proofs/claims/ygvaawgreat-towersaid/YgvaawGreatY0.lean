import Derived.Test.YgvaawGreatKit6
set_option maxRecDepth 100000
set_option linter.unusedSimpArgs false
set_option linter.unusedVariables false
namespace Go.Proofs.YgvaawGreat
open Go
/-! Bounds by bytes. -/
theorem bd_sm {x a : Nat} (h : x < 256 ^ a) (ha : a ≤ 200) : Sm x := Nat.lt_of_lt_of_le h (Nat.pow_le_pow_right (by decide) ha)
theorem bd_up {x a b : Nat} (h : x < 256 ^ a) (ha : a ≤ b) : x < 256 ^ b := Nat.lt_of_lt_of_le h (Nat.pow_le_pow_right (by decide) ha)
theorem bd_add {x y a b c : Nat} (h : x < 256 ^ a) (k : y < 256 ^ b) (hc : max a b + 1 ≤ c) : x + y < 256 ^ c := by
  have h1 := bd_up h (Nat.le_max_left a b)
  have h2 := bd_up k (Nat.le_max_right a b)
  have h3 : 256 ^ (max a b + 1) ≤ 256 ^ c := Nat.pow_le_pow_right (by decide) hc
  rw [Nat.pow_succ] at h3
  omega
theorem bd_mul {x y a b c : Nat} (h : x < 256 ^ a) (k : y < 256 ^ b) (hc : a + b ≤ c) : x * y < 256 ^ c := by
  have h3 : 256 ^ (a + b) ≤ 256 ^ c := Nat.pow_le_pow_right (by decide) hc
  rw [Nat.pow_add] at h3
  exact Nat.lt_of_lt_of_le (Nat.mul_lt_mul'' h k) h3
theorem bd_sub {x y a : Nat} (h : x < 256 ^ a) : x - y < 256 ^ a := Nat.lt_of_le_of_lt (Nat.sub_le _ _) h
theorem bd_div {x y a : Nat} (h : x < 256 ^ a) : x / y < 256 ^ a := Nat.lt_of_le_of_lt (Nat.div_le_self _ _) h
theorem bd_mod {x y a : Nat} (h : x < 256 ^ a) : (if y = 0 then 0 else x % y) < 256 ^ a := by
  split
  · exact Nat.pow_pos (by decide)
  · exact Nat.lt_of_le_of_lt (Nat.mod_le _ _) h
theorem bd_mod2 {x y a : Nat} (h : y < 256 ^ a) : (if y = 0 then 0 else x % y) < 256 ^ a := by
  split
  · exact Nat.pow_pos (by decide)
  · exact Nat.lt_trans (Nat.mod_lt _ (by omega)) h
theorem bd_min {x y a : Nat} (k : y < 256 ^ a) : min x y < 256 ^ a := Nat.lt_of_le_of_lt (Nat.min_le_right _ _) k
theorem bd_max {x y a b c : Nat} (h : x < 256 ^ a) (k : y < 256 ^ b) (hc : max a b ≤ c) : max x y < 256 ^ c := by
  have h1 := bd_up h (Nat.le_trans (Nat.le_max_left a b) hc)
  have h2 := bd_up k (Nat.le_trans (Nat.le_max_right a b) hc)
  exact Nat.max_lt.2 ⟨h1, h2⟩
theorem bd_zero : 0 < 256 ^ 0 := by decide
theorem bd_W {x : Nat} (h : x < W256) : x < 256 ^ 32 := W256_pow ▸ h
theorem bd_64 {x : Nat} (h : x < 18446744073709551616) : x < 256 ^ 8 := h
theorem W_bd {x : Nat} (h : x < 256 ^ 32) : x < W256 := W256_pow ▸ h
theorem bd_sub' {H : Store} {v : Value} {x y a : Nat} (n : NV H v (x - y)) (h : x < 256 ^ a) : x - y < 256 ^ a := bd_sub h
theorem bd_div' {H : Store} {v : Value} {x y a : Nat} (n : NV H v (x / y)) (h : x < 256 ^ a) : x / y < 256 ^ a := bd_div h
theorem bd_mod' {H : Store} {v : Value} {x y a : Nat} (n : NV H v (if y = 0 then 0 else x % y)) (h : y < 256 ^ a) : (if y = 0 then 0 else x % y) < 256 ^ a := bd_mod2 h
theorem bd_min' {H : Store} {v : Value} {x y a : Nat} (n : NV H v (min x y)) (h : y < 256 ^ a) : min x y < 256 ^ a := bd_min h
section
variable {w : World} {H : Store} {v1 v2 : Value} {x y : Nat}
def wordsN (n : Nat) : Nat := (n + 31) / 32
def memN (n : Nat) : Nat := 3 * n + n * n / 512
def copyN (n : Nat) : Nat := 3 * wordsN n
def sentN (left asked : Nat) : Nat := min asked (left - left / 64)
def endN (off n : Nat) : Nat := if n = 0 then 0 else off + n
theorem cmp_nil (hF : Fz w H) (h1 : NV H v1 x) (hx : Sm x) : Ret 121 [v1, .slice none 0 0] w (fun v w' => v = .int .i8 (cmpN x 0) ∧ Up w w') := nat_cmp hF h1 (NV.nil H) hx (by unfold Sm; decide)
theorem cmp_lt0 (x y : Nat) : decide (cmpN x y < 0) = decide (x < y) := by
  unfold cmpN
  by_cases h : x < y
  · simp [h]
  · by_cases h2 : x = y
    · simp [h, h2]
    · simp [h, h2]
theorem cmp_gt0 (x y : Nat) : decide (0 < cmpN x y) = decide (y < x) := by
  unfold cmpN
  by_cases h : x < y
  · simp [h]; omega
  · by_cases h2 : x = y
    · simp [h2]
    · simp [h, h2]; omega
theorem cmp_eq0 (x y : Nat) : decide (cmpN x y = 0) = decide (x = y) := by
  unfold cmpN
  by_cases h : x < y
  · simp [h]; omega
  · by_cases h2 : x = y
    · simp [h2]
    · simp [h, h2]
theorem cmp_le0 (x y : Nat) : decide (cmpN x y ≤ 0) = decide (x ≤ y) := by
  unfold cmpN
  by_cases h : x < y
  · simp [h]; omega
  · by_cases h2 : x = y
    · simp [h2]
    · simp [h, h2]; omega
theorem cmp_ge0 (x y : Nat) : decide (0 ≤ cmpN x y) = decide (y ≤ x) := by
  unfold cmpN
  by_cases h : x < y
  · simp [h]
  · by_cases h2 : x = y
    · simp [h2]
    · simp [h, h2]; omega
end
end Go.Proofs.YgvaawGreat
