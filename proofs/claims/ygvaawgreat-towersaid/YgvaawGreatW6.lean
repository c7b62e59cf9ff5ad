import Derived.Test.YgvaawGreatZ47
set_option maxRecDepth 100000
set_option linter.unusedSimpArgs false
set_option linter.unusedVariables false
namespace Go.Proofs.YgvaawGreat
open Go
/-! The engine's checks are the paper's. -/
theorem reach_end {a n : Nat} (h : reachB a n = true) : reachN a n = wordsN (endN a n) := by
  have h1 := of_decide_eq_true h
  unfold reachN endN
  by_cases h0 : n = 0
  · rw [if_pos h0, if_pos h0]; rfl
  · rw [if_neg h0, if_neg h0, if_pos (by omega)]
theorem reach_out {a n : Nat} (h : reachB a n = false) : 717280 < endN a n := by
  have h1 := of_decide_eq_false h
  unfold endN
  rw [if_neg (by omega)]
  omega
theorem words_max (a b : Nat) : wordsN (max a b) = max (wordsN a) (wordsN b) := by unfold wordsN; omega
theorem lo_in {n : Nat} (h : n ≤ 717280) : lo64 n = n := if_pos (by omega)
theorem and_of {a b : Bool} (h : (a && b) = false) : a = false ∨ b = false := by cases a <;> cases b <;> simp_all
theorem rc_words {l : List Nat} {q : Nat} (h : rbN l q = true) : rcN l q = wordsN (yReach l q) := by
  unfold rbN at h
  unfold rcN yReach
  by_cases h0 : q = 32 ∨ q = 243 ∨ q = 253 ∨ (160 ≤ q ∧ q ≤ 164)
  · rw [if_pos h0] at h ⊢
    rw [if_pos h0]
    exact reach_end h
  rw [if_neg h0] at h ⊢
  rw [if_neg h0]
  by_cases h1 : q = 55 ∨ q = 57 ∨ q = 62
  · rw [if_pos h1] at h ⊢
    rw [if_pos h1]
    exact reach_end h
  rw [if_neg h1] at h ⊢
  rw [if_neg h1]
  by_cases h2 : q = 60
  · rw [if_pos h2] at h ⊢
    rw [if_pos h2]
    exact reach_end h
  rw [if_neg h2] at h ⊢
  rw [if_neg h2]
  by_cases h3 : q = 81 ∨ q = 82
  · rw [if_pos h3] at h ⊢
    rw [if_pos h3]
    exact reach_end h
  rw [if_neg h3] at h ⊢
  rw [if_neg h3]
  by_cases h4 : q = 83
  · rw [if_pos h4] at h ⊢
    rw [if_pos h4]
    exact reach_end h
  rw [if_neg h4] at h ⊢
  rw [if_neg h4]
  by_cases h5 : q = 94
  · rw [if_pos h5] at h ⊢
    rw [if_pos h5]
    rw [Bool.and_eq_true] at h
    rw [words_max, reach_end h.1, reach_end h.2]
  rw [if_neg h5] at h ⊢
  rw [if_neg h5]
  by_cases h6 : q = 240 ∨ q = 245
  · rw [if_pos h6] at h ⊢
    rw [if_pos h6]
    exact reach_end h
  rw [if_neg h6] at h ⊢
  rw [if_neg h6]
  by_cases h7 : q = 241 ∨ q = 242
  · rw [if_pos h7] at h ⊢
    rw [if_pos h7]
    rw [Bool.and_eq_true] at h
    rw [words_max, reach_end h.1, reach_end h.2]
  rw [if_neg h7] at h ⊢
  rw [if_neg h7]
  by_cases h8 : q = 244 ∨ q = 250
  · rw [if_pos h8] at h ⊢
    rw [if_pos h8]
    rw [Bool.and_eq_true] at h
    rw [words_max, reach_end h.1, reach_end h.2]
  rw [if_neg h8] at h ⊢
  rw [if_neg h8]
  rfl
theorem rb_out {l : List Nat} {q : Nat} (h : rbN l q = false) : 717280 < yReach l q := by
  unfold rbN at h
  unfold yReach
  by_cases h0 : q = 32 ∨ q = 243 ∨ q = 253 ∨ (160 ≤ q ∧ q ≤ 164)
  · rw [if_pos h0] at h ⊢
    exact reach_out h
  rw [if_neg h0] at h ⊢
  by_cases h1 : q = 55 ∨ q = 57 ∨ q = 62
  · rw [if_pos h1] at h ⊢
    exact reach_out h
  rw [if_neg h1] at h ⊢
  by_cases h2 : q = 60
  · rw [if_pos h2] at h ⊢
    exact reach_out h
  rw [if_neg h2] at h ⊢
  by_cases h3 : q = 81 ∨ q = 82
  · rw [if_pos h3] at h ⊢
    exact reach_out h
  rw [if_neg h3] at h ⊢
  by_cases h4 : q = 83
  · rw [if_pos h4] at h ⊢
    exact reach_out h
  rw [if_neg h4] at h ⊢
  by_cases h5 : q = 94
  · rw [if_pos h5] at h ⊢
    rcases and_of h with h | h
    · exact Nat.lt_of_lt_of_le (reach_out h) (Nat.le_max_left _ _)
    · exact Nat.lt_of_lt_of_le (reach_out h) (Nat.le_max_right _ _)
  rw [if_neg h5] at h ⊢
  by_cases h6 : q = 240 ∨ q = 245
  · rw [if_pos h6] at h ⊢
    exact reach_out h
  rw [if_neg h6] at h ⊢
  by_cases h7 : q = 241 ∨ q = 242
  · rw [if_pos h7] at h ⊢
    rcases and_of h with h | h
    · exact Nat.lt_of_lt_of_le (reach_out h) (Nat.le_max_left _ _)
    · exact Nat.lt_of_lt_of_le (reach_out h) (Nat.le_max_right _ _)
  rw [if_neg h7] at h ⊢
  by_cases h8 : q = 244 ∨ q = 250
  · rw [if_pos h8] at h ⊢
    rcases and_of h with h | h
    · exact Nat.lt_of_lt_of_le (reach_out h) (Nat.le_max_left _ _)
    · exact Nat.lt_of_lt_of_le (reach_out h) (Nat.le_max_right _ _)
  rw [if_neg h8] at h ⊢
  cases h
theorem br_10 (s : YSt) (f : YF) (r : RbL f.stack 10) : bareN s f 10 = sgN 10 + dynN s f 10 := rfl
theorem br_32 (s : YSt) (f : YF) (r : RbL f.stack 32) : bareN s f 32 = sgN 32 + dynN s f 32 := by show 30 + 6 * wordsN (argN f.stack 1) = 30 + 6 * wordsN (lo64 (argN f.stack 1)); rw [lo_in (r.h1 (by decide))]
theorem br_49 (s : YSt) (f : YF) (r : RbL f.stack 49) : bareN s f 49 = sgN 49 + dynN s f 49 := by show accessN s.now.warmA (yT f 0) = 0 + accessN s.now.warmA (yT f 0); rw [Nat.zero_add]
theorem br_55 (s : YSt) (f : YF) (r : RbL f.stack 55) : bareN s f 55 = sgN 55 + dynN s f 55 := by show 3 + copyN (argN f.stack 2) = 3 + copyN (lo64 (argN f.stack 2)); rw [lo_in (r.h2 (by decide))]
theorem br_57 (s : YSt) (f : YF) (r : RbL f.stack 57) : bareN s f 57 = sgN 57 + dynN s f 57 := by show 3 + copyN (argN f.stack 2) = 3 + copyN (lo64 (argN f.stack 2)); rw [lo_in (r.h2 (by decide))]
theorem br_59 (s : YSt) (f : YF) (r : RbL f.stack 59) : bareN s f 59 = sgN 59 + dynN s f 59 := by show accessN s.now.warmA (yT f 0) = 0 + accessN s.now.warmA (yT f 0); rw [Nat.zero_add]
theorem br_60 (s : YSt) (f : YF) (r : RbL f.stack 60) : bareN s f 60 = sgN 60 + dynN s f 60 := by show accessN s.now.warmA (yT f 0) + copyN (argN f.stack 3) = 0 + (accessN s.now.warmA (yT f 0) + copyN (lo64 (argN f.stack 3))); rw [lo_in (r.h3 rfl), Nat.zero_add]
theorem br_62 (s : YSt) (f : YF) (r : RbL f.stack 62) : bareN s f 62 = sgN 62 + dynN s f 62 := by show 3 + copyN (argN f.stack 2) = 3 + copyN (lo64 (argN f.stack 2)); rw [lo_in (r.h2 (by decide))]
theorem br_63 (s : YSt) (f : YF) (r : RbL f.stack 63) : bareN s f 63 = sgN 63 + dynN s f 63 := by show accessN s.now.warmA (yT f 0) = 0 + accessN s.now.warmA (yT f 0); rw [Nat.zero_add]
theorem br_84 (s : YSt) (f : YF) (r : RbL f.stack 84) : bareN s f 84 = sgN 84 + dynN s f 84 := by show _ = 0 + _; rw [Nat.zero_add]; rfl
theorem br_85 (s : YSt) (f : YF) (r : RbL f.stack 85) : bareN s f 85 = sgN 85 + dynN s f 85 := by show _ = 0 + _; rw [Nat.zero_add]; rfl
theorem br_94 (s : YSt) (f : YF) (r : RbL f.stack 94) : bareN s f 94 = sgN 94 + dynN s f 94 := by show 3 + copyN (argN f.stack 2) = 3 + copyN (lo64 (argN f.stack 2)); rw [lo_in (r.h2 (by decide))]
theorem br_160 (s : YSt) (f : YF) (r : RbL f.stack 160) : bareN s f 160 = sgN 160 + dynN s f 160 := by show 375 + 375 * (160 - 160) + 8 * argN f.stack 1 = 375 * (160 - 160 + 1) + 8 * lo64 (argN f.stack 1); rw [lo_in (r.h1 (by decide))]
theorem br_161 (s : YSt) (f : YF) (r : RbL f.stack 161) : bareN s f 161 = sgN 161 + dynN s f 161 := by show 375 + 375 * (161 - 160) + 8 * argN f.stack 1 = 375 * (161 - 160 + 1) + 8 * lo64 (argN f.stack 1); rw [lo_in (r.h1 (by decide))]
theorem br_162 (s : YSt) (f : YF) (r : RbL f.stack 162) : bareN s f 162 = sgN 162 + dynN s f 162 := by show 375 + 375 * (162 - 160) + 8 * argN f.stack 1 = 375 * (162 - 160 + 1) + 8 * lo64 (argN f.stack 1); rw [lo_in (r.h1 (by decide))]
theorem br_163 (s : YSt) (f : YF) (r : RbL f.stack 163) : bareN s f 163 = sgN 163 + dynN s f 163 := by show 375 + 375 * (163 - 160) + 8 * argN f.stack 1 = 375 * (163 - 160 + 1) + 8 * lo64 (argN f.stack 1); rw [lo_in (r.h1 (by decide))]
theorem br_164 (s : YSt) (f : YF) (r : RbL f.stack 164) : bareN s f 164 = sgN 164 + dynN s f 164 := by show 375 + 375 * (164 - 160) + 8 * argN f.stack 1 = 375 * (164 - 160 + 1) + 8 * lo64 (argN f.stack 1); rw [lo_in (r.h1 (by decide))]
theorem br_240 (s : YSt) (f : YF) (r : RbL f.stack 240) : bareN s f 240 = sgN 240 + dynN s f 240 := by show 32000 + 2 * wordsN (argN f.stack 2) = 32000 + 2 * wordsN (lo64 (argN f.stack 2)); rw [lo_in (r.h2 (by decide))]
theorem br_241 (s : YSt) (f : YF) (r : RbL f.stack 241) : bareN s f 241 = sgN 241 + dynN s f 241 := by
  show (if (241 = 241 ∨ 241 = 242) ∧ argN f.stack 2 ≠ 0 then (if 241 = 241 ∧ emptyB (acctAt s.now.accts (yT f 1)) = true then accessN s.now.warmA (yT f 1) + 9000 + 25000 else accessN s.now.warmA (yT f 1) + 9000) else accessN s.now.warmA (yT f 1)) = 0 + (accessN s.now.warmA (yT f 1) + (if argN f.stack 2 ≠ 0 then 9000 + (if 241 = 241 ∧ emptyB (acctAt s.now.accts (yT f 1)) = true then 25000 else 0) else 0))
  by_cases hv : argN f.stack 2 ≠ 0
  · rw [if_pos ⟨.inl rfl, hv⟩, if_pos hv]
    by_cases he : 241 = 241 ∧ emptyB (acctAt s.now.accts (yT f 1)) = true
    · rw [if_pos he, if_pos he]; omega
    · rw [if_neg he, if_neg he]; omega
  · rw [if_neg (fun h => hv h.2), if_neg hv]; omega
theorem br_242 (s : YSt) (f : YF) (r : RbL f.stack 242) : bareN s f 242 = sgN 242 + dynN s f 242 := by
  show (if (242 = 241 ∨ 242 = 242) ∧ argN f.stack 2 ≠ 0 then (if 242 = 241 ∧ emptyB (acctAt s.now.accts (yT f 1)) = true then accessN s.now.warmA (yT f 1) + 9000 + 25000 else accessN s.now.warmA (yT f 1) + 9000) else accessN s.now.warmA (yT f 1)) = 0 + (accessN s.now.warmA (yT f 1) + (if argN f.stack 2 ≠ 0 then 9000 + (if 242 = 241 ∧ emptyB (acctAt s.now.accts (yT f 1)) = true then 25000 else 0) else 0))
  by_cases hv : argN f.stack 2 ≠ 0
  · rw [if_pos ⟨.inr rfl, hv⟩, if_pos hv]
    by_cases he : 242 = 241 ∧ emptyB (acctAt s.now.accts (yT f 1)) = true
    · rw [if_pos he, if_pos he]; omega
    · rw [if_neg he, if_neg he]; omega
  · rw [if_neg (fun h => hv h.2), if_neg hv]; omega
theorem br_244 (s : YSt) (f : YF) (r : RbL f.stack 244) : bareN s f 244 = sgN 244 + dynN s f 244 := by show accessN s.now.warmA (yT f 1) = 0 + accessN s.now.warmA (yT f 1); rw [Nat.zero_add]
theorem br_245 (s : YSt) (f : YF) (r : RbL f.stack 245) : bareN s f 245 = sgN 245 + dynN s f 245 := by show 32000 + 8 * wordsN (argN f.stack 2) = 32000 + 8 * wordsN (lo64 (argN f.stack 2)); rw [lo_in (r.h2 (by decide))]
theorem br_250 (s : YSt) (f : YF) (r : RbL f.stack 250) : bareN s f 250 = sgN 250 + dynN s f 250 := by show accessN s.now.warmA (yT f 1) = 0 + accessN s.now.warmA (yT f 1); rw [Nat.zero_add]
theorem br_255 (s : YSt) (f : YF) (r : RbL f.stack 255) : bareN s f 255 = sgN 255 + dynN s f 255 := by show (5000 + (if yT f 0 ∈ s.now.warmA then 0 else 2600)) + _ = 5000 + ((if yT f 0 ∈ s.now.warmA then 0 else 2600) + _); rw [Nat.add_assoc]
theorem bare_eq {s : YSt} {f : YF} {q : Nat} (hk : KN q) (hr : rbN f.stack q = true) : bareN s f q = sgN q + dynN s f q := by
  have r := rb_len hr
  by_cases h0 : 96 ≤ q ∧ q ≤ 159
  · have e1 : bareN s f q = 3 := if_pos (.inl h0)
    have e2 : sgN q = 3 := by
      unfold sgN
      rcases (show q ≤ 127 ∨ (128 ≤ q ∧ q ≤ 143) ∨ 144 ≤ q by omega) with h | h | h
      · rw [if_pos (by omega)]
      · rw [if_neg (by omega), if_pos h]
      · rw [if_neg (by omega), if_neg (by omega), if_pos (by omega)]
    have e3 : dynN s f q = 0 := by
      unfold dynN
      rw [if_neg (by omega), if_neg (by omega), if_neg (by omega), if_neg (by omega), if_neg (by omega), if_neg (by omega), if_neg (by omega), if_neg (by omega), if_neg (by omega), if_neg (by omega), if_neg (by omega), if_neg (by omega), if_neg (by omega)]
    rw [e1, e2, e3]
  unfold KN at hk
  rcases (show q = 0 ∨ q = 1 ∨ q = 2 ∨ q = 3 ∨ q = 4 ∨ q = 5 ∨ q = 6 ∨ q = 7 ∨ q = 8 ∨ q = 9 ∨ q = 10 ∨ q = 11 ∨ q = 16 ∨ q = 17 ∨ q = 18 ∨ q = 19 ∨ q = 20 ∨ q = 21 ∨ q = 22 ∨ q = 23 ∨ q = 24 ∨ q = 25 ∨ q = 26 ∨ q = 27 ∨ q = 28 ∨ q = 29 ∨ q = 32 ∨ q = 48 ∨ q = 49 ∨ q = 50 ∨ q = 51 ∨ q = 52 ∨ q = 53 ∨ q = 54 ∨ q = 55 ∨ q = 56 ∨ q = 57 ∨ q = 58 ∨ q = 59 ∨ q = 60 ∨ q = 61 ∨ q = 62 ∨ q = 63 ∨ q = 64 ∨ q = 65 ∨ q = 66 ∨ q = 67 ∨ q = 68 ∨ q = 69 ∨ q = 70 ∨ q = 71 ∨ q = 72 ∨ q = 80 ∨ q = 81 ∨ q = 82 ∨ q = 83 ∨ q = 84 ∨ q = 85 ∨ q = 86 ∨ q = 87 ∨ q = 88 ∨ q = 89 ∨ q = 90 ∨ q = 91 ∨ q = 92 ∨ q = 93 ∨ q = 94 ∨ q = 95 ∨ q = 160 ∨ q = 161 ∨ q = 162 ∨ q = 163 ∨ q = 164 ∨ q = 240 ∨ q = 241 ∨ q = 242 ∨ q = 243 ∨ q = 244 ∨ q = 245 ∨ q = 250 ∨ q = 253 ∨ q = 255 by omega) with rfl | rfl | rfl | rfl | rfl | rfl | rfl | rfl | rfl | rfl | rfl | rfl | rfl | rfl | rfl | rfl | rfl | rfl | rfl | rfl | rfl | rfl | rfl | rfl | rfl | rfl | rfl | rfl | rfl | rfl | rfl | rfl | rfl | rfl | rfl | rfl | rfl | rfl | rfl | rfl | rfl | rfl | rfl | rfl | rfl | rfl | rfl | rfl | rfl | rfl | rfl | rfl | rfl | rfl | rfl | rfl | rfl | rfl | rfl | rfl | rfl | rfl | rfl | rfl | rfl | rfl | rfl | rfl | rfl | rfl | rfl | rfl | rfl | rfl | rfl | rfl | rfl | rfl | rfl | rfl | rfl | rfl
  · rfl
  · rfl
  · rfl
  · rfl
  · rfl
  · rfl
  · rfl
  · rfl
  · rfl
  · rfl
  · exact br_10 s f r
  · rfl
  · rfl
  · rfl
  · rfl
  · rfl
  · rfl
  · rfl
  · rfl
  · rfl
  · rfl
  · rfl
  · rfl
  · rfl
  · rfl
  · rfl
  · exact br_32 s f r
  · rfl
  · exact br_49 s f r
  · rfl
  · rfl
  · rfl
  · rfl
  · rfl
  · exact br_55 s f r
  · rfl
  · exact br_57 s f r
  · rfl
  · exact br_59 s f r
  · exact br_60 s f r
  · rfl
  · exact br_62 s f r
  · exact br_63 s f r
  · rfl
  · rfl
  · rfl
  · rfl
  · rfl
  · rfl
  · rfl
  · rfl
  · rfl
  · rfl
  · rfl
  · rfl
  · rfl
  · exact br_84 s f r
  · exact br_85 s f r
  · rfl
  · rfl
  · rfl
  · rfl
  · rfl
  · rfl
  · rfl
  · rfl
  · exact br_94 s f r
  · rfl
  · exact br_160 s f r
  · exact br_161 s f r
  · exact br_162 s f r
  · exact br_163 s f r
  · exact br_164 s f r
  · exact br_240 s f r
  · exact br_241 s f r
  · exact br_242 s f r
  · rfl
  · exact br_244 s f r
  · exact br_245 s f r
  · exact br_250 s f r
  · rfl
  · exact br_255 s f r
theorem flat_dyn {s : YSt} {f : YF} {q : Nat} (h : flatN q = true) : dynN s f q = 0 ∧ rcN f.stack q = 0 ∧ rbN f.stack q = true ∧ q ≠ 85 ∧ q ≠ 86 ∧ q ≠ 87 := by
  have h1 := of_decide_eq_true h
  refine ⟨?_, ?_, ?_, by omega, by omega, by omega⟩
  · unfold dynN
    rw [if_neg (by omega), if_neg (by omega), if_neg (by omega), if_neg (by omega), if_neg (by omega), if_neg (by omega), if_neg (by omega), if_neg (by omega), if_neg (by omega), if_neg (by omega), if_neg (by omega), if_neg (by omega), if_neg (by omega)]
  · unfold rcN
    rw [if_neg (by omega), if_neg (by omega), if_neg (by omega), if_neg (by omega), if_neg (by omega), if_neg (by omega), if_neg (by omega), if_neg (by omega), if_neg (by omega)]
  · unfold rbN
    rw [if_neg (by omega), if_neg (by omega), if_neg (by omega), if_neg (by omega), if_neg (by omega), if_neg (by omega), if_neg (by omega), if_neg (by omega), if_neg (by omega)]
theorem kn_KN {q : Nat} (h : knN q = true) : KN q := by
  refine Classical.byContradiction fun h9 => ?_
  unfold knN at h
  rw [fam_unknown h9] at h
  cases h
theorem cost_eq {s : YSt} {f : YF} {q : Nat} (hk : KN q) (hr : rbN f.stack q = true) : costN s f q = pcN s f q := by
  have e1 := bare_eq (s := s) hk hr
  have e2 := rc_words hr
  unfold costN pcN
  rw [← e2, e1]
  by_cases hf : flatN q = true
  · obtain ⟨d1, d2, _⟩ := flat_dyn (s := s) (f := f) hf
    rw [if_pos hf, d1, d2, if_pos (Nat.zero_le _), Nat.add_zero]
  · rw [if_neg hf]
    by_cases h8 : f.mem.length / 32 < rcN f.stack q
    · rw [if_neg (by omega), if_pos h8]
    · rw [if_pos (by omega), if_neg h8, Nat.add_zero]
theorem cost_out {s : YSt} {f : YF} {q : Nat} (hg : f.gas + memN (f.mem.length / 32) ≤ 1048576) (hm : f.mem.length ≤ 717280) (hr : rbN f.stack q = false) : f.gas < costN s f q := by
  have h1 := rb_out hr
  have h2 : 22416 ≤ wordsN (yReach f.stack q) := by unfold wordsN; omega
  have h3 := mem_mono h2
  have h4 : memN 22416 = 1048648 := by decide
  unfold costN
  rw [if_neg (by omega)]
  omega
theorem chk_of {s : YSt} {f : YF} (hg : f.gas + memN (f.mem.length / 32) ≤ 1048576) (hm : f.mem.length ≤ 717280) (hm32 : f.mem.length % 32 = 0) : ChkS s f := by
  generalize hq : opcN f = q
  have key : asN s f q = (refN s f q).1 ∧ (asN s f q = 0 → pcN s f q = (refN s f q).2) ∧ (asN s f q = 0 → pmN f q = growN f.mem (yReach f.stack q)) := by
    unfold asN refN
    by_cases h1 : knN q = false
    · have e : refA s f q = 5 := if_pos h1
      rw [if_pos h1, if_neg (by rw [e]; decide), e]
      exact ⟨rfl, fun h => (by cases h), fun h => (by cases h)⟩
    have hk : KN q := kn_KN (by cases hh : knN q; exact absurd hh h1; rfl)
    rw [if_neg h1]
    by_cases h2 : f.stack.length < tkN q
    · have e : refA s f q = 3 := by unfold refA; rw [if_neg h1, if_pos h2]
      rw [if_pos h2, if_neg (by rw [e]; decide), e]
      exact ⟨rfl, fun h => (by cases h), fun h => (by cases h)⟩
    rw [if_neg h2]
    by_cases h3 : 64 < f.stack.length - tkN q + gvN q
    · have e : refA s f q = 4 := by unfold refA; rw [if_neg h1, if_neg h2, if_pos h3]
      rw [if_pos h3, if_neg (by rw [e]; decide), e]
      exact ⟨rfl, fun h => (by cases h), fun h => (by cases h)⟩
    rw [if_neg h3]
    unfold psN
    by_cases h4 : f.static = true ∧ wrtN f q = true
    · have e : refA s f q = 7 := by unfold refA; rw [if_neg h1, if_neg h2, if_neg h3, if_pos h4]
      rw [if_pos h4, if_neg (by rw [e]; decide), e]
      exact ⟨rfl, fun h => (by cases h), fun h => (by cases h)⟩
    rw [if_neg h4]
    by_cases h5 : (q = 240 ∨ q = 245) ∧ 512 < argN f.stack 2
    · have e : refA s f q = 9 := by unfold refA; rw [if_neg h1, if_neg h2, if_neg h3, if_neg h4, if_pos h5]
      rw [if_pos h5, if_neg (by rw [e]; decide), e]
      exact ⟨rfl, fun h => (by cases h), fun h => (by cases h)⟩
    rw [if_neg h5]
    by_cases h6 : q = 62 ∧ s.ret.length < argN f.stack 1 + argN f.stack 2
    · have e : refA s f q = 8 := by unfold refA; rw [if_neg h1, if_neg h2, if_neg h3, if_neg h4, if_neg h5, if_pos h6]
      rw [if_pos h6, if_neg (by rw [e]; decide), e]
      exact ⟨rfl, fun h => (by cases h), fun h => (by cases h)⟩
    rw [if_neg h6]
    have e : refA s f q = 0 := by unfold refA; rw [if_neg h1, if_neg h2, if_neg h3, if_neg h4, if_neg h5, if_neg h6]
    rw [if_pos e]
    show _ = refB s f q ∧ (_ → pcN s f q = costN s f q) ∧ _
    unfold refB
    by_cases h7 : flatN q = true
    · obtain ⟨d1, d2, d3, d4, d5, d6⟩ := flat_dyn (s := s) (f := f) h7
      have ec := cost_eq (s := s) hk d3
      have ep : pcN s f q = sgN q := if_pos h7
      have ew := rc_words d3
      rw [if_pos h7, ec, ep]
      refine ⟨?_, fun _ => rfl, fun _ => ?_⟩
      · by_cases hgs : f.gas < sgN q
        · rw [if_pos hgs, if_pos hgs]
        · rw [if_neg hgs, if_neg hgs, if_neg (by omega), if_neg (fun h => d5 h.1), if_neg (fun h => d6 h.1.1)]
      · unfold pmN growN
        rw [if_pos h7, ← ew, d2, if_neg (by omega)]
    rw [if_neg h7]
    by_cases h8 : rbN f.stack q = false
    · have hc := cost_out (s := s) hg hm h8
      rw [if_pos h8, if_pos hc]
      exact ⟨rfl, fun h => (by cases h), fun h => (by cases h)⟩
    have hr : rbN f.stack q = true := by cases hh : rbN f.stack q; exact absurd hh h8; rfl
    have ec := cost_eq (s := s) hk hr
    have ew := rc_words hr
    rw [if_neg h8, ec]
    refine ⟨?_, fun _ => rfl, fun _ => ?_⟩
    · by_cases hgs : f.gas < pcN s f q
      · rw [if_pos (.inl hgs), if_pos hgs]
      · rw [if_neg hgs]
        by_cases h85 : q = 85 ∧ f.gas ≤ 2300
        · rw [if_pos (.inr h85), if_pos h85]
        · rw [if_neg (by intro h9; rcases h9 with h9 | h9; exact hgs h9; exact h85 h9), if_neg h85]
          by_cases hd : destN f.code (argN f.stack 0) = false
          · by_cases ha : q = 86
            · rw [if_pos ⟨.inl ha, hd⟩, if_pos ⟨ha, hd⟩]
            · by_cases hb : q = 87 ∧ argN f.stack 1 ≠ 0
              · rw [if_pos ⟨.inr hb, hd⟩, if_neg (fun h => ha h.1), if_pos ⟨hb, hd⟩]
              · rw [if_neg (by intro h9; rcases h9.1 with h9 | h9; exact ha h9; exact hb h9), if_neg (fun h => ha h.1), if_neg (fun h => hb h.1)]
          · rw [if_neg (fun h => hd h.2), if_neg (fun h => hd h.2), if_neg (fun h => hd h.2)]
    · unfold pmN growN
      rw [if_neg h7, ← ew]
  exact ⟨by rw [hq]; exact key.1, by rw [hq]; exact key.2.1, by rw [hq]; exact key.2.2⟩
end Go.Proofs.YgvaawGreat
