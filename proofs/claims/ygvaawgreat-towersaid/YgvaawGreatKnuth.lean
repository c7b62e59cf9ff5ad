import Derived.Test.YgvaawGreatD7
set_option linter.unusedSimpArgs false
set_option linter.unusedVariables false
namespace Go.Proofs.YgvaawGreat
open Go
/-! The main loop of Algorithm D, without Go. -/
theorem rep_snoc (z : Nat) : (0 : Nat) :: List.replicate z 0 = List.replicate (z + 1) 0 := by rw [List.replicate_succ]
/-- the top digit of a number that is small enough is zero -/
theorem top_zero (D : List Nat) (n : Nat) (hd : Dig 18446744073709551616 D) (hl : D.length = n + 1) (h : val 18446744073709551616 D < 18446744073709551616 ^ n) : ∃ E, D = E ++ [0] ∧ E.length = n ∧ Dig 18446744073709551616 E ∧ val 18446744073709551616 E = val 18446744073709551616 D := by
  obtain ⟨E, t, rfl⟩ := snoc_of_len (l := D) (by omega)
  have hE : E.length = n := by simpa using hl
  have ht : t = 0 := by
    rw [val_snoc, hE] at h
    rcases Nat.eq_zero_or_pos t with h0 | h0
    · exact h0
    · have : 18446744073709551616 ^ n * 1 ≤ 18446744073709551616 ^ n * t := Nat.mul_le_mul_left _ h0
      omega
  subst ht
  exact ⟨E, rfl, hE, hd.left, by rw [val_snoc]; simp⟩
/-- one round keeps the account -/
theorem kn_keep (L M D Qs : List Nat) (z V X2 q : Nat) (hq : q = val 18446744073709551616 M / V) (hDl : D.length = M.length) (hD : val 18446744073709551616 D = val 18446744073709551616 M % V)
    (h : val 18446744073709551616 (L ++ (M ++ List.replicate z 0)) + V * val 18446744073709551616 (List.replicate (L.length + 1) 0 ++ Qs) = X2) :
    val 18446744073709551616 (L ++ (D ++ List.replicate z 0)) + V * val 18446744073709551616 (List.replicate L.length 0 ++ (q :: Qs)) = X2 := by
  rw [← h, hq]
  simp only [val_append, val_rep, List.length_append, List.length_replicate, hDl, Nat.mul_zero, Nat.add_zero, Nat.zero_add, val_cons, hD, Nat.pow_succ]
  have e := Nat.div_add_mod (val 18446744073709551616 M) V
  generalize val 18446744073709551616 M / V = p at *
  generalize val 18446744073709551616 M % V = r at *
  rw [← e]
  grind
/-- the end of the account -/
theorem kn_done (X b s V u Q : Nat) (hV : V = b * 2 ^ s) (h : u + V * Q = X * 2 ^ s) (hu : u < V) : Q = X / b ∧ u / 2 ^ s = X % b := by
  have hb : 0 < b := by
    rcases Nat.eq_zero_or_pos b with h0 | h0
    · subst h0; rw [Nat.zero_mul] at hV; omega
    · exact h0
  subst hV
  have := div_fin X b Q u s hb (by rw [← h, Nat.mul_comm Q]; omega) hu
  exact ⟨this.1.symm, this.2.symm⟩
theorem val_zero (l : List Nat) (hd : Dig 18446744073709551616 l) (h : val 18446744073709551616 l = 0) : l = List.replicate l.length 0 := by
  refine val_inj (by decide) hd (Dig.rep _ _ (by decide)) (by simp) ?_
  rw [val_rep, h]
/-- a list of digits whose number has at most n digits -/
theorem dec_list (l : List Nat) (n : Nat) (hn : 1 ≤ n) (hl : n ≤ l.length) (hd : Dig 18446744073709551616 l) (h : val 18446744073709551616 l < 18446744073709551616 ^ n) : ∃ W t, l = (W ++ [t]) ++ List.replicate (l.length - n) 0 ∧ W.length = n - 1 ∧ Dig 18446744073709551616 (W ++ [t]) ∧ val 18446744073709551616 (W ++ [t]) = val 18446744073709551616 l := by
  have h1 := val_take_drop 18446744073709551616 l n hl
  have h0 : val 18446744073709551616 (l.drop n) = 0 := by
    rcases Nat.eq_zero_or_pos (val 18446744073709551616 (l.drop n)) with h0 | h0
    · exact h0
    · have : 18446744073709551616 ^ n * 1 ≤ 18446744073709551616 ^ n * val 18446744073709551616 (l.drop n) := Nat.mul_le_mul_left _ h0
      omega
  have hz := val_zero _ (hd.drop n) h0
  rw [List.length_drop] at hz
  obtain ⟨W, t, hW⟩ := snoc_of_len (l := l.take n) (by rw [List.length_take]; omega)
  refine ⟨W, t, ?_, ?_, ?_, ?_⟩
  · rw [← hW, ← hz, List.take_append_drop]
  · have := congrArg List.length hW
    rw [List.length_take, Nat.min_eq_left hl] at this
    simp at this
    omega
  · rw [← hW]; exact hd.take n
  · rw [← hW]; rw [h0] at h1; omega
theorem top_ge (W : List Nat) (t c : Nat) (hd : Dig 18446744073709551616 (W ++ [t])) (h : c * 18446744073709551616 ^ W.length ≤ val 18446744073709551616 (W ++ [t])) : c ≤ t := by
  rw [val_snoc] at h
  have h1 := val_lt hd.left
  rcases Nat.lt_or_ge t c with h2 | h2
  · exfalso
    have h3 : 18446744073709551616 ^ W.length * (t + 1) ≤ 18446744073709551616 ^ W.length * c := Nat.mul_le_mul_left _ h2
    rw [Nat.mul_add, Nat.mul_one, Nat.mul_comm _ c] at h3
    omega
  · exact h2
theorem kn_init (U : List Nat) (X s b n tl N : Nat) (hl : U.length = N) (hd : Dig 18446744073709551616 U) (hv : val 18446744073709551616 U = X * 2 ^ s) (hX : X < 18446744073709551616 ^ tl) (hs : s < 64) (hb : 18446744073709551616 ^ (n - 1) ≤ b) (hn : 1 ≤ n) (hnt : n ≤ tl) (htl : tl + 1 ≤ N) :
    ∃ A D, U = A ++ (D ++ List.replicate (N - A.length - n) 0) ∧ A.length = tl - n + 1 ∧ D.length = n ∧ Dig 18446744073709551616 A ∧ Dig 18446744073709551616 D ∧ val 18446744073709551616 D < b * 2 ^ s := by
  have h0 : 0 < 2 ^ s := Nat.two_pow_pos s
  have hUlt : val 18446744073709551616 U < 18446744073709551616 ^ (tl + 1) := by
    rw [hv, Nat.pow_succ]
    have h1 : X * 2 ^ s < 18446744073709551616 ^ tl * 2 ^ s := Nat.mul_lt_mul_of_pos_right hX h0
    have h2 : 2 ^ s ≤ 18446744073709551616 := Nat.pow_le_pow_right (n := 2) (j := 64) (by decide) (by omega)
    exact Nat.lt_of_lt_of_le h1 (Nat.mul_le_mul_left _ h2)
  obtain ⟨W, t, h1, h2, h3, h4⟩ := dec_list U (tl + 1) (by omega) (by omega) hd hUlt
  generalize hF : W ++ [t] = F at *
  have hFl : F.length = tl + 1 := by rw [← hF]; simp; omega
  refine ⟨F.take (tl - n + 1), F.drop (tl - n + 1), ?_, ?_, ?_, h3.take _, h3.drop _, ?_⟩
  · rw [← List.append_assoc, List.take_append_drop, List.length_take, hFl]
    rw [show N - min (tl - n + 1) (tl + 1) - n = U.length - (tl + 1) by rw [Nat.min_eq_left (by omega), hl]; omega]
    exact h1
  · rw [List.length_take, hFl]; omega
  · rw [List.length_drop, hFl]; omega
  · have h5 := val_take_drop 18446744073709551616 F (tl - n + 1) (by omega)
    rcases Nat.lt_or_ge (val 18446744073709551616 (F.drop (tl - n + 1))) (b * 2 ^ s) with h6 | h6
    · exact h6
    · exfalso
      have h7 : 18446744073709551616 ^ (tl - n + 1) * (18446744073709551616 ^ (n - 1) * 2 ^ s) ≤ 18446744073709551616 ^ (tl - n + 1) * val 18446744073709551616 (F.drop (tl - n + 1)) := Nat.mul_le_mul_left _ (Nat.le_trans (Nat.mul_le_mul_right _ hb) h6)
      rw [← Nat.mul_assoc, ← Nat.pow_add, show tl - n + 1 + (n - 1) = tl by omega] at h7
      have h8 : X * 2 ^ s < 18446744073709551616 ^ tl * 2 ^ s := Nat.mul_lt_mul_of_pos_right hX h0
      omega
theorem spl_pre (A B C : List Value) (h : A.length = B.length) : spl (A ++ C).toArray 0 B = (B ++ C).toArray := by
  apply Array.ext_getElem?
  intro i
  rw [get_spl _ _ _ _ (by simp; omega)]
  by_cases hi : i < B.length
  · rw [if_pos (by omega)]; simp [hi, List.getElem?_append_left hi]
  · rw [if_neg (by omega)]
    simp [List.getElem?_append_right (show A.length ≤ i by omega), List.getElem?_append_right (show B.length ≤ i by omega), h]
end Go.Proofs.YgvaawGreat
