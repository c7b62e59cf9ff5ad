import Derived.Test.YgvaawGreatN6
set_option maxRecDepth 100000
set_option maxHeartbeats 4000000
set_option linter.unusedSimpArgs false
set_option linter.unusedVariables false
namespace Go.Proofs.YgvaawGreat
open Go
theorem take_nil (v1 : Value) (w : World) :
    Ret 216 [.slice none 0 0, v1] w (fun v w' => v = .int .u16 0 ∧ Up w w') := by
  refine enter (n := 45) Hvaa.func216 rfl rfl (Nat.le_of_ble_eq_true rfl) ?_
  have U := Up.refl w
  refine c_seq (fun K1 hK1 => ?_)
  refine c_region ?_
  refine l_step y_assignC ?_
  refine l_nil ?_
  refine hK1 _ _ ?_
  refine fg2 1 0 (gS rfl (gS rfl g0)) (gS rfl g0) (fun g => ?_)
  refine c_seq (fun K2 hK2 => ?_)
  refine c_region ?_
  refine l_step y_assignC ?_
  refine l_nil ?_
  refine hK2 _ _ ?_
  refine c_seq (fun K3 hK3 => ?_)
  refine c_seq (fun K4 hK4 => ?_)
  refine c_region ?_
  refine l_step (y_moveV (et (gS rfl g0) rfl)) ?_
  refine l_step (y_len Hvaa.underlying95 (et g0 rfl)) ?_
  refine l_step y_moveC ?_
  refine l_nil ?_
  refine hK4 _ _ ?_
  refine fg5 1 0 5 10 11 (gS rfl (gS rfl (gS rfl (gS rfl (gS rfl g0))))) (gS rfl (gS rfl (gS rfl (gS rfl g0)))) (gS rfl (gS rfl (gS rfl g0))) (gS rfl g0) g0 (fun g => ?_)
  refine c_block (fun Q5 hQ5 => ?_)
  refine fg5 0 1 5 10 11 (gS rfl (gS rfl (gS rfl g0))) (gS rfl (gS rfl (gS rfl (gS rfl g0)))) (gS rfl (gS rfl g0)) (gS rfl g0) g0 (fun g => ?_)
  refine c_loop (fun k_ s_ W6 => ∃ (g : Nat → Value), s_ = (upd (upd (upd (upd (upd g 0 (.slice none 0 0)) 1 v1) 5 (.int .u16 0)) 10 (.int .i64 0)) 11 (.int .i64 0)) ∧ 0 = k_ ∧ Ch (fun k => False) w W6) (0) ?_ ?_
  · exact ⟨g, rfl, rfl, Ch.refl _ _⟩
  · skip
    intro k_ s_ W6 hI K6 hK6
    obtain ⟨g, rfl, rfl, V6⟩ := hI
    replace U := U.cc V6 (by intro b hb; first | exact hb.elim | omega | (simp at hb ⊢; omega))
    refine c_seq (fun K7 hK7 => ?_)
    refine c_region ?_
    refine l_step (y_lss (et g0 rfl) (et (gS rfl g0) rfl)) ?_
    refine l_nil ?_
    refine hK7 _ _ ?_
    refine c_seq (fun K8 hK8 => ?_)
    refine c_false (et g0 rfl) (by rfl) ?_
    refine c_exit ?_
    refine hQ5 _ _ _ (in_exit ?_)
    refine hK3 _ _ ?_
    refine fg1 5 (gS rfl (gS rfl (gS rfl g0))) (fun g => ?_)
    refine c_seq (fun K10 hK10 => ?_)
    refine c_region ?_
    refine l_step (y_moveV (et g0 rfl)) ?_
    refine l_step (y_assignV (et g0 rfl)) ?_
    refine l_nil ?_
    refine hK10 _ _ ?_
    refine fg1 4 g0 (fun g => ?_)
    refine c_ret ?_
    refine ret1 rfl (res_tmp (et g0 rfl)) ?_
    exact ⟨rfl, U⟩
theorem take_ob {w0 w : World} {v : Value} {l : List Nat} (h : OB w0 w v l) (h48 : l.length ≤ 281474976710656) {s1 c1 : Nat} {a1 : Option Addr} {l1 : List Nat} (hX : WV s1 w (.slice a1 l1.length c1) l1) (hs : s1 ≤ w0.heap.size) :
    Ret 216 [v, .slice a1 l1.length c1] w (fun u w' => ∃ (l' : List Nat) (B : Nat), u = .int .u16 B ∧ l'.length = l.length ∧ val 256 l' + val 256 (l1.take l.length) = val 256 l + B * 256 ^ l.length ∧ B ≤ 1 ∧ OB w0 w' v l' ∧ Ch (fun k => w0.heap.size ≤ k) w w') := by
  rcases h.at' with ⟨h1, h2⟩ | ⟨b, h1, h2, h3, h4, h5⟩
  · subst h1 h2
    refine (take_nil _ w).mono ?_
    rintro u w' ⟨rfl, u1⟩
    exact ⟨[], 0, rfl, rfl, by simp [val], by decide, ⟨Dig.nil _, .inl ⟨rfl, rfl⟩⟩, u1.ch⟩
  · subst h1
    refine (take_raw b l.length l h.dig w h5 h48 s1 c1 a1 l1 hX (by omega)).mono ?_
    rintro u w' ⟨l', B, rfl, g1, g2, g3, g4, g5, g6⟩
    exact ⟨l', B, rfl, g1, g3, g4, ⟨g2, .inr ⟨b, by rw [g1], h2, g5.lt, by omega, g5⟩⟩, g6.mono (fun q _ hq => by rw [hq]; exact h2)⟩
theorem clip_ob {w0 w : World} {v : Value} {l : List Nat} (h : OB w0 w v l) (h48 : l.length ≤ 281474976710656) :
    Ret 89 [v] w (fun u w' => ∃ l', Up w w' ∧ FB w0 w' u l' ∧ val 256 l' = val 256 l ∧ Tr l') := by
  rcases h.at' with ⟨h1, h2⟩ | ⟨b, h1, h2, h3, h4, h5⟩
  · subst h1 h2
    refine (clip_spec 0 0 none [] w ⟨Dig.nil _, .inl ⟨⟨_, rfl⟩, rfl⟩⟩ (Nat.zero_le _) (Nat.le_refl _) (by decide)).mono ?_
    rintro u w' ⟨k, hk, hv, hT, hx, u1⟩
    have hk0 : k = 0 := by simpa using hk
    subst hk0
    refine ⟨[], u1, ⟨Dig.nil _, ?_⟩, rfl, fun d hd => by cases hd⟩
    rcases hv with ⟨rfl, _⟩ | ⟨rfl, h0⟩
    · exact .inl ⟨rfl, rfl⟩
    · exact absurd rfl h0
  · subst h1
    exact clip_fb h.dig h2 h5 h48
theorem OB.ch {M : Nat → Prop} {w0 w w' : World} {v : Value} {l : List Nat} (h : OB w0 w v l) (c : Ch M w w') (hM : ∀ b, M b → b < w0.heap.size) : OB w0 w' v l := by
  refine ⟨h.dig, ?_⟩
  rcases h.at' with h1 | ⟨b, h1, h2, h3, h4, h5⟩
  · exact .inl h1
  · exact .inr ⟨b, h1, h2, Nat.lt_of_lt_of_le h3 c.size, h4, h5.ch c (fun hm => by have := hM b hm; omega)⟩
theorem OB.up {w0 w w' : World} {v : Value} {l : List Nat} (h : OB w0 w v l) (c : Up w w') : OB w0 w' v l := h.ch c (fun _ h => h.elim)
theorem take_ge {l : List Nat} {n : Nat} (h : l.length ≤ n) : l.take n = l := List.take_of_length_le h
theorem tr_len' {l' l : List Nat} {n : Nat} (hT : Tr l') (hv : val 256 l' = val 256 l) (h : l.length ≤ n) (hd : Dig 256 l) : l'.length ≤ n :=
  tr_len hT (by rw [hv]; exact Nat.lt_of_lt_of_le (val_lt hd) (Nat.pow_le_pow_right (by decide) h))
theorem sub_noborrow {l2 l l1 : List Nat} {B : Nat} (hd : Dig 256 l2) (hval : val 256 l2 + val 256 l1 = val 256 l + B * 256 ^ l.length) (hle : val 256 l1 ≤ val 256 l) (hll : l2.length = l.length) (hB : B ≤ 1) : B = 0 := by
  rcases Nat.eq_zero_or_pos B with h | h
  · exact h
  · have : B = 1 := by omega
    subst this
    have := val_lt hd
    rw [hll] at this
    omega
theorem sub_raw (s0 c : Nat) (a : Option Addr) (l : List Nat) (w : World) (hW : WV s0 w (.slice a l.length c) l) (hs0 : s0 ≤ w.heap.size) (hc : l.length ≤ c) (h48 : l.length ≤ 281474976710656) (s1 c1 : Nat) (a1 : Option Addr) (l1 : List Nat) (hX : WV s1 w (.slice a1 l1.length c1) l1) (hs1 : s1 ≤ w.heap.size) (hc1 : l1.length ≤ c1) (h481 : l1.length ≤ 281474976710656) :
    Ret 125 [.slice a l.length c, .slice a1 l1.length c1] w (fun v w' => ∃ u t, v = .tuple #[u, .bool t] ∧ Up w w' ∧ ((t = false ∧ u = .slice none 0 0 ∧ val 256 l < val 256 l1) ∨ (t = true ∧ val 256 l1 ≤ val 256 l ∧ ∃ l', FB w w' u l' ∧ val 256 l' = val 256 l - val 256 l1 ∧ Tr l'))) := by
  refine enter (n := 19) Hvaa.func125 rfl rfl (Nat.le_of_ble_eq_true rfl) ?_
  have U := Up.refl w
  refine c_seq (fun K1 hK1 => ?_)
  refine c_region ?_
  refine l_step y_assignC ?_
  refine l_step y_assignC ?_
  refine l_nil ?_
  refine hK1 _ _ ?_
  refine fg2 1 0 (gS rfl (gS rfl (gS rfl g0))) (gS rfl (gS rfl g0)) (fun g => ?_)
  refine c_seq (fun K2 hK2 => ?_)
  refine c_seq (fun K3 hK3 => ?_)
  refine c_region ?_
  refine l_step (y_moveV (et g0 rfl)) ?_
  refine l_step (y_moveV (et (gS rfl (gS rfl g0)) rfl)) ?_
  refine l_eff (e_callV cal_121 (aC (et (gS rfl g0) rfl) (aC (et g0 rfl) aN)) (cmp_raw _ _ _ l _ hW (by omega) hc h48 _ _ _ l1 hX (by omega) hc1 h481)) (fun v4 w4 h4 => ?_)
  obtain ⟨rfl, u4⟩ := h4
  replace hW := hW.up u4
  replace hX := hX.up u4
  replace U := U.tr u4
  refine l_step (y_lss (et g0 rfl) rfl) ?_
  refine l_nil ?_
  refine hK3 _ _ ?_
  refine fg3 1 0 10 (gS rfl (gS rfl (gS rfl (gS rfl (gS rfl g0))))) (gS rfl (gS rfl (gS rfl (gS rfl g0)))) g0 (fun g => ?_)
  refine c_cond (et g0 rfl) (fun cB1 => ?_) (fun cB1 => ?_)
  · skip
    
    have hlt : val 256 l < val 256 l1 := by
      have h1 := of_decide_eq_true cB1
      unfold cmpN at h1
      split at h1
      · assumption
      · split at h1 <;> omega
    refine c_seq (fun K6 hK6 => ?_)
    refine c_region ?_
    refine l_step y_assignC ?_
    refine l_step y_assignC ?_
    refine l_nil ?_
    refine hK6 _ _ ?_
    refine fg2 4 5 (gS rfl g0) g0 (fun g => ?_)
    refine c_ret ?_
    refine ret2 rfl (res_tmp (et (gS rfl g0) rfl)) (res_tmp (et g0 rfl)) ?_
    exact ⟨_, _, rfl, U, .inl ⟨rfl, rfl, hlt⟩⟩
  · skip
    
    have hlt : val 256 l1 ≤ val 256 l := by
      have h1 := of_decide_eq_false cB1
      unfold cmpN at h1
      split at h1
      · omega
      · omega
    refine c_skip ?_
    refine hK2 _ _ ?_
    refine fg2 1 0 (gS rfl (gS rfl g0)) (gS rfl g0) (fun g => ?_)
    refine c_seq (fun K7 hK7 => ?_)
    refine c_region ?_
    refine l_step (y_moveV (et g0 rfl)) ?_
    have hU0 := U.size
    refine l_eff (e_callV cal_123 (aC (et g0 rfl) aN) (norm_spec _ _ _ l _ hW (by omega) hc h48)) (fun v8 w8 h8 => ?_)
    obtain ⟨l', u8, ho, hvn, hTn⟩ := h8
    replace hW := hW.up u8
    replace hX := hX.up u8
    replace U := U.tr u8
    refine l_step (y_assignV (et g0 rfl)) ?_
    refine l_nil ?_
    refine hK7 _ _ ?_
    refine fg2 1 6 (gS rfl (gS rfl (gS rfl (gS rfl g0)))) g0 (fun g => ?_)
    refine c_seq (fun K9 hK9 => ?_)
    refine c_region ?_
    refine l_step (y_moveV (et g0 rfl)) ?_
    refine l_step (y_moveV (et (gS rfl (gS rfl g0)) rfl)) ?_
    have hln : l'.length ≤ 281474976710656 := tr_len' hTn hvn h48 hW.dig
    refine l_eff (e_callV cal_88 (aC (et g0 rfl) aN) (trim_spec _ _ _ l1 _ hX (by omega) (by omega))) (fun v10 w10 h10 => ?_)
    obtain ⟨j, hj, rfl, hT1, hv1, u10⟩ := h10
    replace hW := hW.up u10
    replace hX := hX.up u10
    replace ho := ho.up u10
    replace U := U.tr u10
    have hX2 := hX.take hj
    have hlj : (l1.take j).length = j := by simp; omega
    have hX3 : WV s1 w10 (.slice a1 (l1.take j).length j) (l1.take j) := by rw [hlj]; exact hX2
    have hjl : (l1.take j).length ≤ l'.length := by
      rcases Nat.lt_or_ge l'.length (l1.take j).length with h9 | h9
      · have := len_lt ho.dig hT1 h9; omega
      · exact h9
    have htk := take_ob ho hln hX3 (by omega)
    rw [hlj] at htk
    rw [take_ge hjl] at htk
    refine l_eff (e_callV cal_216 (aC (et (gS rfl (gS rfl g0)) rfl) (aC (et g0 rfl) aN)) htk) (fun v11 w11 h11 => ?_)
    obtain ⟨l2, B, rfl, hll, hval, hB, ho2, c11⟩ := h11
    replace hW := hW.ch c11 (by first | omega | (intro q hq; omega))
    replace hX := hX.ch c11 (by first | omega | (intro q hq; omega))
    replace hX2 := hX2.ch c11 (by first | omega | (intro q hq; omega))
    replace ho := ho2
    replace U := U.cc c11 (by intro b hb; first | omega | exact .inl hb | exact .inr (hb ▸ U))
    refine l_nil ?_
    refine hK9 _ _ ?_
    refine fg1 6 (gS rfl (gS rfl (gS rfl (gS rfl g0)))) (fun g => ?_)
    refine c_seq (fun K12 hK12 => ?_)
    refine c_region ?_
    refine l_step (y_moveV (et g0 rfl)) ?_
    have hl2 : l2.length ≤ 281474976710656 := by omega
    have hB0 : B = 0 := sub_noborrow ho.dig hval (by omega) hll hB
    subst hB0
    refine l_eff (e_callV cal_89 (aC (et g0 rfl) aN) (clip_ob ho hl2)) (fun v13 w13 h13 => ?_)
    obtain ⟨l3, u13, hf, hv3, hT3⟩ := h13
    replace hW := hW.up u13
    replace hX := hX.up u13
    replace ho := ho.up u13
    replace hX2 := hX2.up u13
    replace U := U.tr u13
    refine l_step (y_assignV (et g0 rfl)) ?_
    refine l_step y_assignC ?_
    refine l_nil ?_
    refine hK12 _ _ ?_
    refine fg2 4 5 (gS rfl g0) g0 (fun g => ?_)
    refine c_ret ?_
    refine ret2 rfl (res_tmp (et (gS rfl g0) rfl)) (res_tmp (et g0 rfl)) ?_
    exact ⟨_, _, rfl, U, .inr ⟨rfl, hlt, l3, hf.mono hU0, by rw [hv3]; omega, hT3⟩⟩
end Go.Proofs.YgvaawGreat
