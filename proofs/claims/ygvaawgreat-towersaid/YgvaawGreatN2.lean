import Derived.Test.YgvaawGreatKit5
set_option maxRecDepth 100000
set_option linter.unusedSimpArgs false
set_option linter.unusedVariables false
namespace Go.Proofs.YgvaawGreat
open Go
theorem norm_spec (s0 c : Nat) (a : Option Addr) (l : List Nat) (w : World) (hW : WV s0 w (.slice a l.length c) l) (hs0 : s0 ≤ w.heap.size) (hc : l.length ≤ c) (h48 : l.length ≤ 281474976710656) :
    Ret 123 [.slice a l.length c] w (fun v w' => ∃ l', Up w w' ∧ OB w w' v l' ∧ val 256 l' = val 256 l ∧ Tr l') := by
  refine enter (n := 16) Hvaa.func123 rfl rfl (Nat.le_of_ble_eq_true rfl) ?_
  have U := Up.refl w
  refine c_seq (fun K1 hK1 => ?_)
  refine c_region ?_
  refine l_step y_assignC ?_
  refine l_nil ?_
  refine hK1 _ _ ?_
  refine fg1 0 (gS rfl g0) (fun g => ?_)
  refine c_seq (fun K2 hK2 => ?_)
  refine c_region ?_
  refine l_step (y_moveV (et g0 rfl)) ?_
  refine l_eff (e_callV cal_88 (aC (et g0 rfl) aN) (trim_spec s0 c a l _ hW (by omega) (by omega))) (fun v3 w3 h3 => ?_)
  obtain ⟨k, hk, rfl, hT, hv, u3⟩ := h3
  replace hW := hW.up u3
  replace U := U.tr u3
  have hW2 := hW.take hk
  refine l_step (y_assignV (et g0 rfl)) ?_
  refine l_nil ?_
  refine hK2 _ _ ?_
  refine fg1 0 g0 (fun g => ?_)
  refine c_seq (fun K4 hK4 => ?_)
  refine c_seq (fun K5 hK5 => ?_)
  refine c_region ?_
  refine l_step (y_moveV (et g0 rfl)) ?_
  refine l_step (y_len Hvaa.underlying95 (et g0 rfl)) ?_
  refine l_step (y_eql (et g0 rfl) rfl) ?_
  refine l_nil ?_
  refine hK5 _ _ ?_
  refine fg2 0 8 (gS rfl (gS rfl (gS rfl g0))) g0 (fun g => ?_)
  refine c_cond (et g0 rfl) (fun cB1 => ?_) (fun cB1 => ?_)
  · skip
    
    have hk0 : k = 0 := by have := of_decide_eq_true cB1; omega
    refine c_seq (fun K7 hK7 => ?_)
    refine c_region ?_
    refine l_step y_assignC ?_
    refine l_nil ?_
    refine hK7 _ _ ?_
    refine fg1 2 g0 (fun g => ?_)
    refine c_ret ?_
    refine ret1 rfl (res_tmp (et g0 rfl)) ?_
    exact ⟨_, U, ⟨Dig.nil _, .inl ⟨rfl, rfl⟩⟩, by rw [← hv, hk0]; rfl, fun d hd => by cases hd⟩
  · skip
    
    have hk0 : k ≠ 0 := by have := of_decide_eq_false cB1; omega
    have hlk : (l.take k).length = k := by simp; omega
    refine c_skip ?_
    refine hK4 _ _ ?_
    refine fg1 0 (gS rfl g0) (fun g => ?_)
    refine c_seq (fun K8 hK8 => ?_)
    refine c_region ?_
    refine l_step (y_moveV (et g0 rfl)) ?_
    refine l_step (y_len Hvaa.underlying95 (et g0 rfl)) ?_
    refine l_eff (e_make Hvaa.underlying95 sz_5 zr_5 by_5 (et g0 rfl) (et g0 rfl) (by omega) (by omega)) (fun v9 w9 h9 => ?_)
    obtain ⟨b9, rfl, n9⟩ := h9
    have f9 : w.heap.size ≤ b9 := Nat.le_trans U.size n9.fresh
    replace hW := hW.up n9.up
    replace hW2 := hW2.up n9.up
    replace U := U.tr n9.up
    have k9 := mzB n9.blk
    refine l_step (y_assignV (et g0 rfl)) ?_
    refine l_nil ?_
    refine hK8 _ _ ?_
    refine fg2 0 3 (gS rfl (gS rfl (gS rfl (gS rfl g0)))) g0 (fun g => ?_)
    refine c_seq (fun K10 hK10 => ?_)
    refine c_region ?_
    refine l_step (y_moveV (et g0 rfl)) ?_
    refine l_step (y_moveV (et (gS rfl (gS rfl g0)) rfl)) ?_
    refine l_eff (e_copyW Hvaa.underlying95 (et (gS rfl g0) rfl) (et g0 rfl) hW2 k9 (by simp [length_bL]; omega)) (fun v11 w11 h11 => ?_)
    obtain ⟨rfl, x11⟩ := h11
    replace hW := hW.ch x11.ch (by first | omega | (intro q hq; omega))
    replace hW2 := hW2.ch x11.ch (by omega)
    replace k9 := x11.blk
    replace U := U.cc x11.ch (by intro b hb; first | exact hb ▸ f9 | omega)
    refine l_nil ?_
    refine hK10 _ _ ?_
    refine fg1 3 (gS rfl (gS rfl (gS rfl g0))) (fun g => ?_)
    refine c_seq (fun K12 hK12 => ?_)
    refine c_region ?_
    refine l_step (y_moveV (et g0 rfl)) ?_
    refine l_step (y_assignV (et g0 rfl)) ?_
    refine l_nil ?_
    refine hK12 _ _ ?_
    refine fg1 2 g0 (fun g => ?_)
    refine c_ret ?_
    refine ret1 rfl (res_tmp (et g0 rfl)) ?_
    have e3 := spl_full (bL (List.replicate k 0)).toArray (bL (l.take k)) (by simp [length_bL]; omega)
    have k9 := k9
    rw [List.take_of_length_le (by omega), e3] at k9
    exact ⟨_, U, ⟨hW2.dig, .inr ⟨_, by rw [hlk], f9, k9.lt, by omega, k9⟩⟩, hv, hT⟩
theorem clip_spec (s0 c : Nat) (a : Option Addr) (l : List Nat) (w : World) (hW : WV s0 w (.slice a l.length c) l) (hs0 : s0 ≤ w.heap.size) (hc : l.length ≤ c) (h48 : l.length ≤ 281474976710656) :
    Ret 89 [.slice a l.length c] w (fun v w' => ∃ k, k ≤ l.length ∧ ((v = .slice none 0 0 ∧ k = 0) ∨ (v = .slice a k k ∧ k ≠ 0)) ∧ Tr (l.take k) ∧ val 256 (l.take k) = val 256 l ∧ Up w w') := by
  refine enter (n := 14) Hvaa.func89 rfl rfl (Nat.le_of_ble_eq_true rfl) ?_
  have U := Up.refl w
  refine c_seq (fun K1 hK1 => ?_)
  refine c_region ?_
  refine l_step y_assignC ?_
  refine l_nil ?_
  refine hK1 _ _ ?_
  refine fg1 0 (gS rfl g0) (fun g => ?_)
  refine c_seq (fun K2 hK2 => ?_)
  refine c_region ?_
  refine l_step (y_moveV (et g0 rfl)) ?_
  refine l_eff (e_callV cal_88 (aC (et g0 rfl) aN) (trim_spec s0 c a l _ hW (by omega) (by omega))) (fun v3 w3 h3 => ?_)
  obtain ⟨k, hk, rfl, hT, hv, u3⟩ := h3
  replace hW := hW.up u3
  replace U := U.tr u3
  have hW2 := hW.take hk
  refine l_step (y_assignV (et g0 rfl)) ?_
  refine l_nil ?_
  refine hK2 _ _ ?_
  refine fg1 0 g0 (fun g => ?_)
  refine c_seq (fun K4 hK4 => ?_)
  refine c_seq (fun K5 hK5 => ?_)
  refine c_region ?_
  refine l_step (y_moveV (et g0 rfl)) ?_
  refine l_step (y_len Hvaa.underlying95 (et g0 rfl)) ?_
  refine l_step (y_eql (et g0 rfl) rfl) ?_
  refine l_nil ?_
  refine hK5 _ _ ?_
  refine fg2 0 7 (gS rfl (gS rfl (gS rfl g0))) g0 (fun g => ?_)
  refine c_cond (et g0 rfl) (fun cB1 => ?_) (fun cB1 => ?_)
  · skip
    
    have hk0 : k = 0 := by have := of_decide_eq_true cB1; omega
    refine c_seq (fun K7 hK7 => ?_)
    refine c_region ?_
    refine l_step y_assignC ?_
    refine l_nil ?_
    refine hK7 _ _ ?_
    refine fg1 2 g0 (fun g => ?_)
    refine c_ret ?_
    refine ret1 rfl (res_tmp (et g0 rfl)) ?_
    exact ⟨k, hk, .inl ⟨rfl, hk0⟩, hT, hv, U⟩
  · skip
    
    have hk0 : k ≠ 0 := by have := of_decide_eq_false cB1; omega
    refine c_skip ?_
    refine hK4 _ _ ?_
    refine fg1 0 (gS rfl g0) (fun g => ?_)
    refine c_seq (fun K8 hK8 => ?_)
    refine c_region ?_
    refine l_step (y_moveV (et g0 rfl)) ?_
    refine l_step (y_moveV (et (gS rfl g0) rfl)) ?_
    refine l_step (y_len Hvaa.underlying95 (et g0 rfl)) ?_
    refine l_step (y_moveV (et (gS rfl (gS rfl (gS rfl g0))) rfl)) ?_
    refine l_step (y_len Hvaa.underlying95 (et g0 rfl)) ?_
    refine l_step (y_slS011n Hvaa.underlying95 sz_5 (et (gS rfl (gS rfl (gS rfl (gS rfl g0)))) rfl) (et (gS rfl (gS rfl g0)) rfl) (et g0 rfl) ?_ ?_) ?_
    omega
    omega
    refine l_step (y_assignV (et g0 rfl)) ?_
    refine l_nil ?_
    refine hK8 _ _ ?_
    refine fg1 2 g0 (fun g => ?_)
    refine c_ret ?_
    refine ret1 rfl (res_tmp (et g0 rfl)) ?_
    exact ⟨k, hk, .inr ⟨rfl, hk0⟩, hT, hv, U⟩
/-- clip of a fresh block -/
theorem clip_fb {w0 w : World} {b : Nat} {l : List Nat} (hd : Dig 256 l) (hf : w0.heap.size ≤ b) (hb : Blk w b (bL l).toArray) (h48 : l.length ≤ 281474976710656) :
    Ret 89 [.slice (some ⟨b, 0, none⟩) l.length l.length] w (fun v w' => ∃ l', Up w w' ∧ FB w0 w' v l' ∧ val 256 l' = val 256 l ∧ Tr l') := by
  have hW : WV w.heap.size w (.slice (some ⟨b, 0, none⟩) l.length l.length) l := WV.ofBlk (r := []) (by simpa [bL] using hb) hd hb.lt (Nat.le_refl _) (by omega)
  refine (clip_spec _ _ _ l w hW (Nat.le_refl _) (Nat.le_refl _) h48).mono ?_
  rintro v w' ⟨k, hk, hv, hT, hx, u⟩
  refine ⟨l.take k, u, ⟨hd.take k, ?_⟩, hx, hT⟩
  rcases hv with ⟨rfl, rfl⟩ | ⟨rfl, h0⟩
  · exact .inl ⟨rfl, rfl⟩
  · have hl : (l.take k).length = k := by simp; omega
    refine .inr ⟨b, k, l.drop k, by rw [hl], by omega, by omega, hf, ?_⟩
    rw [List.take_append_drop]; exact hb.up u
end Go.Proofs.YgvaawGreat
