import Derived.Test.YgvaawGreatY2
set_option maxRecDepth 100000
set_option maxHeartbeats 4000000
set_option linter.unusedSimpArgs false
set_option linter.unusedVariables false
namespace Go.Proofs.YgvaawGreat
open Go
theorem bd_pow2 {H : Store} {v : Value} {k : Nat} (n : NV H v (2 ^ k)) (h : k ≤ 256) : 2 ^ k < 256 ^ 33 := by
  have h1 : 2 ^ k ≤ 2 ^ 256 := Nat.pow_le_pow_right (by decide) h
  exact Nat.lt_of_le_of_lt h1 (by decide)
theorem bd_sgn' {H : Store} {v : Value} {x : Nat} (n : NV H v (sgn x true)) : sgn x true < 256 ^ 32 := by unfold sgn; exact bd_wrap
theorem bd_sgn {x : Nat} (t : Bool) (h : x < 256 ^ 32) : sgn x t < 256 ^ 32 := by
  unfold sgn; split
  · exact bd_wrap
  · exact h
theorem bd_sgnA {H : Store} {v : Value} {x : Nat} {t : Bool} (n : NV H v (sgn x t)) (h : x < 256 ^ 32) : sgn x t < 256 ^ 32 := bd_sgn t h
theorem slt_neg (a b : Nat) : slt a b = if (!(neg a == neg b)) = true then neg a else decide (a < b) := by
  unfold slt neg; rfl
theorem NV.zero {H : Store} {v : Value} {x : Nat} (h : NV H v x) (e : x = 0) : NV H v 0 := e ▸ h
theorem NV.to {H : Store} {v : Value} {x y : Nat} (h : NV H v x) (e : x = y) : NV H v y := e ▸ h
theorem yp_negated {w : World} {H : Store} {v1 : Value} {x : Nat} (hF : Fz w H) (h1 : NV H v1 x) (s1 : x < 256 ^ 32) :
    Ret 338 [v1] w (fun v w' => ∃ H', Go No w H w' H' ∧ NV H' v (sgn x true)) := by
  refine enter (n := 13) Hvaa.func338 rfl rfl (Nat.le_of_ble_eq_true rfl) ?_
  have U := Up.refl w
  have G : Go (No) w H w H := Go.refl hF
  refine c_seq (fun K1 hK1 => ?_)
  refine c_region ?_
  refine l_step y_assignC ?_
  refine l_nil ?_
  refine hK1 _ _ ?_
  refine fg1 0 (gS rfl g0) (fun g => ?_)
  refine c_seq (fun K2 hK2 => ?_)
  refine c_region ?_
  refine l_eff (e_callV cal_396 (aC (v := .int .u16 ((256 : Nat) : Int)) rfl aN) (nat_pow2 hF 256 (Nat.lt_of_le_of_lt (m := 256) (by decide) (by decide)))) (fun v3 w3 h3 => ?_)
  obtain ⟨H3, g3, n3⟩ := h3
  have hlew3 := g3.le
  replace h1 := h1.mono hlew3
  replace U := U.tr g3.up
  replace G := G.tr g3
  replace hF := g3.fz
  have q3 := bd_pow2 n3 (by decide)
  rw [W256_2] at n3 q3
  refine l_step (y_moveV (et (gS rfl g0) rfl)) ?_
  refine l_eff (e_callV cal_125 (aC (et (gS rfl g0) rfl) (aC (et g0 rfl) aN)) (nat_sub hF n3 h1 (bd_sm q3 (by decide)) (bd_sm s1 (by decide)))) (fun v4 w4 h4 => ?_)
  obtain ⟨z4, H4, rfl, g4, n4⟩ := h4
  have hlew4 := g4.le
  replace h1 := h1.mono hlew4
  replace n3 := n3.mono hlew4
  replace U := U.tr g4.up
  replace G := G.tr g4
  replace hF := g4.fz
  have q4 := bd_sub' n4 q3
  refine l_step (y_moveV (et g0 rfl)) ?_
  refine l_step (y_ext (et g0 rfl) rfl) ?_
  refine l_step (y_ext (et (gS rfl g0) rfl) rfl) ?_
  refine l_step (y_assignV (et (gS rfl g0) rfl)) ?_
  refine l_step (y_assignV (et (gS rfl g0) rfl)) ?_
  refine l_nil ?_
  refine hK2 _ _ ?_
  refine fg1 3 (gS rfl g0) (fun g => ?_)
  refine c_seq (fun K5 hK5 => ?_)
  refine c_region ?_
  refine l_step (y_moveV (et g0 rfl)) ?_
  refine l_eff (e_callV cal_337 (aC (et g0 rfl) aN) (yp_wrapped hF n4 (bd_sm q4 (by decide)))) (fun v6 w6 h6 => ?_)
  obtain ⟨H6, g6, n6⟩ := h6
  have hlew6 := g6.le
  replace h1 := h1.mono hlew6
  replace n3 := n3.mono hlew6
  replace n4 := n4.mono hlew6
  replace U := U.tr g6.up
  replace G := G.tr g6
  replace hF := g6.fz
  have q6 := bd_wrap' n6
  refine l_step (y_assignV (et g0 rfl)) ?_
  refine l_nil ?_
  refine hK5 _ _ ?_
  refine fg1 2 g0 (fun g => ?_)
  refine c_ret ?_
  refine ret1 rfl (res_tmp (et g0 rfl)) ?_
  exact ⟨_, G, n6⟩
theorem yp_isNeg {w : World} {H : Store} {v1 : Value} {x : Nat} (hF : Fz w H) (h1 : NV H v1 x) (s1 : x < 256 ^ 32) :
    Ret 341 [v1] w (fun v w' => v = .bool (neg x) ∧ Up w w') := by
  refine enter (n := 5) Hvaa.func341 rfl rfl (Nat.le_of_ble_eq_true rfl) ?_
  have U := Up.refl w
  have G : Go (No) w H w H := Go.refl hF
  refine c_seq (fun K1 hK1 => ?_)
  refine c_region ?_
  refine l_step y_assignC ?_
  refine l_nil ?_
  refine hK1 _ _ ?_
  refine fg1 0 (gS rfl g0) (fun g => ?_)
  refine c_seq (fun K2 hK2 => ?_)
  refine c_region ?_
  refine l_step (y_moveV (et g0 rfl)) ?_
  refine l_eff (e_callV cal_330 (aC (et g0 rfl) (aC (v := .int .u16 ((255 : Nat) : Int)) rfl aN)) (nat_bit hF h1 (bd_sm s1 (by decide)) 255 (by decide))) (fun v3 w3 h3 => ?_)
  obtain ⟨rfl, u3⟩ := h3
  replace G := G.tr (Go.ofUp hF u3)
  replace hF := hF.up u3
  replace U := U.tr u3
  refine l_step (y_assignV (et g0 rfl)) ?_
  refine l_nil ?_
  refine hK2 _ _ ?_
  refine fg1 2 g0 (fun g => ?_)
  refine c_ret ?_
  refine ret1 rfl (res_tmp (et g0 rfl)) ?_
  exact ⟨congrArg Value.bool (neg_bit s1), U⟩
theorem yp_withSign {w : World} {H : Store} {v1 : Value} {x : Nat} (hF : Fz w H) (h1 : NV H v1 x) (s1 : x < 256 ^ 32) (t : Bool) :
    Ret 340 [v1, .bool t] w (fun v w' => ∃ H', Go No w H w' H' ∧ NV H' v (sgn x t)) := by
  refine enter (n := 10) Hvaa.func340 rfl rfl (Nat.le_of_ble_eq_true rfl) ?_
  have U := Up.refl w
  have G : Go (No) w H w H := Go.refl hF
  refine c_seq (fun K1 hK1 => ?_)
  refine c_region ?_
  refine l_step y_assignC ?_
  refine l_nil ?_
  refine hK1 _ _ ?_
  refine fg2 1 0 (gS rfl (gS rfl g0)) (gS rfl g0) (fun g => ?_)
  refine c_seq (fun K2 hK2 => ?_)
  refine c_seq (fun K3 hK3 => ?_)
  refine c_region ?_
  refine l_step (y_moveV (et (gS rfl g0) rfl)) ?_
  refine l_nil ?_
  refine hK3 _ _ ?_
  refine fg2 0 5 (gS rfl g0) g0 (fun g => ?_)
  refine c_cond (et g0 rfl) (fun cB1 => ?_) (fun cB1 => ?_)
  · skip
    
    refine c_seq (fun K5 hK5 => ?_)
    refine c_region ?_
    refine l_step (y_moveV (et (gS rfl g0) rfl)) ?_
    refine l_eff (e_callV cal_338 (aC (et g0 rfl) aN) (yp_negated hF h1 (bd_up s1 (by decide)))) (fun v6 w6 h6 => ?_)
    obtain ⟨H6, g6, n6⟩ := h6
    have hlew6 := g6.le
    replace h1 := h1.mono hlew6
    replace U := U.tr g6.up
    replace G := G.tr g6
    replace hF := g6.fz
    have q6 := bd_sgn' n6
    refine l_step (y_assignV (et g0 rfl)) ?_
    refine l_nil ?_
    refine hK5 _ _ ?_
    refine fg1 4 g0 (fun g => ?_)
    refine c_ret ?_
    refine ret1 rfl (res_tmp (et g0 rfl)) ?_
    subst cB1
    exact ⟨_, G, n6⟩
  · skip
    
    refine c_skip ?_
    refine hK2 _ _ ?_
    refine fg1 0 (gS rfl g0) (fun g => ?_)
    refine c_seq (fun K7 hK7 => ?_)
    refine c_region ?_
    refine l_step (y_moveV (et g0 rfl)) ?_
    refine l_eff (e_callV cal_123 (aC (et g0 rfl) aN) (nat_normN hF h1 (bd_sm s1 (by decide)))) (fun v8 w8 h8 => ?_)
    obtain ⟨H8, g8, n8⟩ := h8
    have hlew8 := g8.le
    replace h1 := h1.mono hlew8
    replace U := U.tr g8.up
    replace G := G.tr g8
    replace hF := g8.fz
    have q8 := s1
    refine l_step (y_assignV (et g0 rfl)) ?_
    refine l_nil ?_
    refine hK7 _ _ ?_
    refine fg1 4 g0 (fun g => ?_)
    refine c_ret ?_
    refine ret1 rfl (res_tmp (et g0 rfl)) ?_
    subst cB1
    exact ⟨_, G, n8⟩
theorem yp_magn {w : World} {H : Store} {v1 : Value} {x : Nat} (hF : Fz w H) (h1 : NV H v1 x) (s1 : x < 256 ^ 32) :
    Ret 339 [v1] w (fun v w' => ∃ H', Go No w H w' H' ∧ NV H' v (sgn x (neg x))) := by
  refine enter (n := 7) Hvaa.func339 rfl rfl (Nat.le_of_ble_eq_true rfl) ?_
  have U := Up.refl w
  have G : Go (No) w H w H := Go.refl hF
  refine c_seq (fun K1 hK1 => ?_)
  refine c_region ?_
  refine l_step y_assignC ?_
  refine l_nil ?_
  refine hK1 _ _ ?_
  refine fg1 0 (gS rfl g0) (fun g => ?_)
  refine c_seq (fun K2 hK2 => ?_)
  refine c_region ?_
  refine l_step (y_moveV (et g0 rfl)) ?_
  refine l_step (y_moveV (et (gS rfl g0) rfl)) ?_
  refine l_eff (e_callV cal_341 (aC (et g0 rfl) aN) (yp_isNeg hF h1 (bd_up s1 (by decide)))) (fun v3 w3 h3 => ?_)
  obtain ⟨rfl, u3⟩ := h3
  replace G := G.tr (Go.ofUp hF u3)
  replace hF := hF.up u3
  replace U := U.tr u3
  refine l_eff (e_callV cal_340 (aC (et (gS rfl (gS rfl g0)) rfl) (aC (et g0 rfl) aN)) (yp_withSign hF h1 (bd_up s1 (by decide)) _)) (fun v4 w4 h4 => ?_)
  obtain ⟨H4, g4, n4⟩ := h4
  have hlew4 := g4.le
  replace h1 := h1.mono hlew4
  replace U := U.tr g4.up
  replace G := G.tr g4
  replace hF := g4.fz
  have q4 := bd_sgnA n4 (bd_up s1 (by decide))
  refine l_step (y_assignV (et g0 rfl)) ?_
  refine l_nil ?_
  refine hK2 _ _ ?_
  refine fg1 2 g0 (fun g => ?_)
  refine c_ret ?_
  refine ret1 rfl (res_tmp (et g0 rfl)) ?_
  exact ⟨_, G, n4⟩
theorem yp_sBelow {w : World} {H : Store} {v1 v2 : Value} {x y : Nat} (hF : Fz w H) (h1 : NV H v1 x) (h2 : NV H v2 y) (s1 : x < 256 ^ 32) (s2 : y < 256 ^ 32) :
    Ret 345 [v1, v2] w (fun v w' => v = .bool (slt x y) ∧ Up w w') := by
  refine enter (n := 16) Hvaa.func345 rfl rfl (Nat.le_of_ble_eq_true rfl) ?_
  have U := Up.refl w
  have G : Go (No) w H w H := Go.refl hF
  refine c_seq (fun K1 hK1 => ?_)
  refine c_region ?_
  refine l_step y_assignC ?_
  refine l_nil ?_
  refine hK1 _ _ ?_
  refine fg2 1 0 (gS rfl (gS rfl g0)) (gS rfl g0) (fun g => ?_)
  refine c_seq (fun K2 hK2 => ?_)
  refine c_seq (fun K3 hK3 => ?_)
  refine c_region ?_
  refine l_step (y_moveV (et g0 rfl)) ?_
  refine l_eff (e_callV cal_341 (aC (et g0 rfl) aN) (yp_isNeg hF h1 (bd_up s1 (by decide)))) (fun v4 w4 h4 => ?_)
  obtain ⟨rfl, u4⟩ := h4
  replace G := G.tr (Go.ofUp hF u4)
  replace hF := hF.up u4
  replace U := U.tr u4
  refine l_step (y_moveV (et (gS rfl (gS rfl (gS rfl g0))) rfl)) ?_
  refine l_eff (e_callV cal_341 (aC (et g0 rfl) aN) (yp_isNeg hF h2 (bd_up s2 (by decide)))) (fun v5 w5 h5 => ?_)
  obtain ⟨rfl, u5⟩ := h5
  replace G := G.tr (Go.ofUp hF u5)
  replace hF := hF.up u5
  replace U := U.tr u5
  refine l_step (y_neqB Hvaa.underlying4 (et (gS rfl (gS rfl g0)) rfl) (et g0 rfl)) ?_
  refine l_nil ?_
  refine hK3 _ _ ?_
  refine fg3 1 0 9 (gS rfl (gS rfl (gS rfl (gS rfl (gS rfl (gS rfl g0)))))) (gS rfl (gS rfl (gS rfl (gS rfl (gS rfl g0))))) g0 (fun g => ?_)
  refine c_cond (et g0 rfl) (fun cB1 => ?_) (fun cB1 => ?_)
  · skip
    
    refine c_seq (fun K7 hK7 => ?_)
    refine c_region ?_
    refine l_step (y_moveV (et (gS rfl g0) rfl)) ?_
    refine l_eff (e_callV cal_341 (aC (et g0 rfl) aN) (yp_isNeg hF h1 (bd_up s1 (by decide)))) (fun v8 w8 h8 => ?_)
    obtain ⟨rfl, u8⟩ := h8
    replace G := G.tr (Go.ofUp hF u8)
    replace hF := hF.up u8
    replace U := U.tr u8
    refine l_step (y_assignV (et g0 rfl)) ?_
    refine l_nil ?_
    refine hK7 _ _ ?_
    refine fg1 4 g0 (fun g => ?_)
    refine c_ret ?_
    refine ret1 rfl (res_tmp (et g0 rfl)) ?_
    exact ⟨by rw [slt_neg, if_pos cB1], U⟩
  · skip
    
    refine c_skip ?_
    refine hK2 _ _ ?_
    refine fg2 1 0 (gS rfl (gS rfl g0)) (gS rfl g0) (fun g => ?_)
    refine c_seq (fun K9 hK9 => ?_)
    refine c_region ?_
    refine l_step (y_moveV (et g0 rfl)) ?_
    refine l_step (y_moveV (et (gS rfl (gS rfl g0)) rfl)) ?_
    refine l_eff (e_callV cal_121 (aC (et (gS rfl g0) rfl) (aC (et g0 rfl) aN)) (nat_cmp hF h1 h2 (bd_sm s1 (by decide)) (bd_sm s2 (by decide)))) (fun v10 w10 h10 => ?_)
    obtain ⟨rfl, u10⟩ := h10
    replace G := G.tr (Go.ofUp hF u10)
    replace hF := hF.up u10
    replace U := U.tr u10
    refine l_step ((y_lss (et g0 rfl) rfl).to (congrArg Value.bool (cmp_lt0 x y))) ?_
    refine l_step (y_assignV (et g0 rfl)) ?_
    refine l_nil ?_
    refine hK9 _ _ ?_
    refine fg1 4 g0 (fun g => ?_)
    refine c_ret ?_
    refine ret1 rfl (res_tmp (et g0 rfl)) ?_
    exact ⟨by rw [slt_neg, if_neg (by rw [cB1]; decide)], U⟩
theorem yp_truth {w : World} {H : Store} (hF : Fz w H) (t : Bool) :
    Ret 344 [.bool t] w (fun v w' => ∃ H', Go No w H w' H' ∧ NV H' v (if t then 1 else 0)) := by
  refine enter (n := 5) Hvaa.func344 rfl rfl (Nat.le_of_ble_eq_true rfl) ?_
  have U := Up.refl w
  have G : Go (No) w H w H := Go.refl hF
  refine c_seq (fun K1 hK1 => ?_)
  refine c_region ?_
  refine l_step y_assignC ?_
  refine l_nil ?_
  refine hK1 _ _ ?_
  refine fg1 0 (gS rfl g0) (fun g => ?_)
  refine c_seq (fun K2 hK2 => ?_)
  refine c_seq (fun K3 hK3 => ?_)
  refine c_region ?_
  refine l_step (y_moveV (et g0 rfl)) ?_
  refine l_nil ?_
  refine hK3 _ _ ?_
  refine fg1 3 g0 (fun g => ?_)
  refine c_cond (et g0 rfl) (fun cB1 => ?_) (fun cB1 => ?_)
  · skip
    
    refine c_seq (fun K5 hK5 => ?_)
    refine c_region ?_
    refine l_eff (e_one (q := 1) hF rfl (by decide)) (fun v6 w6 h6 => ?_)
    obtain ⟨H6, g6, n6⟩ := h6
    have hlew6 := g6.le
    replace U := U.tr g6.up
    replace G := G.tr g6
    replace hF := g6.fz
    replace n6 := BV.one n6 (by decide)
    refine l_step (y_assignV (et g0 rfl)) ?_
    refine l_nil ?_
    refine hK5 _ _ ?_
    refine fg1 2 g0 (fun g => ?_)
    refine c_ret ?_
    refine ret1 rfl (res_tmp (et g0 rfl)) ?_
    subst cB1
    exact ⟨_, G, n6⟩
  · skip
    
    refine c_skip ?_
    refine hK2 _ _ ?_
    refine fg0 (fun g => ?_)
    refine c_seq (fun K7 hK7 => ?_)
    refine c_region ?_
    refine l_step y_assignC ?_
    refine l_nil ?_
    refine hK7 _ _ ?_
    refine c_ret ?_
    refine ret1 rfl (res_tmp (et g0 rfl)) ?_
    subst cB1
    exact ⟨_, G, NV.nil _⟩
theorem byte_dig {l : List Nat} {a : Nat} (hd : Dig 256 l) (ha : a < 32) (h : 31 - a < l.length) : eByte a (val 256 l) = l[31 - a] := by
  unfold eByte
  rw [if_pos ha, val_split h]
  have h1 : val 256 (l.take (31 - a)) < 256 ^ (31 - a) := by have := val_lt (hd.take (31 - a)); rwa [List.length_take, Nat.min_eq_left (Nat.le_of_lt h)] at this
  have h2 := hd _ (List.getElem_mem h)
  rw [Nat.add_mul_div_left _ _ (Nat.pow_pos (by decide)), Nat.div_eq_of_lt h1, Nat.zero_add, Nat.add_mul_mod_self_left, Nat.mod_eq_of_lt h2]
theorem byte_out {l : List Nat} {a : Nat} (hd : Dig 256 l) (h : 32 ≤ a ∨ l.length ≤ 31 - a) : eByte a (val 256 l) = 0 := by
  unfold eByte
  by_cases ha : a < 32
  · rw [if_pos ha]
    rcases h with h | h
    · omega
    · have h1 := val_lt hd
      have h2 : 256 ^ l.length ≤ 256 ^ (31 - a) := Nat.pow_le_pow_right (by decide) h
      rw [Nat.div_eq_of_lt (by omega)]
  · rw [if_neg ha]
theorem yp_pick {w : World} {H : Store} {v1 v2 : Value} {x y : Nat} (hF : Fz w H) (h1 : NV H v1 x) (h2 : NV H v2 y) (s1 : x < 256 ^ 32) (s2 : y < 256 ^ 32) :
    Ret 347 [v1, v2] w (fun v w' => ∃ H', Go No w H w' H' ∧ NV H' v (eByte x y)) := by
  obtain ⟨l, a, c, rfl, hbv, rfl, ht, hl200, hlc, hc63⟩ := h2.len (bd_sm s2 (by decide))
  refine enter (n := 33) Hvaa.func347 rfl rfl (Nat.le_of_ble_eq_true rfl) ?_
  have U := Up.refl w
  have G : Go (No) w H w H := Go.refl hF
  refine c_seq (fun K1 hK1 => ?_)
  refine c_region ?_
  refine l_step y_assignC ?_
  refine l_nil ?_
  refine hK1 _ _ ?_
  refine fg2 1 0 (gS rfl (gS rfl g0)) (gS rfl g0) (fun g => ?_)
  refine c_seq (fun K2 hK2 => ?_)
  refine c_region ?_
  refine l_step (y_moveV (et g0 rfl)) ?_
  refine l_eff (e_callV cal_80 (aC (et g0 rfl) aN) (nat_u64 hF h1 (bd_sm s1 (by decide)))) (fun v3 w3 h3 => ?_)
  obtain ⟨rfl, u3⟩ := h3
  replace G := G.tr (Go.ofUp hF u3)
  replace hF := hF.up u3
  replace U := U.tr u3
  refine l_step (y_moveV (et g0 rfl)) ?_
  refine l_step (y_ext (et g0 rfl) rfl) ?_
  refine l_step (y_ext (et (gS rfl g0) rfl) rfl) ?_
  refine l_step (y_assignV (et (gS rfl g0) rfl)) ?_
  refine l_step (y_assignV (et (gS rfl g0) rfl)) ?_
  refine l_nil ?_
  refine hK2 _ _ ?_
  refine fg3 1 5 6 (gS rfl (gS rfl (gS rfl (gS rfl (gS rfl (gS rfl (gS rfl (gS rfl g0)))))))) (gS rfl g0) g0 (fun g => ?_)
  refine c_seq (fun K4 hK4 => ?_)
  refine c_seq (fun K5 hK5 => ?_)
  refine c_region ?_
  refine l_step (y_moveV (et g0 rfl)) ?_
  refine l_step (y_not (et g0 rfl)) ?_
  refine l_step (y_moveV (et g0 rfl)) ?_
  refine gsplitL (i := 14) g0 (fun q6 => ?_) (fun q6 => ?_)
  · skip
    have c14 : ¬ x < 18446744073709551616 := by simpa using q6
    refine l_gskip (j := 2) (t := 14) (by exact rfl) (by exact rfl) (et g0 rfl) (by decide) (by decide) ?_
    refine l_gskip (j := 2) (t := 14) (by exact rfl) (by exact rfl) (et (gS rfl g0) rfl) (by decide) (by decide) ?_
    refine l_step (y_pickT (et (gS rfl (gS rfl g0)) rfl) rfl) ?_
    refine l_step (y_moveV (et g0 rfl)) ?_
    refine l_gskip (j := 6) (t := 18) (by exact rfl) (by exact rfl) (et g0 rfl) (by decide) (by decide) ?_
    refine l_gskip (j := 6) (t := 18) (by exact rfl) (by exact rfl) (et (gS rfl g0) rfl) (by decide) (by decide) ?_
    refine l_gskip (j := 6) (t := 18) (by exact rfl) (by exact rfl) (et (gS rfl (gS rfl g0)) rfl) (by decide) (by decide) ?_
    refine l_gskip (j := 6) (t := 18) (by exact rfl) (by exact rfl) (et (gS rfl (gS rfl (gS rfl g0))) rfl) (by decide) (by decide) ?_
    refine l_gskip (j := 6) (t := 18) (by exact rfl) (by exact rfl) (et (gS rfl (gS rfl (gS rfl (gS rfl g0)))) rfl) (by decide) (by decide) ?_
    refine l_gskip (j := 6) (t := 18) (by exact rfl) (by exact rfl) (et (gS rfl (gS rfl (gS rfl (gS rfl (gS rfl g0))))) rfl) (by decide) (by decide) ?_
    refine l_step (y_pickT (et (gS rfl (gS rfl (gS rfl (gS rfl (gS rfl (gS rfl g0)))))) rfl) rfl) ?_
    refine l_nil ?_
    refine hK5 _ _ ?_
    refine fg3 1 5 25 (gS rfl (gS rfl (gS rfl (gS rfl (gS rfl (gS rfl (gS rfl (gS rfl (gS rfl (gS rfl (gS rfl (gS rfl (gS rfl (gS rfl (gS rfl (gS rfl (gS rfl g0))))))))))))))))) (gS rfl (gS rfl (gS rfl (gS rfl (gS rfl (gS rfl (gS rfl (gS rfl (gS rfl (gS rfl (gS rfl (gS rfl (gS rfl (gS rfl (gS rfl (gS rfl g0)))))))))))))))) g0 (fun g => ?_)
    refine c_true (et g0 rfl) rfl ?_
    refine c_seq (fun K8 hK8 => ?_)
    refine c_region ?_
    refine l_step y_assignC ?_
    refine l_nil ?_
    refine hK8 _ _ ?_
    refine fg1 4 g0 (fun g => ?_)
    refine c_ret ?_
    refine ret1 rfl (res_tmp (et g0 rfl)) ?_
    exact ⟨_, G, (NV.nil _).to (byte_out hbv.dig (by omega)).symm⟩
  · skip
    have c14 : x < 18446744073709551616 := by simpa using q6
    have el : lo64 x = x := by rw [lo64, if_pos c14]
    rw [el]
    refine l_gstep (j := 2) (t := 14) (by exact rfl) (by exact rfl) (et g0 rfl) (by decide) (y_moveV (et (gS rfl (gS rfl (gS rfl (gS rfl (gS rfl g0))))) rfl)) ?_
    refine l_gstep (j := 2) (t := 14) (by exact rfl) (by exact rfl) (et (gS rfl g0) rfl) (by decide) (y_geq (et g0 rfl) rfl) ?_
    refine l_step (y_pickF (et (gS rfl (gS rfl g0)) rfl) (et g0 rfl)) ?_
    refine l_step (y_moveV (et g0 rfl)) ?_
    refine gsplitL (i := 18) g0 (fun q9 => ?_) (fun q9 => ?_)
    · skip
      have c18 : 32 ≤ x := by have := of_decide_eq_true q9; omega
      refine l_gskip (j := 6) (t := 18) (by exact rfl) (by exact rfl) (et g0 rfl) (by decide) (by decide) ?_
      refine l_gskip (j := 6) (t := 18) (by exact rfl) (by exact rfl) (et (gS rfl g0) rfl) (by decide) (by decide) ?_
      refine l_gskip (j := 6) (t := 18) (by exact rfl) (by exact rfl) (et (gS rfl (gS rfl g0)) rfl) (by decide) (by decide) ?_
      refine l_gskip (j := 6) (t := 18) (by exact rfl) (by exact rfl) (et (gS rfl (gS rfl (gS rfl g0))) rfl) (by decide) (by decide) ?_
      refine l_gskip (j := 6) (t := 18) (by exact rfl) (by exact rfl) (et (gS rfl (gS rfl (gS rfl (gS rfl g0)))) rfl) (by decide) (by decide) ?_
      refine l_gskip (j := 6) (t := 18) (by exact rfl) (by exact rfl) (et (gS rfl (gS rfl (gS rfl (gS rfl (gS rfl g0))))) rfl) (by decide) (by decide) ?_
      refine l_step (y_pickT (et (gS rfl (gS rfl (gS rfl (gS rfl (gS rfl (gS rfl g0)))))) rfl) rfl) ?_
      refine l_nil ?_
      refine hK5 _ _ ?_
      refine fg3 1 5 25 (gS rfl (gS rfl (gS rfl (gS rfl (gS rfl (gS rfl (gS rfl (gS rfl (gS rfl (gS rfl (gS rfl (gS rfl (gS rfl (gS rfl (gS rfl (gS rfl (gS rfl (gS rfl g0)))))))))))))))))) (gS rfl (gS rfl (gS rfl (gS rfl (gS rfl (gS rfl (gS rfl (gS rfl (gS rfl (gS rfl (gS rfl (gS rfl (gS rfl (gS rfl (gS rfl (gS rfl (gS rfl g0))))))))))))))))) g0 (fun g => ?_)
      refine c_true (et g0 rfl) rfl ?_
      refine c_seq (fun K11 hK11 => ?_)
      refine c_region ?_
      refine l_step y_assignC ?_
      refine l_nil ?_
      refine hK11 _ _ ?_
      refine fg1 4 g0 (fun g => ?_)
      refine c_ret ?_
      refine ret1 rfl (res_tmp (et g0 rfl)) ?_
      exact ⟨_, G, (NV.nil _).to (byte_out hbv.dig (by omega)).symm⟩
    · skip
      have c18 : x < 32 := by have := of_decide_eq_false q9; omega
      refine l_gstep (j := 6) (t := 18) (by exact rfl) (by exact rfl) (et g0 rfl) (by decide) (y_moveV (et (gS rfl (gS rfl (gS rfl (gS rfl (gS rfl (gS rfl (gS rfl (gS rfl (gS rfl (gS rfl g0)))))))))) rfl)) ?_
      refine l_gstep (j := 6) (t := 18) (by exact rfl) (by exact rfl) (et (gS rfl g0) rfl) (by decide) (y_conv Hvaa.underlying26 Hvaa.underlying3 (et g0 rfl) (wrapIN ?_)) ?_
      omega
      refine l_gstep (j := 6) (t := 18) (by exact rfl) (by exact rfl) (et (gS rfl (gS rfl g0)) rfl) (by decide) (y_sub rfl (et g0 rfl) (subIN (x := 31) ?_ ?_)) ?_
      omega
      omega
      refine l_gstep (j := 6) (t := 18) (by exact rfl) (by exact rfl) (et (gS rfl (gS rfl (gS rfl g0))) rfl) (by decide) (y_moveV (et (gS rfl (gS rfl (gS rfl (gS rfl (gS rfl (gS rfl (gS rfl (gS rfl (gS rfl (gS rfl (gS rfl (gS rfl (gS rfl (gS rfl g0)))))))))))))) rfl)) ?_
      refine l_gstep (j := 6) (t := 18) (by exact rfl) (by exact rfl) (et (gS rfl (gS rfl (gS rfl (gS rfl g0)))) rfl) (by decide) (y_len Hvaa.underlying95 (et g0 rfl)) ?_
      refine l_gstep (j := 6) (t := 18) (by exact rfl) (by exact rfl) (et (gS rfl (gS rfl (gS rfl (gS rfl (gS rfl g0))))) rfl) (by decide) (y_geq (et (gS rfl (gS rfl g0)) rfl) (et g0 rfl)) ?_
      refine l_step (y_pickF (et (gS rfl (gS rfl (gS rfl (gS rfl (gS rfl (gS rfl g0)))))) rfl) (et g0 rfl)) ?_
      refine l_nil ?_
      refine hK5 _ _ ?_
      refine fg3 1 5 25 (gS rfl (gS rfl (gS rfl (gS rfl (gS rfl (gS rfl (gS rfl (gS rfl (gS rfl (gS rfl (gS rfl (gS rfl (gS rfl (gS rfl (gS rfl (gS rfl (gS rfl (gS rfl g0)))))))))))))))))) (gS rfl (gS rfl (gS rfl (gS rfl (gS rfl (gS rfl (gS rfl (gS rfl (gS rfl (gS rfl (gS rfl (gS rfl (gS rfl (gS rfl (gS rfl (gS rfl (gS rfl g0))))))))))))))))) g0 (fun g => ?_)
      refine c_cond (et g0 rfl) (fun cB1 => ?_) (fun cB1 => ?_)
      · skip
        
        refine c_seq (fun K13 hK13 => ?_)
        refine c_region ?_
        refine l_step y_assignC ?_
        refine l_nil ?_
        refine hK13 _ _ ?_
        refine fg1 4 g0 (fun g => ?_)
        refine c_ret ?_
        refine ret1 rfl (res_tmp (et g0 rfl)) ?_
        exact ⟨_, G, (NV.nil _).to (byte_out hbv.dig (by have := of_decide_eq_true cB1; omega)).symm⟩
      · skip
        
        refine c_skip ?_
        refine hK4 _ _ ?_
        refine fg2 1 5 (gS rfl (gS rfl g0)) (gS rfl g0) (fun g => ?_)
        refine c_seq (fun K14 hK14 => ?_)
        refine c_region ?_
        refine l_step (y_moveV (et (gS rfl g0) rfl)) ?_
        refine l_step (y_moveV (et (gS rfl g0) rfl)) ?_
        refine l_step (y_sub rfl (et g0 rfl) (wrapU_subN (a := 31) uk64 ?_ ?_)) ?_
        omega
        omega
        have hl31 : 31 - x < l.length := by have := of_decide_eq_false cB1; omega
        obtain ⟨ba, oa, ha, hb0, hr⟩ := (show WV _ w3 (.slice a l.length c) l from hbv.wv hF).at (by omega)
        have hd31 := hbv.dig _ (List.getElem_mem (l := l) (n := 31 - x) hl31)
        refine l_step (y_idxSa ha Hvaa.underlying95 sz_5 (et (gS rfl (gS rfl g0)) rfl) (et g0 rfl) ?_) ?_
        omega
        refine l_step (y_load1 one_5 (et g0 rfl) (at1 (row_byte hr (by omega)))) ?_
        refine l_eff (e_one hF (et g0 rfl) hd31) (fun v15 w15 h15 => ?_)
        obtain ⟨H15, g15, bk15⟩ := h15
        have hlew15 := g15.le
        replace h1 := h1.mono hlew15
        replace hbv := hbv.mono hlew15
        replace U := U.tr g15.up
        replace G := G.tr g15
        replace hF := g15.fz
        have wv9 := bk15.wv hF
        refine l_eff (e_callV cal_123 (aC (et g0 rfl) aN) (nat_norm hF wv9 (Nat.le_refl _) (by simp))) (fun v16 w16 h16 => ?_)
        obtain ⟨H16, g16, n16⟩ := h16
        have hlew16 := g16.le
        replace h1 := h1.mono hlew16
        replace hbv := hbv.mono hlew16
        replace bk15 := bk15.mono hlew16
        replace U := U.tr g16.up
        replace G := G.tr g16
        replace hF := g16.fz
        refine l_step (y_assignV (et g0 rfl)) ?_
        refine l_nil ?_
        refine hK14 _ _ ?_
        refine fg1 4 g0 (fun g => ?_)
        refine c_ret ?_
        refine ret1 rfl (res_tmp (et g0 rfl)) ?_
        exact ⟨_, G, n16.to (by rw [byte_dig hbv.dig c18 hl31]; simp [val])⟩
end Go.Proofs.YgvaawGreat
