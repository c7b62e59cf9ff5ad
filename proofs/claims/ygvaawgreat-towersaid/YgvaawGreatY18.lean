import Derived.Test.YgvaawGreatY17
import Derived.Test.YgvaawGreatM2
set_option maxRecDepth 100000
set_option maxHeartbeats 4000000
set_option linter.unusedSimpArgs false
set_option linter.unusedVariables false
namespace Go.Proofs.YgvaawGreat
open Go
theorem len_nbytes {l : List Nat} (hd : Dig 256 l) (ht : Tr l) : l.length = nbytes (val 256 l) := by
  have h1 : val 256 l < 2 ^ (8 * l.length) := by rw [Nat.pow_mul]; exact val_lt hd
  have h2 := bl_le _ _ h1
  unfold nbytes
  rcases List.eq_nil_or_concat l with rfl | ⟨m, d, rfl⟩
  · simp [val]; decide
  · rw [List.concat_eq_append] at *
    have hdn : d ≠ 0 := ht d (by simp)
    have hv := val_snoc 256 m d
    have hge : 2 ^ (8 * m.length) ≤ val 256 (m ++ [d]) := by
      rw [hv, Nat.pow_mul]
      have : 256 ^ m.length * 1 ≤ 256 ^ m.length * d := Nat.mul_le_mul_left _ (by omega)
      have e : (2 ^ 8) ^ m.length = 256 ^ m.length := rfl
      omega
    have hpos : 0 < 2 ^ (8 * m.length) := Nat.pow_pos (by decide)
    have hb := bl_two _ (show val 256 (m ++ [d]) ≠ 0 by omega)
    have h3 : ¬ bitLen (val 256 (m ++ [d])) ≤ 8 * m.length := by
      intro hle
      have hp := bl_pos _ (show val 256 (m ++ [d]) ≠ 0 by omega)
      have := Nat.lt_of_lt_of_le hb.2 (Nat.pow_le_pow_right (by decide) (show bitLen (val 256 (m ++ [d])) - 1 + 1 ≤ 8 * m.length by omega))
      omega
    simp at h2 ⊢
    omega
def expN (e : Nat) : Nat := 10 + 50 * nbytes e
theorem yp_expCost {w : World} {H : Store} {v1 : Value} {x : Nat} (hF : Fz w H) (h1 : NV H v1 x) (s1 : x < 256 ^ 32) :
    Ret 331 [v1] w (fun v w' => ∃ H', Go No w H w' H' ∧ NV H' v (expN x)) := by
  refine enter (n := 12) Hvaa.func331 rfl rfl (Nat.le_of_ble_eq_true rfl) ?_
  have U := Up.refl w
  have G : Go (No) w H w H := Go.refl hF
  refine c_seq (fun K1 hK1 => ?_)
  refine c_region ?_
  refine l_step y_assignC ?_
  refine l_nil ?_
  refine hK1 _ _ ?_
  refine fg1 0 (gS rfl g0) (fun g => ?_)
  refine c_seq (fun K2 hK2 => ?_)
  refine c_region ?_
  refine l_eff (e_callV cal_32 (aC (v := .int .u64 ((10 : Nat) : Int)) rfl aN) (yp_num (x := 10) hF (by decide))) (fun v3 w3 h3 => ?_)
  obtain ⟨H3, g3, n3⟩ := h3
  have hlew3 := g3.le
  replace h1 := h1.mono hlew3
  replace U := U.tr g3.up
  replace G := G.tr g3
  replace hF := g3.fz
  have q3 : 10 < 256 ^ 1 := by decide
  refine l_eff (e_callV cal_32 (aC (v := .int .u64 ((50 : Nat) : Int)) rfl aN) (yp_num (x := 50) hF (by decide))) (fun v4 w4 h4 => ?_)
  obtain ⟨H4, g4, n4⟩ := h4
  have hlew4 := g4.le
  replace h1 := h1.mono hlew4
  replace n3 := n3.mono hlew4
  replace U := U.tr g4.up
  replace G := G.tr g4
  replace hF := g4.fz
  have q4 : 50 < 256 ^ 1 := by decide
  refine l_step (y_moveV (et (gS rfl (gS rfl g0)) rfl)) ?_
  refine l_eff (e_callV cal_123 (aC (et g0 rfl) aN) (nat_normN hF h1 (bd_sm s1 (by decide)))) (fun v5 w5 h5 => ?_)
  obtain ⟨H5, g5, n5⟩ := h5
  have hlew5 := g5.le
  replace h1 := h1.mono hlew5
  replace n3 := n3.mono hlew5
  replace n4 := n4.mono hlew5
  replace U := U.tr g5.up
  replace G := G.tr g5
  replace hF := g5.fz
  have q5 := s1
  obtain ⟨l, hb, hlv, ht⟩ := n5.ex
  obtain ⟨sa, sc, rfl, _⟩ := hb.sv.val
  have hlen : l.length ≤ 32 := tr_len ht (by rw [hlv]; exact s1)
  refine l_step (y_len Hvaa.underlying95 (et g0 rfl)) ?_
  refine l_step (y_conv Hvaa.underlying3 Hvaa.underlying26 (et g0 rfl) (wrapU_id uk64 ?_)) ?_
  omega
  refine l_eff (e_callV cal_32 (aC (et g0 rfl) aN) (yp_num hF (show l.length < 18446744073709551616 by omega))) (fun v6 w6 h6 => ?_)
  obtain ⟨H6, g6, n6⟩ := h6
  have hlew6 := g6.le
  replace h1 := h1.mono hlew6
  replace n3 := n3.mono hlew6
  replace n4 := n4.mono hlew6
  replace n5 := n5.mono hlew6
  replace U := U.tr g6.up
  replace G := G.tr g6
  replace hF := g6.fz
  have q6 := bd_64 (show l.length < 18446744073709551616 by omega)
  refine l_eff (e_callV cal_50 (aC (et (gS rfl (gS rfl (gS rfl (gS rfl (gS rfl g0))))) rfl) (aC (et g0 rfl) aN)) (nat_mul hF n4 n6 (bd_sm q4 (by decide)) (bd_sm q6 (by decide)))) (fun v7 w7 h7 => ?_)
  obtain ⟨H7, g7, n7⟩ := h7
  have hlew7 := g7.le
  replace h1 := h1.mono hlew7
  replace n3 := n3.mono hlew7
  replace n4 := n4.mono hlew7
  replace n5 := n5.mono hlew7
  replace n6 := n6.mono hlew7
  replace U := U.tr g7.up
  replace G := G.tr g7
  replace hF := g7.fz
  have q7 := bd_mul (c := 9) q4 q6 (by decide)
  refine l_eff (e_callV cal_34 (aC (et (gS rfl (gS rfl (gS rfl (gS rfl (gS rfl (gS rfl (gS rfl g0))))))) rfl) (aC (et g0 rfl) aN)) (nat_add hF n3 n7 (bd_sm q3 (by decide)) (bd_sm q7 (by decide)))) (fun v8 w8 h8 => ?_)
  obtain ⟨H8, g8, n8⟩ := h8
  have hlew8 := g8.le
  replace h1 := h1.mono hlew8
  replace n3 := n3.mono hlew8
  replace n4 := n4.mono hlew8
  replace n5 := n5.mono hlew8
  replace n6 := n6.mono hlew8
  replace n7 := n7.mono hlew8
  replace U := U.tr g8.up
  replace G := G.tr g8
  replace hF := g8.fz
  have q8 := bd_add (c := 10) q3 q7 (by decide)
  refine l_step (y_assignV (et g0 rfl)) ?_
  refine l_nil ?_
  refine hK2 _ _ ?_
  refine fg1 2 g0 (fun g => ?_)
  refine c_ret ?_
  refine ret1 rfl (res_tmp (et g0 rfl)) ?_
  exact ⟨_, G, n8.to (by rw [expN, ← hlv, ← len_nbytes hb.dig ht])⟩
def sBase (o v n : Nat) : Nat := if n = v ∨ v ≠ o then 100 else if o = 0 then 20000 else 2900
def sCost (o v n : Nat) (cold : Bool) : Nat := sBase o v n + (if cold then 2100 else 0)
def sP0 (o v n : Nat) : Nat := if o ≠ 0 ∧ v ≠ 0 ∧ n = 0 then 4800 else 0
def sM0 (o v : Nat) : Nat := if o ≠ 0 ∧ v = 0 then 4800 else 0
def sPlus (o v n : Nat) : Nat := if n = v then 0 else if v = o then (if o ≠ 0 ∧ n = 0 then 4800 else 0) else sP0 o v n + (if n = o then (if o = 0 then 19900 else 2800) else 0)
def sMinus (o v n : Nat) : Nat := if n = v ∨ v = o then 0 else sM0 o v
theorem sBase_lt (o v n : Nat) : sBase o v n < 256 ^ 2 := by unfold sBase; split; decide; split <;> decide
theorem sP0_lt (o v n : Nat) : sP0 o v n < 256 ^ 2 := by unfold sP0; split <;> decide
theorem sM0_lt (o v : Nat) : sM0 o v < 256 ^ 2 := by unfold sM0; split <;> decide
theorem sCost_lt (o v n : Nat) (c : Bool) : sCost o v n c < 22101 := by unfold sCost sBase; (repeat' split) <;> omega
theorem sPlus_lt (o v n : Nat) : sPlus o v n < 24701 := by unfold sPlus sP0; (repeat' split) <;> omega
theorem sMinus_lt (o v n : Nat) : sMinus o v n < 4801 := by unfold sMinus sM0; (repeat' split) <;> omega
theorem bd_lt2 {x a b : Nat} (h : x < a) (k : a ≤ b) : x < b := Nat.lt_of_lt_of_le h k
theorem yp_Sstore {w : World} {H : Store} {v1 v2 v3 : Value} {x y z : Nat} (cold : Bool) (hF : Fz w H) (h1 : NV H v1 x) (h2 : NV H v2 y) (h3 : NV H v3 z) (s1 : x < 256 ^ 32) (s2 : y < 256 ^ 32) (s3 : z < 256 ^ 32) :
    Ret 394 [v1, v2, v3, .bool cold] w (fun v w' => ∃ a b c H', v = .tuple #[a, b, c] ∧ Go No w H w' H' ∧ NV H' a (sCost x y z cold) ∧ NV H' b (sPlus x y z) ∧ NV H' c (sMinus x y z)) := by
  refine enter (n := 75) Hvaa.func394 rfl rfl (Nat.le_of_ble_eq_true rfl) ?_
  have U := Up.refl w
  have G : Go (No) w H w H := Go.refl hF
  refine c_seq (fun K1 hK1 => ?_)
  refine c_region ?_
  refine l_step y_assignC ?_
  refine l_step y_assignC ?_
  refine l_step y_assignC ?_
  refine l_nil ?_
  refine hK1 _ _ ?_
  refine fg6 3 2 1 0 9 10 (gS rfl (gS rfl (gS rfl (gS rfl (gS rfl (gS rfl g0)))))) (gS rfl (gS rfl (gS rfl (gS rfl (gS rfl g0))))) (gS rfl (gS rfl (gS rfl (gS rfl g0)))) (gS rfl (gS rfl (gS rfl g0))) (gS rfl g0) g0 (fun g => ?_)
  refine c_seq (fun K2 hK2 => ?_)
  refine c_region ?_
  refine l_step (y_moveV (et (gS rfl (gS rfl (gS rfl (gS rfl g0)))) rfl)) ?_
  refine l_step (y_moveV (et (gS rfl (gS rfl (gS rfl (gS rfl g0)))) rfl)) ?_
  refine l_eff (e_callV cal_121 (aC (et (gS rfl g0) rfl) (aC (et g0 rfl) aN)) (nat_cmp hF h3 h2 (bd_sm s3 (by decide)) (bd_sm s2 (by decide)))) (fun v3 w3 h3 => ?_)
  obtain ⟨rfl, u3⟩ := h3
  replace G := G.tr (Go.ofUp hF u3)
  replace hF := hF.up u3
  replace U := U.tr u3
  refine l_step ((y_eql (et g0 rfl) rfl).to (congrArg Value.bool (cmp_eq0 z y))) ?_
  refine l_step (y_assignV (et g0 rfl)) ?_
  refine l_nil ?_
  refine hK2 _ _ ?_
  refine fg7 3 2 1 0 9 10 11 (gS rfl (gS rfl (gS rfl (gS rfl (gS rfl (gS rfl (gS rfl (gS rfl (gS rfl (gS rfl g0)))))))))) (gS rfl (gS rfl (gS rfl (gS rfl (gS rfl (gS rfl (gS rfl (gS rfl (gS rfl g0))))))))) (gS rfl (gS rfl (gS rfl (gS rfl (gS rfl (gS rfl (gS rfl (gS rfl g0)))))))) (gS rfl (gS rfl (gS rfl (gS rfl (gS rfl (gS rfl (gS rfl g0))))))) (gS rfl (gS rfl (gS rfl (gS rfl (gS rfl (gS rfl g0)))))) (gS rfl (gS rfl (gS rfl (gS rfl (gS rfl g0))))) g0 (fun g => ?_)
  refine c_seq (fun K4 hK4 => ?_)
  refine c_region ?_
  refine l_step (y_moveV (et (gS rfl (gS rfl (gS rfl (gS rfl g0)))) rfl)) ?_
  refine l_step (y_moveV (et (gS rfl (gS rfl (gS rfl (gS rfl g0)))) rfl)) ?_
  refine l_eff (e_callV cal_121 (aC (et (gS rfl g0) rfl) (aC (et g0 rfl) aN)) (nat_cmp hF h2 h1 (bd_sm s2 (by decide)) (bd_sm s1 (by decide)))) (fun v5 w5 h5 => ?_)
  obtain ⟨rfl, u5⟩ := h5
  replace G := G.tr (Go.ofUp hF u5)
  replace hF := hF.up u5
  replace U := U.tr u5
  refine l_step ((y_eql (et g0 rfl) rfl).to (congrArg Value.bool (cmp_eq0 y x))) ?_
  refine l_step (y_assignV (et g0 rfl)) ?_
  refine l_nil ?_
  refine hK4 _ _ ?_
  refine fg8 3 2 1 0 9 10 11 12 (gS rfl (gS rfl (gS rfl (gS rfl (gS rfl (gS rfl (gS rfl (gS rfl (gS rfl (gS rfl (gS rfl g0))))))))))) (gS rfl (gS rfl (gS rfl (gS rfl (gS rfl (gS rfl (gS rfl (gS rfl (gS rfl (gS rfl g0)))))))))) (gS rfl (gS rfl (gS rfl (gS rfl (gS rfl (gS rfl (gS rfl (gS rfl (gS rfl g0))))))))) (gS rfl (gS rfl (gS rfl (gS rfl (gS rfl (gS rfl (gS rfl (gS rfl g0)))))))) (gS rfl (gS rfl (gS rfl (gS rfl (gS rfl (gS rfl (gS rfl g0))))))) (gS rfl (gS rfl (gS rfl (gS rfl (gS rfl (gS rfl g0)))))) (gS rfl (gS rfl (gS rfl (gS rfl (gS rfl g0))))) g0 (fun g => ?_)
  refine c_seq (fun K6 hK6 => ?_)
  have hJ6 : ∀ (s_ : Nat → Value) (W6 : World), (∃ (g : Nat → Value) (Hk6 : Store) (vc : Value), s_ = (upd (upd (upd (upd (upd (upd (upd (upd (upd g 0 v1) 1 v2) 2 v3) 3 (.bool cold)) 8 vc) 9 (.slice none 0 0)) 10 (.slice none 0 0)) 11 (.bool (decide (z = y)))) 12 (.bool (decide (y = x)))) ∧ (NV Hk6 vc (sBase x y z)) ∧ Go (fun k => False) w5 H W6 Hk6) → K6 (mk 75 s_) W6 := by
    intro s_ W6 hI
    obtain ⟨g, Hk6, vc, rfl, hc, V6⟩ := hI
    have hle6 := V6.le
    replace h1 := h1.mono hle6
    replace h2 := h2.mono hle6
    replace h3 := h3.mono hle6
    replace G := G.trans V6 (by intro b hb; first | exact hb.elim | omega | (simp at hb ⊢; omega))
    replace hF := V6.fz
    replace U := U.cc V6.ch (by intro b hb; first | exact hb.elim | omega | (simp at hb ⊢; omega))
    refine hK6 _ _ ?_
    refine c_seq (fun K7 hK7 => ?_)
    have hJ7 : ∀ (s_ : Nat → Value) (W7 : World), (∃ (g : Nat → Value) (Hk7 : Store) (vd : Value), s_ = (upd (upd (upd (upd (upd (upd (upd (upd g 0 v1) 1 v2) 2 v3) 8 vd) 9 (.slice none 0 0)) 10 (.slice none 0 0)) 11 (.bool (decide (z = y)))) 12 (.bool (decide (y = x)))) ∧ (NV Hk7 vd (sCost x y z cold)) ∧ Go (fun k => False) W6 Hk6 W7 Hk7) → K7 (mk 75 s_) W7 := by
      intro s_ W7 hI
      obtain ⟨g, Hk7, vd, rfl, hd, V7⟩ := hI
      have hle7 := V7.le
      replace h1 := h1.mono hle7
      replace h2 := h2.mono hle7
      replace h3 := h3.mono hle7
      replace hc := hc.mono hle7
      replace G := G.trans V7 (by intro b hb; first | exact hb.elim | omega | (simp at hb ⊢; omega))
      replace hF := V7.fz
      replace U := U.cc V7.ch (by intro b hb; first | exact hb.elim | omega | (simp at hb ⊢; omega))
      refine hK7 _ _ ?_
      refine c_seq (fun K8 hK8 => ?_)
      refine c_seq (fun K9 hK9 => ?_)
      refine c_region ?_
      refine l_step (y_moveV (et (gS rfl g0) rfl)) ?_
      refine l_nil ?_
      refine hK9 _ _ ?_
      refine fg8 0 1 2 8 9 10 12 38 (gS rfl (gS rfl (gS rfl (gS rfl (gS rfl (gS rfl (gS rfl (gS rfl g0)))))))) (gS rfl (gS rfl (gS rfl (gS rfl (gS rfl (gS rfl (gS rfl g0))))))) (gS rfl (gS rfl (gS rfl (gS rfl (gS rfl (gS rfl g0)))))) (gS rfl (gS rfl (gS rfl (gS rfl (gS rfl g0))))) (gS rfl (gS rfl (gS rfl (gS rfl g0)))) (gS rfl (gS rfl (gS rfl g0))) (gS rfl g0) g0 (fun g => ?_)
      refine c_cond (et g0 rfl) (fun cB4 => ?_) (fun cB4 => ?_)
      · skip
        
        have h4c : z = y := by simpa using cB4
        refine c_seq (fun K11 hK11 => ?_)
        refine c_region ?_
        refine l_step (y_moveV (et (gS rfl (gS rfl (gS rfl (gS rfl g0)))) rfl)) ?_
        refine l_step (y_assignV (et g0 rfl)) ?_
        refine l_step y_assignC ?_
        refine l_step y_assignC ?_
        refine l_nil ?_
        refine hK11 _ _ ?_
        refine fg3 8 9 10 (gS rfl (gS rfl g0)) (gS rfl g0) g0 (fun g => ?_)
        refine c_ret ?_
        refine ret3 rfl (res_tmp (et (gS rfl (gS rfl g0)) rfl)) (res_tmp (et (gS rfl g0) rfl)) (res_tmp (et g0 rfl)) ?_
        exact ⟨_, _, _, _, rfl, G, hd, (NV.nil _).to (by rw [sPlus, if_pos h4c]), (NV.nil _).to (by rw [sMinus, if_pos (.inl h4c)])⟩
      · skip
        
        have h4c : ¬ z = y := by simpa using cB4
        refine c_skip ?_
        refine hK8 _ _ ?_
        refine fg7 0 1 2 8 9 10 12 (gS rfl (gS rfl (gS rfl (gS rfl (gS rfl (gS rfl (gS rfl g0))))))) (gS rfl (gS rfl (gS rfl (gS rfl (gS rfl (gS rfl g0)))))) (gS rfl (gS rfl (gS rfl (gS rfl (gS rfl g0))))) (gS rfl (gS rfl (gS rfl (gS rfl g0)))) (gS rfl (gS rfl (gS rfl g0))) (gS rfl (gS rfl g0)) (gS rfl g0) (fun g => ?_)
        refine c_seq (fun K12 hK12 => ?_)
        refine c_seq (fun K13 hK13 => ?_)
        refine c_region ?_
        refine l_step (y_moveV (et g0 rfl)) ?_
        refine l_nil ?_
        refine hK13 _ _ ?_
        refine fg7 0 1 2 8 9 10 40 (gS rfl (gS rfl (gS rfl (gS rfl (gS rfl (gS rfl (gS rfl g0))))))) (gS rfl (gS rfl (gS rfl (gS rfl (gS rfl (gS rfl g0)))))) (gS rfl (gS rfl (gS rfl (gS rfl (gS rfl g0))))) (gS rfl (gS rfl (gS rfl (gS rfl g0)))) (gS rfl (gS rfl (gS rfl g0))) (gS rfl (gS rfl g0)) g0 (fun g => ?_)
        refine c_cond (et g0 rfl) (fun cB5 => ?_) (fun cB5 => ?_)
        · skip
          
          have h5c : y = x := by simpa using cB5
          refine c_seq (fun K15 hK15 => ?_)
          refine c_seq (fun K16 hK16 => ?_)
          refine c_region ?_
          refine l_step (y_moveV (et (gS rfl (gS rfl (gS rfl (gS rfl (gS rfl (gS rfl g0)))))) rfl)) ?_
          refine l_eff (e_callV cal_79 (aC (et g0 rfl) aN) (yp_isZero hF h1 (bd_sm s1 (by decide)))) (fun v17 w17 h17 => ?_)
          obtain ⟨rfl, u17⟩ := h17
          replace G := G.tr (Go.ofUp hF u17)
          replace hF := hF.up u17
          replace U := U.tr u17
          refine l_step (y_not (et g0 rfl)) ?_
          refine l_step (y_moveV (et g0 rfl)) ?_
          refine gsplitL (i := 44) g0 (fun q18 => ?_) (fun q18 => ?_)
          · skip
            have h44 : ¬ x = 0 := by simpa using q18
            refine l_gstep (j := 3) (t := 44) (by exact rfl) (by exact rfl) (et g0 rfl) (by decide) (y_moveV (et (gS rfl (gS rfl (gS rfl (gS rfl (gS rfl (gS rfl (gS rfl (gS rfl (gS rfl g0))))))))) rfl)) ?_
            refine l_geff (j := 3) (t := 44) (by exact rfl) (by exact rfl) (et (gS rfl g0) rfl) rfl (e_callV cal_79 (aC (et g0 rfl) aN) (yp_isZero hF h3 (bd_sm s3 (by decide)))) (fun v19 w19 h19 => ?_)
            obtain ⟨rfl, u19⟩ := h19
            replace G := G.tr (Go.ofUp hF u19)
            replace hF := hF.up u19
            replace U := U.tr u19
            refine l_step (y_pickT (et (gS rfl (gS rfl g0)) rfl) (et g0 rfl)) ?_
            refine l_nil ?_
            refine hK16 _ _ ?_
            refine fg3 8 9 47 (gS rfl (gS rfl (gS rfl (gS rfl (gS rfl (gS rfl (gS rfl (gS rfl (gS rfl (gS rfl (gS rfl g0))))))))))) (gS rfl (gS rfl (gS rfl (gS rfl (gS rfl (gS rfl (gS rfl (gS rfl (gS rfl (gS rfl g0)))))))))) g0 (fun g => ?_)
            refine c_cond (et g0 rfl) (fun cB6 => ?_) (fun cB6 => ?_)
            · skip
              
              have h6c : x ≠ 0 ∧ z = 0 := ⟨h44, by simpa using cB6⟩
              refine c_region ?_
              refine l_eff (e_callV cal_32 (aC (v := .int .u64 ((4800 : Nat) : Int)) rfl aN) (yp_num (x := 4800) hF (by decide))) (fun v21 w21 h21 => ?_)
              obtain ⟨H21, g21, n21⟩ := h21
              have hlew21 := g21.le
              replace h1 := h1.mono hlew21
              replace h2 := h2.mono hlew21
              replace h3 := h3.mono hlew21
              replace hc := hc.mono hlew21
              replace hd := hd.mono hlew21
              replace U := U.tr g21.up
              replace G := G.tr g21
              replace hF := g21.fz
              have q21 : 4800 < 256 ^ 2 := by decide
              refine l_step (y_assignV (et g0 rfl)) ?_
              refine l_nil ?_
              refine hK15 _ _ ?_
              refine fg2 8 9 (gS rfl (gS rfl (gS rfl (gS rfl g0)))) g0 (fun g => ?_)
              refine c_seq (fun K22 hK22 => ?_)
              refine c_region ?_
              refine l_step (y_moveV (et (gS rfl g0) rfl)) ?_
              refine l_step (y_moveV (et (gS rfl g0) rfl)) ?_
              refine l_step (y_assignV (et (gS rfl g0) rfl)) ?_
              refine l_step (y_assignV (et (gS rfl g0) rfl)) ?_
              refine l_step y_assignC ?_
              refine l_nil ?_
              refine hK22 _ _ ?_
              refine fg3 8 9 10 (gS rfl (gS rfl g0)) (gS rfl g0) g0 (fun g => ?_)
              refine c_ret ?_
              refine ret3 rfl (res_tmp (et (gS rfl (gS rfl g0)) rfl)) (res_tmp (et (gS rfl g0) rfl)) (res_tmp (et g0 rfl)) ?_
              exact ⟨_, _, _, _, rfl, G, hd, n21.to (by rw [sPlus, if_neg h4c, if_pos h5c, if_pos h6c]), (NV.nil _).to (by rw [sMinus, if_pos (.inr h5c)])⟩
            · skip
              
              have hz6 : z ≠ 0 := by simpa using cB6
              have h6c : ¬ (x ≠ 0 ∧ z = 0) := by omega
              refine c_skip ?_
              refine hK15 _ _ ?_
              refine fg2 8 9 (gS rfl (gS rfl g0)) (gS rfl g0) (fun g => ?_)
              refine c_seq (fun K23 hK23 => ?_)
              refine c_region ?_
              refine l_step (y_moveV (et (gS rfl g0) rfl)) ?_
              refine l_step (y_moveV (et (gS rfl g0) rfl)) ?_
              refine l_step (y_assignV (et (gS rfl g0) rfl)) ?_
              refine l_step (y_assignV (et (gS rfl g0) rfl)) ?_
              refine l_step y_assignC ?_
              refine l_nil ?_
              refine hK23 _ _ ?_
              refine fg3 8 9 10 (gS rfl (gS rfl g0)) (gS rfl g0) g0 (fun g => ?_)
              refine c_ret ?_
              refine ret3 rfl (res_tmp (et (gS rfl (gS rfl g0)) rfl)) (res_tmp (et (gS rfl g0) rfl)) (res_tmp (et g0 rfl)) ?_
              exact ⟨_, _, _, _, rfl, G, hd, (NV.nil _).to (by rw [sPlus, if_neg h4c, if_pos h5c, if_neg h6c]), (NV.nil _).to (by rw [sMinus, if_pos (.inr h5c)])⟩
          · skip
            have h44 : x = 0 := by simpa using q18
            have h6c : ¬ (x ≠ 0 ∧ z = 0) := by omega
            refine l_gskip (j := 3) (t := 44) (by exact rfl) (by exact rfl) (et g0 rfl) (by decide) (by decide) ?_
            refine l_gskip (j := 3) (t := 44) (by exact rfl) (by exact rfl) (et (gS rfl g0) rfl) (by decide) (by decide) ?_
            refine l_step (y_pickF (et (gS rfl (gS rfl g0)) rfl) rfl) ?_
            refine l_nil ?_
            refine hK16 _ _ ?_
            refine fg3 8 9 47 (gS rfl (gS rfl (gS rfl (gS rfl (gS rfl (gS rfl (gS rfl (gS rfl (gS rfl (gS rfl (gS rfl g0))))))))))) (gS rfl (gS rfl (gS rfl (gS rfl (gS rfl (gS rfl (gS rfl (gS rfl (gS rfl (gS rfl g0)))))))))) g0 (fun g => ?_)
            refine c_false (et g0 rfl) rfl ?_
            refine c_skip ?_
            refine hK15 _ _ ?_
            refine fg2 8 9 (gS rfl (gS rfl g0)) (gS rfl g0) (fun g => ?_)
            refine c_seq (fun K25 hK25 => ?_)
            refine c_region ?_
            refine l_step (y_moveV (et (gS rfl g0) rfl)) ?_
            refine l_step (y_moveV (et (gS rfl g0) rfl)) ?_
            refine l_step (y_assignV (et (gS rfl g0) rfl)) ?_
            refine l_step (y_assignV (et (gS rfl g0) rfl)) ?_
            refine l_step y_assignC ?_
            refine l_nil ?_
            refine hK25 _ _ ?_
            refine fg3 8 9 10 (gS rfl (gS rfl g0)) (gS rfl g0) g0 (fun g => ?_)
            refine c_ret ?_
            refine ret3 rfl (res_tmp (et (gS rfl (gS rfl g0)) rfl)) (res_tmp (et (gS rfl g0) rfl)) (res_tmp (et g0 rfl)) ?_
            exact ⟨_, _, _, _, rfl, G, hd, (NV.nil _).to (by rw [sPlus, if_neg h4c, if_pos h5c, if_neg h6c]), (NV.nil _).to (by rw [sMinus, if_pos (.inr h5c)])⟩
        · skip
          
          have h5c : ¬ y = x := by simpa using cB5
          refine c_skip ?_
          refine hK12 _ _ ?_
          refine fg6 0 1 2 8 9 10 (gS rfl (gS rfl (gS rfl (gS rfl (gS rfl (gS rfl g0)))))) (gS rfl (gS rfl (gS rfl (gS rfl (gS rfl g0))))) (gS rfl (gS rfl (gS rfl (gS rfl g0)))) (gS rfl (gS rfl (gS rfl g0))) (gS rfl (gS rfl g0)) (gS rfl g0) (fun g => ?_)
          refine c_seq (fun K26 hK26 => ?_)
          have hJ26 : ∀ (s_ : Nat → Value) (W26 : World), (∃ (g : Nat → Value) (Hk26 : Store) (vp vm : Value), s_ = (upd (upd (upd (upd (upd g 0 v1) 2 v3) 8 vd) 9 vp) 10 vm) ∧ (NV Hk26 vp (sP0 x y z)) ∧ (NV Hk26 vm (sM0 x y)) ∧ Go (fun k => False) W7 Hk7 W26 Hk26) → K26 (mk 75 s_) W26 := by
            intro s_ W26 hI
            obtain ⟨g, Hk26, vp, vm, rfl, hp, hm, V26⟩ := hI
            have hle26 := V26.le
            replace h1 := h1.mono hle26
            replace h2 := h2.mono hle26
            replace h3 := h3.mono hle26
            replace hc := hc.mono hle26
            replace hd := hd.mono hle26
            replace G := G.trans V26 (by intro b hb; first | exact hb.elim | omega | (simp at hb ⊢; omega))
            replace hF := V26.fz
            replace U := U.cc V26.ch (by intro b hb; first | exact hb.elim | omega | (simp at hb ⊢; omega))
            refine hK26 _ _ ?_
            refine c_seq (fun K27 hK27 => ?_)
            have hJ27 : ∀ (s_ : Nat → Value) (W27 : World), (∃ (g : Nat → Value) (Hk27 : Store) (vq : Value), s_ = (upd (upd (upd g 8 vd) 9 vq) 10 vm) ∧ (NV Hk27 vq (sPlus x y z)) ∧ Go (fun k => False) W26 Hk26 W27 Hk27) → K27 (mk 75 s_) W27 := by
              intro s_ W27 hI
              obtain ⟨g, Hk27, vq, rfl, hq, V27⟩ := hI
              have hle27 := V27.le
              replace h1 := h1.mono hle27
              replace h2 := h2.mono hle27
              replace h3 := h3.mono hle27
              replace hc := hc.mono hle27
              replace hd := hd.mono hle27
              replace hp := hp.mono hle27
              replace hm := hm.mono hle27
              replace G := G.trans V27 (by intro b hb; first | exact hb.elim | omega | (simp at hb ⊢; omega))
              replace hF := V27.fz
              replace U := U.cc V27.ch (by intro b hb; first | exact hb.elim | omega | (simp at hb ⊢; omega))
              refine hK27 _ _ ?_
              refine c_seq (fun K28 hK28 => ?_)
              refine c_region ?_
              refine l_step (y_moveV (et (gS rfl (gS rfl g0)) rfl)) ?_
              refine l_step (y_moveV (et (gS rfl (gS rfl g0)) rfl)) ?_
              refine l_step (y_moveV (et (gS rfl (gS rfl g0)) rfl)) ?_
              refine l_step (y_assignV (et (gS rfl (gS rfl g0)) rfl)) ?_
              refine l_step (y_assignV (et (gS rfl (gS rfl g0)) rfl)) ?_
              refine l_step (y_assignV (et (gS rfl (gS rfl g0)) rfl)) ?_
              refine l_nil ?_
              refine hK28 _ _ ?_
              refine fg3 8 9 10 (gS rfl (gS rfl g0)) (gS rfl g0) g0 (fun g => ?_)
              refine c_ret ?_
              refine ret3 rfl (res_tmp (et (gS rfl (gS rfl g0)) rfl)) (res_tmp (et (gS rfl g0) rfl)) (res_tmp (et g0 rfl)) ?_
              exact ⟨_, _, _, _, rfl, G, hd, hq, hm.to (by rw [sMinus, if_neg (by omega)])⟩
            have V27 : Go (fun k => False) W26 Hk26 W26 Hk26 := Go.refl hF
            refine c_seq (fun K29 hK29 => ?_)
            refine c_region ?_
            refine l_step (y_moveV (et (gS rfl (gS rfl (gS rfl g0))) rfl)) ?_
            refine l_step (y_moveV (et (gS rfl (gS rfl (gS rfl (gS rfl (gS rfl g0))))) rfl)) ?_
            refine l_eff (e_callV cal_121 (aC (et (gS rfl g0) rfl) (aC (et g0 rfl) aN)) (nat_cmp hF h3 h1 (bd_sm s3 (by decide)) (bd_sm s1 (by decide)))) (fun v30 w30 h30 => ?_)
            obtain ⟨rfl, u30⟩ := h30
            replace G := G.tr (Go.ofUp hF u30)
            replace V27 := V27.tr (Go.ofUp hF u30)
            replace hF := hF.up u30
            replace U := U.tr u30
            refine l_step ((y_eql (et g0 rfl) rfl).to (congrArg Value.bool (cmp_eq0 z x))) ?_
            refine l_nil ?_
            refine hK29 _ _ ?_
            refine fg5 0 8 9 10 63 (gS rfl (gS rfl (gS rfl (gS rfl (gS rfl (gS rfl (gS rfl (gS rfl g0)))))))) (gS rfl (gS rfl (gS rfl (gS rfl (gS rfl (gS rfl g0)))))) (gS rfl (gS rfl (gS rfl (gS rfl (gS rfl g0))))) (gS rfl (gS rfl (gS rfl (gS rfl g0)))) g0 (fun g => ?_)
            refine c_cond (et g0 rfl) (fun cB10 => ?_) (fun cB10 => ?_)
            · skip
              
              have h10c : z = x := by simpa using cB10
              refine c_seq (fun K32 hK32 => ?_)
              refine c_region ?_
              refine l_eff (e_callV cal_32 (aC (v := .int .u64 ((19900 : Nat) : Int)) rfl aN) (yp_num (x := 19900) hF (by decide))) (fun v33 w33 h33 => ?_)
              obtain ⟨H33, g33, n33⟩ := h33
              have hlew33 := g33.le
              replace h1 := h1.mono hlew33
              replace h2 := h2.mono hlew33
              replace h3 := h3.mono hlew33
              replace hc := hc.mono hlew33
              replace hd := hd.mono hlew33
              replace hp := hp.mono hlew33
              replace hm := hm.mono hlew33
              replace U := U.tr g33.up
              replace G := G.tr g33
              replace V27 := V27.tr g33
              replace hF := g33.fz
              have q33 : 19900 < 256 ^ 2 := by decide
              refine l_step (y_assignV (et g0 rfl)) ?_
              refine l_nil ?_
              refine hK32 _ _ ?_
              refine fg5 0 8 9 10 13 (gS rfl (gS rfl (gS rfl (gS rfl (gS rfl (gS rfl g0)))))) (gS rfl (gS rfl (gS rfl (gS rfl (gS rfl g0))))) (gS rfl (gS rfl (gS rfl (gS rfl g0)))) (gS rfl (gS rfl (gS rfl g0))) g0 (fun g => ?_)
              refine c_seq (fun K34 hK34 => ?_)
              refine c_seq (fun K35 hK35 => ?_)
              refine c_region ?_
              refine l_step (y_moveV (et (gS rfl (gS rfl (gS rfl (gS rfl g0)))) rfl)) ?_
              refine l_eff (e_callV cal_79 (aC (et g0 rfl) aN) (yp_isZero hF h1 (bd_sm s1 (by decide)))) (fun v36 w36 h36 => ?_)
              obtain ⟨rfl, u36⟩ := h36
              replace G := G.tr (Go.ofUp hF u36)
              replace V27 := V27.tr (Go.ofUp hF u36)
              replace hF := hF.up u36
              replace U := U.tr u36
              refine l_step (y_not (et g0 rfl)) ?_
              refine l_nil ?_
              refine hK35 _ _ ?_
              refine fg5 8 9 10 13 67 (gS rfl (gS rfl (gS rfl (gS rfl (gS rfl (gS rfl g0)))))) (gS rfl (gS rfl (gS rfl (gS rfl (gS rfl g0))))) (gS rfl (gS rfl (gS rfl (gS rfl g0)))) (gS rfl (gS rfl (gS rfl g0))) g0 (fun g => ?_)
              refine c_cond (et g0 rfl) (fun cB11 => ?_) (fun cB11 => ?_)
              · skip
                
                have h11c : ¬ x = 0 := by simpa using cB11
                refine c_region ?_
                refine l_eff (e_callV cal_32 (aC (v := .int .u64 ((2800 : Nat) : Int)) rfl aN) (yp_num (x := 2800) hF (by decide))) (fun v38 w38 h38 => ?_)
                obtain ⟨H38, g38, n38⟩ := h38
                have hlew38 := g38.le
                replace h1 := h1.mono hlew38
                replace h2 := h2.mono hlew38
                replace h3 := h3.mono hlew38
                replace hc := hc.mono hlew38
                replace hd := hd.mono hlew38
                replace hp := hp.mono hlew38
                replace hm := hm.mono hlew38
                replace n33 := n33.mono hlew38
                replace U := U.tr g38.up
                replace G := G.tr g38
                replace V27 := V27.tr g38
                replace hF := g38.fz
                have q38 : 2800 < 256 ^ 2 := by decide
                refine l_step (y_assignV (et g0 rfl)) ?_
                refine l_nil ?_
                refine hK34 _ _ ?_
                refine fg4 8 9 10 13 (gS rfl (gS rfl (gS rfl (gS rfl (gS rfl (gS rfl g0)))))) (gS rfl (gS rfl (gS rfl (gS rfl (gS rfl g0))))) (gS rfl (gS rfl (gS rfl (gS rfl g0)))) g0 (fun g => ?_)
                refine c_region ?_
                refine l_step (y_moveV (et (gS rfl (gS rfl g0)) rfl)) ?_
                refine l_step (y_moveV (et (gS rfl g0) rfl)) ?_
                refine l_eff (e_callV cal_34 (aC (et (gS rfl g0) rfl) (aC (et g0 rfl) aN)) (nat_add hF hp n38 (bd_sm (sP0_lt x y z) (by decide)) (bd_sm q38 (by decide)))) (fun v39 w39 h39 => ?_)
                obtain ⟨H39, g39, n39⟩ := h39
                have hlew39 := g39.le
                replace h1 := h1.mono hlew39
                replace h2 := h2.mono hlew39
                replace h3 := h3.mono hlew39
                replace hc := hc.mono hlew39
                replace hd := hd.mono hlew39
                replace hp := hp.mono hlew39
                replace hm := hm.mono hlew39
                replace n33 := n33.mono hlew39
                replace n38 := n38.mono hlew39
                replace U := U.tr g39.up
                replace G := G.tr g39
                replace V27 := V27.tr g39
                replace hF := g39.fz
                have q39 := bd_add (c := 3) (sP0_lt x y z) q38 (by decide)
                refine l_step (y_assignV (et g0 rfl)) ?_
                refine l_nil ?_
                refine fK3 8 9 10 (gS rfl (gS rfl (gS rfl (gS rfl (gS rfl (gS rfl (gS rfl g0))))))) g0 (gS rfl (gS rfl (gS rfl (gS rfl (gS rfl g0))))) (fun g => ?_)
                exact hJ27 _ _ ⟨g, _, _, rfl, n39.to (by rw [sPlus, if_neg h4c, if_neg h5c, if_pos h10c, if_neg h11c]), V27⟩
              · skip
                
                have h11c : x = 0 := by simpa using cB11
                refine c_skip ?_
                refine hK34 _ _ ?_
                refine fg4 8 9 10 13 (gS rfl (gS rfl (gS rfl (gS rfl g0)))) (gS rfl (gS rfl (gS rfl g0))) (gS rfl (gS rfl g0)) (gS rfl g0) (fun g => ?_)
                refine c_region ?_
                refine l_step (y_moveV (et (gS rfl (gS rfl g0)) rfl)) ?_
                refine l_step (y_moveV (et (gS rfl g0) rfl)) ?_
                refine l_eff (e_callV cal_34 (aC (et (gS rfl g0) rfl) (aC (et g0 rfl) aN)) (nat_add hF hp n33 (bd_sm (sP0_lt x y z) (by decide)) (bd_sm q33 (by decide)))) (fun v40 w40 h40 => ?_)
                obtain ⟨H40, g40, n40⟩ := h40
                have hlew40 := g40.le
                replace h1 := h1.mono hlew40
                replace h2 := h2.mono hlew40
                replace h3 := h3.mono hlew40
                replace hc := hc.mono hlew40
                replace hd := hd.mono hlew40
                replace hp := hp.mono hlew40
                replace hm := hm.mono hlew40
                replace n33 := n33.mono hlew40
                replace U := U.tr g40.up
                replace G := G.tr g40
                replace V27 := V27.tr g40
                replace hF := g40.fz
                have q40 := bd_add (c := 3) (sP0_lt x y z) q33 (by decide)
                refine l_step (y_assignV (et g0 rfl)) ?_
                refine l_nil ?_
                refine fK3 8 9 10 (gS rfl (gS rfl (gS rfl (gS rfl (gS rfl (gS rfl (gS rfl g0))))))) g0 (gS rfl (gS rfl (gS rfl (gS rfl (gS rfl g0))))) (fun g => ?_)
                exact hJ27 _ _ ⟨g, _, _, rfl, n40.to (by rw [sPlus, if_neg h4c, if_neg h5c, if_pos h10c, if_pos h11c]), V27⟩
            · skip
              
              have h10c : ¬ z = x := by simpa using cB10
              refine c_skip ?_
              refine fK3 8 9 10 (gS rfl (gS rfl (gS rfl g0))) (gS rfl (gS rfl g0)) (gS rfl g0) (fun g => ?_)
              exact hJ27 _ _ ⟨g, _, _, rfl, hp.to (by rw [sPlus, if_neg h4c, if_neg h5c, if_neg h10c, Nat.add_zero]), V27⟩
          have V26 : Go (fun k => False) W7 Hk7 W7 Hk7 := Go.refl hF
          refine c_seq (fun K41 hK41 => ?_)
          refine c_region ?_
          refine l_step (y_moveV (et (gS rfl (gS rfl (gS rfl (gS rfl (gS rfl g0))))) rfl)) ?_
          refine l_eff (e_callV cal_79 (aC (et g0 rfl) aN) (yp_isZero hF h1 (bd_sm s1 (by decide)))) (fun v42 w42 h42 => ?_)
          obtain ⟨rfl, u42⟩ := h42
          replace G := G.tr (Go.ofUp hF u42)
          replace V26 := V26.tr (Go.ofUp hF u42)
          replace hF := hF.up u42
          replace U := U.tr u42
          refine l_step (y_not (et g0 rfl)) ?_
          refine l_nil ?_
          refine hK41 _ _ ?_
          refine fg7 0 1 2 8 9 10 53 (gS rfl (gS rfl (gS rfl (gS rfl (gS rfl (gS rfl (gS rfl (gS rfl g0)))))))) (gS rfl (gS rfl (gS rfl (gS rfl (gS rfl (gS rfl (gS rfl g0))))))) (gS rfl (gS rfl (gS rfl (gS rfl (gS rfl (gS rfl g0)))))) (gS rfl (gS rfl (gS rfl (gS rfl (gS rfl g0))))) (gS rfl (gS rfl (gS rfl (gS rfl g0)))) (gS rfl (gS rfl (gS rfl g0))) g0 (fun g => ?_)
          refine c_cond (et g0 rfl) (fun cB7 => ?_) (fun cB7 => ?_)
          · skip
            
            have h7c : x ≠ 0 := by simpa using cB7
            refine c_seq (fun K44 hK44 => ?_)
            refine c_region ?_
            refine l_step (y_moveV (et (gS rfl (gS rfl (gS rfl (gS rfl (gS rfl g0))))) rfl)) ?_
            refine l_eff (e_callV cal_79 (aC (et g0 rfl) aN) (yp_isZero hF h2 (bd_sm s2 (by decide)))) (fun v45 w45 h45 => ?_)
            obtain ⟨rfl, u45⟩ := h45
            replace G := G.tr (Go.ofUp hF u45)
            replace V26 := V26.tr (Go.ofUp hF u45)
            replace hF := hF.up u45
            replace U := U.tr u45
            refine l_nil ?_
            refine hK44 _ _ ?_
            refine fg6 0 2 8 9 10 55 (gS rfl (gS rfl (gS rfl (gS rfl (gS rfl (gS rfl (gS rfl (gS rfl g0)))))))) (gS rfl (gS rfl (gS rfl (gS rfl (gS rfl (gS rfl g0)))))) (gS rfl (gS rfl (gS rfl (gS rfl (gS rfl g0))))) (gS rfl (gS rfl (gS rfl (gS rfl g0)))) (gS rfl (gS rfl (gS rfl g0))) g0 (fun g => ?_)
            refine c_cond (et g0 rfl) (fun cB8 => ?_) (fun cB8 => ?_)
            · skip
              
              have h8c : y = 0 := by simpa using cB8
              refine c_region ?_
              refine l_eff (e_callV cal_32 (aC (v := .int .u64 ((4800 : Nat) : Int)) rfl aN) (yp_num (x := 4800) hF (by decide))) (fun v47 w47 h47 => ?_)
              obtain ⟨H47, g47, n47⟩ := h47
              have hlew47 := g47.le
              replace h1 := h1.mono hlew47
              replace h2 := h2.mono hlew47
              replace h3 := h3.mono hlew47
              replace hc := hc.mono hlew47
              replace hd := hd.mono hlew47
              replace U := U.tr g47.up
              replace G := G.tr g47
              replace V26 := V26.tr g47
              replace hF := g47.fz
              have q47 : 4800 < 256 ^ 2 := by decide
              refine l_step (y_assignV (et g0 rfl)) ?_
              refine l_nil ?_
              refine fK5 0 2 8 9 10 (gS rfl (gS rfl (gS rfl (gS rfl (gS rfl (gS rfl (gS rfl g0))))))) (gS rfl (gS rfl (gS rfl (gS rfl (gS rfl (gS rfl g0)))))) (gS rfl (gS rfl (gS rfl (gS rfl (gS rfl g0))))) (gS rfl (gS rfl (gS rfl (gS rfl g0)))) g0 (fun g => ?_)
              exact hJ26 _ _ ⟨g, _, _, _, rfl, (NV.nil _).to (by rw [sP0, if_neg (by omega)]), n47.to (by rw [sM0, if_pos (by omega)]), V26⟩
            · skip
              
              have h8c : y ≠ 0 := by simpa using cB8
              refine c_seq (fun K48 hK48 => ?_)
              refine c_region ?_
              refine l_step (y_moveV (et (gS rfl (gS rfl (gS rfl (gS rfl g0)))) rfl)) ?_
              refine l_eff (e_callV cal_79 (aC (et g0 rfl) aN) (yp_isZero hF h3 (bd_sm s3 (by decide)))) (fun v49 w49 h49 => ?_)
              obtain ⟨rfl, u49⟩ := h49
              replace G := G.tr (Go.ofUp hF u49)
              replace V26 := V26.tr (Go.ofUp hF u49)
              replace hF := hF.up u49
              replace U := U.tr u49
              refine l_nil ?_
              refine hK48 _ _ ?_
              refine fg6 0 2 8 9 10 58 (gS rfl (gS rfl (gS rfl (gS rfl (gS rfl (gS rfl (gS rfl g0))))))) (gS rfl (gS rfl (gS rfl (gS rfl (gS rfl (gS rfl g0)))))) (gS rfl (gS rfl (gS rfl (gS rfl (gS rfl g0))))) (gS rfl (gS rfl (gS rfl (gS rfl g0)))) (gS rfl (gS rfl (gS rfl g0))) g0 (fun g => ?_)
              refine c_cond (et g0 rfl) (fun cB9 => ?_) (fun cB9 => ?_)
              · skip
                
                have h9c : x ≠ 0 ∧ y ≠ 0 ∧ z = 0 := ⟨h7c, h8c, by simpa using cB9⟩
                refine c_region ?_
                refine l_eff (e_callV cal_32 (aC (v := .int .u64 ((4800 : Nat) : Int)) rfl aN) (yp_num (x := 4800) hF (by decide))) (fun v51 w51 h51 => ?_)
                obtain ⟨H51, g51, n51⟩ := h51
                have hlew51 := g51.le
                replace h1 := h1.mono hlew51
                replace h2 := h2.mono hlew51
                replace h3 := h3.mono hlew51
                replace hc := hc.mono hlew51
                replace hd := hd.mono hlew51
                replace U := U.tr g51.up
                replace G := G.tr g51
                replace V26 := V26.tr g51
                replace hF := g51.fz
                have q51 : 4800 < 256 ^ 2 := by decide
                refine l_step (y_assignV (et g0 rfl)) ?_
                refine l_nil ?_
                refine fK5 0 2 8 9 10 (gS rfl (gS rfl (gS rfl (gS rfl (gS rfl (gS rfl (gS rfl g0))))))) (gS rfl (gS rfl (gS rfl (gS rfl (gS rfl (gS rfl g0)))))) (gS rfl (gS rfl (gS rfl (gS rfl (gS rfl g0))))) g0 (gS rfl (gS rfl (gS rfl g0))) (fun g => ?_)
                exact hJ26 _ _ ⟨g, _, _, _, rfl, n51.to (by rw [sP0, if_pos h9c]), (NV.nil _).to (by rw [sM0, if_neg (by omega)]), V26⟩
              · skip
                
                have h9c : z ≠ 0 := by simpa using cB9
                refine c_skip ?_
                refine fK5 0 2 8 9 10 (gS rfl (gS rfl (gS rfl (gS rfl (gS rfl g0))))) (gS rfl (gS rfl (gS rfl (gS rfl g0)))) (gS rfl (gS rfl (gS rfl g0))) (gS rfl (gS rfl g0)) (gS rfl g0) (fun g => ?_)
                exact hJ26 _ _ ⟨g, _, _, _, rfl, (NV.nil _).to (by rw [sP0, if_neg (by omega)]), (NV.nil _).to (by rw [sM0, if_neg (by omega)]), V26⟩
          · skip
            
            have h7c : x = 0 := by simpa using cB7
            refine c_skip ?_
            refine fK5 0 2 8 9 10 (gS rfl (gS rfl (gS rfl (gS rfl (gS rfl (gS rfl g0)))))) (gS rfl (gS rfl (gS rfl (gS rfl g0)))) (gS rfl (gS rfl (gS rfl g0))) (gS rfl (gS rfl g0)) (gS rfl g0) (fun g => ?_)
            exact hJ26 _ _ ⟨g, _, _, _, rfl, (NV.nil _).to (by rw [sP0, if_neg (by omega)]), (NV.nil _).to (by rw [sM0, if_neg (by omega)]), V26⟩
    have V7 : Go (fun k => False) W6 Hk6 W6 Hk6 := Go.refl hF
    refine c_seq (fun K52 hK52 => ?_)
    refine c_region ?_
    refine l_step (y_moveV (et (gS rfl (gS rfl (gS rfl (gS rfl (gS rfl g0))))) rfl)) ?_
    refine l_nil ?_
    refine hK52 _ _ ?_
    refine fg9 0 1 2 8 9 10 11 12 34 (gS rfl (gS rfl (gS rfl (gS rfl (gS rfl (gS rfl (gS rfl (gS rfl (gS rfl g0))))))))) (gS rfl (gS rfl (gS rfl (gS rfl (gS rfl (gS rfl (gS rfl (gS rfl g0)))))))) (gS rfl (gS rfl (gS rfl (gS rfl (gS rfl (gS rfl (gS rfl g0))))))) (gS rfl (gS rfl (gS rfl (gS rfl (gS rfl g0))))) (gS rfl (gS rfl (gS rfl (gS rfl g0)))) (gS rfl (gS rfl (gS rfl g0))) (gS rfl (gS rfl g0)) (gS rfl g0) g0 (fun g => ?_)
    refine c_cond (et g0 rfl) (fun cB3 => ?_) (fun cB3 => ?_)
    · skip
      
      have h3c : cold = true := cB3
      refine c_region ?_
      refine l_step (y_moveV (et (gS rfl (gS rfl (gS rfl (gS rfl (gS rfl g0))))) rfl)) ?_
      refine l_eff (e_callV cal_32 (aC (v := .int .u64 ((2100 : Nat) : Int)) rfl aN) (yp_num (x := 2100) hF (by decide))) (fun v54 w54 h54 => ?_)
      obtain ⟨H54, g54, n54⟩ := h54
      have hlew54 := g54.le
      replace h1 := h1.mono hlew54
      replace h2 := h2.mono hlew54
      replace h3 := h3.mono hlew54
      replace hc := hc.mono hlew54
      replace U := U.tr g54.up
      replace G := G.tr g54
      replace V7 := V7.tr g54
      replace hF := g54.fz
      have q54 : 2100 < 256 ^ 2 := by decide
      refine l_eff (e_callV cal_34 (aC (et (gS rfl g0) rfl) (aC (et g0 rfl) aN)) (nat_add hF hc n54 (bd_sm (sBase_lt x y z) (by decide)) (bd_sm q54 (by decide)))) (fun v55 w55 h55 => ?_)
      obtain ⟨H55, g55, n55⟩ := h55
      have hlew55 := g55.le
      replace h1 := h1.mono hlew55
      replace h2 := h2.mono hlew55
      replace h3 := h3.mono hlew55
      replace hc := hc.mono hlew55
      replace n54 := n54.mono hlew55
      replace U := U.tr g55.up
      replace G := G.tr g55
      replace V7 := V7.tr g55
      replace hF := g55.fz
      have q55 := bd_add (c := 3) (sBase_lt x y z) q54 (by decide)
      refine l_step (y_assignV (et g0 rfl)) ?_
      refine l_nil ?_
      refine fK8 0 1 2 8 9 10 11 12 (gS rfl (gS rfl (gS rfl (gS rfl (gS rfl (gS rfl (gS rfl (gS rfl (gS rfl (gS rfl (gS rfl (gS rfl g0)))))))))))) (gS rfl (gS rfl (gS rfl (gS rfl (gS rfl (gS rfl (gS rfl (gS rfl (gS rfl (gS rfl (gS rfl g0))))))))))) (gS rfl (gS rfl (gS rfl (gS rfl (gS rfl (gS rfl (gS rfl (gS rfl (gS rfl (gS rfl g0)))))))))) g0 (gS rfl (gS rfl (gS rfl (gS rfl (gS rfl (gS rfl (gS rfl (gS rfl g0)))))))) (gS rfl (gS rfl (gS rfl (gS rfl (gS rfl (gS rfl (gS rfl g0))))))) (gS rfl (gS rfl (gS rfl (gS rfl (gS rfl (gS rfl g0)))))) (gS rfl (gS rfl (gS rfl (gS rfl (gS rfl g0))))) (fun g => ?_)
      exact hJ7 _ _ ⟨g, _, _, rfl, n55.to (by rw [sCost, h3c]; rfl), V7⟩
    · skip
      
      have h3c : cold = false := cB3
      refine c_skip ?_
      refine fK8 0 1 2 8 9 10 11 12 (gS rfl (gS rfl (gS rfl (gS rfl (gS rfl (gS rfl (gS rfl (gS rfl g0)))))))) (gS rfl (gS rfl (gS rfl (gS rfl (gS rfl (gS rfl (gS rfl g0))))))) (gS rfl (gS rfl (gS rfl (gS rfl (gS rfl (gS rfl g0)))))) (gS rfl (gS rfl (gS rfl (gS rfl (gS rfl g0))))) (gS rfl (gS rfl (gS rfl (gS rfl g0)))) (gS rfl (gS rfl (gS rfl g0))) (gS rfl (gS rfl g0)) (gS rfl g0) (fun g => ?_)
      exact hJ7 _ _ ⟨g, _, _, rfl, hc.to (by rw [sCost, h3c]; rfl), V7⟩
  have V6 : Go (fun k => False) w5 H w5 H := Go.refl hF
  refine c_block (fun Q56 hQ56 => ?_)
  refine c_seq (fun K57 hK57 => ?_)
  refine c_region ?_
  refine l_step (y_moveV (et (gS rfl g0) rfl)) ?_
  refine l_step (y_moveV (et g0 rfl)) ?_
  refine l_gpure (j := 1) (t := 25) (by exact rfl) (by exact rfl) (et g0 rfl) rfl (fun hc => (y_moveV (et (gS rfl (gS rfl g0)) rfl))) ?_
  refine l_gpure (j := 1) (t := 25) (by exact rfl) (by exact rfl) (et (gS rfl g0) rfl) rfl (fun hc => (y_not (et (cT g0 hc) rfl))) ?_
  refine l_step (y_pickO (et (gS rfl (gS rfl g0)) rfl) rfl (et g0 rfl)) ?_
  refine l_step (y_assignV (et g0 rfl)) ?_
  refine l_nil ?_
  refine hK57 _ _ ?_
  refine fg9 3 2 1 0 9 10 11 12 23 (gS rfl (gS rfl (gS rfl (gS rfl (gS rfl (gS rfl (gS rfl (gS rfl (gS rfl (gS rfl (gS rfl (gS rfl (gS rfl g0))))))))))))) (gS rfl (gS rfl (gS rfl (gS rfl (gS rfl (gS rfl (gS rfl (gS rfl (gS rfl (gS rfl (gS rfl (gS rfl g0)))))))))))) (gS rfl (gS rfl (gS rfl (gS rfl (gS rfl (gS rfl (gS rfl (gS rfl (gS rfl (gS rfl (gS rfl g0))))))))))) (gS rfl (gS rfl (gS rfl (gS rfl (gS rfl (gS rfl (gS rfl (gS rfl (gS rfl (gS rfl g0)))))))))) (gS rfl (gS rfl (gS rfl (gS rfl (gS rfl (gS rfl (gS rfl (gS rfl (gS rfl g0))))))))) (gS rfl (gS rfl (gS rfl (gS rfl (gS rfl (gS rfl (gS rfl (gS rfl g0)))))))) (gS rfl (gS rfl (gS rfl (gS rfl (gS rfl (gS rfl (gS rfl g0))))))) (gS rfl (gS rfl (gS rfl (gS rfl (gS rfl (gS rfl g0)))))) g0 (fun g => ?_)
  refine c_cond (et g0 rfl) (fun cB1 => ?_) (fun cB1 => ?_)
  · skip
    
    have h1c : z = y ∨ y ≠ x := by simpa using cB1
    refine c_region ?_
    refine l_eff (e_callV cal_32 (aC (v := .int .u64 ((100 : Nat) : Int)) rfl aN) (yp_num (x := 100) hF (by decide))) (fun v59 w59 h59 => ?_)
    obtain ⟨H59, g59, n59⟩ := h59
    have hlew59 := g59.le
    replace h1 := h1.mono hlew59
    replace h2 := h2.mono hlew59
    replace h3 := h3.mono hlew59
    replace U := U.tr g59.up
    replace G := G.tr g59
    replace V6 := V6.tr g59
    replace hF := g59.fz
    have q59 : 100 < 256 ^ 1 := by decide
    refine l_step (y_assignV (et g0 rfl)) ?_
    refine l_nil ?_
    refine hQ56 _ _ _ (in_normal ?_)
    refine fK9 0 1 2 3 8 9 10 11 12 (gS rfl (gS rfl (gS rfl (gS rfl (gS rfl (gS rfl (gS rfl g0))))))) (gS rfl (gS rfl (gS rfl (gS rfl (gS rfl (gS rfl (gS rfl (gS rfl g0)))))))) (gS rfl (gS rfl (gS rfl (gS rfl (gS rfl (gS rfl (gS rfl (gS rfl (gS rfl g0))))))))) (gS rfl (gS rfl (gS rfl (gS rfl (gS rfl (gS rfl (gS rfl (gS rfl (gS rfl (gS rfl g0)))))))))) g0 (gS rfl (gS rfl (gS rfl (gS rfl (gS rfl (gS rfl g0)))))) (gS rfl (gS rfl (gS rfl (gS rfl (gS rfl g0))))) (gS rfl (gS rfl (gS rfl (gS rfl g0)))) (gS rfl (gS rfl (gS rfl g0))) (fun g => ?_)
    exact hJ6 _ _ ⟨g, _, _, rfl, n59.to (by rw [sBase, if_pos h1c]), V6⟩
  · skip
    
    have h1c : ¬ (z = y ∨ y ≠ x) := by simpa using cB1
    refine c_seq (fun K60 hK60 => ?_)
    refine c_region ?_
    refine l_step (y_moveV (et (gS rfl (gS rfl (gS rfl (gS rfl (gS rfl g0))))) rfl)) ?_
    refine l_eff (e_callV cal_79 (aC (et g0 rfl) aN) (yp_isZero hF h1 (bd_sm s1 (by decide)))) (fun v61 w61 h61 => ?_)
    obtain ⟨rfl, u61⟩ := h61
    replace G := G.tr (Go.ofUp hF u61)
    replace V6 := V6.tr (Go.ofUp hF u61)
    replace hF := hF.up u61
    replace U := U.tr u61
    refine l_step (y_assignV (et g0 rfl)) ?_
    refine l_nil ?_
    refine hK60 _ _ ?_
    refine fg9 3 2 1 0 9 10 11 12 30 (gS rfl (gS rfl (gS rfl (gS rfl (gS rfl (gS rfl (gS rfl (gS rfl (gS rfl (gS rfl (gS rfl g0))))))))))) (gS rfl (gS rfl (gS rfl (gS rfl (gS rfl (gS rfl (gS rfl (gS rfl (gS rfl (gS rfl g0)))))))))) (gS rfl (gS rfl (gS rfl (gS rfl (gS rfl (gS rfl (gS rfl (gS rfl (gS rfl g0))))))))) (gS rfl (gS rfl (gS rfl (gS rfl (gS rfl (gS rfl (gS rfl (gS rfl g0)))))))) (gS rfl (gS rfl (gS rfl (gS rfl (gS rfl (gS rfl (gS rfl g0))))))) (gS rfl (gS rfl (gS rfl (gS rfl (gS rfl (gS rfl g0)))))) (gS rfl (gS rfl (gS rfl (gS rfl (gS rfl g0))))) (gS rfl (gS rfl (gS rfl (gS rfl g0)))) g0 (fun g => ?_)
    refine c_cond (et g0 rfl) (fun cB2 => ?_) (fun cB2 => ?_)
    · skip
      
      have h2c : x = 0 := by simpa using cB2
      refine c_region ?_
      refine l_eff (e_callV cal_32 (aC (v := .int .u64 ((20000 : Nat) : Int)) rfl aN) (yp_num (x := 20000) hF (by decide))) (fun v63 w63 h63 => ?_)
      obtain ⟨H63, g63, n63⟩ := h63
      have hlew63 := g63.le
      replace h1 := h1.mono hlew63
      replace h2 := h2.mono hlew63
      replace h3 := h3.mono hlew63
      replace U := U.tr g63.up
      replace G := G.tr g63
      replace V6 := V6.tr g63
      replace hF := g63.fz
      have q63 : 20000 < 256 ^ 2 := by decide
      refine l_step (y_assignV (et g0 rfl)) ?_
      refine l_nil ?_
      refine hQ56 _ _ _ (in_normal ?_)
      refine fK9 0 1 2 3 8 9 10 11 12 (gS rfl (gS rfl (gS rfl (gS rfl (gS rfl (gS rfl (gS rfl g0))))))) (gS rfl (gS rfl (gS rfl (gS rfl (gS rfl (gS rfl (gS rfl (gS rfl g0)))))))) (gS rfl (gS rfl (gS rfl (gS rfl (gS rfl (gS rfl (gS rfl (gS rfl (gS rfl g0))))))))) (gS rfl (gS rfl (gS rfl (gS rfl (gS rfl (gS rfl (gS rfl (gS rfl (gS rfl (gS rfl g0)))))))))) g0 (gS rfl (gS rfl (gS rfl (gS rfl (gS rfl (gS rfl g0)))))) (gS rfl (gS rfl (gS rfl (gS rfl (gS rfl g0))))) (gS rfl (gS rfl (gS rfl (gS rfl g0)))) (gS rfl (gS rfl (gS rfl g0))) (fun g => ?_)
      exact hJ6 _ _ ⟨g, _, _, rfl, n63.to (by rw [sBase, if_neg h1c, if_pos h2c]), V6⟩
    · skip
      
      have h2c : ¬ x = 0 := by simpa using cB2
      refine c_region ?_
      refine l_eff (e_callV cal_32 (aC (v := .int .u64 ((2900 : Nat) : Int)) rfl aN) (yp_num (x := 2900) hF (by decide))) (fun v64 w64 h64 => ?_)
      obtain ⟨H64, g64, n64⟩ := h64
      have hlew64 := g64.le
      replace h1 := h1.mono hlew64
      replace h2 := h2.mono hlew64
      replace h3 := h3.mono hlew64
      replace U := U.tr g64.up
      replace G := G.tr g64
      replace V6 := V6.tr g64
      replace hF := g64.fz
      have q64 : 2900 < 256 ^ 2 := by decide
      refine l_step (y_assignV (et g0 rfl)) ?_
      refine l_nil ?_
      refine hQ56 _ _ _ (in_normal ?_)
      refine fK9 0 1 2 3 8 9 10 11 12 (gS rfl (gS rfl (gS rfl (gS rfl (gS rfl (gS rfl (gS rfl g0))))))) (gS rfl (gS rfl (gS rfl (gS rfl (gS rfl (gS rfl (gS rfl (gS rfl g0)))))))) (gS rfl (gS rfl (gS rfl (gS rfl (gS rfl (gS rfl (gS rfl (gS rfl (gS rfl g0))))))))) (gS rfl (gS rfl (gS rfl (gS rfl (gS rfl (gS rfl (gS rfl (gS rfl (gS rfl (gS rfl g0)))))))))) g0 (gS rfl (gS rfl (gS rfl (gS rfl (gS rfl (gS rfl g0)))))) (gS rfl (gS rfl (gS rfl (gS rfl (gS rfl g0))))) (gS rfl (gS rfl (gS rfl (gS rfl g0)))) (gS rfl (gS rfl (gS rfl g0))) (fun g => ?_)
      exact hJ6 _ _ ⟨g, _, _, rfl, n64.to (by rw [sBase, if_neg h1c, if_neg h2c]), V6⟩
theorem mach_Sstore (x y z : Nat) (cold : Bool) (w : World) (hx : x < W256) (hy : y < W256) (hz : z < W256) :
    Ret 305 [wV x, wV y, wV z, .bool cold] w (fun v w' => v = .tuple #[.int .u64 (sCost x y z cold : Nat), .int .u64 (sPlus x y z : Nat), .int .u64 (sMinus x y z : Nat)] ∧ Up w w') := by
  refine enter (n := 49) Hvaa.func305 rfl rfl (Nat.le_of_ble_eq_true rfl) ?_
  have U := Up.refl w
  refine c_seq (fun K1 hK1 => ?_)
  refine c_region ?_
  refine l_eff (e_boxV (et g0 rfl)) (fun v2 w2 h2 => ?_)
  obtain ⟨b2, rfl, n2⟩ := h2
  have f2 : w.heap.size ≤ b2 := Nat.le_trans U.size n2.fresh
  replace U := U.tr n2.up
  have k2 := n2.blk
  replace k2 : Blk w2 b2 (wL x).toArray := k2
  refine l_eff (e_boxV (et (gS rfl (gS rfl g0)) rfl)) (fun v3 w3 h3 => ?_)
  obtain ⟨b3, rfl, n3⟩ := h3
  have d2_3 : b2 < b3 := Nat.lt_of_lt_of_le k2.lt n3.fresh
  have f3 : w.heap.size ≤ b3 := Nat.le_trans U.size n3.fresh
  replace k2 := k2.up n3.up
  replace U := U.tr n3.up
  have k3 := n3.blk
  replace k3 : Blk w3 b3 (wL y).toArray := k3
  refine l_eff (e_boxV (et (gS rfl (gS rfl (gS rfl (gS rfl g0)))) rfl)) (fun v4 w4 h4 => ?_)
  obtain ⟨b4, rfl, n4⟩ := h4
  have d2_4 : b2 < b4 := Nat.lt_of_lt_of_le k2.lt n4.fresh
  have d3_4 : b3 < b4 := Nat.lt_of_lt_of_le k3.lt n4.fresh
  have f4 : w.heap.size ≤ b4 := Nat.le_trans U.size n4.fresh
  replace k2 := k2.up n4.up
  replace k3 := k3.up n4.up
  replace U := U.tr n4.up
  have k4 := n4.blk
  replace k4 : Blk w4 b4 (wL z).toArray := k4
  refine l_step y_assignC ?_
  refine l_step y_assignC ?_
  refine l_step y_assignC ?_
  refine l_nil ?_
  refine hK1 _ _ ?_
  refine fg7 3 4 5 6 8 9 10 (gS rfl (gS rfl (gS rfl (gS rfl (gS rfl (gS rfl (gS rfl (gS rfl (gS rfl g0))))))))) (gS rfl (gS rfl (gS rfl (gS rfl (gS rfl g0))))) (gS rfl (gS rfl (gS rfl (gS rfl g0)))) (gS rfl (gS rfl (gS rfl g0))) (gS rfl (gS rfl g0)) (gS rfl g0) g0 (fun g => ?_)
  refine c_seq (fun K5 hK5 => ?_)
  have hJ5 : ∀ (s_ : Nat → Value) (W5 : World), (∃ (g : Nat → Value) (cc : Nat), s_ = (upd (upd (upd (upd (upd (upd g 4 (.pointer (some ⟨b2, 0, none⟩))) 5 (.pointer (some ⟨b3, 0, none⟩))) 6 (.pointer (some ⟨b4, 0, none⟩))) 8 (.int .u64 (cc : Nat))) 9 (.int .u64 0)) 10 (.int .u64 0)) ∧ (cc = if cold then 2100 else 0) ∧ Ch (fun k => False) w4 W5) → K5 (mk 49 s_) W5 := by
    intro s_ W5 hI
    obtain ⟨g, cc, rfl, hcc, V5⟩ := hI
    replace k2 := k2.ch V5 (by exact fun h => h)
    replace k3 := k3.ch V5 (by exact fun h => h)
    replace k4 := k4.ch V5 (by exact fun h => h)
    replace U := U.cc V5 (by intro b hb; first | exact hb.elim | omega | (simp at hb ⊢; omega))
    have hc2 : cc ≤ 2100 := by rw [hcc]; split <;> omega
    refine hK5 _ _ ?_
    refine c_seq (fun K6 hK6 => ?_)
    refine c_seq (fun K7 hK7 => ?_)
    refine c_region ?_
    refine l_step (y_loadB agg_65 sz_65 (et (gS rfl (gS rfl (gS rfl g0))) rfl) rfl (at1B k4)) ?_
    refine l_step (y_loadB agg_65 sz_65 (et (gS rfl (gS rfl (gS rfl (gS rfl (gS rfl g0))))) rfl) rfl (at1B k3)) ?_
    refine l_step (y_eqlW hz hy (et (gS rfl g0) rfl) (et g0 rfl)) ?_
    refine l_nil ?_
    refine hK7 _ _ ?_
    refine fg7 4 5 6 8 9 10 14 (gS rfl (gS rfl (gS rfl (gS rfl (gS rfl (gS rfl (gS rfl (gS rfl g0)))))))) (gS rfl (gS rfl (gS rfl (gS rfl (gS rfl (gS rfl (gS rfl g0))))))) (gS rfl (gS rfl (gS rfl (gS rfl (gS rfl (gS rfl g0)))))) (gS rfl (gS rfl (gS rfl (gS rfl (gS rfl g0))))) (gS rfl (gS rfl (gS rfl (gS rfl g0)))) (gS rfl (gS rfl (gS rfl g0))) g0 (fun g => ?_)
    refine c_cond (et g0 rfl) (fun cB2 => ?_) (fun cB2 => ?_)
    · skip
      
      have h2c : z = y := of_decide_eq_true cB2
      refine c_seq (fun K9 hK9 => ?_)
      refine c_region ?_
      refine l_step (y_moveV (et (gS rfl (gS rfl (gS rfl g0))) rfl)) ?_
      refine l_step (y_add (et g0 rfl) rfl (wrapU_addN (b := 100) uk64 ?_)) ?_
      omega
      refine l_step (y_assignV (et g0 rfl)) ?_
      refine l_step y_assignC ?_
      refine l_step y_assignC ?_
      refine l_nil ?_
      refine hK9 _ _ ?_
      refine fg3 8 9 10 (gS rfl (gS rfl g0)) (gS rfl g0) g0 (fun g => ?_)
      refine c_ret ?_
      repeat refine then_ret ?_
      refine ret3 rfl (res_tmp (et (gS rfl (gS rfl g0)) rfl)) (res_tmp (et (gS rfl g0) rfl)) (res_tmp (et g0 rfl)) ?_
      refine ⟨?_, U⟩
      rw [sCost, sPlus, sMinus, sBase, ← hcc, if_pos h2c, if_pos (.inl h2c), if_pos (.inl h2c), Nat.add_comm]; rfl
    · skip
      
      have h2c : ¬ z = y := of_decide_eq_false cB2
      refine c_skip ?_
      refine hK6 _ _ ?_
      refine fg6 4 5 6 8 9 10 (gS rfl (gS rfl (gS rfl (gS rfl (gS rfl (gS rfl g0)))))) (gS rfl (gS rfl (gS rfl (gS rfl (gS rfl g0))))) (gS rfl (gS rfl (gS rfl (gS rfl g0)))) (gS rfl (gS rfl (gS rfl g0))) (gS rfl (gS rfl g0)) (gS rfl g0) (fun g => ?_)
      refine c_seq (fun K10 hK10 => ?_)
      refine c_seq (fun K11 hK11 => ?_)
      refine c_region ?_
      refine l_step (y_loadB agg_65 sz_65 (et (gS rfl (gS rfl (gS rfl (gS rfl g0)))) rfl) rfl (at1B k3)) ?_
      refine l_step (y_loadB agg_65 sz_65 (et (gS rfl (gS rfl (gS rfl (gS rfl (gS rfl (gS rfl g0)))))) rfl) rfl (at1B k2)) ?_
      refine l_step (y_eqlW hy hx (et (gS rfl g0) rfl) (et g0 rfl)) ?_
      refine l_nil ?_
      refine hK11 _ _ ?_
      refine fg7 4 5 6 8 9 10 19 (gS rfl (gS rfl (gS rfl (gS rfl (gS rfl (gS rfl (gS rfl (gS rfl g0)))))))) (gS rfl (gS rfl (gS rfl (gS rfl (gS rfl (gS rfl (gS rfl g0))))))) (gS rfl (gS rfl (gS rfl (gS rfl (gS rfl (gS rfl g0)))))) (gS rfl (gS rfl (gS rfl (gS rfl (gS rfl g0))))) (gS rfl (gS rfl (gS rfl (gS rfl g0)))) (gS rfl (gS rfl (gS rfl g0))) g0 (fun g => ?_)
      refine c_cond (et g0 rfl) (fun cB3 => ?_) (fun cB3 => ?_)
      · skip
        
        have h3c : y = x := of_decide_eq_true cB3
        refine c_seq (fun K13 hK13 => ?_)
        refine c_seq (fun K14 hK14 => ?_)
        refine c_region ?_
        refine l_step (y_loadB agg_65 sz_65 (et (gS rfl (gS rfl (gS rfl (gS rfl (gS rfl (gS rfl g0)))))) rfl) rfl (at1B k2)) ?_
        refine l_eff (e_callV cal_78 (aC (et g0 rfl) aN) (isZero_spec x _ hx)) (fun v15 w15 h15 => ?_)
        obtain ⟨rfl, u15⟩ := h15
        replace k2 := k2.up u15
        replace k3 := k3.up u15
        replace k4 := k4.up u15
        replace U := U.tr u15
        refine l_nil ?_
        refine hK14 _ _ ?_
        refine fg4 6 8 9 21 (gS rfl (gS rfl (gS rfl (gS rfl (gS rfl (gS rfl g0)))))) (gS rfl (gS rfl (gS rfl (gS rfl (gS rfl g0))))) (gS rfl (gS rfl (gS rfl (gS rfl g0)))) g0 (fun g => ?_)
        refine c_cond (et g0 rfl) (fun cB4 => ?_) (fun cB4 => ?_)
        · skip
          
          have h4c : x = 0 := of_decide_eq_true cB4
          refine c_seq (fun K17 hK17 => ?_)
          refine c_region ?_
          refine l_step (y_moveV (et (gS rfl (gS rfl g0)) rfl)) ?_
          refine l_step (y_add (et g0 rfl) rfl (wrapU_addN (b := 20000) uk64 ?_)) ?_
          omega
          refine l_step (y_assignV (et g0 rfl)) ?_
          refine l_step y_assignC ?_
          refine l_step y_assignC ?_
          refine l_nil ?_
          refine hK17 _ _ ?_
          refine fg3 8 9 10 (gS rfl (gS rfl g0)) (gS rfl g0) g0 (fun g => ?_)
          refine c_ret ?_
          repeat refine then_ret ?_
          refine ret3 rfl (res_tmp (et (gS rfl (gS rfl g0)) rfl)) (res_tmp (et (gS rfl g0) rfl)) (res_tmp (et g0 rfl)) ?_
          refine ⟨?_, U⟩
          rw [sCost, sPlus, sMinus, sBase, ← hcc, if_neg h2c, if_neg (by omega), if_pos h4c, if_pos h3c, if_neg (by omega), if_pos (.inr h3c), Nat.add_comm]; rfl
        · skip
          
          have h4c : ¬ x = 0 := of_decide_eq_false cB4
          refine c_skip ?_
          refine hK13 _ _ ?_
          refine fg3 6 8 9 (gS rfl (gS rfl (gS rfl g0))) (gS rfl (gS rfl g0)) (gS rfl g0) (fun g => ?_)
          refine c_seq (fun K18 hK18 => ?_)
          refine c_seq (fun K19 hK19 => ?_)
          refine c_region ?_
          refine l_step (y_loadB agg_65 sz_65 (et (gS rfl (gS rfl g0)) rfl) rfl (at1B k4)) ?_
          refine l_eff (e_callV cal_78 (aC (et g0 rfl) aN) (isZero_spec z _ hz)) (fun v20 w20 h20 => ?_)
          obtain ⟨rfl, u20⟩ := h20
          replace k2 := k2.up u20
          replace k3 := k3.up u20
          replace k4 := k4.up u20
          replace U := U.tr u20
          refine l_nil ?_
          refine hK19 _ _ ?_
          refine fg3 8 9 25 (gS rfl (gS rfl (gS rfl g0))) (gS rfl (gS rfl g0)) g0 (fun g => ?_)
          refine c_cond (et g0 rfl) (fun cB5 => ?_) (fun cB5 => ?_)
          · skip
            
            have h5c : z = 0 := of_decide_eq_true cB5
            refine c_region ?_
            refine l_step y_assignC ?_
            refine l_nil ?_
            refine hK18 _ _ ?_
            refine fg2 8 9 (gS rfl (gS rfl (gS rfl g0))) g0 (fun g => ?_)
            refine c_seq (fun K22 hK22 => ?_)
            refine c_region ?_
            refine l_step (y_moveV (et (gS rfl g0) rfl)) ?_
            refine l_step (y_add (et g0 rfl) rfl (wrapU_addN (b := 2900) uk64 ?_)) ?_
            omega
            refine l_step (y_moveV (et (gS rfl (gS rfl g0)) rfl)) ?_
            refine l_step (y_assignV (et (gS rfl g0) rfl)) ?_
            refine l_step (y_assignV (et (gS rfl g0) rfl)) ?_
            refine l_step y_assignC ?_
            refine l_nil ?_
            refine hK22 _ _ ?_
            refine fg3 8 9 10 (gS rfl (gS rfl g0)) (gS rfl g0) g0 (fun g => ?_)
            refine c_ret ?_
            repeat refine then_ret ?_
            refine ret3 rfl (res_tmp (et (gS rfl (gS rfl g0)) rfl)) (res_tmp (et (gS rfl g0) rfl)) (res_tmp (et g0 rfl)) ?_
            refine ⟨?_, U⟩
            rw [sCost, sPlus, sMinus, sBase, ← hcc, if_neg h2c, if_neg (by omega), if_neg h4c, if_pos h3c, if_pos ⟨h4c, h5c⟩, if_pos (.inr h3c), Nat.add_comm]; rfl
          · skip
            
            have h5c : ¬ z = 0 := of_decide_eq_false cB5
            refine c_skip ?_
            refine hK18 _ _ ?_
            refine fg2 8 9 (gS rfl (gS rfl g0)) (gS rfl g0) (fun g => ?_)
            refine c_seq (fun K23 hK23 => ?_)
            refine c_region ?_
            refine l_step (y_moveV (et (gS rfl g0) rfl)) ?_
            refine l_step (y_add (et g0 rfl) rfl (wrapU_addN (b := 2900) uk64 ?_)) ?_
            omega
            refine l_step (y_moveV (et (gS rfl (gS rfl g0)) rfl)) ?_
            refine l_step (y_assignV (et (gS rfl g0) rfl)) ?_
            refine l_step (y_assignV (et (gS rfl g0) rfl)) ?_
            refine l_step y_assignC ?_
            refine l_nil ?_
            refine hK23 _ _ ?_
            refine fg3 8 9 10 (gS rfl (gS rfl g0)) (gS rfl g0) g0 (fun g => ?_)
            refine c_ret ?_
            repeat refine then_ret ?_
            refine ret3 rfl (res_tmp (et (gS rfl (gS rfl g0)) rfl)) (res_tmp (et (gS rfl g0) rfl)) (res_tmp (et g0 rfl)) ?_
            refine ⟨?_, U⟩
            rw [sCost, sPlus, sMinus, sBase, ← hcc, if_neg h2c, if_neg (by omega), if_neg h4c, if_pos h3c, if_neg (by omega), if_pos (.inr h3c), Nat.add_comm]; rfl
      · skip
        
        have h3c : ¬ y = x := of_decide_eq_false cB3
        refine c_skip ?_
        refine hK10 _ _ ?_
        refine fg6 4 5 6 8 9 10 (gS rfl (gS rfl (gS rfl (gS rfl (gS rfl (gS rfl g0)))))) (gS rfl (gS rfl (gS rfl (gS rfl (gS rfl g0))))) (gS rfl (gS rfl (gS rfl (gS rfl g0)))) (gS rfl (gS rfl (gS rfl g0))) (gS rfl (gS rfl g0)) (gS rfl g0) (fun g => ?_)
        refine c_seq (fun K24 hK24 => ?_)
        have hJ24 : ∀ (s_ : Nat → Value) (W24 : World), (∃ (g : Nat → Value) (p0 m0 : Nat), s_ = (upd (upd (upd (upd (upd g 4 (.pointer (some ⟨b2, 0, none⟩))) 6 (.pointer (some ⟨b4, 0, none⟩))) 8 (.int .u64 (cc : Nat))) 9 (.int .u64 (p0 : Nat))) 10 (.int .u64 (m0 : Nat))) ∧ (p0 = sP0 x y z) ∧ (m0 = sM0 x y) ∧ Ch (fun k => False) W5 W24) → K24 (mk 49 s_) W24 := by
          intro s_ W24 hI
          obtain ⟨g, p0, m0, rfl, hp, hm, V24⟩ := hI
          replace k2 := k2.ch V24 (by exact fun h => h)
          replace k3 := k3.ch V24 (by exact fun h => h)
          replace k4 := k4.ch V24 (by exact fun h => h)
          replace U := U.cc V24 (by intro b hb; first | exact hb.elim | omega | (simp at hb ⊢; omega))
          have hp2 : p0 < 256 ^ 2 := hp ▸ sP0_lt x y z
          refine hK24 _ _ ?_
          refine c_seq (fun K25 hK25 => ?_)
          refine c_seq (fun K26 hK26 => ?_)
          refine c_region ?_
          refine l_step (y_loadB agg_65 sz_65 (et (gS rfl (gS rfl (gS rfl g0))) rfl) rfl (at1B k4)) ?_
          refine l_step (y_loadB agg_65 sz_65 (et (gS rfl (gS rfl (gS rfl (gS rfl (gS rfl g0))))) rfl) rfl (at1B k2)) ?_
          refine l_step (y_eqlW hz hx (et (gS rfl g0) rfl) (et g0 rfl)) ?_
          refine l_nil ?_
          refine hK26 _ _ ?_
          refine fg5 4 8 9 10 38 (gS rfl (gS rfl (gS rfl (gS rfl (gS rfl (gS rfl (gS rfl g0))))))) (gS rfl (gS rfl (gS rfl (gS rfl (gS rfl g0))))) (gS rfl (gS rfl (gS rfl (gS rfl g0)))) (gS rfl (gS rfl (gS rfl g0))) g0 (fun g => ?_)
          refine c_cond (et g0 rfl) (fun cB9 => ?_) (fun cB9 => ?_)
          · skip
            
            have h9c : z = x := of_decide_eq_true cB9
            refine c_seq (fun K28 hK28 => ?_)
            refine c_region ?_
            refine l_step (y_loadB agg_65 sz_65 (et (gS rfl (gS rfl (gS rfl (gS rfl g0)))) rfl) rfl (at1B k2)) ?_
            refine l_eff (e_callV cal_78 (aC (et g0 rfl) aN) (isZero_spec x _ hx)) (fun v29 w29 h29 => ?_)
            obtain ⟨rfl, u29⟩ := h29
            replace k2 := k2.up u29
            replace k3 := k3.up u29
            replace k4 := k4.up u29
            replace U := U.tr u29
            refine l_nil ?_
            refine hK28 _ _ ?_
            refine fg4 8 9 10 40 (gS rfl (gS rfl (gS rfl (gS rfl (gS rfl g0))))) (gS rfl (gS rfl (gS rfl (gS rfl g0)))) (gS rfl (gS rfl (gS rfl g0))) g0 (fun g => ?_)
            refine c_cond (et g0 rfl) (fun cB10 => ?_) (fun cB10 => ?_)
            · skip
              
              have h10c : x = 0 := of_decide_eq_true cB10
              refine c_region ?_
              refine l_step (y_moveV (et (gS rfl (gS rfl g0)) rfl)) ?_
              refine l_step (y_add (et g0 rfl) rfl (wrapU_addN (b := 19900) uk64 ?_)) ?_
              omega
              refine l_step (y_assignV (et g0 rfl)) ?_
              refine l_nil ?_
              refine hK25 _ _ ?_
              refine fg3 8 9 10 (gS rfl (gS rfl (gS rfl (gS rfl (gS rfl (gS rfl g0)))))) g0 (gS rfl (gS rfl (gS rfl (gS rfl g0)))) (fun g => ?_)
              refine c_seq (fun K31 hK31 => ?_)
              refine c_region ?_
              refine l_step (y_moveV (et (gS rfl (gS rfl g0)) rfl)) ?_
              refine l_step (y_add (et g0 rfl) rfl (wrapU_addN (b := 100) uk64 ?_)) ?_
              omega
              refine l_step (y_moveV (et (gS rfl (gS rfl (gS rfl g0))) rfl)) ?_
              refine l_step (y_moveV (et (gS rfl (gS rfl (gS rfl g0))) rfl)) ?_
              refine l_step (y_assignV (et (gS rfl (gS rfl g0)) rfl)) ?_
              refine l_step (y_assignV (et (gS rfl (gS rfl g0)) rfl)) ?_
              refine l_step (y_assignV (et (gS rfl (gS rfl g0)) rfl)) ?_
              refine l_nil ?_
              refine hK31 _ _ ?_
              refine fg3 8 9 10 (gS rfl (gS rfl g0)) (gS rfl g0) g0 (fun g => ?_)
              refine c_ret ?_
              repeat refine then_ret ?_
              refine ret3 rfl (res_tmp (et (gS rfl (gS rfl g0)) rfl)) (res_tmp (et (gS rfl g0) rfl)) (res_tmp (et g0 rfl)) ?_
              refine ⟨?_, U⟩
              rw [sCost, sPlus, sMinus, sBase, ← hcc, ← hp, ← hm, if_pos (.inr h3c), if_neg h2c, if_neg h3c, if_pos h9c, if_pos h10c, if_neg (by omega), Nat.add_comm cc]
            · skip
              
              have h10c : ¬ x = 0 := of_decide_eq_false cB10
              refine c_region ?_
              refine l_step (y_moveV (et (gS rfl (gS rfl g0)) rfl)) ?_
              refine l_step (y_add (et g0 rfl) rfl (wrapU_addN (b := 2800) uk64 ?_)) ?_
              omega
              refine l_step (y_assignV (et g0 rfl)) ?_
              refine l_nil ?_
              refine hK25 _ _ ?_
              refine fg3 8 9 10 (gS rfl (gS rfl (gS rfl (gS rfl (gS rfl (gS rfl g0)))))) g0 (gS rfl (gS rfl (gS rfl (gS rfl g0)))) (fun g => ?_)
              refine c_seq (fun K32 hK32 => ?_)
              refine c_region ?_
              refine l_step (y_moveV (et (gS rfl (gS rfl g0)) rfl)) ?_
              refine l_step (y_add (et g0 rfl) rfl (wrapU_addN (b := 100) uk64 ?_)) ?_
              omega
              refine l_step (y_moveV (et (gS rfl (gS rfl (gS rfl g0))) rfl)) ?_
              refine l_step (y_moveV (et (gS rfl (gS rfl (gS rfl g0))) rfl)) ?_
              refine l_step (y_assignV (et (gS rfl (gS rfl g0)) rfl)) ?_
              refine l_step (y_assignV (et (gS rfl (gS rfl g0)) rfl)) ?_
              refine l_step (y_assignV (et (gS rfl (gS rfl g0)) rfl)) ?_
              refine l_nil ?_
              refine hK32 _ _ ?_
              refine fg3 8 9 10 (gS rfl (gS rfl g0)) (gS rfl g0) g0 (fun g => ?_)
              refine c_ret ?_
              repeat refine then_ret ?_
              refine ret3 rfl (res_tmp (et (gS rfl (gS rfl g0)) rfl)) (res_tmp (et (gS rfl g0) rfl)) (res_tmp (et g0 rfl)) ?_
              refine ⟨?_, U⟩
              rw [sCost, sPlus, sMinus, sBase, ← hcc, ← hp, ← hm, if_pos (.inr h3c), if_neg h2c, if_neg h3c, if_pos h9c, if_neg h10c, if_neg (by omega), Nat.add_comm cc]
          · skip
            
            have h9c : ¬ z = x := of_decide_eq_false cB9
            refine c_skip ?_
            refine hK25 _ _ ?_
            refine fg3 8 9 10 (gS rfl (gS rfl (gS rfl g0))) (gS rfl (gS rfl g0)) (gS rfl g0) (fun g => ?_)
            refine c_seq (fun K33 hK33 => ?_)
            refine c_region ?_
            refine l_step (y_moveV (et (gS rfl (gS rfl g0)) rfl)) ?_
            refine l_step (y_add (et g0 rfl) rfl (wrapU_addN (b := 100) uk64 ?_)) ?_
            omega
            refine l_step (y_moveV (et (gS rfl (gS rfl (gS rfl g0))) rfl)) ?_
            refine l_step (y_moveV (et (gS rfl (gS rfl (gS rfl g0))) rfl)) ?_
            refine l_step (y_assignV (et (gS rfl (gS rfl g0)) rfl)) ?_
            refine l_step (y_assignV (et (gS rfl (gS rfl g0)) rfl)) ?_
            refine l_step (y_assignV (et (gS rfl (gS rfl g0)) rfl)) ?_
            refine l_nil ?_
            refine hK33 _ _ ?_
            refine fg3 8 9 10 (gS rfl (gS rfl g0)) (gS rfl g0) g0 (fun g => ?_)
            refine c_ret ?_
            repeat refine then_ret ?_
            refine ret3 rfl (res_tmp (et (gS rfl (gS rfl g0)) rfl)) (res_tmp (et (gS rfl g0) rfl)) (res_tmp (et g0 rfl)) ?_
            refine ⟨?_, U⟩
            rw [sCost, sPlus, sMinus, sBase, ← hcc, ← hp, ← hm, if_pos (.inr h3c), if_neg h2c, if_neg h3c, if_neg h9c, Nat.add_zero p0, if_neg (by omega), Nat.add_comm cc]
        have V24 : Ch (fun k => False) W5 W5 := Ch.refl _ _
        refine c_seq (fun K34 hK34 => ?_)
        refine c_region ?_
        refine l_step (y_loadB agg_65 sz_65 (et (gS rfl (gS rfl (gS rfl (gS rfl (gS rfl g0))))) rfl) rfl (at1B k2)) ?_
        refine l_eff (e_callV cal_78 (aC (et g0 rfl) aN) (isZero_spec x _ hx)) (fun v35 w35 h35 => ?_)
        obtain ⟨rfl, u35⟩ := h35
        replace k2 := k2.up u35
        replace k3 := k3.up u35
        replace k4 := k4.up u35
        replace U := U.tr u35
        replace V24 := V24.tr u35
        refine l_step (y_not (et g0 rfl)) ?_
        refine l_nil ?_
        refine hK34 _ _ ?_
        refine fg7 4 5 6 8 9 10 31 (gS rfl (gS rfl (gS rfl (gS rfl (gS rfl (gS rfl (gS rfl (gS rfl g0)))))))) (gS rfl (gS rfl (gS rfl (gS rfl (gS rfl (gS rfl (gS rfl g0))))))) (gS rfl (gS rfl (gS rfl (gS rfl (gS rfl (gS rfl g0)))))) (gS rfl (gS rfl (gS rfl (gS rfl (gS rfl g0))))) (gS rfl (gS rfl (gS rfl (gS rfl g0)))) (gS rfl (gS rfl (gS rfl g0))) g0 (fun g => ?_)
        refine c_cond (et g0 rfl) (fun cB6 => ?_) (fun cB6 => ?_)
        · skip
          
          have h6c : x ≠ 0 := by simpa using cB6
          refine c_seq (fun K37 hK37 => ?_)
          refine c_region ?_
          refine l_step (y_loadB agg_65 sz_65 (et (gS rfl (gS rfl (gS rfl (gS rfl (gS rfl g0))))) rfl) rfl (at1B k3)) ?_
          refine l_eff (e_callV cal_78 (aC (et g0 rfl) aN) (isZero_spec y _ hy)) (fun v38 w38 h38 => ?_)
          obtain ⟨rfl, u38⟩ := h38
          replace k2 := k2.up u38
          replace k3 := k3.up u38
          replace k4 := k4.up u38
          replace U := U.tr u38
          replace V24 := V24.tr u38
          refine l_nil ?_
          refine hK37 _ _ ?_
          refine fg6 4 6 8 9 10 33 (gS rfl (gS rfl (gS rfl (gS rfl (gS rfl (gS rfl (gS rfl (gS rfl g0)))))))) (gS rfl (gS rfl (gS rfl (gS rfl (gS rfl (gS rfl g0)))))) (gS rfl (gS rfl (gS rfl (gS rfl (gS rfl g0))))) (gS rfl (gS rfl (gS rfl (gS rfl g0)))) (gS rfl (gS rfl (gS rfl g0))) g0 (fun g => ?_)
          refine c_cond (et g0 rfl) (fun cB7 => ?_) (fun cB7 => ?_)
          · skip
            
            have h7c : y = 0 := of_decide_eq_true cB7
            refine c_region ?_
            refine l_step y_assignC ?_
            refine l_nil ?_
            refine fK5 4 6 8 9 10 (gS rfl (gS rfl (gS rfl (gS rfl (gS rfl (gS rfl g0)))))) (gS rfl (gS rfl (gS rfl (gS rfl (gS rfl g0))))) (gS rfl (gS rfl (gS rfl (gS rfl g0)))) (gS rfl (gS rfl (gS rfl g0))) g0 (fun g => ?_)
            exact hJ24 _ _ ⟨g, 0, 4800, rfl, by rw [sP0, if_neg (by omega)], by rw [sM0, if_pos (by omega)], V24⟩
          · skip
            
            have h7c : ¬ y = 0 := of_decide_eq_false cB7
            refine c_seq (fun K40 hK40 => ?_)
            refine c_region ?_
            refine l_step (y_loadB agg_65 sz_65 (et (gS rfl (gS rfl (gS rfl (gS rfl g0)))) rfl) rfl (at1B k4)) ?_
            refine l_eff (e_callV cal_78 (aC (et g0 rfl) aN) (isZero_spec z _ hz)) (fun v41 w41 h41 => ?_)
            obtain ⟨rfl, u41⟩ := h41
            replace k2 := k2.up u41
            replace k3 := k3.up u41
            replace k4 := k4.up u41
            replace U := U.tr u41
            replace V24 := V24.tr u41
            refine l_nil ?_
            refine hK40 _ _ ?_
            refine fg6 4 6 8 9 10 35 (gS rfl (gS rfl (gS rfl (gS rfl (gS rfl (gS rfl (gS rfl g0))))))) (gS rfl (gS rfl (gS rfl (gS rfl (gS rfl (gS rfl g0)))))) (gS rfl (gS rfl (gS rfl (gS rfl (gS rfl g0))))) (gS rfl (gS rfl (gS rfl (gS rfl g0)))) (gS rfl (gS rfl (gS rfl g0))) g0 (fun g => ?_)
            refine c_cond (et g0 rfl) (fun cB8 => ?_) (fun cB8 => ?_)
            · skip
              
              have h8c : z = 0 := of_decide_eq_true cB8
              refine c_region ?_
              refine l_step y_assignC ?_
              refine l_nil ?_
              refine fK5 4 6 8 9 10 (gS rfl (gS rfl (gS rfl (gS rfl (gS rfl (gS rfl g0)))))) (gS rfl (gS rfl (gS rfl (gS rfl (gS rfl g0))))) (gS rfl (gS rfl (gS rfl (gS rfl g0)))) g0 (gS rfl (gS rfl g0)) (fun g => ?_)
              exact hJ24 _ _ ⟨g, 4800, 0, rfl, by rw [sP0, if_pos (by omega)], by rw [sM0, if_neg (by omega)], V24⟩
            · skip
              
              have h8c : ¬ z = 0 := of_decide_eq_false cB8
              refine c_skip ?_
              refine fK5 4 6 8 9 10 (gS rfl (gS rfl (gS rfl (gS rfl (gS rfl g0))))) (gS rfl (gS rfl (gS rfl (gS rfl g0)))) (gS rfl (gS rfl (gS rfl g0))) (gS rfl (gS rfl g0)) (gS rfl g0) (fun g => ?_)
              exact hJ24 _ _ ⟨g, 0, 0, rfl, by rw [sP0, if_neg (by omega)], by rw [sM0, if_neg (by omega)], V24⟩
        · skip
          
          have h6c : x = 0 := by simpa using cB6
          refine c_skip ?_
          refine fK5 4 6 8 9 10 (gS rfl (gS rfl (gS rfl (gS rfl (gS rfl (gS rfl g0)))))) (gS rfl (gS rfl (gS rfl (gS rfl g0)))) (gS rfl (gS rfl (gS rfl g0))) (gS rfl (gS rfl g0)) (gS rfl g0) (fun g => ?_)
          exact hJ24 _ _ ⟨g, 0, 0, rfl, by rw [sP0, if_neg (by omega)], by rw [sM0, if_neg (by omega)], V24⟩
  have V5 : Ch (fun k => False) w4 w4 := Ch.refl _ _
  refine c_seq (fun K43 hK43 => ?_)
  refine c_region ?_
  refine l_step (y_moveV (et (gS rfl (gS rfl (gS rfl (gS rfl (gS rfl (gS rfl g0)))))) rfl)) ?_
  refine l_nil ?_
  refine hK43 _ _ ?_
  refine fg7 4 5 6 8 9 10 11 (gS rfl (gS rfl (gS rfl (gS rfl (gS rfl (gS rfl g0)))))) (gS rfl (gS rfl (gS rfl (gS rfl (gS rfl g0))))) (gS rfl (gS rfl (gS rfl (gS rfl g0)))) (gS rfl (gS rfl (gS rfl g0))) (gS rfl (gS rfl g0)) (gS rfl g0) g0 (fun g => ?_)
  refine c_cond (et g0 rfl) (fun cB1 => ?_) (fun cB1 => ?_)
  · skip
    
    have h1c : cold = true := cB1
    refine c_region ?_
    refine l_step y_assignC ?_
    refine l_nil ?_
    refine fK6 4 5 6 8 9 10 (gS rfl (gS rfl (gS rfl (gS rfl (gS rfl (gS rfl (gS rfl g0))))))) (gS rfl (gS rfl (gS rfl (gS rfl (gS rfl (gS rfl g0)))))) (gS rfl (gS rfl (gS rfl (gS rfl (gS rfl g0))))) g0 (gS rfl (gS rfl (gS rfl g0))) (gS rfl (gS rfl g0)) (fun g => ?_)
    exact hJ5 _ _ ⟨g, 2100, rfl, by rw [h1c]; rfl, V5⟩
  · skip
    
    have h1c : cold = false := cB1
    refine c_skip ?_
    refine fK6 4 5 6 8 9 10 (gS rfl (gS rfl (gS rfl (gS rfl (gS rfl (gS rfl g0)))))) (gS rfl (gS rfl (gS rfl (gS rfl (gS rfl g0))))) (gS rfl (gS rfl (gS rfl (gS rfl g0)))) (gS rfl (gS rfl (gS rfl g0))) (gS rfl (gS rfl g0)) (gS rfl g0) (fun g => ?_)
    exact hJ5 _ _ ⟨g, 0, rfl, by rw [h1c]; rfl, V5⟩
end Go.Proofs.YgvaawGreat
