import Derived.Test.YgvaawGreatU1
set_option linter.unusedSimpArgs false
set_option linter.unusedVariables false
namespace Go.Proofs.YgvaawGreat
open Go
theorem length_uL (l : List Nat) : (uL l).length = l.length := by simp [uL]
theorem add64_r (x y c : Nat) (w : World) (hx : x < 18446744073709551616) (hy : y < 18446744073709551616) (hc : c ≤ 1) : Ret 169 [.int .u64 x, .int .u64 y, .int .u64 c] w (fun v w' => ∃ s k : Nat, v = .tuple #[.int .u64 s, .int .u64 k] ∧ s < 18446744073709551616 ∧ k ≤ 1 ∧ s + k * 18446744073709551616 = x + y + c ∧ Up w w') :=
  (add64_spec x y c w hc).mono fun v w' ⟨h1, h2⟩ => ⟨_, _, h1, Nat.mod_lt _ (by decide), carry1 x y c hx hy hc, by omega, h2⟩
theorem sub64_r (x y c : Nat) (w : World) (hx : x < 18446744073709551616) (hy : y < 18446744073709551616) (hc : c ≤ 1) : Ret 246 [.int .u64 x, .int .u64 y, .int .u64 c] w (fun v w' => ∃ s k : Nat, v = .tuple #[.int .u64 s, .int .u64 k] ∧ s < 18446744073709551616 ∧ k ≤ 1 ∧ s + y + c = x + k * 18446744073709551616 ∧ Up w w') :=
  (sub64_spec x y c w hc).mono fun v w' ⟨h1, h2⟩ => ⟨_, _, h1, sub64_lt _ _ _, bor64_le _ _ _, sub64_eq x y c hx hy hc, h2⟩
theorem mul64_r (x y : Nat) (w : World) (hx : x < 18446744073709551616) (hy : y < 18446744073709551616) : Ret 168 [.int .u64 x, .int .u64 y] w (fun v w' => ∃ h l : Nat, v = .tuple #[.int .u64 h, .int .u64 l] ∧ h < 18446744073709551616 ∧ l < 18446744073709551616 ∧ h * 18446744073709551616 + l = x * y ∧ Up w w') :=
  (mul64_spec x y w hx hy).mono fun v w' ⟨h1, h2⟩ => ⟨_, _, h1, by
    have : x * y < 18446744073709551616 * 18446744073709551616 := Nat.mul_lt_mul'' hx hy
    exact Nat.div_lt_of_lt_mul this, Nat.mod_lt _ (by decide), by omega, h2⟩
theorem wL_get (n i : Nat) (h : i < 4) : (wL n).toArray[i]? = some (.int .u64 (limb n i : Nat)) := by
  have : i = 0 ∨ i = 1 ∨ i = 2 ∨ i = 3 := by omega
  rcases this with rfl | rfl | rfl | rfl <;> rfl
theorem or_zero (a b : Nat) : a ||| b = 0 ↔ a = 0 ∧ b = 0 := by
  constructor
  · intro h
    constructor
    · exact Nat.le_zero.1 (h ▸ Nat.left_le_or)
    · exact Nat.le_zero.1 (h ▸ Nat.right_le_or)
  · rintro ⟨rfl, rfl⟩; rfl
theorem or_lt64 {a b : Nat} (ha : a < 18446744073709551616) (hb : b < 18446744073709551616) : a ||| b < 18446744073709551616 := Nat.or_lt_two_pow (n := 64) ha hb
theorem isZero_spec (n : Nat) (w : World) (hn : n < W256) :
    Ret 78 [wV n] w (fun v w' => v = .bool (decide (n = 0)) ∧ Up w w') := by
  refine enter (n := 15) Hvaa.func78 rfl rfl (Nat.le_of_ble_eq_true rfl) ?_
  have U := Up.refl w
  refine c_seq (fun K1 hK1 => ?_)
  refine c_region ?_
  refine l_eff (e_boxV (et g0 rfl)) (fun v2 w2 h2 => ?_)
  obtain ⟨b2, rfl, n2⟩ := h2
  have f2 : w.heap.size ≤ b2 := Nat.le_trans U.size n2.fresh
  replace U := U.tr n2.up
  have k2 := n2.blk
  refine l_step y_assignC ?_
  refine l_nil ?_
  refine hK1 _ _ ?_
  refine fg1 1 (gS rfl g0) (fun g => ?_)
  refine c_seq (fun K3 hK3 => ?_)
  refine c_region ?_
  refine l_step (y_idxAC 0 0 Hvaa.underlying65 sz_26 (et g0 rfl) rfl rfl rfl) ?_
  refine l_step (y_load1 one_26 (et g0 rfl) (at1 (k2.cell rfl))) ?_
  refine l_step (y_idxAC 1 1 Hvaa.underlying65 sz_26 (et (gS rfl (gS rfl g0)) rfl) rfl rfl rfl) ?_
  refine l_step (y_load1 one_26 (et g0 rfl) (at1 (k2.cell rfl))) ?_
  refine l_step (y_or uk64 (et (gS rfl (gS rfl g0)) rfl) (et g0 rfl) ?_ ?_) ?_
  exact limb_lt _ _
  exact limb_lt _ _
  refine l_step (y_idxAC 2 2 Hvaa.underlying65 sz_26 (et (gS rfl (gS rfl (gS rfl (gS rfl (gS rfl g0))))) rfl) rfl rfl rfl) ?_
  refine l_step (y_load1 one_26 (et g0 rfl) (at1 (k2.cell rfl))) ?_
  refine l_step (y_or uk64 (et (gS rfl (gS rfl g0)) rfl) (et g0 rfl) ?_ ?_) ?_
  exact or_lt64 (limb_lt _ _) (limb_lt _ _)
  exact limb_lt _ _
  refine l_step (y_idxAC 3 3 Hvaa.underlying65 sz_26 (et (gS rfl (gS rfl (gS rfl (gS rfl (gS rfl (gS rfl (gS rfl (gS rfl g0)))))))) rfl) rfl rfl rfl) ?_
  refine l_step (y_load1 one_26 (et g0 rfl) (at1 (k2.cell rfl))) ?_
  refine l_step (y_or uk64 (et (gS rfl (gS rfl g0)) rfl) (et g0 rfl) ?_ ?_) ?_
  exact or_lt64 (or_lt64 (limb_lt _ _) (limb_lt _ _)) (limb_lt _ _)
  exact limb_lt _ _
  refine l_step (y_eql (et g0 rfl) rfl) ?_
  refine l_step (y_assignV (et g0 rfl)) ?_
  refine l_nil ?_
  refine hK3 _ _ ?_
  refine fg1 2 g0 (fun g => ?_)
  refine c_ret ?_
  refine ret1 rfl (res_tmp (et g0 rfl)) ?_
  refine ⟨boolD ?_, U⟩
  have := ofL_limb n hn
  unfold ofL at this
  constructor
  · intro h
    have h' := Int.ofNat_eq_zero.1 h
    rw [or_zero, or_zero, or_zero] at h'
    omega
  · intro h
    subst h
    rfl
theorem wU64_spec (n : Nat) (w : World) (hn : n < W256) :
    Ret 300 [wV n] w (fun v w' => v = .tuple #[.int .u64 ((if n < 18446744073709551616 then n else 0 : Nat) : Int), .bool (decide (n < 18446744073709551616))] ∧ Up w w') := by
  refine enter (n := 15) Hvaa.func300 rfl rfl (Nat.le_of_ble_eq_true rfl) ?_
  have U := Up.refl w
  refine c_seq (fun K1 hK1 => ?_)
  refine c_region ?_
  refine l_eff (e_boxV (et g0 rfl)) (fun v2 w2 h2 => ?_)
  obtain ⟨b2, rfl, n2⟩ := h2
  have f2 : w.heap.size ≤ b2 := Nat.le_trans U.size n2.fresh
  replace U := U.tr n2.up
  have k2 := n2.blk
  refine l_step y_assignC ?_
  refine l_step y_assignC ?_
  refine l_nil ?_
  refine hK1 _ _ ?_
  refine fg1 1 (gS rfl (gS rfl g0)) (fun g => ?_)
  refine c_seq (fun K3 hK3 => ?_)
  refine c_seq (fun K4 hK4 => ?_)
  refine c_region ?_
  refine l_step (y_idxAC 1 1 Hvaa.underlying65 sz_26 (et g0 rfl) rfl rfl rfl) ?_
  refine l_step (y_load1 one_26 (et g0 rfl) (at1 (k2.cell rfl))) ?_
  refine l_step (y_idxAC 2 2 Hvaa.underlying65 sz_26 (et (gS rfl (gS rfl g0)) rfl) rfl rfl rfl) ?_
  refine l_step (y_load1 one_26 (et g0 rfl) (at1 (k2.cell rfl))) ?_
  refine l_step (y_or uk64 (et (gS rfl (gS rfl g0)) rfl) (et g0 rfl) ?_ ?_) ?_
  exact limb_lt _ _
  exact limb_lt _ _
  refine l_step (y_idxAC 3 3 Hvaa.underlying65 sz_26 (et (gS rfl (gS rfl (gS rfl (gS rfl (gS rfl g0))))) rfl) rfl rfl rfl) ?_
  refine l_step (y_load1 one_26 (et g0 rfl) (at1 (k2.cell rfl))) ?_
  refine l_step (y_or uk64 (et (gS rfl (gS rfl g0)) rfl) (et g0 rfl) ?_ ?_) ?_
  exact or_lt64 (limb_lt _ _) (limb_lt _ _)
  exact limb_lt _ _
  refine l_step (y_neq (et g0 rfl) rfl) ?_
  refine l_nil ?_
  refine hK4 _ _ ?_
  refine fg2 1 12 (gS rfl (gS rfl (gS rfl (gS rfl (gS rfl (gS rfl (gS rfl (gS rfl (gS rfl g0))))))))) g0 (fun g => ?_)
  refine c_cond (et g0 rfl) (fun cB1 => ?_) (fun cB1 => ?_)
  · skip
    
    have cB2 := of_decide_eq_true cB1
    have cB3 : ¬ n < 18446744073709551616 := fun h => cB2 (by rw [limb1, limb2, limb3, Nat.div_eq_of_lt h, Nat.div_eq_of_lt (Nat.lt_trans h (by decide)), Nat.div_eq_of_lt (Nat.lt_trans h (by decide))]; rfl)
    refine c_seq (fun K6 hK6 => ?_)
    refine c_region ?_
    refine l_step y_assignC ?_
    refine l_step y_assignC ?_
    refine l_nil ?_
    refine hK6 _ _ ?_
    refine fg2 2 3 (gS rfl g0) g0 (fun g => ?_)
    refine c_ret ?_
    refine ret2 rfl (res_tmp (et (gS rfl g0) rfl)) (res_tmp (et g0 rfl)) ?_
    refine ⟨?_, U⟩
    rw [if_neg cB3, decide_eq_false cB3]; rfl
  · skip
    
    have cB2 := Classical.not_not.1 (of_decide_eq_false cB1)
    have cB4 := Int.ofNat_eq_zero.1 cB2
    rw [or_zero, or_zero] at cB4
    have cB3 : n < 18446744073709551616 := by
      have := ofL_limb n hn
      unfold ofL at this
      have := limb_lt n 0
      omega
    refine c_skip ?_
    refine hK3 _ _ ?_
    refine fg1 1 (gS rfl g0) (fun g => ?_)
    refine c_seq (fun K7 hK7 => ?_)
    refine c_region ?_
    refine l_step (y_idxAC 0 0 Hvaa.underlying65 sz_26 (et g0 rfl) rfl rfl rfl) ?_
    refine l_step (y_load1 one_26 (et g0 rfl) (at1 (k2.cell (wL_get n 0 (by decide))))) ?_
    refine l_step (y_assignV (et g0 rfl)) ?_
    refine l_step y_assignC ?_
    refine l_nil ?_
    refine hK7 _ _ ?_
    refine fg2 2 3 (gS rfl g0) g0 (fun g => ?_)
    refine c_ret ?_
    refine ret2 rfl (res_tmp (et (gS rfl g0) rfl)) (res_tmp (et g0 rfl)) ?_
    refine ⟨?_, U⟩
    rw [if_pos cB3, decide_eq_true cB3, limb0, Nat.mod_eq_of_lt cB3]
/-- the number of limbs in use -/
def IsLimbs (n k : Nat) : Prop := k ≤ 4 ∧ n < 18446744073709551616 ^ k ∧ (k ≠ 0 → 18446744073709551616 ^ (k - 1) ≤ n)
theorem limbs_top (n j : Nat) (h1 : n < 18446744073709551616 ^ (j + 1)) : (limb n j = 0 ↔ n < 18446744073709551616 ^ j) := by
  unfold limb
  have h2 : n / 18446744073709551616 ^ j < 18446744073709551616 := by
    rw [Nat.div_lt_iff_lt_mul (Nat.pow_pos (by decide)), Nat.mul_comm, ← Nat.pow_succ]; exact h1
  rw [Nat.mod_eq_of_lt h2]
  constructor
  · intro h
    rcases Nat.lt_or_ge n (18446744073709551616 ^ j) with h3 | h3
    · exact h3
    · have := Nat.div_pos h3 (Nat.pow_pos (by decide))
      omega
  · intro h; exact Nat.div_eq_of_lt h
theorem wLimbs_spec (n : Nat) (w : World) (hn : n < W256) :
    Ret 252 [wV n] w (fun v w' => ∃ k : Nat, v = .int .u8 k ∧ IsLimbs n k ∧ Up w w') := by
  refine enter (n := 16) Hvaa.func252 rfl rfl (Nat.le_of_ble_eq_true rfl) ?_
  have U := Up.refl w
  refine c_seq (fun K1 hK1 => ?_)
  refine c_region ?_
  refine l_eff (e_boxV (et g0 rfl)) (fun v2 w2 h2 => ?_)
  obtain ⟨b2, rfl, n2⟩ := h2
  have f2 : w.heap.size ≤ b2 := Nat.le_trans U.size n2.fresh
  replace U := U.tr n2.up
  have k2 := n2.blk
  refine l_step y_assignC ?_
  refine l_nil ?_
  refine hK1 _ _ ?_
  refine fg1 1 (gS rfl g0) (fun g => ?_)
  refine c_seq (fun K3 hK3 => ?_)
  refine c_region ?_
  refine l_step y_assignC ?_
  refine l_nil ?_
  refine hK3 _ _ ?_
  refine c_seq (fun K4 hK4 => ?_)
  refine c_block (fun Q5 hQ5 => ?_)
  refine fg2 1 3 (gS rfl g0) g0 (fun g => ?_)
  refine c_loop (fun k s W6 => ∃ (g : Nat → Value) (j : Nat), s = (upd (upd g 1 (.pointer (some ⟨b2, 0, none⟩))) 3 (.int .u8 (j : Nat))) ∧ j = k ∧ j ≤ 4 ∧ n < 18446744073709551616 ^ j ∧ Blk W6 b2 (wL n).toArray ∧ Up w W6) (4) ?_ ?_
  · exact ⟨g, 4, rfl, rfl, by decide, hn, k2, U⟩
  · skip
    intro k s W6 hI K6 hK6
    obtain ⟨g, j, rfl, rfl, hj, hlt, k2, U⟩ := hI
    refine c_seq (fun K7 hK7 => ?_)
    refine c_seq (fun K8 hK8 => ?_)
    refine c_region ?_
    refine l_step (y_moveV (et g0 rfl)) ?_
    refine l_step (y_gtr (et g0 rfl) rfl) ?_
    refine l_step (y_moveV (et g0 rfl)) ?_
    refine gsplitL (i := 6) g0 (fun q9 => ?_) (fun q9 => ?_)
    · skip
      have hj0 : 0 < j := by have := of_decide_eq_true q9; omega
      have htop := limbs_top n (j - 1) (by rw [show j - 1 + 1 = j from by omega]; exact hlt)
      refine l_gstep (j := 2) (t := 6) (by exact rfl) (by exact rfl) (et g0 rfl) (by decide) (y_moveV (et (gS rfl (gS rfl (gS rfl (gS rfl g0)))) rfl)) ?_
      refine l_gstep (j := 2) (t := 6) (by exact rfl) (by exact rfl) (et (gS rfl g0) rfl) (by decide) (y_sub (et g0 rfl) rfl (wrapU_subN (b := 1) uk8 ?_ ?_)) ?_
      omega
      omega
      refine l_gstep (j := 2) (t := 6) (by exact rfl) (by exact rfl) (et (gS rfl (gS rfl g0)) rfl) (by decide) (y_idxA Hvaa.underlying65 sz_26 (et (gS rfl (gS rfl (gS rfl (gS rfl (gS rfl (gS rfl (gS rfl g0))))))) rfl) (et g0 rfl) ?_ ?_) ?_
      omega
      omega
      refine l_gstep (j := 2) (t := 6) (by exact rfl) (by exact rfl) (et (gS rfl (gS rfl (gS rfl g0))) rfl) (by decide) (y_load1 one_26 (et g0 rfl) (at1 (k2.cell (by simpa using wL_get n (j - 1) (by omega))))) ?_
      refine l_gstep (j := 2) (t := 6) (by exact rfl) (by exact rfl) (et (gS rfl (gS rfl (gS rfl (gS rfl g0)))) rfl) (by decide) (y_eql (et g0 rfl) rfl) ?_
      refine l_step (y_pickT (et (gS rfl (gS rfl (gS rfl (gS rfl (gS rfl g0))))) rfl) (et g0 rfl)) ?_
      refine l_nil ?_
      refine hK8 _ _ ?_
      refine fg3 1 3 12 (gS rfl (gS rfl (gS rfl (gS rfl (gS rfl (gS rfl (gS rfl (gS rfl (gS rfl (gS rfl (gS rfl g0))))))))))) (gS rfl (gS rfl (gS rfl (gS rfl (gS rfl (gS rfl (gS rfl (gS rfl (gS rfl (gS rfl g0)))))))))) g0 (fun g => ?_)
      refine c_cond (et g0 rfl) (fun cB1 => ?_) (fun cB1 => ?_)
      · skip
        
        have hz : n < 18446744073709551616 ^ (j - 1) := htop.1 (Int.ofNat_eq_zero.1 (of_decide_eq_true cB1))
        refine c_skip ?_
        refine hK7 _ _ ?_
        refine fg2 1 3 (gS rfl (gS rfl g0)) (gS rfl g0) (fun g => ?_)
        refine c_block (fun Q11 hQ11 => ?_)
        refine c_region ?_
        refine l_step (y_moveV (et g0 rfl)) ?_
        refine l_step (y_sub (et g0 rfl) rfl (wrapU_subN (b := 1) uk8 ?_ ?_)) ?_
        omega
        omega
        refine l_step (y_assignV (et g0 rfl)) ?_
        refine l_nil ?_
        refine hQ11 _ _ _ (in_normal ?_)
        refine fK2 1 3 (gS rfl (gS rfl (gS rfl (gS rfl g0)))) g0 (fun g => ?_)
        exact hK6 (j - 1) _ _ (by omega) ⟨g, j - 1, rfl, rfl, by omega, hz, k2, U⟩
      · skip
        
        refine c_exit ?_
        refine hQ5 _ _ _ (in_exit ?_)
        refine hK4 _ _ ?_
        refine fg1 3 (gS rfl g0) (fun g => ?_)
        refine c_seq (fun K12 hK12 => ?_)
        refine c_region ?_
        refine l_step (y_moveV (et g0 rfl)) ?_
        refine l_step (y_assignV (et g0 rfl)) ?_
        refine l_nil ?_
        refine hK12 _ _ ?_
        refine fg1 2 g0 (fun g => ?_)
        refine c_ret ?_
        refine ret1 rfl (res_tmp (et g0 rfl)) ?_
        refine ⟨j, rfl, ⟨hj, hlt, fun h0 => ?_⟩, U⟩
        first
          | (exact absurd hj0 h0; done)
          | (rcases Nat.lt_or_ge n (18446744073709551616 ^ (j - 1)) with h3 | h3
             · exact absurd (Int.ofNat_eq_zero.2 (htop.2 h3)) (of_decide_eq_false cB1)
             · exact h3)
    · skip
      have hj0 : j = 0 := by have := of_decide_eq_false q9; omega
      refine l_gskip (j := 2) (t := 6) (by exact rfl) (by exact rfl) (et g0 rfl) (by decide) (by decide) ?_
      refine l_gskip (j := 2) (t := 6) (by exact rfl) (by exact rfl) (et (gS rfl g0) rfl) (by decide) (by decide) ?_
      refine l_gskip (j := 2) (t := 6) (by exact rfl) (by exact rfl) (et (gS rfl (gS rfl g0)) rfl) (by decide) (by decide) ?_
      refine l_gskip (j := 2) (t := 6) (by exact rfl) (by exact rfl) (et (gS rfl (gS rfl (gS rfl g0))) rfl) (by decide) (by decide) ?_
      refine l_gskip (j := 2) (t := 6) (by exact rfl) (by exact rfl) (et (gS rfl (gS rfl (gS rfl (gS rfl g0)))) rfl) (by decide) (by decide) ?_
      refine l_step (y_pickF (et (gS rfl (gS rfl (gS rfl (gS rfl (gS rfl g0))))) rfl) rfl) ?_
      refine l_nil ?_
      refine hK8 _ _ ?_
      refine fg3 1 3 12 (gS rfl (gS rfl (gS rfl (gS rfl (gS rfl (gS rfl (gS rfl (gS rfl (gS rfl (gS rfl (gS rfl g0))))))))))) (gS rfl (gS rfl (gS rfl (gS rfl (gS rfl (gS rfl (gS rfl (gS rfl (gS rfl (gS rfl g0)))))))))) g0 (fun g => ?_)
      refine c_false (et g0 rfl) rfl ?_
      refine c_exit ?_
      refine hQ5 _ _ _ (in_exit ?_)
      refine hK4 _ _ ?_
      refine fg1 3 (gS rfl g0) (fun g => ?_)
      refine c_seq (fun K14 hK14 => ?_)
      refine c_region ?_
      refine l_step (y_moveV (et g0 rfl)) ?_
      refine l_step (y_assignV (et g0 rfl)) ?_
      refine l_nil ?_
      refine hK14 _ _ ?_
      refine fg1 2 g0 (fun g => ?_)
      refine c_ret ?_
      refine ret1 rfl (res_tmp (et g0 rfl)) ?_
      refine ⟨j, rfl, ⟨hj, hlt, fun h0 => ?_⟩, U⟩
      first
        | (exact absurd hj0 h0; done)
        | (rcases Nat.lt_or_ge n (18446744073709551616 ^ (j - 1)) with h3 | h3
           · exact absurd (Int.ofNat_eq_zero.2 (htop.2 h3)) (of_decide_eq_false cB1)
           · exact h3)
end Go.Proofs.YgvaawGreat
