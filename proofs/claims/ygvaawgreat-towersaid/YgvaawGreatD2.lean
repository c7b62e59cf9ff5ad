import Derived.Test.YgvaawGreatLst
set_option maxRecDepth 100000
set_option linter.unusedSimpArgs false
set_option linter.unusedVariables false
namespace Go.Proofs.YgvaawGreat
open Go
theorem div64_spec (hi lo y : Nat) (w : World) (hlo : lo < 18446744073709551616) (hy : y < 18446744073709551616) (hhy : hi < y) :
    Ret 370 [.int .u64 hi, .int .u64 lo, .int .u64 y] w (fun v w' => v = .tuple #[.int .u64 (((hi * 18446744073709551616 + lo) / y : Nat) : Int), .int .u64 (((hi * 18446744073709551616 + lo) % y : Nat) : Int), .bool true] ∧ Up w w') := by
  refine enter (n := 25) Hvaa.func370 rfl rfl (Nat.le_of_ble_eq_true rfl) ?_
  have U := Up.refl w
  refine c_seq (fun K1 hK1 => ?_)
  refine c_region ?_
  refine l_step y_assignC ?_
  refine l_step y_assignC ?_
  refine l_step y_assignC ?_
  refine l_nil ?_
  refine hK1 _ _ ?_
  refine fg3 2 1 0 (gS rfl (gS rfl (gS rfl (gS rfl (gS rfl g0))))) (gS rfl (gS rfl (gS rfl (gS rfl g0)))) (gS rfl (gS rfl (gS rfl g0))) (fun g => ?_)
  refine c_seq (fun K2 hK2 => ?_)
  refine c_seq (fun K3 hK3 => ?_)
  refine c_region ?_
  refine l_step (y_moveV (et (gS rfl (gS rfl g0)) rfl)) ?_
  refine l_step (y_eql (et g0 rfl) rfl) ?_
  refine l_step (y_moveV (et g0 rfl)) ?_
  refine gsplitL (i := 11) g0 (fun q4 => ?_) (fun q4 => ?_)
  · skip
    exact absurd (of_decide_eq_true q4) (by omega)
  · skip
    refine l_gstep (j := 2) (t := 11) (by exact rfl) (by exact rfl) (et g0 rfl) (by decide) (y_moveV (et (gS rfl (gS rfl (gS rfl (gS rfl g0)))) rfl)) ?_
    refine l_gstep (j := 2) (t := 11) (by exact rfl) (by exact rfl) (et (gS rfl g0) rfl) (by decide) (y_moveV (et (gS rfl (gS rfl (gS rfl (gS rfl (gS rfl (gS rfl (gS rfl g0))))))) rfl)) ?_
    refine l_gstep (j := 2) (t := 11) (by exact rfl) (by exact rfl) (et (gS rfl (gS rfl g0)) rfl) (by decide) (y_geq (et (gS rfl g0) rfl) (et g0 rfl)) ?_
    refine l_step (y_pickF (et (gS rfl (gS rfl (gS rfl g0))) rfl) (et g0 rfl)) ?_
    refine l_nil ?_
    refine hK3 _ _ ?_
    refine fg4 2 1 0 15 (gS rfl (gS rfl (gS rfl (gS rfl (gS rfl (gS rfl (gS rfl (gS rfl (gS rfl (gS rfl g0)))))))))) (gS rfl (gS rfl (gS rfl (gS rfl (gS rfl (gS rfl (gS rfl (gS rfl (gS rfl g0))))))))) (gS rfl (gS rfl (gS rfl (gS rfl (gS rfl (gS rfl (gS rfl (gS rfl g0)))))))) g0 (fun g => ?_)
    refine c_cond (et g0 rfl) (fun cB1 => ?_) (fun cB1 => ?_)
    · skip
      
      exact absurd (of_decide_eq_true cB1) (by omega)
    · skip
      
      refine c_skip ?_
      refine hK2 _ _ ?_
      refine fg3 2 1 0 (gS rfl (gS rfl (gS rfl g0))) (gS rfl (gS rfl g0)) (gS rfl g0) (fun g => ?_)
      refine c_seq (fun K6 hK6 => ?_)
      refine c_region ?_
      refine l_step (y_moveV (et g0 rfl)) ?_
      refine l_step (y_moveV (et (gS rfl (gS rfl g0)) rfl)) ?_
      refine l_step (y_moveV (et (gS rfl (gS rfl (gS rfl (gS rfl g0)))) rfl)) ?_
      refine l_eff (e_callV cal_407 (aC (et (gS rfl (gS rfl g0)) rfl) (aC (et (gS rfl g0) rfl) (aC (et g0 rfl) aN))) (bdiv64_spec _ _ _ _ (by assumption) (by assumption) (by assumption))) (fun v7 w7 h7 => ?_)
      obtain ⟨rfl, u7⟩ := h7
      replace U := U.tr u7
      refine l_step (y_moveV (et g0 rfl)) ?_
      refine l_step (y_ext (et g0 rfl) rfl) ?_
      refine l_step (y_ext (et (gS rfl g0) rfl) rfl) ?_
      refine l_step (y_assignV (et (gS rfl g0) rfl)) ?_
      refine l_step (y_assignV (et (gS rfl g0) rfl)) ?_
      refine l_nil ?_
      refine hK6 _ _ ?_
      refine fg2 6 7 (gS rfl g0) g0 (fun g => ?_)
      refine c_seq (fun K8 hK8 => ?_)
      refine c_region ?_
      refine l_step (y_moveV (et (gS rfl g0) rfl)) ?_
      refine l_step (y_moveV (et (gS rfl g0) rfl)) ?_
      refine l_step (y_assignV (et (gS rfl g0) rfl)) ?_
      refine l_step (y_assignV (et (gS rfl g0) rfl)) ?_
      refine l_step y_assignC ?_
      refine l_nil ?_
      refine hK8 _ _ ?_
      refine fg3 6 7 8 (gS rfl (gS rfl g0)) (gS rfl g0) g0 (fun g => ?_)
      refine c_ret ?_
      refine ret3 rfl (res_tmp (et (gS rfl (gS rfl g0)) rfl)) (res_tmp (et (gS rfl g0) rfl)) (res_tmp (et g0 rfl)) ?_
      exact ⟨rfl, U⟩
theorem div_step (r x y V D : Nat) (hy : 0 < y) (h : V = y * D + r) (hr : r < y) : x + 18446744073709551616 * V = y * ((r * 18446744073709551616 + x) / y + 18446744073709551616 * D) + (r * 18446744073709551616 + x) % y := by
  have := Nat.div_add_mod (r * 18446744073709551616 + x) y
  subst h
  grind
theorem div_dig (r x y : Nat) (hx : x < 18446744073709551616) (hr : r < y) : (r * 18446744073709551616 + x) / y < 18446744073709551616 := by
  rw [Nat.div_lt_iff_lt_mul (by omega)]
  have : (r + 1) * 18446744073709551616 ≤ y * 18446744073709551616 := Nat.mul_le_mul_right _ hr
  rw [Nat.mul_comm 18446744073709551616 y]; omega
theorem short_spec (b y : Nat) (M R : List Nat) (w : World) (hlen : M.length + R.length = 8) (hdig : Dig 18446744073709551616 M) (hy0 : 0 < y) (hy : y < 18446744073709551616) (kB : Blk w b (uL (M ++ R)).toArray) :
    Ret 420 [.pointer (some ⟨b, 0, none⟩), .int .u8 M.length, .int .u64 y] w (fun v w' => ∃ (r : Nat) (D : List Nat), v = .int .u64 r ∧ val 18446744073709551616 M = y * val 18446744073709551616 D + r ∧ r < y ∧ D.length = M.length ∧ Dig 18446744073709551616 D ∧ Blk w' b (uL (D ++ R)).toArray ∧ Ch (fun k => k = b) w w') := by
  have lB := kB.lt
  have hl8 := hlen
  refine enter (n := 38) Hvaa.func420 rfl rfl (Nat.le_of_ble_eq_true rfl) ?_
  have U : Ch (fun k => k = b) w w := Ch.refl _ w
  refine c_seq (fun K1 hK1 => ?_)
  refine c_region ?_
  refine l_step y_assignC ?_
  refine l_nil ?_
  refine hK1 _ _ ?_
  refine fg3 2 1 0 (gS rfl (gS rfl (gS rfl g0))) (gS rfl (gS rfl g0)) (gS rfl g0) (fun g => ?_)
  refine c_seq (fun K2 hK2 => ?_)
  refine c_region ?_
  refine l_step y_assignC ?_
  refine l_nil ?_
  refine hK2 _ _ ?_
  refine c_seq (fun K3 hK3 => ?_)
  refine c_seq (fun K4 hK4 => ?_)
  refine c_region ?_
  refine l_step (y_moveV (et (gS rfl (gS rfl g0)) rfl)) ?_
  refine l_step (y_assignV (et g0 rfl)) ?_
  refine l_nil ?_
  refine hK4 _ _ ?_
  refine fg4 2 0 7 8 (gS rfl (gS rfl (gS rfl (gS rfl (gS rfl g0))))) (gS rfl (gS rfl (gS rfl g0))) (gS rfl (gS rfl g0)) g0 (fun g => ?_)
  refine c_block (fun Q5 hQ5 => ?_)
  refine fg4 0 2 7 8 (gS rfl (gS rfl g0)) (gS rfl (gS rfl (gS rfl g0))) (gS rfl g0) g0 (fun g => ?_)
  refine c_loop (fun k_ s_ W6 => ∃ (g : Nat → Value) (rest T D : List Nat) (r : Nat), s_ = (upd (upd (upd (upd g 0 (.pointer (some ⟨b, 0, none⟩))) 2 (.int .u64 (y : Nat))) 7 (.int .u64 (r : Nat))) 8 (.int .u8 (rest.length : Nat))) ∧ rest.length = k_ ∧ (rest ++ T = M) ∧ (val 18446744073709551616 T = y * val 18446744073709551616 D + r) ∧ (r < y) ∧ (D.length = T.length) ∧ (Dig 18446744073709551616 D) ∧ Blk W6 b ((uL (rest ++ (D ++ R))).toArray) ∧ Ch (fun k => k = b) w W6) ((M).length) ?_ ?_
  · exact ⟨g, M, [], [], 0, rfl, rfl, by simp, by simp [val], hy0, rfl, Dig.nil _, kB, Ch.refl _ _⟩
  · skip
    intro k_ s_ W6 hI K6 hK6
    obtain ⟨g, rest, T, D, r, rfl, rfl, hM, hT, hr, hDl, hD, nkB, V6⟩ := hI
    replace kB := nkB
    replace U := U.cc V6 (by intro b hb; first | exact hb.elim | omega | (simp at hb ⊢; omega))
    have hlen := congrArg List.length hM
    simp only [List.length_append] at hlen
    have hdM : Dig 18446744073709551616 (rest ++ T) := hM ▸ hdig
    refine c_seq (fun K7 hK7 => ?_)
    refine c_seq (fun K8 hK8 => ?_)
    refine c_region ?_
    refine l_step (y_moveV (et g0 rfl)) ?_
    refine l_step (y_gtr (et g0 rfl) rfl) ?_
    refine l_nil ?_
    refine hK8 _ _ ?_
    refine fg5 0 2 7 8 14 (gS rfl (gS rfl (gS rfl (gS rfl (gS rfl g0))))) (gS rfl (gS rfl (gS rfl (gS rfl g0)))) (gS rfl (gS rfl (gS rfl g0))) (gS rfl (gS rfl g0)) g0 (fun g => ?_)
    refine c_cond (et g0 rfl) (fun cB1 => ?_) (fun cB1 => ?_)
    · skip
      
      obtain ⟨rest', x, rfl⟩ := snoc_of_len (l := rest) (by have := of_decide_eq_true cB1; omega)
      replace kB : Blk W6 b (uL (rest' ++ x :: (D ++ R))).toArray := by simpa using kB
      have hx := hdM.left.right.head
      simp only [List.length_append, List.length_cons, List.length_nil] at hlen
      refine c_skip ?_
      refine hK7 _ _ ?_
      refine fg4 0 2 7 8 (gS rfl (gS rfl (gS rfl (gS rfl g0)))) (gS rfl (gS rfl (gS rfl g0))) (gS rfl (gS rfl g0)) (gS rfl g0) (fun g => ?_)
      refine c_seq (fun K10 hK10 => ?_)
      refine c_block (fun Q11 hQ11 => ?_)
      refine c_seq (fun K12 hK12 => ?_)
      refine c_region ?_
      refine l_step (y_moveV (et (gS rfl g0) rfl)) ?_
      refine l_step (y_moveV (et (gS rfl (gS rfl (gS rfl (gS rfl g0)))) rfl)) ?_
      refine l_step (y_moveV (et (gS rfl (gS rfl g0)) rfl)) ?_
      refine l_step (y_sub (et g0 rfl) rfl (wrapU_subN (b := 1) uk8 ?_ ?_)) ?_
      simp
      (simp; omega)
      refine l_step (y_nil (et (gS rfl (gS rfl g0)) rfl)) ?_
      refine l_step (y_idxA Hvaa.underlying68 sz_26 (et g0 rfl) (et (gS rfl g0) rfl) ?_ ?_) ?_
      exact Int.natCast_nonneg _
      (simp; omega)
      refine l_step (y_load1 one_26 (et g0 rfl) (at1 (kB.cell (uL_get rest' x _ _ (by simp))))) ?_
      refine l_step (y_moveV (et (gS rfl (gS rfl (gS rfl (gS rfl (gS rfl (gS rfl (gS rfl (gS rfl (gS rfl g0))))))))) rfl)) ?_
      refine l_eff (e_callV cal_370 (aC (et (gS rfl (gS rfl (gS rfl (gS rfl (gS rfl (gS rfl (gS rfl g0))))))) rfl) (aC (et (gS rfl g0) rfl) (aC (et g0 rfl) aN))) (div64_spec _ _ _ _ (by assumption) (by assumption) (by assumption))) (fun v13 w13 h13 => ?_)
      obtain ⟨rfl, u13⟩ := h13
      replace kB := kB.up u13
      replace U := U.tr u13
      replace V6 := V6.tr u13
      refine l_step (y_moveV (et g0 rfl)) ?_
      refine l_step (y_ext (et g0 rfl) rfl) ?_
      refine l_step (y_ext (et (gS rfl g0) rfl) rfl) ?_
      refine l_step (y_ext (et (gS rfl (gS rfl g0)) rfl) rfl) ?_
      refine l_step (y_assignV (et (gS rfl (gS rfl g0)) rfl)) ?_
      refine l_step (y_assignV (et (gS rfl (gS rfl g0)) rfl)) ?_
      refine l_step (y_assignV (et (gS rfl (gS rfl g0)) rfl)) ?_
      refine l_nil ?_
      refine hK12 _ _ ?_
      refine fg5 0 2 8 9 10 (gS rfl (gS rfl (gS rfl (gS rfl (gS rfl (gS rfl (gS rfl (gS rfl (gS rfl (gS rfl (gS rfl (gS rfl (gS rfl (gS rfl (gS rfl (gS rfl (gS rfl (gS rfl (gS rfl g0))))))))))))))))))) (gS rfl (gS rfl (gS rfl (gS rfl (gS rfl (gS rfl (gS rfl (gS rfl (gS rfl (gS rfl (gS rfl (gS rfl (gS rfl (gS rfl (gS rfl (gS rfl (gS rfl (gS rfl g0)))))))))))))))))) (gS rfl (gS rfl (gS rfl (gS rfl (gS rfl (gS rfl (gS rfl (gS rfl (gS rfl (gS rfl (gS rfl (gS rfl (gS rfl (gS rfl (gS rfl (gS rfl g0)))))))))))))))) (gS rfl (gS rfl g0)) (gS rfl g0) (fun g => ?_)
      refine c_seq (fun K14 hK14 => ?_)
      refine c_region ?_
      refine l_step (y_moveV (et (gS rfl (gS rfl (gS rfl (gS rfl g0)))) rfl)) ?_
      refine l_step (y_moveV (et (gS rfl (gS rfl (gS rfl g0))) rfl)) ?_
      refine l_step (y_sub (et g0 rfl) rfl (wrapU_subN (b := 1) uk8 ?_ ?_)) ?_
      simp
      (simp; omega)
      refine l_step (y_moveV (et (gS rfl (gS rfl (gS rfl (gS rfl g0)))) rfl)) ?_
      refine l_step (y_nil (et (gS rfl (gS rfl (gS rfl g0))) rfl)) ?_
      refine l_step (y_idxA Hvaa.underlying68 sz_26 (et g0 rfl) (et (gS rfl (gS rfl g0)) rfl) ?_ ?_) ?_
      exact Int.natCast_nonneg _
      (simp; omega)
      refine l_effN (e_store sz_26 (et g0 rfl) (cellsV (et (gS rfl (gS rfl g0)) rfl) rfl) rfl (by first | exact one_bL _ | exact one_uL _ | (intro v hv; simp at hv; subst hv; rfl)) kB (by (simp only [size_uL, List.length_append, List.length_cons, List.length_nil]; omega))) (fun v15 w15 h15 => ?_)
      obtain ⟨rfl, x15⟩ := h15
      replace kB := x15.blk
      replace U := U.st x15 (.inl (by first | rfl | (simp; done)))
      replace V6 := V6.st x15 (by omega)
      replace kB := kB.setU (by simp)
      refine l_nil ?_
      refine hK14 _ _ ?_
      refine fg4 0 2 8 10 (gS rfl (gS rfl (gS rfl (gS rfl (gS rfl (gS rfl (gS rfl (gS rfl (gS rfl (gS rfl g0)))))))))) (gS rfl (gS rfl (gS rfl (gS rfl (gS rfl (gS rfl (gS rfl (gS rfl (gS rfl g0))))))))) (gS rfl (gS rfl (gS rfl (gS rfl (gS rfl (gS rfl (gS rfl (gS rfl g0)))))))) (gS rfl (gS rfl (gS rfl (gS rfl (gS rfl (gS rfl g0)))))) (fun g => ?_)
      refine c_region ?_
      refine l_step (y_moveV (et g0 rfl)) ?_
      refine l_step (y_assignV (et g0 rfl)) ?_
      refine l_nil ?_
      refine hQ11 _ _ _ (in_normal ?_)
      refine hK10 _ _ ?_
      refine fg4 0 2 8 7 (gS rfl (gS rfl (gS rfl (gS rfl (gS rfl g0))))) (gS rfl (gS rfl (gS rfl (gS rfl g0)))) (gS rfl (gS rfl (gS rfl g0))) g0 (fun g => ?_)
      refine c_region ?_
      refine l_step (y_moveV (et (gS rfl g0) rfl)) ?_
      refine l_step (y_sub (et g0 rfl) rfl ((wrapU_subN (b := 1) uk8 ?_ ?_).trans (castE (show (rest' ++ [x]).length - 1 = rest'.length by simp)))) ?_
      simp
      (simp; omega)
      refine l_step (y_assignV (et g0 rfl)) ?_
      refine l_nil ?_
      refine fK4 0 2 7 8 (gS rfl (gS rfl (gS rfl (gS rfl (gS rfl (gS rfl g0)))))) (gS rfl (gS rfl (gS rfl (gS rfl (gS rfl g0))))) (gS rfl (gS rfl (gS rfl g0))) g0 (fun g => ?_)
      exact hK6 ((rest').length) _ _ (by simp) ⟨g, rest', (x :: T), _, _, rfl, rfl, by simpa using hM, by rw [val_cons, val_cons]; exact div_step r x y _ _ hy0 hT hr, Nat.mod_lt _ hy0, by simp [hDl], Dig.cons (div_dig r x y hx hr) hD, kB, V6⟩
    · skip
      
      have hr0 : rest = [] := List.eq_nil_of_length_eq_zero (by have := of_decide_eq_false cB1; omega)
      subst hr0
      refine c_exit ?_
      refine hQ5 _ _ _ (in_exit ?_)
      refine hK3 _ _ ?_
      refine fg1 7 (gS rfl (gS rfl g0)) (fun g => ?_)
      refine c_seq (fun K16 hK16 => ?_)
      refine c_region ?_
      refine l_step (y_moveV (et g0 rfl)) ?_
      refine l_step (y_assignV (et g0 rfl)) ?_
      refine l_nil ?_
      refine hK16 _ _ ?_
      refine fg1 6 g0 (fun g => ?_)
      refine c_ret ?_
      refine ret1 rfl (res_tmp (et g0 rfl)) ?_
      refine ⟨r, D, rfl, ?_, hr, ?_, hD, kB, U⟩
      · rw [← hM]; exact hT
      · rw [hDl, ← hM]; rfl
theorem shl_split (x s : Nat) (hs : s ≤ 64) : x * 2 ^ s = x * 2 ^ s % 18446744073709551616 + 18446744073709551616 * (x / 2 ^ (64 - s)) := by
  have e2 : x * 2 ^ s / 18446744073709551616 = x / 2 ^ (64 - s) := by
    rw [show (18446744073709551616 : Nat) = 2 ^ (64 - s) * 2 ^ s by rw [← Nat.pow_add, show 64 - s + s = 64 by omega], Nat.mul_div_mul_right _ _ (Nat.two_pow_pos s)]
  rw [← e2]
  have := Nat.div_add_mod (x * 2 ^ s) 18446744073709551616
  omega
theorem up_new (x s c : Nat) (hs : s < 64) (hc : c < 2 ^ s) : x * 2 ^ s % 18446744073709551616 + c < 18446744073709551616 := by
  have h1 := @rot_hi x s hs
  have h2 : x * 2 ^ s % 18446744073709551616 < 18446744073709551616 := Nat.mod_lt _ (by decide)
  have h3 : (18446744073709551616 : Nat) = 2 ^ s * 2 ^ (64 - s) := by rw [← Nat.pow_add, show s + (64 - s) = 64 by omega]
  generalize x * 2 ^ s % 18446744073709551616 = z at *
  have h4 := Nat.div_add_mod z (2 ^ s)
  rw [h1, Nat.add_zero] at h4
  have h5 : z / 2 ^ s < 2 ^ (64 - s) := Nat.div_lt_of_lt_mul (by rw [← h3]; exact h2)
  have h6 : 2 ^ s * (z / 2 ^ s + 1) ≤ 2 ^ s * 2 ^ (64 - s) := Nat.mul_le_mul_left _ h5
  rw [Nat.mul_add, h4, Nat.mul_one, ← h3] at h6
  omega
theorem up_step (vd c t vt x s : Nat) (hs : s ≤ 64) (h : vd + c * t = vt * 2 ^ s) : vd + t * (x * 2 ^ s % 18446744073709551616 + c) + x / 2 ^ (64 - s) * (t * 18446744073709551616) = (vt + t * x) * 2 ^ s := by
  have h1 := shl_split x s hs
  have h2 : t * (x * 2 ^ s) = t * (x * 2 ^ s % 18446744073709551616) + t * (18446744073709551616 * (x / 2 ^ (64 - s))) := by rw [← Nat.mul_add, ← h1]
  rw [Nat.add_mul, ← h, Nat.mul_assoc t x, h2, Nat.mul_add]
  generalize x * 2 ^ s % 18446744073709551616 = p
  generalize x / 2 ^ (64 - s) = q
  grind
theorem shiftUp_spec (b o cap s : Nat) (L M R : List Nat) (w : World) (hs : s < 64) (ho : o = L.length) (hlm : M.length < 1000000) (hdig : Dig 18446744073709551616 M) (kB : Blk w b (uL (L ++ (M ++ R))).toArray) :
    Ret 402 [.slice (some ⟨b, o, none⟩) M.length cap, .int .u8 s] w (fun v w' => v = .tuple #[] ∧ ∃ (D : List Nat) (c : Nat), D.length = M.length ∧ Dig 18446744073709551616 D ∧ c < 2 ^ s ∧ val 18446744073709551616 D + c * 18446744073709551616 ^ M.length = val 18446744073709551616 M * 2 ^ s ∧ Blk w' b (uL (L ++ (D ++ R))).toArray ∧ Ch (fun k => k = b) w w') := by
  have lB := kB.lt
  refine enter (n := 29) Hvaa.func402 rfl rfl (Nat.le_of_ble_eq_true rfl) ?_
  have U : Ch (fun k => k = b) w w := Ch.refl _ w
  refine c_seq (fun K1 hK1 => ?_)
  refine c_seq (fun K2 hK2 => ?_)
  refine c_region ?_
  refine l_step (y_moveV (et (gS rfl g0) rfl)) ?_
  refine l_step (y_geq (et g0 rfl) rfl) ?_
  refine l_nil ?_
  refine hK2 _ _ ?_
  refine fg3 1 0 8 (gS rfl (gS rfl (gS rfl g0))) (gS rfl (gS rfl g0)) g0 (fun g => ?_)
  refine c_false (et g0 rfl) (by exact decide_eq_false (by omega)) ?_
  refine c_skip ?_
  refine hK1 _ _ ?_
  refine fg2 1 0 (gS rfl (gS rfl g0)) (gS rfl g0) (fun g => ?_)
  refine c_seq (fun K4 hK4 => ?_)
  refine c_region ?_
  refine l_step y_assignC ?_
  refine l_nil ?_
  refine hK4 _ _ ?_
  refine c_seq (fun K5 hK5 => ?_)
  refine c_region ?_
  refine l_step (y_moveV (et (gS rfl g0) rfl)) ?_
  refine l_step (y_len Hvaa.underlying317 (et g0 rfl)) ?_
  refine l_step y_moveC ?_
  refine l_nil ?_
  refine hK5 _ _ ?_
  refine c_block (fun Q6 hQ6 => ?_)
  refine fg6 0 1 4 9 10 11 (gS rfl (gS rfl (gS rfl (gS rfl g0)))) (gS rfl (gS rfl (gS rfl (gS rfl (gS rfl g0))))) (gS rfl (gS rfl (gS rfl g0))) (gS rfl (gS rfl g0)) (gS rfl g0) g0 (fun g => ?_)
  refine c_loop (fun k_ s_ W7 => ∃ (g : Nat → Value) (T rest D : List Nat) (c : Nat), s_ = (upd (upd (upd (upd (upd (upd g 0 (.slice (some ⟨b, o, none⟩) M.length cap)) 1 (.int .u8 (s : Nat))) 4 (.int .u64 (c : Nat))) 9 (.slice (some ⟨b, o, none⟩) M.length cap)) 10 (.int .i64 (M.length : Nat))) 11 (.int .i64 (T.length : Nat))) ∧ rest.length = k_ ∧ (T ++ rest = M) ∧ (D.length = T.length) ∧ (Dig 18446744073709551616 D) ∧ (c < 2 ^ s) ∧ (val 18446744073709551616 D + c * 18446744073709551616 ^ T.length = val 18446744073709551616 T * 2 ^ s) ∧ Blk W7 b ((uL (L ++ (D ++ (rest ++ R)))).toArray) ∧ Ch (fun k => k = b) w W7) ((M).length) ?_ ?_
  · exact ⟨g, [], M, [], 0, rfl, rfl, by simp, rfl, Dig.nil _, Nat.two_pow_pos s, by simp [val], kB, Ch.refl _ _⟩
  · skip
    intro k_ s_ W7 hI K7 hK7
    obtain ⟨g, T, rest, D, c, rfl, rfl, hM, hDl, hD, hc, hv, nkB, V7⟩ := hI
    replace kB := nkB
    replace U := U.cc V7 (by intro b hb; first | exact hb.elim | omega | (simp at hb ⊢; omega))
    have hlen := congrArg List.length hM
    simp only [List.length_append] at hlen
    have hdM : Dig 18446744073709551616 (T ++ rest) := hM ▸ hdig
    refine c_seq (fun K8 hK8 => ?_)
    refine c_region ?_
    refine l_step (y_lss (et g0 rfl) (et (gS rfl g0) rfl)) ?_
    refine l_nil ?_
    refine hK8 _ _ ?_
    refine c_seq (fun K9 hK9 => ?_)
    refine c_cond (et g0 rfl) (fun cB2 => ?_) (fun cB2 => ?_)
    · skip
      
      have hr0 : T.length < M.length := by have := of_decide_eq_true cB2; omega
      obtain ⟨x, rest', rfl⟩ := cons_of_len (l := rest) (by omega)
      replace kB : Blk W7 b (uL ((L ++ D) ++ x :: (rest' ++ R))).toArray := by simpa using kB
      have hx := hdM.right.head
      simp only [List.length_cons] at hlen
      have hc2 : x / 2 ^ (64 - s) < 2 ^ s := rot_low hx (by omega)
      have hnew := up_new x s c (by omega) hc
      have hv2 : val 18446744073709551616 (D ++ [x * 2 ^ s % 18446744073709551616 + c]) + x / 2 ^ (64 - s) * 18446744073709551616 ^ (T ++ [x]).length = val 18446744073709551616 (T ++ [x]) * 2 ^ s := by
        rw [val_snoc, val_snoc, hDl, List.length_append, List.length_singleton, Nat.pow_succ]
        exact up_step _ c _ _ x s (by omega) hv
      refine c_skip ?_
      refine hK9 _ _ ?_
      refine fg6 0 1 4 9 10 11 (gS rfl (gS rfl (gS rfl (gS rfl (gS rfl (gS rfl g0)))))) (gS rfl (gS rfl (gS rfl (gS rfl (gS rfl g0))))) (gS rfl (gS rfl (gS rfl (gS rfl g0)))) (gS rfl (gS rfl (gS rfl g0))) (gS rfl (gS rfl g0)) (gS rfl g0) (fun g => ?_)
      refine c_seq (fun K11 hK11 => ?_)
      refine c_block (fun Q12 hQ12 => ?_)
      refine c_seq (fun K13 hK13 => ?_)
      refine c_region ?_
      refine l_step (y_moveV (et g0 rfl)) ?_
      refine l_step (y_idxS Hvaa.underlying317 sz_26 (et (gS rfl (gS rfl (gS rfl g0))) rfl) (et (gS rfl g0) rfl) ?_ ?_) ?_
      exact Int.natCast_nonneg _
      (exact_mod_cast hr0)
      refine l_step (y_load1 one_26 (et g0 rfl) (at1 (kB.cell (uL_get (L ++ D) x _ _ (by simp [ho, hDl]))))) ?_
      refine l_step (y_assignV (et (gS rfl (gS rfl g0)) rfl)) ?_
      refine l_step (y_assignV (et (gS rfl g0) rfl)) ?_
      refine l_nil ?_
      refine hK13 _ _ ?_
      refine fg8 0 1 4 9 10 11 5 6 (gS rfl (gS rfl (gS rfl (gS rfl (gS rfl (gS rfl (gS rfl (gS rfl (gS rfl (gS rfl g0)))))))))) (gS rfl (gS rfl (gS rfl (gS rfl (gS rfl (gS rfl (gS rfl (gS rfl (gS rfl g0))))))))) (gS rfl (gS rfl (gS rfl (gS rfl (gS rfl (gS rfl (gS rfl (gS rfl g0)))))))) (gS rfl (gS rfl (gS rfl (gS rfl (gS rfl (gS rfl (gS rfl g0))))))) (gS rfl (gS rfl (gS rfl (gS rfl (gS rfl (gS rfl g0)))))) (gS rfl (gS rfl (gS rfl (gS rfl (gS rfl g0))))) (gS rfl g0) g0 (fun g => ?_)
      refine c_seq (fun K14 hK14 => ?_)
      refine c_region ?_
      refine l_step (y_moveV (et (gS rfl (gS rfl (gS rfl (gS rfl (gS rfl (gS rfl (gS rfl g0))))))) rfl)) ?_
      refine l_step (y_moveV (et (gS rfl (gS rfl g0)) rfl)) ?_
      refine l_step (y_moveV (et (gS rfl (gS rfl g0)) rfl)) ?_
      refine l_step (y_moveV (et (gS rfl (gS rfl (gS rfl (gS rfl (gS rfl (gS rfl (gS rfl (gS rfl (gS rfl g0))))))))) rfl)) ?_
      refine l_step (y_shl (et (gS rfl g0) rfl) (et g0 rfl) ?_ (shlV ?_)) ?_
      omega
      omega
      refine l_step (y_moveV (et (gS rfl (gS rfl (gS rfl (gS rfl (gS rfl (gS rfl (gS rfl (gS rfl (gS rfl (gS rfl g0)))))))))) rfl)) ?_
      refine l_step (y_orT s uk64 (et (gS rfl g0) rfl) (et g0 rfl) ?_ ?_ ?_ ?_) ?_
      exact hc
      exact rot_hi (by omega)
      exact Nat.mod_lt _ (by decide)
      exact Nat.lt_of_lt_of_le hc (Nat.pow_le_pow_right (n := 2) (j := 64) (by decide) (by omega))
      refine l_step (y_idxS Hvaa.underlying317 sz_26 (et (gS rfl (gS rfl (gS rfl (gS rfl (gS rfl (gS rfl g0)))))) rfl) (et (gS rfl (gS rfl (gS rfl (gS rfl (gS rfl g0))))) rfl) ?_ ?_) ?_
      exact Int.natCast_nonneg _
      (exact_mod_cast hr0)
      refine l_effN (e_store sz_26 (et g0 rfl) (cellsV (et (gS rfl g0) rfl) rfl) rfl (by first | exact one_bL _ | exact one_uL _ | (intro v hv; simp at hv; subst hv; rfl)) kB (by (simp only [size_uL, List.length_append, List.length_cons, List.length_nil, ho, hDl, Int.toNat_natCast, Nat.mul_one]; omega))) (fun v15 w15 h15 => ?_)
      obtain ⟨rfl, x15⟩ := h15
      replace kB := x15.blk
      replace U := U.st x15 (.inl (by first | rfl | (simp; done)))
      replace V7 := V7.st x15 (by omega)
      replace kB := kB.setU (by simp [ho, hDl])
      replace kB : Blk w15 b (uL (L ++ ((D ++ [x * 2 ^ s % 18446744073709551616 + c]) ++ (rest' ++ R)))).toArray := by simpa using kB
      refine l_nil ?_
      refine hK14 _ _ ?_
      refine fg6 0 1 9 10 11 6 (gS rfl (gS rfl (gS rfl (gS rfl (gS rfl (gS rfl (gS rfl (gS rfl (gS rfl (gS rfl (gS rfl (gS rfl (gS rfl (gS rfl (gS rfl g0))))))))))))))) (gS rfl (gS rfl (gS rfl (gS rfl (gS rfl (gS rfl (gS rfl (gS rfl (gS rfl (gS rfl (gS rfl (gS rfl (gS rfl (gS rfl g0)))))))))))))) (gS rfl (gS rfl (gS rfl (gS rfl (gS rfl (gS rfl (gS rfl (gS rfl (gS rfl (gS rfl (gS rfl (gS rfl g0)))))))))))) (gS rfl (gS rfl (gS rfl (gS rfl (gS rfl (gS rfl (gS rfl (gS rfl (gS rfl (gS rfl (gS rfl g0))))))))))) (gS rfl (gS rfl (gS rfl (gS rfl (gS rfl (gS rfl (gS rfl (gS rfl (gS rfl (gS rfl g0)))))))))) (gS rfl (gS rfl (gS rfl (gS rfl (gS rfl (gS rfl (gS rfl (gS rfl g0)))))))) (fun g => ?_)
      refine c_region ?_
      refine l_step (y_moveV (et g0 rfl)) ?_
      refine l_step (y_moveV (et (gS rfl (gS rfl (gS rfl (gS rfl (gS rfl g0))))) rfl)) ?_
      refine l_step (y_sub rfl (et g0 rfl) (wrapU_subN (a := 64) uk8 ?_ ?_)) ?_
      omega
      omega
      refine l_step (y_shr (et (gS rfl (gS rfl g0)) rfl) (et g0 rfl) ?_ (shrV ?_)) ?_
      omega
      omega
      refine l_step (y_assignV (et g0 rfl)) ?_
      refine l_nil ?_
      refine hQ12 _ _ _ (in_normal ?_)
      refine hK11 _ _ ?_
      refine fg6 0 1 9 10 11 4 (gS rfl (gS rfl (gS rfl (gS rfl (gS rfl (gS rfl (gS rfl (gS rfl (gS rfl (gS rfl g0)))))))))) (gS rfl (gS rfl (gS rfl (gS rfl (gS rfl (gS rfl (gS rfl (gS rfl (gS rfl g0))))))))) (gS rfl (gS rfl (gS rfl (gS rfl (gS rfl (gS rfl (gS rfl (gS rfl g0)))))))) (gS rfl (gS rfl (gS rfl (gS rfl (gS rfl (gS rfl (gS rfl g0))))))) (gS rfl (gS rfl (gS rfl (gS rfl (gS rfl (gS rfl g0)))))) g0 (fun g => ?_)
      refine c_region ?_
      refine l_step (y_add (et (gS rfl g0) rfl) rfl ((addIN (y := 1) ?_).trans (castE (show T.length + 1 = (T ++ [x]).length by simp)))) ?_
      omega
      refine l_step (y_moveV (et g0 rfl)) ?_
      refine l_nil ?_
      refine fK6 0 1 4 9 10 11 (gS rfl (gS rfl (gS rfl (gS rfl (gS rfl (gS rfl (gS rfl g0))))))) (gS rfl (gS rfl (gS rfl (gS rfl (gS rfl (gS rfl g0)))))) (gS rfl (gS rfl g0)) (gS rfl (gS rfl (gS rfl (gS rfl (gS rfl g0))))) (gS rfl (gS rfl (gS rfl (gS rfl g0)))) g0 (fun g => ?_)
      exact hK7 ((rest').length) _ _ (by simp) ⟨g, (T ++ [x]), rest', (D ++ [_]), _, rfl, rfl, by simpa using hM, by simp [hDl], hD.app (Dig.one hnew), hc2, hv2, kB, V7⟩
    · skip
      
      have hr0 : rest = [] := List.eq_nil_of_length_eq_zero (by have := of_decide_eq_false cB2; omega)
      subst hr0
      have hTM : T = M := by simpa using hM
      subst hTM
      refine c_exit ?_
      refine hQ6 _ _ _ (in_exit ?_)
      refine end0 rfl ?_
      exact ⟨rfl, D, c, hDl, hD, hc, hv, by simpa using kB, U⟩
theorem dn_c (x s : Nat) (hs : s ≤ 64) : x * 2 ^ (64 - s) % 18446744073709551616 = x % 2 ^ s * 2 ^ (64 - s) := by
  rw [show (18446744073709551616 : Nat) = 2 ^ s * 2 ^ (64 - s) by rw [← Nat.pow_add, show s + (64 - s) = 64 by omega], Nat.mul_mod_mul_right]
theorem dn_new (x s m : Nat) (hs : s < 64) (hx : x < 18446744073709551616) (hm : m < 2 ^ s) : x / 2 ^ s + m * 2 ^ (64 - s) < 18446744073709551616 := by
  have h1 := rot_low' hx (show s ≤ 64 by omega)
  have h2 : (m + 1) * 2 ^ (64 - s) ≤ 2 ^ s * 2 ^ (64 - s) := Nat.mul_le_mul_right _ hm
  rw [← Nat.pow_add, show s + (64 - s) = 64 by omega, Nat.add_mul, Nat.one_mul] at h2
  have h3 : (2 : Nat) ^ 64 = 18446744073709551616 := rfl
  omega
theorem dn_step (x s m vt vd : Nat) (hs : s ≤ 64) (h : vt = 2 ^ s * vd + m) : x + 18446744073709551616 * vt = 2 ^ s * (x / 2 ^ s + m * 2 ^ (64 - s) + 18446744073709551616 * vd) + x % 2 ^ s := by
  have h1 := Nat.div_add_mod x (2 ^ s)
  have h2 : 2 ^ s * (m * 2 ^ (64 - s)) = m * 18446744073709551616 := by
    rw [Nat.mul_left_comm, ← Nat.pow_add, show s + (64 - s) = 64 by omega]
  subst h
  rw [Nat.mul_add (2 ^ s) _ (18446744073709551616 * vd), Nat.mul_add (2 ^ s) (x / 2 ^ s), h2]
  generalize 2 ^ s * (x / 2 ^ s) = q at *
  grind
theorem shiftDown_spec (b o cap s : Nat) (L M R : List Nat) (w : World) (hs : s < 64) (ho : o = L.length) (hlm : M.length < 1000000) (hdig : Dig 18446744073709551616 M) (kB : Blk w b (uL (L ++ (M ++ R))).toArray) :
    Ret 404 [.slice (some ⟨b, o, none⟩) M.length cap, .int .u8 s] w (fun v w' => v = .tuple #[] ∧ ∃ (D : List Nat), D.length = M.length ∧ Dig 18446744073709551616 D ∧ val 18446744073709551616 D = val 18446744073709551616 M / 2 ^ s ∧ Blk w' b (uL (L ++ (D ++ R))).toArray ∧ Ch (fun k => k = b) w w') := by
  have lB := kB.lt
  refine enter (n := 33) Hvaa.func404 rfl rfl (Nat.le_of_ble_eq_true rfl) ?_
  have U : Ch (fun k => k = b) w w := Ch.refl _ w
  refine c_seq (fun K1 hK1 => ?_)
  refine c_seq (fun K2 hK2 => ?_)
  refine c_region ?_
  refine l_step (y_moveV (et (gS rfl g0) rfl)) ?_
  refine l_step (y_geq (et g0 rfl) rfl) ?_
  refine l_nil ?_
  refine hK2 _ _ ?_
  refine fg3 1 0 8 (gS rfl (gS rfl (gS rfl g0))) (gS rfl (gS rfl g0)) g0 (fun g => ?_)
  refine c_false (et g0 rfl) (by exact decide_eq_false (by omega)) ?_
  refine c_skip ?_
  refine hK1 _ _ ?_
  refine fg2 1 0 (gS rfl (gS rfl g0)) (gS rfl g0) (fun g => ?_)
  refine c_seq (fun K4 hK4 => ?_)
  refine c_region ?_
  refine l_step y_assignC ?_
  refine l_nil ?_
  refine hK4 _ _ ?_
  refine c_seq (fun K5 hK5 => ?_)
  refine c_region ?_
  refine l_step (y_moveV (et (gS rfl g0) rfl)) ?_
  refine l_step (y_len Hvaa.underlying317 (et g0 rfl)) ?_
  refine l_step (y_assignV (et g0 rfl)) ?_
  refine l_nil ?_
  refine hK5 _ _ ?_
  refine fg4 1 0 4 5 (gS rfl (gS rfl (gS rfl (gS rfl (gS rfl g0))))) (gS rfl (gS rfl (gS rfl (gS rfl g0)))) (gS rfl (gS rfl (gS rfl g0))) g0 (fun g => ?_)
  refine c_block (fun Q6 hQ6 => ?_)
  refine fg4 0 1 4 5 (gS rfl (gS rfl g0)) (gS rfl (gS rfl (gS rfl g0))) (gS rfl g0) g0 (fun g => ?_)
  have e0 : (0 : Int) = ((0 * 2 ^ (64 - s) : Nat) : Int) := by simp
  rw [e0]
  refine c_loop (fun k_ s_ W7 => ∃ (g : Nat → Value) (rest T D : List Nat) (m : Nat), s_ = (upd (upd (upd (upd g 0 (.slice (some ⟨b, o, none⟩) M.length cap)) 1 (.int .u8 (s : Nat))) 4 (.int .u64 ((m * 2 ^ (64 - s) : Nat) : Int))) 5 (.int .i64 (rest.length : Nat))) ∧ rest.length = k_ ∧ (rest ++ T = M) ∧ (D.length = T.length) ∧ (Dig 18446744073709551616 D) ∧ (m < 2 ^ s) ∧ (val 18446744073709551616 T = 2 ^ s * val 18446744073709551616 D + m) ∧ Blk W7 b ((uL (L ++ (rest ++ (D ++ R)))).toArray) ∧ Ch (fun k => k = b) w W7) ((M).length) ?_ ?_
  · exact ⟨g, M, [], [], 0, rfl, rfl, by simp, rfl, Dig.nil _, Nat.two_pow_pos s, by simp [val], kB, Ch.refl _ _⟩
  · skip
    intro k_ s_ W7 hI K7 hK7
    obtain ⟨g, rest, T, D, m, rfl, rfl, hM, hDl, hD, hm, hv, nkB, V7⟩ := hI
    replace kB := nkB
    replace U := U.cc V7 (by intro b hb; first | exact hb.elim | omega | (simp at hb ⊢; omega))
    have hlen := congrArg List.length hM
    simp only [List.length_append] at hlen
    have hdM : Dig 18446744073709551616 (rest ++ T) := hM ▸ hdig
    refine c_seq (fun K8 hK8 => ?_)
    refine c_seq (fun K9 hK9 => ?_)
    refine c_region ?_
    refine l_step (y_moveV (et g0 rfl)) ?_
    refine l_step (y_gtr (et g0 rfl) rfl) ?_
    refine l_nil ?_
    refine hK9 _ _ ?_
    refine fg5 0 1 4 5 12 (gS rfl (gS rfl (gS rfl (gS rfl (gS rfl g0))))) (gS rfl (gS rfl (gS rfl (gS rfl g0)))) (gS rfl (gS rfl (gS rfl g0))) (gS rfl (gS rfl g0)) g0 (fun g => ?_)
    refine c_cond (et g0 rfl) (fun cB2 => ?_) (fun cB2 => ?_)
    · skip
      
      obtain ⟨rest', x, rfl⟩ := snoc_of_len (l := rest) (by have := of_decide_eq_true cB2; omega)
      replace kB : Blk W7 b (uL ((L ++ rest') ++ x :: (D ++ R))).toArray := by simpa using kB
      have hx := hdM.left.right.head
      simp only [List.length_append, List.length_cons, List.length_nil] at hlen
      have hnew := dn_new x s m hs hx hm
      refine c_skip ?_
      refine hK8 _ _ ?_
      refine fg4 0 1 4 5 (gS rfl (gS rfl (gS rfl (gS rfl g0)))) (gS rfl (gS rfl (gS rfl g0))) (gS rfl (gS rfl g0)) (gS rfl g0) (fun g => ?_)
      refine c_seq (fun K11 hK11 => ?_)
      refine c_block (fun Q12 hQ12 => ?_)
      refine c_seq (fun K13 hK13 => ?_)
      refine c_region ?_
      refine l_step (y_moveV (et (gS rfl (gS rfl (gS rfl g0))) rfl)) ?_
      refine l_step (y_moveV (et (gS rfl g0) rfl)) ?_
      refine l_step (y_sub (et g0 rfl) rfl (subIN (y := 1) ?_ ?_)) ?_
      simp
      (simp; omega)
      refine l_step (y_idxS Hvaa.underlying317 sz_26 (et (gS rfl (gS rfl g0)) rfl) (et g0 rfl) ?_ ?_) ?_
      exact Int.natCast_nonneg _
      (simp; omega)
      refine l_step (y_load1 one_26 (et g0 rfl) (at1 (kB.cell (uL_get (L ++ rest') x _ _ (by simp [ho]))))) ?_
      refine l_step (y_assignV (et g0 rfl)) ?_
      refine l_nil ?_
      refine hK13 _ _ ?_
      refine fg5 0 1 4 5 6 (gS rfl (gS rfl (gS rfl (gS rfl (gS rfl (gS rfl (gS rfl (gS rfl (gS rfl g0))))))))) (gS rfl (gS rfl (gS rfl (gS rfl (gS rfl (gS rfl (gS rfl (gS rfl g0)))))))) (gS rfl (gS rfl (gS rfl (gS rfl (gS rfl (gS rfl (gS rfl g0))))))) (gS rfl (gS rfl (gS rfl (gS rfl (gS rfl (gS rfl g0)))))) g0 (fun g => ?_)
      refine c_seq (fun K14 hK14 => ?_)
      refine c_region ?_
      refine l_step (y_moveV (et (gS rfl (gS rfl (gS rfl (gS rfl g0)))) rfl)) ?_
      refine l_step (y_moveV (et (gS rfl (gS rfl g0)) rfl)) ?_
      refine l_step (y_sub (et g0 rfl) rfl (subIN (y := 1) ?_ ?_)) ?_
      simp
      (simp; omega)
      refine l_step (y_moveV (et (gS rfl (gS rfl (gS rfl g0))) rfl)) ?_
      refine l_step (y_moveV (et (gS rfl (gS rfl (gS rfl (gS rfl (gS rfl (gS rfl (gS rfl g0))))))) rfl)) ?_
      refine l_step (y_shr (et (gS rfl g0) rfl) (et g0 rfl) ?_ (shrV ?_)) ?_
      omega
      omega
      refine l_step (y_moveV (et (gS rfl (gS rfl (gS rfl (gS rfl (gS rfl (gS rfl (gS rfl (gS rfl g0)))))))) rfl)) ?_
      refine l_step (y_orS (64 - s) uk64 (et (gS rfl g0) rfl) (et g0 rfl) ?_ ?_ ?_ ?_) ?_
      exact rot_low' hx (by omega)
      exact Nat.mul_mod_left _ _
      exact Nat.lt_of_le_of_lt (Nat.le_add_left _ _) hnew
      exact Nat.lt_of_le_of_lt (Nat.div_le_self _ _) hx
      refine l_step (y_idxS Hvaa.underlying317 sz_26 (et (gS rfl (gS rfl (gS rfl (gS rfl (gS rfl (gS rfl (gS rfl g0))))))) rfl) (et (gS rfl (gS rfl (gS rfl (gS rfl (gS rfl g0))))) rfl) ?_ ?_) ?_
      exact Int.natCast_nonneg _
      (simp; omega)
      refine l_effN (e_store sz_26 (et g0 rfl) (cellsV (et (gS rfl g0) rfl) rfl) rfl (by first | exact one_bL _ | exact one_uL _ | (intro v hv; simp at hv; subst hv; rfl)) kB (by (simp only [size_uL, List.length_append, List.length_cons, List.length_nil, ho, Int.toNat_natCast, Nat.mul_one]; omega))) (fun v15 w15 h15 => ?_)
      obtain ⟨rfl, x15⟩ := h15
      replace kB := x15.blk
      replace U := U.st x15 (.inl (by first | rfl | (simp; done)))
      replace V7 := V7.st x15 (by omega)
      replace kB := kB.setU (by simp [ho])
      replace kB : Blk w15 b (uL (L ++ (rest' ++ (((x / 2 ^ s + m * 2 ^ (64 - s)) :: D) ++ R)))).toArray := by simpa using kB
      refine l_nil ?_
      refine hK14 _ _ ?_
      refine fg4 0 1 5 6 (gS rfl (gS rfl (gS rfl (gS rfl (gS rfl (gS rfl (gS rfl (gS rfl (gS rfl (gS rfl (gS rfl (gS rfl (gS rfl g0))))))))))))) (gS rfl (gS rfl (gS rfl (gS rfl (gS rfl (gS rfl (gS rfl (gS rfl (gS rfl (gS rfl (gS rfl (gS rfl g0)))))))))))) (gS rfl (gS rfl (gS rfl (gS rfl (gS rfl (gS rfl (gS rfl (gS rfl (gS rfl (gS rfl g0)))))))))) (gS rfl (gS rfl (gS rfl (gS rfl (gS rfl (gS rfl (gS rfl (gS rfl (gS rfl g0))))))))) (fun g => ?_)
      refine c_region ?_
      refine l_step (y_moveV (et g0 rfl)) ?_
      refine l_step (y_moveV (et (gS rfl (gS rfl (gS rfl g0))) rfl)) ?_
      refine l_step (y_sub rfl (et g0 rfl) (wrapU_subN (a := 64) uk8 ?_ ?_)) ?_
      omega
      omega
      refine l_step (y_shl (et (gS rfl (gS rfl g0)) rfl) (et g0 rfl) ?_ ((shlV ?_).trans (castE (dn_c x s (by omega))))) ?_
      omega
      omega
      refine l_step (y_assignV (et g0 rfl)) ?_
      refine l_nil ?_
      refine hQ12 _ _ _ (in_normal ?_)
      refine hK11 _ _ ?_
      refine fg4 0 1 5 4 (gS rfl (gS rfl (gS rfl (gS rfl (gS rfl (gS rfl (gS rfl (gS rfl g0)))))))) (gS rfl (gS rfl (gS rfl (gS rfl (gS rfl (gS rfl (gS rfl g0))))))) (gS rfl (gS rfl (gS rfl (gS rfl (gS rfl (gS rfl g0)))))) g0 (fun g => ?_)
      refine c_region ?_
      refine l_step (y_moveV (et (gS rfl g0) rfl)) ?_
      refine l_step (y_sub (et g0 rfl) rfl ((subIN (y := 1) ?_ ?_).trans (castE (show (rest' ++ [x]).length - 1 = rest'.length by simp)))) ?_
      simp
      (simp; omega)
      refine l_step (y_assignV (et g0 rfl)) ?_
      refine l_nil ?_
      refine fK4 0 1 4 5 (gS rfl (gS rfl (gS rfl (gS rfl (gS rfl (gS rfl g0)))))) (gS rfl (gS rfl (gS rfl (gS rfl (gS rfl g0))))) (gS rfl (gS rfl (gS rfl g0))) g0 (fun g => ?_)
      exact hK7 ((rest').length) _ _ (by simp) ⟨g, rest', (x :: T), (_ :: D), (x % 2 ^ s), rfl, rfl, by simpa using hM, by simp [hDl], Dig.cons hnew hD, Nat.mod_lt _ (Nat.two_pow_pos s), by rw [val_cons, val_cons]; exact dn_step x s m _ _ (by omega) hv, kB, V7⟩
    · skip
      
      have hr0 : rest = [] := List.eq_nil_of_length_eq_zero (by have := of_decide_eq_false cB2; omega)
      subst hr0
      have hTM : T = M := by simpa using hM
      subst hTM
      refine c_exit ?_
      refine hQ6 _ _ _ (in_exit ?_)
      refine end0 rfl ?_
      refine ⟨rfl, D, hDl, hD, ?_, by simpa using kB, U⟩
      rw [hv, Nat.mul_add_div (Nat.two_pow_pos s), Nat.div_eq_of_lt hm]; rfl
end Go.Proofs.YgvaawGreat
