import Derived.Test.YgvaawGreatNum3
set_option linter.unusedSimpArgs false
set_option linter.unusedVariables false
namespace Go.Proofs.YgvaawGreat
open Go
theorem len64_spec (x : Nat) (w : World) (hx : x < 18446744073709551616) :
    Ret 253 [.int .u64 x] w (fun v w' => v = .int .i64 (bitLen x : Nat) ∧ Up w w') := by
  refine enter (n := 5) Hvaa.func253 rfl rfl (Nat.le_of_ble_eq_true rfl) ?_
  have U := Up.refl w
  refine c_seq (fun K1 hK1 => ?_)
  refine c_region ?_
  refine l_step y_assignC ?_
  refine l_nil ?_
  refine hK1 _ _ ?_
  refine fg1 0 (gS rfl g0) (fun g => ?_)
  refine c_seq (fun K2 hK2 => ?_)
  refine c_region ?_
  refine l_step (y_moveV (et g0 rfl)) ?_
  refine l_eff (e_callV cal_357 (aC (et g0 rfl) aN) (blen64_spec _ _ hx)) (fun v3 w3 h3 => ?_)
  obtain ⟨rfl, u3⟩ := h3
  replace U := U.tr u3
  refine l_step (y_assignV (et g0 rfl)) ?_
  refine l_nil ?_
  refine hK2 _ _ ?_
  refine fg1 2 g0 (fun g => ?_)
  refine c_ret ?_
  refine ret1 rfl (res_tmp (et g0 rfl)) ?_
  exact ⟨rfl, U⟩
theorem blz64_spec (x : Nat) (w : World) (hx : x < 18446744073709551616) :
    Ret 417 [.int .u64 x] w (fun v w' => v = .int .i64 (64 - (bitLen x : Nat)) ∧ Up w w') := by
  have hb := bl_le x 64 hx
  refine enter (n := 6) Hvaa.func417 rfl rfl (Nat.le_of_ble_eq_true rfl) ?_
  have U := Up.refl w
  refine c_seq (fun K1 hK1 => ?_)
  refine c_region ?_
  refine l_step y_assignC ?_
  refine l_nil ?_
  refine hK1 _ _ ?_
  refine fg1 0 (gS rfl g0) (fun g => ?_)
  refine c_seq (fun K2 hK2 => ?_)
  refine c_region ?_
  refine l_step (y_moveV (et g0 rfl)) ?_
  refine l_eff (e_callV cal_357 (aC (et g0 rfl) aN) (blen64_spec _ _ hx)) (fun v3 w3 h3 => ?_)
  obtain ⟨rfl, u3⟩ := h3
  replace U := U.tr u3
  refine l_step (y_sub rfl (et g0 rfl) (wrap_i64 ?_ ?_)) ?_
  omega
  omega
  refine l_step (y_assignV (et g0 rfl)) ?_
  refine l_nil ?_
  refine hK2 _ _ ?_
  refine fg1 2 g0 (fun g => ?_)
  refine c_ret ?_
  refine ret1 rfl (res_tmp (et g0 rfl)) ?_
  exact ⟨rfl, U⟩
theorem lz64_spec (x : Nat) (w : World) (hx : x < 18446744073709551616) :
    Ret 401 [.int .u64 x] w (fun v w' => v = .int .i64 (64 - (bitLen x : Nat)) ∧ Up w w') := by
  refine enter (n := 5) Hvaa.func401 rfl rfl (Nat.le_of_ble_eq_true rfl) ?_
  have U := Up.refl w
  refine c_seq (fun K1 hK1 => ?_)
  refine c_region ?_
  refine l_step y_assignC ?_
  refine l_nil ?_
  refine hK1 _ _ ?_
  refine fg1 0 (gS rfl g0) (fun g => ?_)
  refine c_seq (fun K2 hK2 => ?_)
  refine c_region ?_
  refine l_step (y_moveV (et g0 rfl)) ?_
  refine l_eff (e_callV cal_417 (aC (et g0 rfl) aN) (blz64_spec _ _ hx)) (fun v3 w3 h3 => ?_)
  obtain ⟨rfl, u3⟩ := h3
  replace U := U.tr u3
  refine l_step (y_assignV (et g0 rfl)) ?_
  refine l_nil ?_
  refine hK2 _ _ ?_
  refine fg1 2 g0 (fun g => ?_)
  refine c_ret ?_
  refine ret1 rfl (res_tmp (et g0 rfl)) ?_
  exact ⟨rfl, U⟩
def wordsOf32 (n : Nat) : Nat := (n + 31) / 32
theorem words_spec (x : Nat) (w : World) (hx : x < 18446744073709551616) :
    Ret 167 [.int .u64 x] w (fun v w' => v = .int .u64 (wordsOf32 x : Nat) ∧ Up w w') := by
  refine enter (n := 11) Hvaa.func167 rfl rfl (Nat.le_of_ble_eq_true rfl) ?_
  have U := Up.refl w
  refine c_seq (fun K1 hK1 => ?_)
  refine c_region ?_
  refine l_step y_assignC ?_
  refine l_nil ?_
  refine hK1 _ _ ?_
  refine fg1 0 (gS rfl g0) (fun g => ?_)
  refine c_seq (fun K2 hK2 => ?_)
  refine c_seq (fun K3 hK3 => ?_)
  refine c_region ?_
  refine l_step (y_moveV (et g0 rfl)) ?_
  refine l_step (y_rem (et g0 rfl) rfl (by decide) (remN (b := 32))) ?_
  refine l_step (y_neq (et g0 rfl) rfl) ?_
  refine l_nil ?_
  refine hK3 _ _ ?_
  refine fg2 0 5 (gS rfl (gS rfl (gS rfl g0))) g0 (fun g => ?_)
  refine c_cond (et g0 rfl) (fun cB1 => ?_) (fun cB1 => ?_)
  · skip
    
    have cB2 := of_decide_eq_true cB1
    refine c_seq (fun K5 hK5 => ?_)
    refine c_region ?_
    refine l_step (y_moveV (et (gS rfl g0) rfl)) ?_
    refine l_step (y_quo (et g0 rfl) rfl (by decide) (quoU (b := 32) uk64 ?_)) ?_
    omega
    refine l_step (y_add (et g0 rfl) rfl (wrapU_addN (b := 1) uk64 ?_)) ?_
    omega
    refine l_step (y_assignV (et g0 rfl)) ?_
    refine l_nil ?_
    refine hK5 _ _ ?_
    refine fg1 2 g0 (fun g => ?_)
    refine c_ret ?_
    refine ret1 rfl (res_tmp (et g0 rfl)) ?_
    refine ⟨?_, U⟩
    unfold wordsOf32
    congr 2
    omega
  · skip
    
    have cB2 := of_decide_eq_false cB1
    refine c_skip ?_
    refine hK2 _ _ ?_
    refine fg1 0 (gS rfl g0) (fun g => ?_)
    refine c_seq (fun K6 hK6 => ?_)
    refine c_region ?_
    refine l_step (y_moveV (et g0 rfl)) ?_
    refine l_step (y_quo (et g0 rfl) rfl (by decide) (quoU (b := 32) uk64 ?_)) ?_
    omega
    refine l_step (y_assignV (et g0 rfl)) ?_
    refine l_nil ?_
    refine hK6 _ _ ?_
    refine fg1 2 g0 (fun g => ?_)
    refine c_ret ?_
    refine ret1 rfl (res_tmp (et g0 rfl)) ?_
    refine ⟨?_, U⟩
    unfold wordsOf32
    congr 2
    omega
def rotl (x k : Nat) : Nat := x * 2 ^ k % 18446744073709551616 + x / 2 ^ (64 - k)
theorem shlV {a c : Nat} (hc : c ≤ 64) : IntKind.u64.wrap ((a : Int) * 2 ^ (min ((c : Int)).toNat IntKind.u64.bits)) = ((a * 2 ^ c % 18446744073709551616 : Nat) : Int) := shl_nat uk64 hc
theorem shrV {a c : Nat} (hc : c ≤ 64) : ((a : Int)).fdiv (2 ^ (min ((c : Int)).toNat IntKind.u64.bits)) = ((a / 2 ^ c : Nat) : Int) := shr_nat hc
theorem rot_low {x k : Nat} (hx : x < 18446744073709551616) (hk : k < 64) : x / 2 ^ (64 - k) < 2 ^ k := by
  rw [Nat.div_lt_iff_lt_mul (Nat.two_pow_pos _), ← Nat.pow_add, show k + (64 - k) = 64 from by omega]; exact hx
theorem rot_hi {x k : Nat} (hk : k < 64) : x * 2 ^ k % 18446744073709551616 % 2 ^ k = 0 := by
  have : (18446744073709551616 : Nat) = 2 ^ k * 2 ^ (64 - k) := by rw [← Nat.pow_add, show k + (64 - k) = 64 from by omega]
  rw [this, Nat.mod_mul_right_mod, Nat.mul_mod_left]
theorem brot_spec (x k : Nat) (w : World) (hx : x < 18446744073709551616) (hk : k < 64) :
    Ret 423 [.int .u64 x, .int .i64 k] w (fun v w' => v = .int .u64 (rotl x k : Nat) ∧ Up w w') := by
  refine enter (n := 17) Hvaa.func423 rfl rfl (Nat.le_of_ble_eq_true rfl) ?_
  have U := Up.refl w
  refine c_seq (fun K1 hK1 => ?_)
  refine c_region ?_
  refine l_step y_assignC ?_
  refine l_nil ?_
  refine hK1 _ _ ?_
  refine fg2 1 0 (gS rfl (gS rfl g0)) (gS rfl g0) (fun g => ?_)
  refine c_seq (fun K2 hK2 => ?_)
  refine c_region ?_
  refine l_step (y_moveV (et (gS rfl g0) rfl)) ?_
  refine l_step (y_conv Hvaa.underlying3 Hvaa.underlying192 (et g0 rfl) (wrapU_id uk64 ?_)) ?_
  omega
  refine l_step (y_andM 6 64 uk64 (et g0 rfl) rfl ?_ rfl rfl (by decide)) ?_
  omega
  refine l_step (y_assignV (et g0 rfl)) ?_
  refine l_nil ?_
  refine hK2 _ _ ?_
  refine fg2 0 5 (gS rfl (gS rfl (gS rfl (gS rfl g0)))) g0 (fun g => ?_)
  refine c_seq (fun K3 hK3 => ?_)
  refine c_region ?_
  refine l_step (y_moveV (et (gS rfl g0) rfl)) ?_
  refine l_step (y_moveV (et (gS rfl g0) rfl)) ?_
  refine l_step (y_shl (et (gS rfl g0) rfl) (et g0 rfl) ?_ (shlV ?_)) ?_
  omega
  omega
  refine l_step (y_moveV (et (gS rfl (gS rfl (gS rfl (gS rfl g0)))) rfl)) ?_
  refine l_step (y_moveV (et (gS rfl (gS rfl (gS rfl (gS rfl g0)))) rfl)) ?_
  refine l_step (y_sub rfl (et g0 rfl) (wrapU_subN (a := 64) uk64 ?_ ?_)) ?_
  omega
  decide
  refine l_step (y_shr (et (gS rfl (gS rfl g0)) rfl) (et g0 rfl) ?_ (shrV ?_)) ?_
  omega
  omega
  refine l_step (y_or uk64 (et (gS rfl (gS rfl (gS rfl (gS rfl g0)))) rfl) (et g0 rfl) ?_ ?_) ?_
  exact Nat.mod_lt _ (by decide)
  exact Nat.lt_of_le_of_lt (Nat.div_le_self _ _) hx
  refine l_step (y_assignV (et g0 rfl)) ?_
  refine l_nil ?_
  refine hK3 _ _ ?_
  refine fg1 4 g0 (fun g => ?_)
  refine c_ret ?_
  refine ret1 rfl (res_tmp (et g0 rfl)) ?_
  refine ⟨?_, U⟩
  rw [Nat.mod_eq_of_lt hk, Nat.or_comm, or_add (rot_low hx hk) (rot_hi hk), Nat.add_comm]; rfl
theorem rot_spec (x k : Nat) (w : World) (hx : x < 18446744073709551616) (hk : k < 64) :
    Ret 416 [.int .u64 x, .int .i64 k] w (fun v w' => v = .int .u64 (rotl x k : Nat) ∧ Up w w') := by
  refine enter (n := 8) Hvaa.func416 rfl rfl (Nat.le_of_ble_eq_true rfl) ?_
  have U := Up.refl w
  refine c_seq (fun K1 hK1 => ?_)
  refine c_region ?_
  refine l_step y_assignC ?_
  refine l_nil ?_
  refine hK1 _ _ ?_
  refine fg2 1 0 (gS rfl (gS rfl g0)) (gS rfl g0) (fun g => ?_)
  refine c_seq (fun K2 hK2 => ?_)
  refine c_region ?_
  refine l_step (y_moveV (et g0 rfl)) ?_
  refine l_step (y_moveV (et (gS rfl (gS rfl g0)) rfl)) ?_
  refine l_eff (e_callV cal_423 (aC (et (gS rfl g0) rfl) (aC (et g0 rfl) aN)) (brot_spec _ _ _ hx hk)) (fun v3 w3 h3 => ?_)
  obtain ⟨rfl, u3⟩ := h3
  replace U := U.tr u3
  refine l_step (y_assignV (et g0 rfl)) ?_
  refine l_nil ?_
  refine hK2 _ _ ?_
  refine fg1 4 g0 (fun g => ?_)
  refine c_ret ?_
  refine ret1 rfl (res_tmp (et g0 rfl)) ?_
  exact ⟨rfl, U⟩
theorem putbe64_spec (b o len cap off x : Nat) (cs : Array Value) (w : World) (h1 : off + 8 ≤ len) (h2 : len ≤ cap) (h3 : len ≤ 1000000000) (h4 : o + len ≤ cs.size) (hx : x < 18446744073709551616) (kB : Blk w b cs) :
    Ret 158 [.slice (some ⟨b, o, none⟩) len cap, .int .i64 off, .int .u64 x] w (fun v w' => v = .bool true ∧ Blk w' b (spl cs (o + off) [bval (x / 72057594037927936 % 256), bval (x / 281474976710656 % 256), bval (x / 1099511627776 % 256), bval (x / 4294967296 % 256), bval (x / 16777216 % 256), bval (x / 65536 % 256), bval (x / 256 % 256), bval (x % 256)]) ∧ Ch (fun k => k = b) w w') := by
  have lB := kB.lt
  refine enter (n := 66) Hvaa.func158 rfl rfl (Nat.le_of_ble_eq_true rfl) ?_
  have U : Ch (fun k => k = b) w w := Ch.refl _ w
  refine c_seq (fun K1 hK1 => ?_)
  refine c_region ?_
  refine l_step y_assignC ?_
  refine l_nil ?_
  refine hK1 _ _ ?_
  refine fg3 2 1 0 (gS rfl (gS rfl (gS rfl g0))) (gS rfl (gS rfl g0)) (gS rfl g0) (fun g => ?_)
  refine c_seq (fun K2 hK2 => ?_)
  refine c_seq (fun K3 hK3 => ?_)
  refine c_region ?_
  refine l_step (y_moveV (et g0 rfl)) ?_
  refine l_step (y_len Hvaa.underlying38 (et g0 rfl)) ?_
  refine l_step (y_moveV (et (gS rfl (gS rfl (gS rfl g0))) rfl)) ?_
  refine l_eff (e_callV cal_237 (aC (et (gS rfl g0) rfl) (aC (et g0 rfl) aN)) (inside_spec _ _ _ (by omega) (by omega) (by omega) (by omega))) (fun v4 w4 h4 => ?_)
  obtain ⟨rfl, u4⟩ := h4
  replace kB := kB.up u4
  replace U := U.tr u4
  refine l_step (y_not (et g0 rfl)) ?_
  refine l_nil ?_
  refine hK3 _ _ ?_
  refine fg4 2 1 0 12 (gS rfl (gS rfl (gS rfl (gS rfl (gS rfl (gS rfl (gS rfl g0))))))) (gS rfl (gS rfl (gS rfl (gS rfl (gS rfl (gS rfl g0)))))) (gS rfl (gS rfl (gS rfl (gS rfl (gS rfl g0))))) g0 (fun g => ?_)
  refine c_false (et g0 rfl) (by rfl) ?_
  refine c_skip ?_
  refine hK2 _ _ ?_
  refine fg3 2 1 0 (gS rfl (gS rfl (gS rfl g0))) (gS rfl (gS rfl g0)) (gS rfl g0) (fun g => ?_)
  refine c_seq (fun K6 hK6 => ?_)
  refine c_region ?_
  refine l_step (y_moveV (et g0 rfl)) ?_
  refine l_step (y_moveV (et (gS rfl (gS rfl g0)) rfl)) ?_
  refine l_step (y_moveV (et (gS rfl (gS rfl (gS rfl g0))) rfl)) ?_
  refine l_step (y_add (et g0 rfl) rfl (wrap_i64 ?_ ?_)) ?_
  omega
  omega
  refine l_step (y_slS110 Hvaa.underlying38 sz_5 (et (gS rfl (gS rfl (gS rfl g0))) rfl) (et (gS rfl (gS rfl g0)) rfl) (et g0 rfl) ?_ ?_ ?_ ?_ ?_) ?_
  omega
  omega
  omega
  omega
  omega
  refine l_step (y_s2a Hvaa.underlying262 (et g0 rfl) ?_) ?_
  omega
  refine l_step (y_assignV (et g0 rfl)) ?_
  refine l_nil ?_
  refine hK6 _ _ ?_
  refine fg2 2 7 (gS rfl (gS rfl (gS rfl (gS rfl (gS rfl (gS rfl (gS rfl (gS rfl (gS rfl g0))))))))) g0 (fun g => ?_)
  refine c_seq (fun K7 hK7 => ?_)
  refine c_region ?_
  refine l_step (y_moveV (et g0 rfl)) ?_
  refine l_step (y_moveV (et (gS rfl (gS rfl g0)) rfl)) ?_
  refine l_step (y_shr (et g0 rfl) rfl (by decide) (shr64C 56 72057594037927936 (by decide) rfl)) ?_
  refine l_step (y_conv Hvaa.underlying26 Hvaa.underlying5 (et g0 rfl) (wrapU_nat uk8)) ?_
  refine l_step (y_nil (et (gS rfl (gS rfl (gS rfl g0))) rfl)) ?_
  refine l_step (y_idxAC 0 0 Hvaa.underlying262 sz_5 (et g0 rfl) rfl rfl rfl) ?_
  refine l_effN (e_store sz_5 (et g0 rfl) (cellsV (et (gS rfl (gS rfl g0)) rfl) rfl) rfl (by first | exact one_bL _ | exact one_uL _ | (intro v hv; simp at hv; subst hv; rfl)) kB (by (simp [size_spl, Value.cells]; omega))) (fun v8 w8 h8 => ?_)
  obtain ⟨rfl, x8⟩ := h8
  replace kB := x8.blk
  replace U := U.st x8 (.inl (by first | rfl | (simp; done)))
  refine l_nil ?_
  refine hK7 _ _ ?_
  refine fg2 2 7 (gS rfl (gS rfl (gS rfl (gS rfl (gS rfl (gS rfl (gS rfl g0))))))) (gS rfl (gS rfl (gS rfl (gS rfl (gS rfl (gS rfl g0)))))) (fun g => ?_)
  refine c_seq (fun K9 hK9 => ?_)
  refine c_region ?_
  refine l_step (y_moveV (et g0 rfl)) ?_
  refine l_step (y_moveV (et (gS rfl (gS rfl g0)) rfl)) ?_
  refine l_step (y_shr (et g0 rfl) rfl (by decide) (shr64C 48 281474976710656 (by decide) rfl)) ?_
  refine l_step (y_conv Hvaa.underlying26 Hvaa.underlying5 (et g0 rfl) (wrapU_nat uk8)) ?_
  refine l_step (y_nil (et (gS rfl (gS rfl (gS rfl g0))) rfl)) ?_
  refine l_step (y_idxAC 1 1 Hvaa.underlying262 sz_5 (et g0 rfl) rfl rfl rfl) ?_
  refine l_effN (e_store sz_5 (et g0 rfl) (cellsV (et (gS rfl (gS rfl g0)) rfl) rfl) rfl (by first | exact one_bL _ | exact one_uL _ | (intro v hv; simp at hv; subst hv; rfl)) kB (by (simp [size_spl, Value.cells]; omega))) (fun v10 w10 h10 => ?_)
  obtain ⟨rfl, x10⟩ := h10
  replace kB := x10.blk
  replace U := U.st x10 (.inl (by first | rfl | (simp; done)))
  refine l_nil ?_
  refine hK9 _ _ ?_
  refine fg2 2 7 (gS rfl (gS rfl (gS rfl (gS rfl (gS rfl (gS rfl (gS rfl g0))))))) (gS rfl (gS rfl (gS rfl (gS rfl (gS rfl (gS rfl g0)))))) (fun g => ?_)
  refine c_seq (fun K11 hK11 => ?_)
  refine c_region ?_
  refine l_step (y_moveV (et g0 rfl)) ?_
  refine l_step (y_moveV (et (gS rfl (gS rfl g0)) rfl)) ?_
  refine l_step (y_shr (et g0 rfl) rfl (by decide) (shr64C 40 1099511627776 (by decide) rfl)) ?_
  refine l_step (y_conv Hvaa.underlying26 Hvaa.underlying5 (et g0 rfl) (wrapU_nat uk8)) ?_
  refine l_step (y_nil (et (gS rfl (gS rfl (gS rfl g0))) rfl)) ?_
  refine l_step (y_idxAC 2 2 Hvaa.underlying262 sz_5 (et g0 rfl) rfl rfl rfl) ?_
  refine l_effN (e_store sz_5 (et g0 rfl) (cellsV (et (gS rfl (gS rfl g0)) rfl) rfl) rfl (by first | exact one_bL _ | exact one_uL _ | (intro v hv; simp at hv; subst hv; rfl)) kB (by (simp [size_spl, Value.cells]; omega))) (fun v12 w12 h12 => ?_)
  obtain ⟨rfl, x12⟩ := h12
  replace kB := x12.blk
  replace U := U.st x12 (.inl (by first | rfl | (simp; done)))
  refine l_nil ?_
  refine hK11 _ _ ?_
  refine fg2 2 7 (gS rfl (gS rfl (gS rfl (gS rfl (gS rfl (gS rfl (gS rfl g0))))))) (gS rfl (gS rfl (gS rfl (gS rfl (gS rfl (gS rfl g0)))))) (fun g => ?_)
  refine c_seq (fun K13 hK13 => ?_)
  refine c_region ?_
  refine l_step (y_moveV (et g0 rfl)) ?_
  refine l_step (y_moveV (et (gS rfl (gS rfl g0)) rfl)) ?_
  refine l_step (y_shr (et g0 rfl) rfl (by decide) (shr64C 32 4294967296 (by decide) rfl)) ?_
  refine l_step (y_conv Hvaa.underlying26 Hvaa.underlying5 (et g0 rfl) (wrapU_nat uk8)) ?_
  refine l_step (y_nil (et (gS rfl (gS rfl (gS rfl g0))) rfl)) ?_
  refine l_step (y_idxAC 3 3 Hvaa.underlying262 sz_5 (et g0 rfl) rfl rfl rfl) ?_
  refine l_effN (e_store sz_5 (et g0 rfl) (cellsV (et (gS rfl (gS rfl g0)) rfl) rfl) rfl (by first | exact one_bL _ | exact one_uL _ | (intro v hv; simp at hv; subst hv; rfl)) kB (by (simp [size_spl, Value.cells]; omega))) (fun v14 w14 h14 => ?_)
  obtain ⟨rfl, x14⟩ := h14
  replace kB := x14.blk
  replace U := U.st x14 (.inl (by first | rfl | (simp; done)))
  refine l_nil ?_
  refine hK13 _ _ ?_
  refine fg2 2 7 (gS rfl (gS rfl (gS rfl (gS rfl (gS rfl (gS rfl (gS rfl g0))))))) (gS rfl (gS rfl (gS rfl (gS rfl (gS rfl (gS rfl g0)))))) (fun g => ?_)
  refine c_seq (fun K15 hK15 => ?_)
  refine c_region ?_
  refine l_step (y_moveV (et g0 rfl)) ?_
  refine l_step (y_moveV (et (gS rfl (gS rfl g0)) rfl)) ?_
  refine l_step (y_shr (et g0 rfl) rfl (by decide) (shr64C 24 16777216 (by decide) rfl)) ?_
  refine l_step (y_conv Hvaa.underlying26 Hvaa.underlying5 (et g0 rfl) (wrapU_nat uk8)) ?_
  refine l_step (y_nil (et (gS rfl (gS rfl (gS rfl g0))) rfl)) ?_
  refine l_step (y_idxAC 4 4 Hvaa.underlying262 sz_5 (et g0 rfl) rfl rfl rfl) ?_
  refine l_effN (e_store sz_5 (et g0 rfl) (cellsV (et (gS rfl (gS rfl g0)) rfl) rfl) rfl (by first | exact one_bL _ | exact one_uL _ | (intro v hv; simp at hv; subst hv; rfl)) kB (by (simp [size_spl, Value.cells]; omega))) (fun v16 w16 h16 => ?_)
  obtain ⟨rfl, x16⟩ := h16
  replace kB := x16.blk
  replace U := U.st x16 (.inl (by first | rfl | (simp; done)))
  refine l_nil ?_
  refine hK15 _ _ ?_
  refine fg2 2 7 (gS rfl (gS rfl (gS rfl (gS rfl (gS rfl (gS rfl (gS rfl g0))))))) (gS rfl (gS rfl (gS rfl (gS rfl (gS rfl (gS rfl g0)))))) (fun g => ?_)
  refine c_seq (fun K17 hK17 => ?_)
  refine c_region ?_
  refine l_step (y_moveV (et g0 rfl)) ?_
  refine l_step (y_moveV (et (gS rfl (gS rfl g0)) rfl)) ?_
  refine l_step (y_shr (et g0 rfl) rfl (by decide) (shr64C 16 65536 (by decide) rfl)) ?_
  refine l_step (y_conv Hvaa.underlying26 Hvaa.underlying5 (et g0 rfl) (wrapU_nat uk8)) ?_
  refine l_step (y_nil (et (gS rfl (gS rfl (gS rfl g0))) rfl)) ?_
  refine l_step (y_idxAC 5 5 Hvaa.underlying262 sz_5 (et g0 rfl) rfl rfl rfl) ?_
  refine l_effN (e_store sz_5 (et g0 rfl) (cellsV (et (gS rfl (gS rfl g0)) rfl) rfl) rfl (by first | exact one_bL _ | exact one_uL _ | (intro v hv; simp at hv; subst hv; rfl)) kB (by (simp [size_spl, Value.cells]; omega))) (fun v18 w18 h18 => ?_)
  obtain ⟨rfl, x18⟩ := h18
  replace kB := x18.blk
  replace U := U.st x18 (.inl (by first | rfl | (simp; done)))
  refine l_nil ?_
  refine hK17 _ _ ?_
  refine fg2 2 7 (gS rfl (gS rfl (gS rfl (gS rfl (gS rfl (gS rfl (gS rfl g0))))))) (gS rfl (gS rfl (gS rfl (gS rfl (gS rfl (gS rfl g0)))))) (fun g => ?_)
  refine c_seq (fun K19 hK19 => ?_)
  refine c_region ?_
  refine l_step (y_moveV (et g0 rfl)) ?_
  refine l_step (y_moveV (et (gS rfl (gS rfl g0)) rfl)) ?_
  refine l_step (y_shr (et g0 rfl) rfl (by decide) (shr64C 8 256 (by decide) rfl)) ?_
  refine l_step (y_conv Hvaa.underlying26 Hvaa.underlying5 (et g0 rfl) (wrapU_nat uk8)) ?_
  refine l_step (y_nil (et (gS rfl (gS rfl (gS rfl g0))) rfl)) ?_
  refine l_step (y_idxAC 6 6 Hvaa.underlying262 sz_5 (et g0 rfl) rfl rfl rfl) ?_
  refine l_effN (e_store sz_5 (et g0 rfl) (cellsV (et (gS rfl (gS rfl g0)) rfl) rfl) rfl (by first | exact one_bL _ | exact one_uL _ | (intro v hv; simp at hv; subst hv; rfl)) kB (by (simp [size_spl, Value.cells]; omega))) (fun v20 w20 h20 => ?_)
  obtain ⟨rfl, x20⟩ := h20
  replace kB := x20.blk
  replace U := U.st x20 (.inl (by first | rfl | (simp; done)))
  refine l_nil ?_
  refine hK19 _ _ ?_
  refine fg2 2 7 (gS rfl (gS rfl (gS rfl (gS rfl (gS rfl (gS rfl (gS rfl g0))))))) (gS rfl (gS rfl (gS rfl (gS rfl (gS rfl (gS rfl g0)))))) (fun g => ?_)
  refine c_seq (fun K21 hK21 => ?_)
  refine c_region ?_
  refine l_step (y_moveV (et g0 rfl)) ?_
  refine l_step (y_moveV (et (gS rfl (gS rfl g0)) rfl)) ?_
  refine l_step (y_conv Hvaa.underlying26 Hvaa.underlying5 (et g0 rfl) (wrapU_nat uk8)) ?_
  refine l_step (y_nil (et (gS rfl (gS rfl g0)) rfl)) ?_
  refine l_step (y_idxAC 7 7 Hvaa.underlying262 sz_5 (et g0 rfl) rfl rfl rfl) ?_
  refine l_effN (e_store sz_5 (et g0 rfl) (cellsV (et (gS rfl (gS rfl g0)) rfl) rfl) rfl (by first | exact one_bL _ | exact one_uL _ | (intro v hv; simp at hv; subst hv; rfl)) kB (by (simp [size_spl, Value.cells]; omega))) (fun v22 w22 h22 => ?_)
  obtain ⟨rfl, x22⟩ := h22
  replace kB := x22.blk
  replace U := U.st x22 (.inl (by first | rfl | (simp; done)))
  refine l_nil ?_
  refine hK21 _ _ ?_
  refine fg0 (fun g => ?_)
  refine c_seq (fun K23 hK23 => ?_)
  refine c_region ?_
  refine l_step y_assignC ?_
  refine l_nil ?_
  refine hK23 _ _ ?_
  refine c_ret ?_
  refine ret1 rfl (res_tmp (et g0 rfl)) ?_
  refine ⟨rfl, ?_, U⟩
  simp only [spl, bval, Int.toNat_natCast, Nat.mul_one, Int.reduceToNat, Nat.add_zero, Nat.add_assoc, Nat.reduceAdd] at kB ⊢
  exact kB
end Go.Proofs.YgvaawGreat
