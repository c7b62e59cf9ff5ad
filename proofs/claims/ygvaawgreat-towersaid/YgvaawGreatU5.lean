import Derived.Test.YgvaawGreatU4
set_option maxRecDepth 100000
set_option linter.unusedSimpArgs false
set_option linter.unusedVariables false
namespace Go.Proofs.YgvaawGreat
open Go
/-! bytes -/
theorem be_split (j k n : Nat) : be (j + k) n = be j (n / 256 ^ k) ++ be k n := by
  induction k generalizing n with
  | zero => simp [be]
  | succ k ih =>
    rw [← Nat.add_assoc, be, be, ih, List.append_assoc, Nat.div_div_eq_div_mul, Nat.pow_succ, Nat.mul_comm 256]
theorem be_take_drop (a b c n : Nat) : ((be (a + b + c) n).drop a).take b = be b (n / 256 ^ c) := by
  rw [be_split, be_split]
  rw [List.append_assoc, List.drop_append_of_le_length (by rw [length_be]; exact Nat.le_refl _), List.drop_of_length_le (by rw [length_be]; exact Nat.le_refl _), List.nil_append]
  rw [List.take_append_of_le_length (by rw [length_be]; exact Nat.le_refl _), List.take_of_length_le (by rw [length_be]; exact Nat.le_refl _)]
theorem be8 (x : Nat) : be 8 x = [x / 72057594037927936 % 256, x / 281474976710656 % 256, x / 1099511627776 % 256, x / 4294967296 % 256, x / 16777216 % 256, x / 65536 % 256, x / 256 % 256, x % 256] := by
  simp only [be, Nat.div_div_eq_div_mul, Nat.reduceMul, List.nil_append, List.cons_append]
theorem spl_append (cs : Array Value) (o : Nat) (A B : List Value) : spl cs o (A ++ B) = spl (spl cs o A) (o + A.length) B := by
  induction A generalizing cs o with
  | nil => rfl
  | cons v A ih => simp only [List.cons_append, spl, ih, List.length_cons]; congr 1; omega
theorem bL_append (a b : List Nat) : bL (a ++ b) = bL a ++ bL b := by simp [bL]
theorem limb_be (n i : Nat) : ofBE (be 8 (n / 256 ^ (8 * i))) = limb n i := by
  rw [ofBE_be]; unfold limb; rw [Nat.pow_mul]
theorem be32_limbs (n : Nat) : be 32 n = be 8 (limb n 3) ++ (be 8 (limb n 2) ++ (be 8 (limb n 1) ++ be 8 (limb n 0))) := by
  have hb : ∀ i, be 8 (limb n i) = be 8 (n / 256 ^ (8 * i)) := by
    intro i
    rw [← limb_be]
    have h := be_ofBE (be 8 (n / 256 ^ (8 * i))) (be_lt _ _)
    rw [length_be] at h
    exact h
  rw [hb 3, hb 2, hb 1, hb 0, be_split 8 24 n, be_split 8 16 n, be_split 8 8 n]
  simp
theorem be32_spl (n : Nat) (zs : Array Value) (hz : zs.size = 32) : spl (spl (spl (spl zs (0 + 0) (bL (be 8 (limb n 3)))) (0 + 8) (bL (be 8 (limb n 2)))) (0 + 16) (bL (be 8 (limb n 1)))) (0 + 24) (bL (be 8 (limb n 0))) = (bL (be 32 n)).toArray := by
  rw [be32_limbs n, bL_append, bL_append, bL_append]
  rw [← spl_full zs _ (by simp [length_bL, length_be, hz]), spl_append, spl_append, spl_append]
  simp only [length_bL, length_be]
def bV (l : List Nat) : Value := .agg (bL l).toArray
def hV (n : Nat) : Value := bV (be 32 n)
def aV (n : Nat) : Value := bV (be 20 n)
theorem list8 {l : List Nat} (h : l.length = 8) : ∃ a b c d e f g i, l = [a, b, c, d, e, f, g, i] := by
  match l, h with
  | [a, b, c, d, e, f, g, i], _ => exact ⟨_, _, _, _, _, _, _, _, rfl⟩
theorem be64_l (b o len cap off : Nat) (l : List Nat) (w : World) (h1 : off + 8 ≤ len) (h2 : len ≤ cap) (h3 : len ≤ 1000000000) (h4 : l.length = 8) (hl : ∀ d ∈ l, d < 256) (hr : Row w b (o + off) (bL l)) :
    Ret 156 [.slice (some ⟨b, o, none⟩) len cap, .int .i64 off] w (fun v w' => v = .tuple #[.int .u64 ((ofBE l : Nat) : Int), .bool true] ∧ Up w w') := by
  obtain ⟨a0, a1, a2, a3, a4, a5, a6, a7, rfl⟩ := list8 h4
  simp only [List.mem_cons, List.not_mem_nil, or_false, forall_eq_or_imp, forall_eq] at hl
  obtain ⟨q0, q1, q2, q3, q4, q5, q6, q7⟩ := hl
  exact be64_spec b o len cap off a0 a1 a2 a3 a4 a5 a6 a7 w h1 h2 h3 q0 q1 q2 q3 q4 q5 q6 q7 hr
theorem putbe64_l (b o len cap off x : Nat) (cs : Array Value) (w : World) (h1 : off + 8 ≤ len) (h2 : len ≤ cap) (h3 : len ≤ 1000000000) (h4 : o + len ≤ cs.size) (hx : x < 18446744073709551616) (kB : Blk w b cs) :
    Ret 158 [.slice (some ⟨b, o, none⟩) len cap, .int .i64 off, .int .u64 x] w (fun v w' => v = .bool true ∧ Blk w' b (spl cs (o + off) (bL (be 8 x))) ∧ Ch (fun k => k = b) w w') := by
  rw [be8]; exact putbe64_spec b o len cap off x cs w h1 h2 h3 h4 hx kB
/-- a stretch of a block of bytes -/
theorem Blk.bytes {w : World} {b : Nat} {l : List Nat} (h : Blk w b (bL l).toArray) (o k : Nat) : Row w b o (bL ((l.drop o).take k)) := by
  refine h.row fun i v hv => ?_
  unfold bL at *
  rw [List.getElem?_map, List.getElem?_take] at hv
  by_cases hi : i < k
  · rw [if_pos hi, List.getElem?_drop] at hv; simpa using hv
  · rw [if_neg hi] at hv; simp at hv
theorem fromBytes_spec (n : Nat) (w : World) :
    Ret 83 [hV n] w (fun v w' => v = wV n ∧ Up w w') := by
  have eh : (hV n).cells = (bL (be 32 n)).toArray := rfl
  refine enter (n := 36) Hvaa.func83 rfl rfl (Nat.le_of_ble_eq_true rfl) ?_
  have U := Up.refl w
  refine c_seq (fun K1 hK1 => ?_)
  refine c_region ?_
  refine l_eff (e_boxV (et g0 rfl)) (fun v2 w2 h2 => ?_)
  obtain ⟨b2, rfl, n2⟩ := h2
  have f2 : w.heap.size ≤ b2 := Nat.le_trans U.size n2.fresh
  replace U := U.tr n2.up
  have k2 := n2.blk
  refine l_eff (e_alloc zr_65) (fun v3 w3 h3 => ?_)
  obtain ⟨b3, rfl, n3⟩ := h3
  have d2_3 : b2 < b3 := Nat.lt_of_lt_of_le k2.lt n3.fresh
  have f3 : w.heap.size ≤ b3 := Nat.le_trans U.size n3.fresh
  replace k2 := k2.up n3.up
  replace U := U.tr n3.up
  have k3 := n3.blk
  refine l_nil ?_
  refine hK1 _ _ ?_
  refine fg2 1 2 (gS rfl g0) g0 (fun g => ?_)
  refine c_seq (fun K4 hK4 => ?_)
  refine c_region ?_
  refine l_step (y_slA000 Hvaa.underlying27 sz_5 (et (gS rfl g0) rfl) ) ?_
  refine l_eff (e_callV cal_156 (aC (et g0 rfl) (aC (v := .int .i64 ((0 : Nat) : Int)) rfl aN)) (be64_l b2 0 32 32 0 ((be 32 n).drop 0 |>.take 8) _ (by decide) (by decide) (by decide) (by simp [length_be]) (fun d hd => be_lt 32 n d (List.mem_of_mem_drop (List.mem_of_mem_take hd))) (by simpa using k2.bytes 0 8))) (fun v5 w5 h5 => ?_)
  obtain ⟨rfl, u5⟩ := h5
  replace k2 := k2.up u5
  replace k3 := k3.up u5
  replace U := U.tr u5
  refine l_step (y_moveV (et g0 rfl)) ?_
  refine l_step (y_ext (et g0 rfl) rfl) ?_
  refine l_step (y_ext (et (gS rfl g0) rfl) rfl) ?_
  refine l_step (y_assignV (et (gS rfl g0) rfl)) ?_
  refine l_step (y_assignV (et (gS rfl g0) rfl)) ?_
  refine l_nil ?_
  refine hK4 _ _ ?_
  refine fg3 1 2 3 (gS rfl (gS rfl (gS rfl (gS rfl (gS rfl (gS rfl (gS rfl (gS rfl g0)))))))) (gS rfl (gS rfl (gS rfl (gS rfl (gS rfl (gS rfl (gS rfl g0))))))) (gS rfl g0) (fun g => ?_)
  refine c_seq (fun K6 hK6 => ?_)
  refine c_region ?_
  refine l_step (y_slA000 Hvaa.underlying27 sz_5 (et (gS rfl (gS rfl g0)) rfl) ) ?_
  refine l_eff (e_callV cal_156 (aC (et g0 rfl) (aC (v := .int .i64 ((8 : Nat) : Int)) rfl aN)) (be64_l b2 0 32 32 8 ((be 32 n).drop 8 |>.take 8) _ (by decide) (by decide) (by decide) (by simp [length_be]) (fun d hd => be_lt 32 n d (List.mem_of_mem_drop (List.mem_of_mem_take hd))) (by simpa using k2.bytes 8 8))) (fun v7 w7 h7 => ?_)
  obtain ⟨rfl, u7⟩ := h7
  replace k2 := k2.up u7
  replace k3 := k3.up u7
  replace U := U.tr u7
  refine l_step (y_moveV (et g0 rfl)) ?_
  refine l_step (y_ext (et g0 rfl) rfl) ?_
  refine l_step (y_ext (et (gS rfl g0) rfl) rfl) ?_
  refine l_step (y_assignV (et (gS rfl g0) rfl)) ?_
  refine l_step (y_assignV (et (gS rfl g0) rfl)) ?_
  refine l_nil ?_
  refine hK6 _ _ ?_
  refine fg4 1 2 3 5 (gS rfl (gS rfl (gS rfl (gS rfl (gS rfl (gS rfl (gS rfl (gS rfl (gS rfl g0))))))))) (gS rfl (gS rfl (gS rfl (gS rfl (gS rfl (gS rfl (gS rfl (gS rfl g0)))))))) (gS rfl (gS rfl (gS rfl (gS rfl (gS rfl (gS rfl (gS rfl g0))))))) (gS rfl g0) (fun g => ?_)
  refine c_seq (fun K8 hK8 => ?_)
  refine c_region ?_
  refine l_step (y_slA000 Hvaa.underlying27 sz_5 (et (gS rfl (gS rfl (gS rfl g0))) rfl) ) ?_
  refine l_eff (e_callV cal_156 (aC (et g0 rfl) (aC (v := .int .i64 ((16 : Nat) : Int)) rfl aN)) (be64_l b2 0 32 32 16 ((be 32 n).drop 16 |>.take 8) _ (by decide) (by decide) (by decide) (by simp [length_be]) (fun d hd => be_lt 32 n d (List.mem_of_mem_drop (List.mem_of_mem_take hd))) (by simpa using k2.bytes 16 8))) (fun v9 w9 h9 => ?_)
  obtain ⟨rfl, u9⟩ := h9
  replace k2 := k2.up u9
  replace k3 := k3.up u9
  replace U := U.tr u9
  refine l_step (y_moveV (et g0 rfl)) ?_
  refine l_step (y_ext (et g0 rfl) rfl) ?_
  refine l_step (y_ext (et (gS rfl g0) rfl) rfl) ?_
  refine l_step (y_assignV (et (gS rfl g0) rfl)) ?_
  refine l_step (y_assignV (et (gS rfl g0) rfl)) ?_
  refine l_nil ?_
  refine hK8 _ _ ?_
  refine fg5 1 2 3 5 7 (gS rfl (gS rfl (gS rfl (gS rfl (gS rfl (gS rfl (gS rfl (gS rfl (gS rfl (gS rfl g0)))))))))) (gS rfl (gS rfl (gS rfl (gS rfl (gS rfl (gS rfl (gS rfl (gS rfl (gS rfl g0))))))))) (gS rfl (gS rfl (gS rfl (gS rfl (gS rfl (gS rfl (gS rfl (gS rfl g0)))))))) (gS rfl (gS rfl (gS rfl (gS rfl (gS rfl (gS rfl (gS rfl g0))))))) (gS rfl g0) (fun g => ?_)
  refine c_seq (fun K10 hK10 => ?_)
  refine c_region ?_
  refine l_step (y_slA000 Hvaa.underlying27 sz_5 (et (gS rfl (gS rfl (gS rfl (gS rfl g0)))) rfl) ) ?_
  refine l_eff (e_callV cal_156 (aC (et g0 rfl) (aC (v := .int .i64 ((24 : Nat) : Int)) rfl aN)) (be64_l b2 0 32 32 24 ((be 32 n).drop 24 |>.take 8) _ (by decide) (by decide) (by decide) (by simp [length_be]) (fun d hd => be_lt 32 n d (List.mem_of_mem_drop (List.mem_of_mem_take hd))) (by simpa using k2.bytes 24 8))) (fun v11 w11 h11 => ?_)
  obtain ⟨rfl, u11⟩ := h11
  replace k2 := k2.up u11
  replace k3 := k3.up u11
  replace U := U.tr u11
  refine l_step (y_moveV (et g0 rfl)) ?_
  refine l_step (y_ext (et g0 rfl) rfl) ?_
  refine l_step (y_ext (et (gS rfl g0) rfl) rfl) ?_
  refine l_step (y_assignV (et (gS rfl g0) rfl)) ?_
  refine l_step (y_assignV (et (gS rfl g0) rfl)) ?_
  refine l_nil ?_
  refine hK10 _ _ ?_
  refine fg5 2 3 5 7 9 (gS rfl (gS rfl (gS rfl (gS rfl (gS rfl (gS rfl (gS rfl (gS rfl (gS rfl (gS rfl g0)))))))))) (gS rfl (gS rfl (gS rfl (gS rfl (gS rfl (gS rfl (gS rfl (gS rfl (gS rfl g0))))))))) (gS rfl (gS rfl (gS rfl (gS rfl (gS rfl (gS rfl (gS rfl (gS rfl g0)))))))) (gS rfl (gS rfl (gS rfl (gS rfl (gS rfl (gS rfl (gS rfl g0))))))) (gS rfl g0) (fun g => ?_)
  refine c_seq (fun K12 hK12 => ?_)
  refine c_region ?_
  refine l_step (y_moveV (et g0 rfl)) ?_
  refine l_step (y_moveV (et (gS rfl (gS rfl g0)) rfl)) ?_
  refine l_step (y_moveV (et (gS rfl (gS rfl (gS rfl (gS rfl g0)))) rfl)) ?_
  refine l_step (y_moveV (et (gS rfl (gS rfl (gS rfl (gS rfl (gS rfl (gS rfl g0)))))) rfl)) ?_
  refine l_step (y_bld (bC (et (gS rfl (gS rfl (gS rfl g0))) rfl) (bC (et (gS rfl (gS rfl g0)) rfl) (bC (et (gS rfl g0) rfl) (bC (et g0 rfl) bN)))) (bld65_4 _ _ _ _)) ?_
  refine l_effN (e_store sz_65 (et (gS rfl (gS rfl (gS rfl (gS rfl (gS rfl (gS rfl (gS rfl (gS rfl (gS rfl g0))))))))) rfl) (cellsV (et g0 rfl) rfl) (by first | (simp only [Value.cells, hV, aV, bV, wV, wL, List.size_toArray, length_bL, length_uL, length_be, size_spl, List.length_cons, List.length_nil, List.length_replicate, Nat.zero_add, Nat.reduceAdd, Nat.reduceLeDiff, Nat.le_refl]; done) | rfl) (by first | exact one_bL _ | exact one_uL _ | (intro v hv; simp at hv; subst hv; rfl)) k3 (by first | (simp only [Value.cells, hV, aV, bV, wV, wL, List.size_toArray, length_bL, length_uL, length_be, size_spl, List.length_cons, List.length_nil, List.length_replicate, Nat.zero_add, Nat.reduceAdd, Nat.reduceLeDiff, Nat.le_refl]; done) | exact Nat.le_of_ble_eq_true rfl | simp | omega)) (fun v13 w13 h13 => ?_)
  obtain ⟨rfl, x13⟩ := h13
  replace k2 := k2.ch x13.ch (by omega)
  replace k3 := x13.blk.full (by first | (simp only [Value.cells, hV, aV, bV, wV, wL, List.size_toArray, length_bL, length_uL, length_be, size_spl, List.length_cons, List.length_nil, List.length_replicate, Nat.zero_add, Nat.reduceAdd, Nat.reduceLeDiff, Nat.le_refl]; done) | rfl)
  replace U := U.st x13 f3
  refine l_nil ?_
  refine hK12 _ _ ?_
  refine fg1 2 (gS rfl (gS rfl (gS rfl (gS rfl (gS rfl (gS rfl (gS rfl (gS rfl (gS rfl g0))))))))) (fun g => ?_)
  refine c_ret ?_
  refine ret1 rfl (res_blk agg_65 sz_65 (et g0 rfl) (by first | (simp only [Value.cells, hV, aV, bV, wV, wL, List.size_toArray, length_bL, length_uL, length_be, size_spl, List.length_cons, List.length_nil, List.length_replicate, Nat.zero_add, Nat.reduceAdd, Nat.reduceLeDiff, Nat.le_refl]; done) | rfl) k3) ?_
  refine ⟨?_, U⟩
  rw [show ((be 32 n).drop 0 |>.take 8) = _ from be_take_drop 0 8 24 n, show ((be 32 n).drop 8 |>.take 8) = _ from be_take_drop 8 8 16 n, show ((be 32 n).drop 16 |>.take 8) = _ from be_take_drop 16 8 8 n, show ((be 32 n).drop 24 |>.take 8) = _ from be_take_drop 24 8 0 n]
  rw [limb_be n 3, limb_be n 2, limb_be n 1, limb_be n 0]
  rfl
theorem wBE32_spec (n : Nat) (w : World) :
    Ret 76 [wV n] w (fun v w' => v = hV n ∧ Up w w') := by
  refine enter (n := 21) Hvaa.func76 rfl rfl (Nat.le_of_ble_eq_true rfl) ?_
  have U := Up.refl w
  refine c_seq (fun K1 hK1 => ?_)
  refine c_region ?_
  refine l_eff (e_boxV (et g0 rfl)) (fun v2 w2 h2 => ?_)
  obtain ⟨b2, rfl, n2⟩ := h2
  have f2 : w.heap.size ≤ b2 := Nat.le_trans U.size n2.fresh
  replace U := U.tr n2.up
  have k2 := n2.blk
  refine l_eff (e_alloc zr_27) (fun v3 w3 h3 => ?_)
  obtain ⟨b3, rfl, n3⟩ := h3
  have d2_3 : b2 < b3 := Nat.lt_of_lt_of_le k2.lt n3.fresh
  have f3 : w.heap.size ≤ b3 := Nat.le_trans U.size n3.fresh
  replace k2 := k2.up n3.up
  replace U := U.tr n3.up
  have k3 := n3.blk
  obtain ⟨zs3, hz3, k3⟩ : ∃ cs : Array Value, cs.size = 32 ∧ Blk w3 b3 cs := ⟨_, rfl, k3⟩
  refine l_nil ?_
  refine hK1 _ _ ?_
  refine fg2 1 2 (gS rfl g0) g0 (fun g => ?_)
  refine c_seq (fun K4 hK4 => ?_)
  refine c_region ?_
  refine l_eff (e_alloc zr_27) (fun v5 w5 h5 => ?_)
  obtain ⟨b5, rfl, n5⟩ := h5
  have d2_5 : b2 < b5 := Nat.lt_of_lt_of_le k2.lt n5.fresh
  have d3_5 : b3 < b5 := Nat.lt_of_lt_of_le k3.lt n5.fresh
  have f5 : w.heap.size ≤ b5 := Nat.le_trans U.size n5.fresh
  replace k2 := k2.up n5.up
  replace k3 := k3.up n5.up
  replace U := U.tr n5.up
  have k5 := n5.blk
  obtain ⟨zs5, hz5, k5⟩ : ∃ cs : Array Value, cs.size = 32 ∧ Blk w5 b5 cs := ⟨_, rfl, k5⟩
  refine l_nil ?_
  refine hK4 _ _ ?_
  refine c_seq (fun K6 hK6 => ?_)
  refine c_draw Up 3 [(0, true), (1, true), (2, true), (3, false)] (by kernel_rfl) (fun w7 hu => ⟨Up.refl _, ?_⟩)
  replace k2 := k2.up hu
  replace k3 := k3.up hu
  replace k5 := k5.up hu
  replace U := U.tr hu
  have SU := Up.refl w7
  refine p_step (by exact rfl) (y_slA000 Hvaa.underlying27 sz_5 (et g0 rfl) ) ?_
  refine p_step (by exact rfl) (y_idxAC 3 3 Hvaa.underlying65 sz_26 (et (gS rfl (gS rfl (gS rfl g0))) rfl) rfl rfl rfl) ?_
  refine p_step (by exact rfl) (y_load1 one_26 (et g0 rfl) (atS (k2.cell (wL_get n 3 (by decide))))) ?_
  refine p_eff (by exact rfl) (e_callV cal_158 (aC (et (gS rfl (gS rfl g0)) rfl) (aC (v := .int .i64 ((0 : Nat) : Int)) rfl (aC (et g0 rfl) aN))) (putbe64_l _ 0 32 32 0 (limb n 3) _ _ (by decide) (by decide) (by decide) (by simp only [size_spl, hz5]; decide) (limb_lt _ _) k5)) (fun v8 w8 h8 => ?_)
  obtain ⟨rfl, q8, c8⟩ := h8
  replace k2 := k2.ch c8 (by omega)
  replace k3 := k3.ch c8 (by omega)
  replace k5 := q8
  replace U := U.cc c8 (by intro b hb; first | exact hb ▸ f5 | omega)
  refine ⟨.inl rfl, ?_⟩
  refine p_nil ?_
  refine hK6 _ _ ?_
  refine fg3 1 2 3 (gS rfl (gS rfl (gS rfl (gS rfl (gS rfl (gS rfl g0)))))) (gS rfl (gS rfl (gS rfl (gS rfl (gS rfl g0))))) (gS rfl (gS rfl (gS rfl (gS rfl g0)))) (fun g => ?_)
  refine c_seq (fun K9 hK9 => ?_)
  refine c_draw Up 3 [(0, true), (1, true), (2, true), (3, false)] (by kernel_rfl) (fun w10 hu => ⟨Up.refl _, ?_⟩)
  replace k2 := k2.up hu
  replace k3 := k3.up hu
  replace k5 := k5.up hu
  replace U := U.tr hu
  have SU := Up.refl w10
  refine p_step (by exact rfl) (y_slA000 Hvaa.underlying27 sz_5 (et g0 rfl) ) ?_
  refine p_step (by exact rfl) (y_idxAC 2 2 Hvaa.underlying65 sz_26 (et (gS rfl (gS rfl (gS rfl g0))) rfl) rfl rfl rfl) ?_
  refine p_step (by exact rfl) (y_load1 one_26 (et g0 rfl) (atS (k2.cell (wL_get n 2 (by decide))))) ?_
  refine p_eff (by exact rfl) (e_callV cal_158 (aC (et (gS rfl (gS rfl g0)) rfl) (aC (v := .int .i64 ((8 : Nat) : Int)) rfl (aC (et g0 rfl) aN))) (putbe64_l _ 0 32 32 8 (limb n 2) _ _ (by decide) (by decide) (by decide) (by simp only [size_spl, hz5]; decide) (limb_lt _ _) k5)) (fun v11 w11 h11 => ?_)
  obtain ⟨rfl, q11, c11⟩ := h11
  replace k2 := k2.ch c11 (by omega)
  replace k3 := k3.ch c11 (by omega)
  replace k5 := q11
  replace U := U.cc c11 (by intro b hb; first | exact hb ▸ f5 | omega)
  refine ⟨.inl rfl, ?_⟩
  refine p_nil ?_
  refine hK9 _ _ ?_
  refine fg3 1 2 3 (gS rfl (gS rfl (gS rfl (gS rfl (gS rfl (gS rfl g0)))))) (gS rfl (gS rfl (gS rfl (gS rfl (gS rfl g0))))) (gS rfl (gS rfl (gS rfl (gS rfl g0)))) (fun g => ?_)
  refine c_seq (fun K12 hK12 => ?_)
  refine c_draw Up 3 [(0, true), (1, true), (2, true), (3, false)] (by kernel_rfl) (fun w13 hu => ⟨Up.refl _, ?_⟩)
  replace k2 := k2.up hu
  replace k3 := k3.up hu
  replace k5 := k5.up hu
  replace U := U.tr hu
  have SU := Up.refl w13
  refine p_step (by exact rfl) (y_slA000 Hvaa.underlying27 sz_5 (et g0 rfl) ) ?_
  refine p_step (by exact rfl) (y_idxAC 1 1 Hvaa.underlying65 sz_26 (et (gS rfl (gS rfl (gS rfl g0))) rfl) rfl rfl rfl) ?_
  refine p_step (by exact rfl) (y_load1 one_26 (et g0 rfl) (atS (k2.cell (wL_get n 1 (by decide))))) ?_
  refine p_eff (by exact rfl) (e_callV cal_158 (aC (et (gS rfl (gS rfl g0)) rfl) (aC (v := .int .i64 ((16 : Nat) : Int)) rfl (aC (et g0 rfl) aN))) (putbe64_l _ 0 32 32 16 (limb n 1) _ _ (by decide) (by decide) (by decide) (by simp only [size_spl, hz5]; decide) (limb_lt _ _) k5)) (fun v14 w14 h14 => ?_)
  obtain ⟨rfl, q14, c14⟩ := h14
  replace k2 := k2.ch c14 (by omega)
  replace k3 := k3.ch c14 (by omega)
  replace k5 := q14
  replace U := U.cc c14 (by intro b hb; first | exact hb ▸ f5 | omega)
  refine ⟨.inl rfl, ?_⟩
  refine p_nil ?_
  refine hK12 _ _ ?_
  refine fg3 1 2 3 (gS rfl (gS rfl (gS rfl (gS rfl (gS rfl (gS rfl g0)))))) (gS rfl (gS rfl (gS rfl (gS rfl (gS rfl g0))))) (gS rfl (gS rfl (gS rfl (gS rfl g0)))) (fun g => ?_)
  refine c_seq (fun K15 hK15 => ?_)
  refine c_draw Up 3 [(0, true), (1, true), (2, true), (3, false)] (by kernel_rfl) (fun w16 hu => ⟨Up.refl _, ?_⟩)
  replace k2 := k2.up hu
  replace k3 := k3.up hu
  replace k5 := k5.up hu
  replace U := U.tr hu
  have SU := Up.refl w16
  refine p_step (by exact rfl) (y_slA000 Hvaa.underlying27 sz_5 (et g0 rfl) ) ?_
  refine p_step (by exact rfl) (y_idxAC 0 0 Hvaa.underlying65 sz_26 (et (gS rfl (gS rfl (gS rfl g0))) rfl) rfl rfl rfl) ?_
  refine p_step (by exact rfl) (y_load1 one_26 (et g0 rfl) (atS (k2.cell (wL_get n 0 (by decide))))) ?_
  refine p_eff (by exact rfl) (e_callV cal_158 (aC (et (gS rfl (gS rfl g0)) rfl) (aC (v := .int .i64 ((24 : Nat) : Int)) rfl (aC (et g0 rfl) aN))) (putbe64_l _ 0 32 32 24 (limb n 0) _ _ (by decide) (by decide) (by decide) (by simp only [size_spl, hz5]; decide) (limb_lt _ _) k5)) (fun v17 w17 h17 => ?_)
  obtain ⟨rfl, q17, c17⟩ := h17
  replace k2 := k2.ch c17 (by omega)
  replace k3 := k3.ch c17 (by omega)
  replace k5 := q17
  replace U := U.cc c17 (by intro b hb; first | exact hb ▸ f5 | omega)
  refine ⟨.inl rfl, ?_⟩
  replace k5 : Blk w17 b5 (bL (be 32 n)).toArray := be32_spl n zs5 hz5 ▸ k5
  refine p_nil ?_
  refine hK15 _ _ ?_
  refine fg2 2 3 (gS rfl (gS rfl (gS rfl (gS rfl (gS rfl g0))))) (gS rfl (gS rfl (gS rfl (gS rfl g0)))) (fun g => ?_)
  refine c_seq (fun K18 hK18 => ?_)
  refine c_region ?_
  refine l_step (y_loadB agg_27 sz_27 (et g0 rfl) (by simp only [List.size_toArray, length_bL, length_be]) (at1B k5)) ?_
  refine l_effN (e_store sz_27 (et (gS rfl (gS rfl g0)) rfl) (cellsV (et g0 rfl) rfl) (by first | (simp only [Value.cells, hV, aV, bV, wV, wL, List.size_toArray, length_bL, length_uL, length_be, size_spl, List.length_cons, List.length_nil, List.length_replicate, Nat.zero_add, Nat.reduceAdd, Nat.reduceLeDiff, Nat.le_refl, hz3, hz5]; done) | rfl) (by first | exact one_bL _ | exact one_uL _ | (intro v hv; simp at hv; subst hv; rfl)) k3 (by first | (simp only [Value.cells, hV, aV, bV, wV, wL, List.size_toArray, length_bL, length_uL, length_be, size_spl, List.length_cons, List.length_nil, List.length_replicate, Nat.zero_add, Nat.reduceAdd, Nat.reduceLeDiff, Nat.le_refl, hz3, hz5]; done) | exact Nat.le_of_ble_eq_true rfl | simp | omega)) (fun v19 w19 h19 => ?_)
  obtain ⟨rfl, x19⟩ := h19
  replace k2 := k2.ch x19.ch (by omega)
  replace k5 := k5.ch x19.ch (by omega)
  replace k3 := x19.blk.full (by first | (simp only [Value.cells, hV, aV, bV, wV, wL, List.size_toArray, length_bL, length_uL, length_be, size_spl, List.length_cons, List.length_nil, List.length_replicate, Nat.zero_add, Nat.reduceAdd, Nat.reduceLeDiff, Nat.le_refl, hz3, hz5]; done) | rfl)
  replace U := U.st x19 f3
  refine l_nil ?_
  refine hK18 _ _ ?_
  refine fg1 2 (gS rfl (gS rfl g0)) (fun g => ?_)
  refine c_ret ?_
  refine ret1 rfl (res_blk agg_27 sz_27 (et g0 rfl) (by first | (simp only [Value.cells, hV, aV, bV, wV, wL, List.size_toArray, length_bL, length_uL, length_be, size_spl, List.length_cons, List.length_nil, List.length_replicate, Nat.zero_add, Nat.reduceAdd, Nat.reduceLeDiff, Nat.le_refl, hz3, hz5]; done) | rfl) k3) ?_
  refine ⟨?_, U⟩
  rfl
end Go.Proofs.YgvaawGreat
