import Derived.Test.YgvaawGreatKnuth
set_option maxRecDepth 100000
set_option linter.unusedSimpArgs false
set_option linter.unusedVariables false
namespace Go.Proofs.YgvaawGreat
open Go
theorem zr_26 : Zr 26 (.int .u64 0) := by unfold Zr; kernel_rfl
theorem zc8 : (Builtin.zeroCells (Value.int IntKind.u64 0).cells (7 + 1)).toList = uL (List.replicate 8 0) := by kernel_rfl
theorem Blk.limbs {w : World} {b : Nat} {l : List Nat} (h : Blk w b (uL l).toArray) (o k : Nat) : Row w b o (uL ((l.drop o).take k)) := by
  refine h.row fun i v hv => ?_
  unfold uL at *
  rw [List.getElem?_map, List.getElem?_take] at hv
  by_cases hi : i < k
  · rw [if_pos hi, List.getElem?_drop] at hv; simpa using hv
  · rw [if_neg hi] at hv; simp at hv
theorem limbs_of (n : Nat) (h : n < W256) : ∃ l : List Nat, l.length = 4 ∧ Dig 18446744073709551616 l ∧ val 18446744073709551616 l = n ∧ wV n = .agg (uL l).toArray := by
  refine ⟨[limb n 0, limb n 1, limb n 2, limb n 3], rfl, Dig.cons (limb_lt _ _) (Dig.cons (limb_lt _ _) (Dig.cons (limb_lt _ _) (Dig.one (limb_lt _ _)))), ?_, rfl⟩
  have := ofL_limb n h
  simp only [val_cons, val_nil]
  unfold ofL at this
  omega
theorem norm_of (t : Nat) (h1 : 1 ≤ t) (hB : t < 18446744073709551616) : ∃ s, s + bitLen t = 64 ∧ s < 64 ∧ 9223372036854775808 ≤ t * 2 ^ s ∧ t * 2 ^ s < 18446744073709551616 := by
  have hbs := bitLen_spec t
  have hble := bl_le t 64 hB
  have hbl0 := bl_pos t (by omega)
  obtain ⟨s, hs⟩ : ∃ s, s + bitLen t = 64 := ⟨64 - bitLen t, by omega⟩
  have h0 : 0 < 2 ^ s := Nat.two_pow_pos s
  have hBs : (18446744073709551616 : Nat) = 2 ^ bitLen t * 2 ^ s := by rw [← Nat.pow_add, Nat.add_comm, hs]
  have hBs2 : (9223372036854775808 : Nat) = 2 ^ (bitLen t - 1) * 2 ^ s := by rw [← Nat.pow_add, show bitLen t - 1 + s = 63 by omega]
  refine ⟨s, hs, by omega, ?_, ?_⟩
  · rw [hBs2]; exact Nat.mul_le_mul_right _ (hbs.2 (by omega))
  · rw [hBs]; exact Nat.mul_lt_mul_of_pos_right hbs.1 h0
theorem norm_lo (W : List Nat) (t s b n : Nat) (hv : val 18446744073709551616 (W ++ [t]) = b) (hl : W.length = n - 1) (h : 9223372036854775808 ≤ t * 2 ^ s) : 9223372036854775808 * 18446744073709551616 ^ (n - 1) ≤ b * 2 ^ s := by
  rw [← hv, val_snoc, hl, Nat.add_mul]
  have h1 : 9223372036854775808 * 18446744073709551616 ^ (n - 1) ≤ (t * 2 ^ s) * 18446744073709551616 ^ (n - 1) := Nat.mul_le_mul_right _ h
  have h2 : 18446744073709551616 ^ (n - 1) * t * 2 ^ s = (t * 2 ^ s) * 18446744073709551616 ^ (n - 1) := by rw [Nat.mul_assoc, Nat.mul_comm]
  rw [h2]
  exact Nat.le_trans h1 (Nat.le_add_left _ _)
theorem norm_hi (W : List Nat) (t s b n : Nat) (hv : val 18446744073709551616 (W ++ [t]) = b) (hl : W.length = n - 1) (hn : 1 ≤ n) (hd : Dig 18446744073709551616 W) (hs : s < 64) (h : t * 2 ^ s < 18446744073709551616) : b * 2 ^ s < 18446744073709551616 ^ n := by
  have h1 := val_lt hd
  rw [hl] at h1
  have h3 : 2 ^ s * (t + 1) ≤ 18446744073709551616 := by
    have hB : (18446744073709551616 : Nat) = 2 ^ s * 2 ^ (64 - s) := by rw [← Nat.pow_add, show s + (64 - s) = 64 by omega]
    rw [hB]
    apply Nat.mul_le_mul_left
    rw [hB, Nat.mul_comm] at h
    exact Nat.lt_of_mul_lt_mul_left h
  have h4 : b < 18446744073709551616 ^ (n - 1) * (t + 1) := by
    rw [← hv, val_snoc, hl, Nat.mul_add, Nat.mul_one]; omega
  have h5 : b * 2 ^ s < 18446744073709551616 ^ (n - 1) * (t + 1) * 2 ^ s := Nat.mul_lt_mul_of_pos_right h4 (Nat.two_pow_pos s)
  have h6 : 18446744073709551616 ^ (n - 1) * (t + 1) * 2 ^ s ≤ 18446744073709551616 ^ (n - 1) * 18446744073709551616 := by
    rw [Nat.mul_assoc, Nat.mul_comm (t + 1)]; exact Nat.mul_le_mul_left _ h3
  rw [← Nat.pow_succ, show (n - 1).succ = n by omega] at h6
  omega
theorem cvS8 {y s : Nat} (hs : s + bitLen y = 64) : IntKind.u8.wrap ((64 : Int) - (bitLen y : Nat)) = ((s : Nat) : Int) := by
  rw [show (64 : Int) - (bitLen y : Nat) = (s : Int) by omega]; exact wrapU_id uk8 (by omega)
theorem list3 {l : List Nat} (h : l.length = 3) : ∃ a b c, l = [a, b, c] := by
  match l, h with
  | [a, b, c], _ => exact ⟨_, _, _, rfl⟩
theorem take_val (l : List Nat) (k : Nat) (hk : k ≤ l.length) (h : val 18446744073709551616 l < 18446744073709551616 ^ k) : val 18446744073709551616 (l.take k) = val 18446744073709551616 l := by
  have h1 := val_take_drop 18446744073709551616 l k hk
  rcases Nat.eq_zero_or_pos (val 18446744073709551616 (l.drop k)) with h0 | h0
  · rw [h1, h0]; simp
  · have : 18446744073709551616 ^ k * 1 ≤ 18446744073709551616 ^ k * val 18446744073709551616 (l.drop k) := Nat.mul_le_mul_left _ h0
    omega
theorem divide_spec (bx bn : Nat) (Xl : List Nat) (w : World) (hx8 : Xl.length = 8) (hdx : Dig 18446744073709551616 Xl) (hbn : bn < W256) (kB : Blk w bx (uL Xl).toArray) :
    Ret 408 [.pointer (some ⟨bx, 0, none⟩), wV bn] w (fun v w' => ∃ p : List Nat, p.length = 3 ∧ v = .tuple #[wV (if bn = 0 then 0 else val 18446744073709551616 Xl % bn), .agg (bL p).toArray] ∧ ∃ Q : List Nat, Q.length = 8 ∧ Dig 18446744073709551616 Q ∧ val 18446744073709551616 Q = val 18446744073709551616 Xl / bn ∧ Blk w' bx (uL Q).toArray ∧ Ch (fun k => k = bx) w w') := by
  have lB := kB.lt
  obtain ⟨Vl, hV4, hVd, hVv, hVe⟩ := limbs_of bn hbn
  obtain ⟨v0, Vr, rfl⟩ := cons_of_len (l := Vl) (by omega)
  rw [hVe]
  have hv0 := hVd.head
  refine enter (n := 122) Hvaa.func408 rfl rfl (Nat.le_of_ble_eq_true rfl) ?_
  have U : Ch (fun k => k = bx) w w := Ch.refl _ w
  refine c_seq (fun K1 hK1 => ?_)
  refine c_region ?_
  refine l_eff (e_boxV (et (gS rfl g0) rfl)) (fun v2 w2 h2 => ?_)
  obtain ⟨b2, rfl, n2⟩ := h2
  have f2 : w.heap.size ≤ b2 := Nat.le_trans U.size n2.fresh
  replace kB := kB.up n2.up
  replace U := U.tr n2.up
  have k2 := n2.blk
  replace k2 : Blk w2 b2 (uL (v0 :: Vr)).toArray := k2
  refine l_eff (e_alloc zr_65) (fun v3 w3 h3 => ?_)
  obtain ⟨b3, rfl, n3⟩ := h3
  have d2_3 : b2 < b3 := Nat.lt_of_lt_of_le k2.lt n3.fresh
  have f3 : w.heap.size ≤ b3 := Nat.le_trans U.size n3.fresh
  replace k2 := k2.up n3.up
  replace kB := kB.up n3.up
  replace U := U.tr n3.up
  have k3 := n3.blk
  replace k3 : Blk w3 b3 (uL [0, 0, 0, 0]).toArray := k3
  refine l_eff (e_alloc zr_407) (fun v4 w4 h4 => ?_)
  obtain ⟨b4, rfl, n4⟩ := h4
  have d2_4 : b2 < b4 := Nat.lt_of_lt_of_le k2.lt n4.fresh
  have d3_4 : b3 < b4 := Nat.lt_of_lt_of_le k3.lt n4.fresh
  have f4 : w.heap.size ≤ b4 := Nat.le_trans U.size n4.fresh
  replace k2 := k2.up n4.up
  replace k3 := k3.up n4.up
  replace kB := kB.up n4.up
  replace U := U.tr n4.up
  have k4 := n4.blk
  replace k4 : Blk w4 b4 (bL [0, 0, 0]).toArray := k4
  refine l_nil ?_
  refine hK1 _ _ ?_
  refine fg4 0 3 4 5 (gS rfl (gS rfl (gS rfl g0))) (gS rfl (gS rfl g0)) (gS rfl g0) g0 (fun g => ?_)
  refine c_seq (fun K5 hK5 => ?_)
  refine c_region ?_
  refine l_step (y_loadB agg_65 sz_65 (et (gS rfl (gS rfl g0)) rfl) (by simp only [Value.cells, List.size_toArray, length_uL, hV4]) (at1B k2)) ?_
  refine l_eff (e_callV cal_252 (aC (et g0 rfl) aN) (wLimbs_l (v0 :: Vr) _ hV4 hVd)) (fun v6 w6 h6 => ?_)
  obtain ⟨n, rfl, hn, u6⟩ := h6
  replace k2 := k2.up u6
  replace k3 := k3.up u6
  replace k4 := k4.up u6
  replace kB := kB.up u6
  replace U := U.tr u6
  refine l_step (y_assignV (et g0 rfl)) ?_
  refine l_nil ?_
  refine hK5 _ _ ?_
  refine fg5 0 3 4 5 6 (gS rfl (gS rfl (gS rfl (gS rfl (gS rfl (gS rfl g0)))))) (gS rfl (gS rfl (gS rfl (gS rfl (gS rfl g0))))) (gS rfl (gS rfl (gS rfl (gS rfl g0)))) (gS rfl (gS rfl (gS rfl g0))) g0 (fun g => ?_)
  refine c_seq (fun K7 hK7 => ?_)
  refine c_seq (fun K8 hK8 => ?_)
  refine c_region ?_
  refine l_step (y_moveV (et g0 rfl)) ?_
  refine l_step (y_eql (et g0 rfl) rfl) ?_
  refine l_nil ?_
  refine hK8 _ _ ?_
  refine fg6 0 3 4 5 6 17 (gS rfl (gS rfl (gS rfl (gS rfl (gS rfl (gS rfl g0)))))) (gS rfl (gS rfl (gS rfl (gS rfl (gS rfl g0))))) (gS rfl (gS rfl (gS rfl (gS rfl g0)))) (gS rfl (gS rfl (gS rfl g0))) (gS rfl (gS rfl g0)) g0 (fun g => ?_)
  refine c_cond (et g0 rfl) (fun cB1 => ?_) (fun cB1 => ?_)
  · skip
    
    have hz : n = 0 := by have := of_decide_eq_true cB1; omega
    subst hz
    have hb0 : bn = 0 := by rw [← hVv]; exact hn.zero
    refine c_seq (fun K10 hK10 => ?_)
    refine c_region ?_
    refine l_step (y_moveV (et (gS rfl (gS rfl (gS rfl (gS rfl (gS rfl g0))))) rfl)) ?_
    refine l_step (y_nil (et g0 rfl)) ?_
    refine l_step (y_slA000 Hvaa.underlying68 sz_26 (et g0 rfl) ) ?_
    refine l_effN (e_clear (l := uL (List.replicate 8 0)) Hvaa.underlying317 zr_26 (et g0 rfl) zc8 (one_uL _) kB (by rw [size_uL, hx8, length_uL]; decide)) (fun v11 w11 h11 => ?_)
    obtain ⟨rfl, x11⟩ := h11
    replace k2 := k2.ch x11.ch (by omega)
    replace k3 := k3.ch x11.ch (by omega)
    replace k4 := k4.ch x11.ch (by omega)
    replace kB := x11.blk.full (by rw [size_uL, hx8, length_uL]; rfl)
    replace U := U.cc x11.ch (by intro b hb; first | omega | exact .inl hb | exact .inr (hb ▸ U))
    refine l_nil ?_
    refine hK10 _ _ ?_
    refine fg2 4 5 (gS rfl (gS rfl (gS rfl (gS rfl (gS rfl (gS rfl g0)))))) (gS rfl (gS rfl (gS rfl (gS rfl (gS rfl g0))))) (fun g => ?_)
    refine c_seq (fun K12 hK12 => ?_)
    refine c_draw Up 3 [(0, true), (1, true), (2, false), (3, false)] (by kernel_rfl) (fun w13 hu => ⟨Up.refl _, ?_⟩)
    replace k2 := k2.up hu
    replace k3 := k3.up hu
    replace k4 := k4.up hu
    replace kB := kB.up hu
    replace U := U.tr hu
    have SU := Up.refl w13
    refine p_step (by exact rfl) (y_loadB agg_65 sz_65 (et (gS rfl g0) rfl) (by first | (simp only [Value.cells, hV, aV, bV, wV, wL, List.size_toArray, length_bL, length_uL, length_be, size_spl, List.length_cons, List.length_nil, List.length_replicate, Nat.zero_add, Nat.reduceAdd, Nat.reduceLeDiff, Nat.le_refl]; done) | rfl) (atSB k3)) ?_
    refine p_step (by exact rfl) (y_loadB agg_407 sz_407 (et (gS rfl g0) rfl) (by first | (simp only [Value.cells, hV, aV, bV, wV, wL, List.size_toArray, length_bL, length_uL, length_be, size_spl, List.length_cons, List.length_nil, List.length_replicate, Nat.zero_add, Nat.reduceAdd, Nat.reduceLeDiff, Nat.le_refl]; done) | rfl) (atSB k4)) ?_
    refine p_effN (by exact rfl) (e_storeS sz_65 (et (gS rfl (gS rfl (gS rfl g0))) rfl) (cellsV (et (gS rfl g0) rfl) rfl) (by first | (simp only [Value.cells, hV, aV, bV, wV, wL, List.size_toArray, length_bL, length_uL, length_be, size_spl, List.length_cons, List.length_nil, List.length_replicate, Nat.zero_add, Nat.reduceAdd, Nat.reduceLeDiff, Nat.le_refl]; done) | rfl) (by first | exact one_bL _ | exact one_uL _ | (intro v hv; simp at hv; subst hv; rfl)) k3) (fun v14 w14 h14 => ?_)
    obtain ⟨rfl, x14⟩ := h14
    replace k2 := k2.up x14
    replace k3 := k3.up x14
    replace k4 := k4.up x14
    replace kB := kB.up x14
    replace U := U.tr x14
    refine ⟨.inr (SU.tr x14), ?_⟩
    replace SU := SU.tr x14
    refine p_effN (by exact rfl) (e_storeS sz_407 (et (gS rfl (gS rfl g0)) rfl) (cellsV (et g0 rfl) rfl) (by first | (simp only [Value.cells, hV, aV, bV, wV, wL, List.size_toArray, length_bL, length_uL, length_be, size_spl, List.length_cons, List.length_nil, List.length_replicate, Nat.zero_add, Nat.reduceAdd, Nat.reduceLeDiff, Nat.le_refl]; done) | rfl) (by first | exact one_bL _ | exact one_uL _ | (intro v hv; simp at hv; subst hv; rfl)) k4) (fun v15 w15 h15 => ?_)
    obtain ⟨rfl, x15⟩ := h15
    replace k2 := k2.up x15
    replace k3 := k3.up x15
    replace k4 := k4.up x15
    replace kB := kB.up x15
    replace U := U.tr x15
    refine ⟨.inl rfl, ?_⟩
    refine p_nil ?_
    refine hK12 _ _ ?_
    refine fg2 4 5 (gS rfl (gS rfl (gS rfl g0))) (gS rfl (gS rfl g0)) (fun g => ?_)
    refine c_ret ?_
    refine ret2 rfl (res_blk agg_65 sz_65 (et (gS rfl g0) rfl) (by first | rfl | (rw [size_uL, hR54]) | (rw [size_uL, hR0l])) k3) (res_blk agg_407 sz_407 (et g0 rfl) (by first | rfl | (rw [size_uL, hR54]) | (rw [size_uL, hR0l])) k4) ?_
    refine ⟨[0, 0, 0], rfl, tup2 ?_ rfl, List.replicate 8 0, by simp, Dig.rep _ _ (by decide), ?_, kB, U⟩
    · rw [if_pos hb0]; rfl
    · rw [val_rep, hb0, Nat.div_zero]
  · skip
    
    have hz : n ≠ 0 := by have := of_decide_eq_false cB1; omega
    refine c_skip ?_
    refine hK7 _ _ ?_
    refine fg5 0 3 4 5 6 (gS rfl (gS rfl (gS rfl (gS rfl (gS rfl g0))))) (gS rfl (gS rfl (gS rfl (gS rfl g0)))) (gS rfl (gS rfl (gS rfl g0))) (gS rfl (gS rfl g0)) (gS rfl g0) (fun g => ?_)
    refine c_seq (fun K16 hK16 => ?_)
    refine c_region ?_
    refine l_step y_assignC ?_
    refine l_nil ?_
    refine hK16 _ _ ?_
    refine c_seq (fun K17 hK17 => ?_)
    refine c_block (fun Q18 hQ18 => ?_)
    refine fg6 0 3 4 5 6 7 (gS rfl (gS rfl (gS rfl (gS rfl (gS rfl g0))))) (gS rfl (gS rfl (gS rfl (gS rfl g0)))) (gS rfl (gS rfl (gS rfl g0))) (gS rfl (gS rfl g0)) (gS rfl g0) g0 (fun g => ?_)
    have e8 : (8 : Int) = ((Xl.length : Nat) : Int) := by rw [hx8]; rfl
    rw [e8]
    have hn4 := hn.1
    refine c_loop (fun k_ s_ W19 => ∃ (g : Nat → Value) (P : List Nat) (r : Nat), s_ = (upd (upd (upd (upd (upd (upd g 0 (.pointer (some ⟨bx, 0, none⟩))) 3 (.pointer (some ⟨b2, 0, none⟩))) 4 (.pointer (some ⟨b3, 0, none⟩))) 5 (.pointer (some ⟨b4, 0, none⟩))) 6 (.int .u8 (n : Nat))) 7 (.int .u8 (P.length : Nat))) ∧ P.length = k_ ∧ (Xl = P ++ List.replicate r 0) ∧ Ch (fun k => False) w6 W19) ((Xl).length) ?_ ?_
    · exact ⟨g, Xl, 0, rfl, rfl, by simp, Ch.refl _ _⟩
    · skip
      intro k_ s_ W19 hI K19 hK19
      obtain ⟨g, P, r, rfl, rfl, hP, V19⟩ := hI
      replace k2 := k2.ch V19 (by exact fun h => h)
      replace k3 := k3.ch V19 (by exact fun h => h)
      replace k4 := k4.ch V19 (by exact fun h => h)
      replace kB := kB.ch V19 (by exact fun h => h)
      replace U := U.cc V19 (by intro b hb; first | exact hb.elim | omega | (simp at hb ⊢; omega))
      have hlen := congrArg List.length hP
      simp only [List.length_append, List.length_replicate] at hlen
      have hdP : Dig 18446744073709551616 P := (hP ▸ hdx).left
      refine c_seq (fun K20 hK20 => ?_)
      refine c_seq (fun K21 hK21 => ?_)
      refine c_region ?_
      refine l_step (y_moveV (et g0 rfl)) ?_
      refine l_step (y_gtr (et g0 rfl) rfl) ?_
      refine l_step (y_moveV (et g0 rfl)) ?_
      refine gsplitL (i := 25) g0 (fun q22 => ?_) (fun q22 => ?_)
      · skip
        obtain ⟨P', x, rfl⟩ := snoc_of_len (l := P) (by have := of_decide_eq_true q22; omega)
        simp only [List.length_append, List.length_cons, List.length_nil] at hlen
        refine l_gstep (j := 2) (t := 25) (by exact rfl) (by exact rfl) (et g0 rfl) (by decide) (y_moveV (et (gS rfl (gS rfl (gS rfl (gS rfl (gS rfl (gS rfl (gS rfl (gS rfl (gS rfl g0))))))))) rfl)) ?_
        refine l_gstep (j := 2) (t := 25) (by exact rfl) (by exact rfl) (et (gS rfl g0) rfl) (by decide) (y_moveV (et (gS rfl (gS rfl (gS rfl (gS rfl (gS rfl g0))))) rfl)) ?_
        refine l_gstep (j := 2) (t := 25) (by exact rfl) (by exact rfl) (et (gS rfl (gS rfl g0)) rfl) (by decide) (y_sub (et g0 rfl) rfl (wrapU_subN (b := 1) uk8 ?_ ?_)) ?_
        simp
        (simp; omega)
        refine l_gstep (j := 2) (t := 25) (by exact rfl) (by exact rfl) (et (gS rfl (gS rfl (gS rfl g0))) rfl) (by decide) (y_nil (et (gS rfl (gS rfl g0)) rfl)) ?_
        refine l_gstep (j := 2) (t := 25) (by exact rfl) (by exact rfl) (et (gS rfl (gS rfl (gS rfl (gS rfl g0)))) rfl) (by decide) (y_idxA Hvaa.underlying68 sz_26 (et g0 rfl) (et (gS rfl g0) rfl) ?_ ?_) ?_
        exact Int.natCast_nonneg _
        (simp; omega)
        refine l_gstep (j := 2) (t := 25) (by exact rfl) (by exact rfl) (et (gS rfl (gS rfl (gS rfl (gS rfl (gS rfl g0))))) rfl) (by decide) (y_load1 one_26 (et g0 rfl) (at1 ((show Blk _ bx (uL (P' ++ x :: List.replicate r 0)).toArray from (by rw [hP] at kB; simpa using kB)).cell (uL_get P' x _ _ (by simp))))) ?_
        refine l_gstep (j := 2) (t := 25) (by exact rfl) (by exact rfl) (et (gS rfl (gS rfl (gS rfl (gS rfl (gS rfl (gS rfl g0)))))) rfl) (by decide) (y_eql (et g0 rfl) rfl) ?_
        refine l_step (y_pickT (et (gS rfl (gS rfl (gS rfl (gS rfl (gS rfl (gS rfl (gS rfl g0))))))) rfl) (et g0 rfl)) ?_
        refine l_nil ?_
        refine hK21 _ _ ?_
        refine fg7 0 3 4 5 6 7 33 (gS rfl (gS rfl (gS rfl (gS rfl (gS rfl (gS rfl (gS rfl (gS rfl (gS rfl (gS rfl (gS rfl (gS rfl (gS rfl (gS rfl (gS rfl (gS rfl (gS rfl g0))))))))))))))))) (gS rfl (gS rfl (gS rfl (gS rfl (gS rfl (gS rfl (gS rfl (gS rfl (gS rfl (gS rfl (gS rfl (gS rfl (gS rfl (gS rfl (gS rfl (gS rfl g0)))))))))))))))) (gS rfl (gS rfl (gS rfl (gS rfl (gS rfl (gS rfl (gS rfl (gS rfl (gS rfl (gS rfl (gS rfl (gS rfl (gS rfl (gS rfl (gS rfl g0))))))))))))))) (gS rfl (gS rfl (gS rfl (gS rfl (gS rfl (gS rfl (gS rfl (gS rfl (gS rfl (gS rfl (gS rfl (gS rfl (gS rfl (gS rfl g0)))))))))))))) (gS rfl (gS rfl (gS rfl (gS rfl (gS rfl (gS rfl (gS rfl (gS rfl (gS rfl (gS rfl (gS rfl (gS rfl (gS rfl g0))))))))))))) (gS rfl (gS rfl (gS rfl (gS rfl (gS rfl (gS rfl (gS rfl (gS rfl (gS rfl (gS rfl (gS rfl (gS rfl g0)))))))))))) g0 (fun g => ?_)
        refine c_cond (et g0 rfl) (fun cB2 => ?_) (fun cB2 => ?_)
        · skip
          
          have hx0 : x = 0 := by have := of_decide_eq_true cB2; omega
          refine c_skip ?_
          refine hK20 _ _ ?_
          refine fg6 0 3 4 5 6 7 (gS rfl (gS rfl (gS rfl (gS rfl (gS rfl (gS rfl g0)))))) (gS rfl (gS rfl (gS rfl (gS rfl (gS rfl g0))))) (gS rfl (gS rfl (gS rfl (gS rfl g0)))) (gS rfl (gS rfl (gS rfl g0))) (gS rfl (gS rfl g0)) (gS rfl g0) (fun g => ?_)
          refine c_block (fun Q24 hQ24 => ?_)
          refine c_region ?_
          refine l_step (y_moveV (et g0 rfl)) ?_
          refine l_step (y_sub (et g0 rfl) rfl ((wrapU_subN (b := 1) uk8 ?_ ?_).trans (castE (show (P' ++ [x]).length - 1 = P'.length by simp)))) ?_
          simp
          (simp; omega)
          refine l_step (y_assignV (et g0 rfl)) ?_
          refine l_nil ?_
          refine hQ24 _ _ _ (in_normal ?_)
          refine fK6 0 3 4 5 6 7 (gS rfl (gS rfl (gS rfl (gS rfl (gS rfl (gS rfl (gS rfl (gS rfl g0)))))))) (gS rfl (gS rfl (gS rfl (gS rfl (gS rfl (gS rfl (gS rfl g0))))))) (gS rfl (gS rfl (gS rfl (gS rfl (gS rfl (gS rfl g0)))))) (gS rfl (gS rfl (gS rfl (gS rfl (gS rfl g0))))) (gS rfl (gS rfl (gS rfl (gS rfl g0)))) g0 (fun g => ?_)
          exact hK19 ((P').length) _ _ (by simp) ⟨g, P', (r + 1), rfl, rfl, by rw [hP, List.append_assoc]; simp [List.replicate_succ, hx0], V19⟩
        · skip
          
          have hx0 : x ≠ 0 := by have := of_decide_eq_false cB2; omega
          have hres := Lim.of (P' ++ [x]) r hdP (.inr ⟨P', x, rfl, hx0⟩)
          clear hlen hx0
          generalize hTT : P' ++ [x] = T at hP hdP hres ⊢
          have hlT := congrArg List.length hP
          simp only [List.length_append, List.length_replicate] at hlT
          have hvX : val 18446744073709551616 Xl = val 18446744073709551616 T := by rw [hP, val_append, val_rep]; simp
          rw [← hP, hvX] at hres
          have hVlt := val_lt hVd
          refine c_exit ?_
          refine hQ18 _ _ _ (in_exit ?_)
          refine hK17 _ _ ?_
          refine fg6 0 3 4 5 6 7 (gS rfl (gS rfl (gS rfl (gS rfl (gS rfl (gS rfl g0)))))) (gS rfl (gS rfl (gS rfl (gS rfl (gS rfl g0))))) (gS rfl (gS rfl (gS rfl (gS rfl g0)))) (gS rfl (gS rfl (gS rfl g0))) (gS rfl (gS rfl g0)) (gS rfl g0) (fun g => ?_)
          refine c_seq (fun K25 hK25 => ?_)
          refine c_seq (fun K26 hK26 => ?_)
          refine c_region ?_
          refine l_step (y_moveV (et g0 rfl)) ?_
          refine l_step (y_moveV (et (gS rfl (gS rfl g0)) rfl)) ?_
          refine l_step (y_lss (et (gS rfl g0) rfl) (et g0 rfl)) ?_
          refine l_nil ?_
          refine hK26 _ _ ?_
          refine fg7 0 3 4 5 6 7 38 (gS rfl (gS rfl (gS rfl (gS rfl (gS rfl (gS rfl (gS rfl (gS rfl g0)))))))) (gS rfl (gS rfl (gS rfl (gS rfl (gS rfl (gS rfl (gS rfl g0))))))) (gS rfl (gS rfl (gS rfl (gS rfl (gS rfl (gS rfl g0)))))) (gS rfl (gS rfl (gS rfl (gS rfl (gS rfl g0))))) (gS rfl (gS rfl (gS rfl (gS rfl g0)))) (gS rfl (gS rfl (gS rfl g0))) g0 (fun g => ?_)
          refine c_cond (et g0 rfl) (fun cB3 => ?_) (fun cB3 => ?_)
          · skip
            
            have htn : T.length < n := by have := of_decide_eq_true cB3; omega
            have hsm : val 18446744073709551616 T < bn := by
              have h1 := hres.lt
              have h2 := hn.2.2 hz
              rw [hVv] at h2
              exact Nat.lt_of_lt_of_le h1 (Nat.le_trans (Nat.pow_le_pow_right (by decide) (by omega)) h2)
            have hsm4 : val 18446744073709551616 Xl < 18446744073709551616 ^ 4 := by rw [hvX]; exact Nat.lt_trans hsm hbn
            obtain ⟨R0, hR0⟩ : ∃ R0, (Xl.drop 0).take 4 = R0 := ⟨_, rfl⟩
            have hR0l : R0.length = 4 := by rw [← hR0]; simp [hx8]
            have hR0d : Dig 18446744073709551616 R0 := by rw [← hR0]; exact (hdx.drop 0).take 4
            have hR0v : val 18446744073709551616 R0 = val 18446744073709551616 Xl := by rw [← hR0, List.drop_zero]; exact take_val _ 4 (by omega) hsm4
            refine c_seq (fun K28 hK28 => ?_)
            refine c_region ?_
            refine l_step (y_moveV (et (gS rfl (gS rfl (gS rfl (gS rfl (gS rfl (gS rfl g0)))))) rfl)) ?_
            refine l_step (y_nil (et g0 rfl)) ?_
            refine l_step (y_slA010 Hvaa.underlying68 sz_26 (et g0 rfl) rfl ?_ ?_) ?_
            decide
            decide
            refine l_step (y_s2a Hvaa.underlying65 (et g0 rfl) ?_) ?_
            decide
            refine l_step (y_loadR agg_65 sz_65 (et g0 rfl) (by rw [length_uL, hR0l]) (at1R (show Row _ _ 0 (uL R0) from hR0 ▸ (kB.limbs 0 4)))) ?_
            refine l_effN (e_store sz_65 (et (gS rfl (gS rfl (gS rfl (gS rfl (gS rfl (gS rfl (gS rfl (gS rfl (gS rfl g0))))))))) rfl) (cellsV (et g0 rfl) rfl) (by rw [length_uL, hR0l]) (by exact one_uL _) k3 (by (simp only [List.size_toArray, length_uL, hR0l, List.length_cons, List.length_nil]; decide))) (fun v29 w29 h29 => ?_)
            obtain ⟨rfl, x29⟩ := h29
            replace k2 := k2.ch x29.ch (by omega)
            replace k4 := k4.ch x29.ch (by omega)
            replace kB := kB.ch x29.ch (by first | omega | omega)
            replace k3 := x29.blk.full (by simp only [List.size_toArray, length_uL, hR0l, List.length_cons, List.length_nil])
            replace U := U.st x29 (.inr f3)
            refine l_nil ?_
            refine hK28 _ _ ?_
            refine fg3 0 4 5 (gS rfl (gS rfl (gS rfl (gS rfl (gS rfl (gS rfl (gS rfl (gS rfl (gS rfl (gS rfl (gS rfl g0))))))))))) (gS rfl (gS rfl (gS rfl (gS rfl (gS rfl (gS rfl (gS rfl (gS rfl (gS rfl g0))))))))) (gS rfl (gS rfl (gS rfl (gS rfl (gS rfl (gS rfl (gS rfl (gS rfl g0)))))))) (fun g => ?_)
            refine c_seq (fun K30 hK30 => ?_)
            refine c_region ?_
            refine l_step (y_moveV (et (gS rfl (gS rfl g0)) rfl)) ?_
            refine l_step (y_nil (et g0 rfl)) ?_
            refine l_step (y_slA000 Hvaa.underlying68 sz_26 (et g0 rfl) ) ?_
            refine l_effN (e_clear (l := uL (List.replicate 8 0)) Hvaa.underlying317 zr_26 (et g0 rfl) zc8 (one_uL _) kB (by rw [size_uL, hx8, length_uL]; decide)) (fun v31 w31 h31 => ?_)
            obtain ⟨rfl, x31⟩ := h31
            replace k2 := k2.ch x31.ch (by omega)
            replace k3 := k3.ch x31.ch (by omega)
            replace k4 := k4.ch x31.ch (by omega)
            replace kB := x31.blk.full (by rw [size_uL, hx8, length_uL]; rfl)
            replace U := U.cc x31.ch (by intro b hb; first | omega | exact .inl hb | exact .inr (hb ▸ U))
            refine l_nil ?_
            refine hK30 _ _ ?_
            refine fg2 4 5 (gS rfl (gS rfl (gS rfl (gS rfl g0)))) (gS rfl (gS rfl (gS rfl g0))) (fun g => ?_)
            refine c_seq (fun K32 hK32 => ?_)
            refine c_draw Up 3 [(0, true), (1, true), (2, false), (3, false)] (by kernel_rfl) (fun w33 hu => ⟨Up.refl _, ?_⟩)
            replace k2 := k2.up hu
            replace k3 := k3.up hu
            replace k4 := k4.up hu
            replace kB := kB.up hu
            replace U := U.tr hu
            have SU := Up.refl w33
            refine p_step (by exact rfl) (y_loadB agg_65 sz_65 (et (gS rfl g0) rfl) (by rw [size_uL, hR0l]) (atSB k3)) ?_
            refine p_step (by exact rfl) (y_loadB agg_407 sz_407 (et (gS rfl g0) rfl) (by first | (simp only [Value.cells, hV, aV, bV, wV, wL, List.size_toArray, length_bL, length_uL, length_be, size_spl, List.length_cons, List.length_nil, List.length_replicate, Nat.zero_add, Nat.reduceAdd, Nat.reduceLeDiff, Nat.le_refl]; done) | rfl) (atSB k4)) ?_
            refine p_effN (by exact rfl) (e_storeS sz_65 (et (gS rfl (gS rfl (gS rfl g0))) rfl) (cellsV (et (gS rfl g0) rfl) rfl) (by rw [length_uL, hR0l]) (by first | exact one_bL _ | exact one_uL _ | (intro v hv; simp at hv; subst hv; rfl)) k3) (fun v34 w34 h34 => ?_)
            obtain ⟨rfl, x34⟩ := h34
            replace k2 := k2.up x34
            replace k3 := k3.up x34
            replace k4 := k4.up x34
            replace kB := kB.up x34
            replace U := U.tr x34
            refine ⟨.inr (SU.tr x34), ?_⟩
            replace SU := SU.tr x34
            refine p_effN (by exact rfl) (e_storeS sz_407 (et (gS rfl (gS rfl g0)) rfl) (cellsV (et g0 rfl) rfl) (by first | (simp only [Value.cells, hV, aV, bV, wV, wL, List.size_toArray, length_bL, length_uL, length_be, size_spl, List.length_cons, List.length_nil, List.length_replicate, Nat.zero_add, Nat.reduceAdd, Nat.reduceLeDiff, Nat.le_refl]; done) | rfl) (by first | exact one_bL _ | exact one_uL _ | (intro v hv; simp at hv; subst hv; rfl)) k4) (fun v35 w35 h35 => ?_)
            obtain ⟨rfl, x35⟩ := h35
            replace k2 := k2.up x35
            replace k3 := k3.up x35
            replace k4 := k4.up x35
            replace kB := kB.up x35
            replace U := U.tr x35
            refine ⟨.inl rfl, ?_⟩
            refine p_nil ?_
            refine hK32 _ _ ?_
            refine fg2 4 5 (gS rfl (gS rfl (gS rfl g0))) (gS rfl (gS rfl g0)) (fun g => ?_)
            refine c_ret ?_
            refine ret2 rfl (res_blk agg_65 sz_65 (et (gS rfl g0) rfl) (by first | rfl | (rw [size_uL, hR54]) | (rw [size_uL, hR0l])) k3) (res_blk agg_407 sz_407 (et g0 rfl) (by first | rfl | (rw [size_uL, hR54]) | (rw [size_uL, hR0l])) k4) ?_
            have hb0 : bn ≠ 0 := by omega
            refine ⟨[0, 0, 0], rfl, tup2 ?_ rfl, List.replicate 8 0, by simp, Dig.rep _ _ (by decide), ?_, kB, U⟩
            · rw [if_neg hb0, Nat.mod_eq_of_lt (by rw [hvX]; exact hsm), ← hR0v]; exact wV_val hR0l hR0d
            · rw [val_rep, Nat.div_eq_of_lt (by rw [hvX]; exact hsm)]
          · skip
            
            have htn : n ≤ T.length := by have := of_decide_eq_false cB3; omega
            refine c_skip ?_
            refine hK25 _ _ ?_
            refine fg6 0 3 4 5 6 7 (gS rfl (gS rfl (gS rfl (gS rfl (gS rfl (gS rfl g0)))))) (gS rfl (gS rfl (gS rfl (gS rfl (gS rfl g0))))) (gS rfl (gS rfl (gS rfl (gS rfl g0)))) (gS rfl (gS rfl (gS rfl g0))) (gS rfl (gS rfl g0)) (gS rfl g0) (fun g => ?_)
            refine c_seq (fun K36 hK36 => ?_)
            refine c_region ?_
            refine l_step (y_moveV (et g0 rfl)) ?_
            refine l_step (y_moveV (et (gS rfl (gS rfl g0)) rfl)) ?_
            refine l_step (y_sub (et (gS rfl g0) rfl) (et g0 rfl) (wrapU_subN uk8 ?_ ?_)) ?_
            omega
            omega
            refine l_step (y_add (et g0 rfl) rfl (wrapU_addN (b := 1) uk8 ?_)) ?_
            omega
            refine l_step (y_fld fld_407_0 (et (gS rfl (gS rfl (gS rfl (gS rfl (gS rfl (gS rfl g0)))))) rfl)) ?_
            refine l_effN (e_store sz_5 (et g0 rfl) (cellsV (et (gS rfl g0) rfl) rfl) rfl (by first | exact one_bL _ | exact one_uL _ | (intro v hv; simp at hv; subst hv; rfl)) k4 (by first | exact Nat.le_of_ble_eq_true rfl | simp | omega)) (fun v37 w37 h37 => ?_)
            obtain ⟨rfl, x37⟩ := h37
            replace k2 := k2.ch x37.ch (by omega)
            replace k3 := k3.ch x37.ch (by omega)
            replace kB := kB.ch x37.ch (by first | omega | omega)
            replace k4 := x37.blk
            replace U := U.st x37 (.inr f4)
            replace k4 : Blk w37 b4 (bL [T.length - n + 1, 0, 0]).toArray := k4
            refine l_nil ?_
            refine hK36 _ _ ?_
            refine fg6 0 3 4 5 6 7 (gS rfl (gS rfl (gS rfl (gS rfl (gS rfl (gS rfl (gS rfl (gS rfl (gS rfl (gS rfl g0)))))))))) (gS rfl (gS rfl (gS rfl (gS rfl (gS rfl (gS rfl (gS rfl (gS rfl (gS rfl g0))))))))) (gS rfl (gS rfl (gS rfl (gS rfl (gS rfl (gS rfl (gS rfl (gS rfl g0)))))))) (gS rfl (gS rfl (gS rfl (gS rfl (gS rfl (gS rfl (gS rfl g0))))))) (gS rfl (gS rfl (gS rfl (gS rfl (gS rfl (gS rfl g0)))))) (gS rfl (gS rfl (gS rfl (gS rfl (gS rfl g0))))) (fun g => ?_)
            refine c_seq (fun K38 hK38 => ?_)
            refine c_seq (fun K39 hK39 => ?_)
            refine c_region ?_
            refine l_step (y_moveV (et (gS rfl g0) rfl)) ?_
            refine l_step (y_eql (et g0 rfl) rfl) ?_
            refine l_nil ?_
            refine hK39 _ _ ?_
            refine fg7 0 3 4 5 6 7 55 (gS rfl (gS rfl (gS rfl (gS rfl (gS rfl (gS rfl (gS rfl g0))))))) (gS rfl (gS rfl (gS rfl (gS rfl (gS rfl (gS rfl g0)))))) (gS rfl (gS rfl (gS rfl (gS rfl (gS rfl g0))))) (gS rfl (gS rfl (gS rfl (gS rfl g0)))) (gS rfl (gS rfl (gS rfl g0))) (gS rfl (gS rfl g0)) g0 (fun g => ?_)
            refine c_cond (et g0 rfl) (fun cB4 => ?_) (fun cB4 => ?_)
            · skip
              
              have hn1 : n = 1 := by have := of_decide_eq_true cB4; omega
              subst hn1
              have hbv : bn = v0 := by
                have h1 := hn.2.1
                rw [hVv, Nat.pow_one] at h1
                rw [val_cons] at hVv
                omega
              have hv00 : 0 < v0 := by
                have h1 := hn.2.2 (by decide)
                rw [hVv, hbv] at h1
                exact h1
              refine c_seq (fun K41 hK41 => ?_)
              refine c_region ?_
              refine l_step (y_moveV (et (gS rfl (gS rfl (gS rfl (gS rfl (gS rfl (gS rfl g0)))))) rfl)) ?_
              refine l_step (y_moveV (et (gS rfl (gS rfl g0)) rfl)) ?_
              refine l_step (y_idxAC 0 0 Hvaa.underlying65 sz_26 (et (gS rfl (gS rfl (gS rfl (gS rfl (gS rfl (gS rfl (gS rfl g0))))))) rfl) rfl rfl rfl) ?_
              refine l_step (y_load1 one_26 (et g0 rfl) (at1 (k2.cell (uL_get [] v0 Vr _ rfl)))) ?_
              refine l_eff (e_callV cal_420 (aC (et (gS rfl (gS rfl (gS rfl g0))) rfl) (aC (et (gS rfl (gS rfl g0)) rfl) (aC (et g0 rfl) aN))) (short_spec bx v0 T (List.replicate r 0) _ (by simp; omega) hdP hv00 hv0 (hP ▸ kB))) (fun v42 w42 h42 => ?_)
              obtain ⟨rm, D, rfl, hDv, hrm, hDl, hD, nB, c42⟩ := h42
              replace k2 := k2.ch c42 (by omega)
              replace k3 := k3.ch c42 (by omega)
              replace k4 := k4.ch c42 (by omega)
              replace kB := nB
              replace U := U.cc c42 (by intro b hb; first | omega | exact .inl hb | exact .inr (hb ▸ U))
              refine l_step (y_idxAC 0 0 Hvaa.underlying65 sz_26 (et (gS rfl (gS rfl (gS rfl (gS rfl (gS rfl (gS rfl (gS rfl (gS rfl (gS rfl g0))))))))) rfl) rfl rfl rfl) ?_
              refine l_effN (e_store sz_26 (et g0 rfl) (cellsV (et (gS rfl g0) rfl) rfl) rfl (by first | exact one_bL _ | exact one_uL _ | (intro v hv; simp at hv; subst hv; rfl)) k3 (by first | exact Nat.le_of_ble_eq_true rfl | simp | omega)) (fun v43 w43 h43 => ?_)
              obtain ⟨rfl, x43⟩ := h43
              replace k2 := k2.ch x43.ch (by omega)
              replace k4 := k4.ch x43.ch (by omega)
              replace kB := kB.ch x43.ch (by first | omega | omega)
              replace k3 := x43.blk
              replace U := U.st x43 (.inr f3)
              replace k3 : Blk w43 b3 (uL [rm, 0, 0, 0]).toArray := k3
              refine l_nil ?_
              refine hK41 _ _ ?_
              refine fg2 4 5 (gS rfl (gS rfl (gS rfl (gS rfl (gS rfl (gS rfl (gS rfl (gS rfl (gS rfl (gS rfl g0)))))))))) (gS rfl (gS rfl (gS rfl (gS rfl (gS rfl (gS rfl (gS rfl (gS rfl (gS rfl g0))))))))) (fun g => ?_)
              refine c_seq (fun K44 hK44 => ?_)
              refine c_draw Up 3 [(0, true), (1, true), (2, false), (3, false)] (by kernel_rfl) (fun w45 hu => ⟨Up.refl _, ?_⟩)
              replace k2 := k2.up hu
              replace k3 := k3.up hu
              replace k4 := k4.up hu
              replace kB := kB.up hu
              replace U := U.tr hu
              have SU := Up.refl w45
              refine p_step (by exact rfl) (y_loadB agg_65 sz_65 (et (gS rfl g0) rfl) (by first | (simp only [Value.cells, hV, aV, bV, wV, wL, List.size_toArray, length_bL, length_uL, length_be, size_spl, List.length_cons, List.length_nil, List.length_replicate, Nat.zero_add, Nat.reduceAdd, Nat.reduceLeDiff, Nat.le_refl]; done) | rfl) (atSB k3)) ?_
              refine p_step (by exact rfl) (y_loadB agg_407 sz_407 (et (gS rfl g0) rfl) (by first | (simp only [Value.cells, hV, aV, bV, wV, wL, List.size_toArray, length_bL, length_uL, length_be, size_spl, List.length_cons, List.length_nil, List.length_replicate, Nat.zero_add, Nat.reduceAdd, Nat.reduceLeDiff, Nat.le_refl]; done) | rfl) (atSB k4)) ?_
              refine p_effN (by exact rfl) (e_storeS sz_65 (et (gS rfl (gS rfl (gS rfl g0))) rfl) (cellsV (et (gS rfl g0) rfl) rfl) (by first | (simp only [Value.cells, hV, aV, bV, wV, wL, List.size_toArray, length_bL, length_uL, length_be, size_spl, List.length_cons, List.length_nil, List.length_replicate, Nat.zero_add, Nat.reduceAdd, Nat.reduceLeDiff, Nat.le_refl]; done) | rfl) (by first | exact one_bL _ | exact one_uL _ | (intro v hv; simp at hv; subst hv; rfl)) k3) (fun v46 w46 h46 => ?_)
              obtain ⟨rfl, x46⟩ := h46
              replace k2 := k2.up x46
              replace k3 := k3.up x46
              replace k4 := k4.up x46
              replace kB := kB.up x46
              replace U := U.tr x46
              refine ⟨.inr (SU.tr x46), ?_⟩
              replace SU := SU.tr x46
              refine p_effN (by exact rfl) (e_storeS sz_407 (et (gS rfl (gS rfl g0)) rfl) (cellsV (et g0 rfl) rfl) (by first | (simp only [Value.cells, hV, aV, bV, wV, wL, List.size_toArray, length_bL, length_uL, length_be, size_spl, List.length_cons, List.length_nil, List.length_replicate, Nat.zero_add, Nat.reduceAdd, Nat.reduceLeDiff, Nat.le_refl]; done) | rfl) (by first | exact one_bL _ | exact one_uL _ | (intro v hv; simp at hv; subst hv; rfl)) k4) (fun v47 w47 h47 => ?_)
              obtain ⟨rfl, x47⟩ := h47
              replace k2 := k2.up x47
              replace k3 := k3.up x47
              replace k4 := k4.up x47
              replace kB := kB.up x47
              replace U := U.tr x47
              refine ⟨.inl rfl, ?_⟩
              refine p_nil ?_
              refine hK44 _ _ ?_
              refine fg2 4 5 (gS rfl (gS rfl (gS rfl g0))) (gS rfl (gS rfl g0)) (fun g => ?_)
              refine c_ret ?_
              refine ret2 rfl (res_blk agg_65 sz_65 (et (gS rfl g0) rfl) (by first | rfl | (rw [size_uL, hR54]) | (rw [size_uL, hR0l])) k3) (res_blk agg_407 sz_407 (et g0 rfl) (by first | rfl | (rw [size_uL, hR54]) | (rw [size_uL, hR0l])) k4) ?_
              have hb0 : bn ≠ 0 := by omega
              have hdm : val 18446744073709551616 Xl / bn = val 18446744073709551616 D ∧ val 18446744073709551616 Xl % bn = rm := by
                rw [hvX, hDv, hbv]
                exact ⟨by rw [Nat.mul_add_div hv00, Nat.div_eq_of_lt hrm, Nat.add_zero], by rw [Nat.mul_add_mod, Nat.mod_eq_of_lt hrm]⟩
              refine ⟨_, rfl, tup2 ?_ rfl, D ++ List.replicate r 0, by simp; omega, hD.app (Dig.rep _ _ (by decide)), ?_, kB, U⟩
              · rw [if_neg hb0, hdm.2]
                refine wV_of _ _ _ _ _ (by omega) (by decide) (by decide) (by decide) ?_
                unfold ofL; omega
              · rw [hdm.1, val_append, val_rep]; simp
            · skip
              
              have hn2 : 2 ≤ n := by have := of_decide_eq_false cB4; omega
              refine c_skip ?_
              refine hK38 _ _ ?_
              refine fg5 0 3 4 5 6 (gS rfl (gS rfl (gS rfl (gS rfl (gS rfl (gS rfl g0)))))) (gS rfl (gS rfl (gS rfl (gS rfl (gS rfl g0))))) (gS rfl (gS rfl (gS rfl (gS rfl g0)))) (gS rfl (gS rfl (gS rfl g0))) (gS rfl (gS rfl g0)) (fun g => ?_)
              refine c_seq (fun K48 hK48 => ?_)
              refine c_region ?_
              refine l_eff (e_alloc zr_468) (fun v49 w49 h49 => ?_)
              obtain ⟨b49, rfl, n49⟩ := h49
              have d2_49 : b2 < b49 := Nat.lt_of_lt_of_le k2.lt n49.fresh
              have d3_49 : b3 < b49 := Nat.lt_of_lt_of_le k3.lt n49.fresh
              have d4_49 : b4 < b49 := Nat.lt_of_lt_of_le k4.lt n49.fresh
              have f49 : w.heap.size ≤ b49 := Nat.le_trans U.size n49.fresh
              replace k2 := k2.up n49.up
              replace k3 := k3.up n49.up
              replace k4 := k4.up n49.up
              replace kB := kB.up n49.up
              replace U := U.tr n49.up
              have k49 := n49.blk
              replace k49 : Blk w49 b49 (uL (List.replicate 8 0 ++ [0])).toArray := k49
              refine l_nil ?_
              refine hK48 _ _ ?_
              refine c_seq (fun K50 hK50 => ?_)
              refine c_draw Up 4 [(0, true), (1, true), (2, true), (3, true), (4, false)] (by kernel_rfl) (fun w51 hu => ⟨Up.refl _, ?_⟩)
              replace k2 := k2.up hu
              replace k3 := k3.up hu
              replace k4 := k4.up hu
              replace k49 := k49.up hu
              replace kB := kB.up hu
              replace U := U.tr hu
              have SU := Up.refl w51
              refine p_step (by exact rfl) (y_slA000 Hvaa.underlying468 sz_26 (et g0 rfl) ) ?_
              refine p_step (by exact rfl) (y_moveV (et (gS rfl (gS rfl (gS rfl (gS rfl (gS rfl (gS rfl g0)))))) rfl)) ?_
              refine p_step (by exact rfl) (y_nil (et g0 rfl)) ?_
              refine p_step (by exact rfl) (y_slA000 Hvaa.underlying68 sz_26 (et g0 rfl) ) ?_
              refine p_eff (by exact rfl) (e_copy (l := uL ((Xl.drop 0).take 8)) Hvaa.underlying317 sz_26 (et (gS rfl (gS rfl (gS rfl g0))) rfl) (et g0 rfl) (by rw [length_uL]; simp [hx8]) (kB.limbs 0 8) (one_uL _) k49 (by rw [size_uL, length_uL]; simp [hx8])) (fun v52 w52 h52 => ?_)
              obtain ⟨rfl, x52⟩ := h52
              replace k2 := k2.ch x52.ch (by omega)
              replace k3 := k3.ch x52.ch (by omega)
              replace k4 := k4.ch x52.ch (by omega)
              replace kB := kB.ch x52.ch (by omega)
              replace k49 := x52.blk
              replace U := U.cc x52.ch (by intro b hb; first | omega | exact .inl hb | exact .inr (hb ▸ f49))
              refine ⟨.inl rfl, ?_⟩
              replace k49 : Blk w52 b49 (uL (Xl ++ [0])).toArray := by
                have h := k49
                rw [List.drop_zero, List.take_of_length_le (by omega), uL_append, spl_pre _ _ _ (by simp [length_uL, hx8])] at h
                rw [uL_append]; exact h
              obtain ⟨Wd, t, hdec, hWl, hWd, hWv⟩ := dec_list (v0 :: Vr) n (by omega) (by omega) hVd hn.2.1
              have ht1 : 1 ≤ t := top_ge Wd t 1 hWd (by rw [hWv, Nat.one_mul, hWl]; exact hn.2.2 hz)
              have htB : t < 18446744073709551616 := hWd.right.head
              obtain ⟨s, hs, hs64, hnlo, hnhi⟩ := norm_of t ht1 htB
              have hV2lo : 9223372036854775808 * 18446744073709551616 ^ (n - 1) ≤ bn * 2 ^ s := norm_lo Wd t s bn n (by rw [hWv, hVv]) hWl hnlo
              have hV2hi : bn * 2 ^ s < 18446744073709551616 ^ n := norm_hi Wd t s bn n (by rw [hWv, hVv]) hWl (by omega) hWd.left hs64 hnhi
              refine p_nil ?_
              refine hK50 _ _ ?_
              refine fg6 0 3 4 5 6 8 (gS rfl (gS rfl (gS rfl (gS rfl (gS rfl (gS rfl (gS rfl (gS rfl (gS rfl (gS rfl g0)))))))))) (gS rfl (gS rfl (gS rfl (gS rfl (gS rfl (gS rfl (gS rfl (gS rfl (gS rfl g0))))))))) (gS rfl (gS rfl (gS rfl (gS rfl (gS rfl (gS rfl (gS rfl (gS rfl g0)))))))) (gS rfl (gS rfl (gS rfl (gS rfl (gS rfl (gS rfl (gS rfl g0))))))) (gS rfl (gS rfl (gS rfl (gS rfl (gS rfl (gS rfl g0)))))) (gS rfl (gS rfl (gS rfl (gS rfl (gS rfl g0))))) (fun g => ?_)
              refine c_seq (fun K53 hK53 => ?_)
              refine c_region ?_
              refine l_step (y_moveV (et (gS rfl g0) rfl)) ?_
              refine l_step (y_sub (et g0 rfl) rfl (wrapU_subN (b := 1) uk8 ?_ ?_)) ?_
              omega
              omega
              refine l_step (y_idxA Hvaa.underlying65 sz_26 (et (gS rfl (gS rfl (gS rfl (gS rfl (gS rfl (gS rfl g0)))))) rfl) (et g0 rfl) ?_ ?_) ?_
              exact Int.natCast_nonneg _
              omega
              refine l_step (y_load1 one_26 (et g0 rfl) (at1 ((show Blk _ _ (uL (Wd ++ t :: List.replicate ((v0 :: Vr).length - n) 0)).toArray from (by have h := k2; rw [hdec] at h; simpa using h)).cell (uL_get Wd t _ _ (by simp; omega))))) ?_
              refine l_eff (e_callV cal_401 (aC (et g0 rfl) aN) (lz64_spec t _ htB)) (fun v54 w54 h54 => ?_)
              obtain ⟨rfl, u54⟩ := h54
              replace k2 := k2.up u54
              replace k3 := k3.up u54
              replace k4 := k4.up u54
              replace k49 := k49.up u54
              replace kB := kB.up u54
              replace U := U.tr u54
              refine l_step (y_conv Hvaa.underlying3 Hvaa.underlying5 (et g0 rfl) (cvS8 hs)) ?_
              refine l_step (y_assignV (et g0 rfl)) ?_
              refine l_nil ?_
              refine hK53 _ _ ?_
              refine fg7 0 3 4 5 6 8 9 (gS rfl (gS rfl (gS rfl (gS rfl (gS rfl (gS rfl (gS rfl (gS rfl (gS rfl (gS rfl (gS rfl (gS rfl g0)))))))))))) (gS rfl (gS rfl (gS rfl (gS rfl (gS rfl (gS rfl (gS rfl (gS rfl (gS rfl (gS rfl (gS rfl g0))))))))))) (gS rfl (gS rfl (gS rfl (gS rfl (gS rfl (gS rfl (gS rfl (gS rfl (gS rfl (gS rfl g0)))))))))) (gS rfl (gS rfl (gS rfl (gS rfl (gS rfl (gS rfl (gS rfl (gS rfl (gS rfl g0))))))))) (gS rfl (gS rfl (gS rfl (gS rfl (gS rfl (gS rfl (gS rfl (gS rfl g0)))))))) (gS rfl (gS rfl (gS rfl (gS rfl (gS rfl (gS rfl (gS rfl g0))))))) g0 (fun g => ?_)
              refine c_seq (fun K55 hK55 => ?_)
              refine c_region ?_
              refine l_step ((y_slA000 Hvaa.underlying468 sz_26 (et (gS rfl g0) rfl) ).to (slE (o' := 0) (l' := (Xl ++ [0]).length) (c' := 9) rfl (by simp [hx8]) rfl)) ?_
              refine l_step (y_moveV (et (gS rfl g0) rfl)) ?_
              refine l_eff (e_callV cal_402 (aC (et (gS rfl g0) rfl) (aC (et g0 rfl) aN)) (shiftUp_spec b49 0 9 s [] (Xl ++ [0]) [] _ hs64 rfl (by simp; omega) (hdx.app (Dig.one (by decide))) (by simpa using k49))) (fun v56 w56 h56 => ?_)
              obtain ⟨rfl, U9, c9, hU9l, hU9, hc9, hU9v, nU, c56⟩ := h56
              replace k2 := k2.ch c56 (by omega)
              replace k3 := k3.ch c56 (by omega)
              replace k4 := k4.ch c56 (by omega)
              replace kB := kB.ch c56 (by omega)
              replace k49 := nU
              replace U := U.cc c56 (by intro b hb; first | omega | exact .inl hb | exact .inr (hb ▸ f49))
              replace k49 : Blk w56 b49 (uL U9).toArray := by simpa using k49
              refine l_nil ?_
              refine hK55 _ _ ?_
              refine fg7 0 3 4 5 6 8 9 (gS rfl (gS rfl (gS rfl (gS rfl (gS rfl (gS rfl (gS rfl (gS rfl (gS rfl g0))))))))) (gS rfl (gS rfl (gS rfl (gS rfl (gS rfl (gS rfl (gS rfl (gS rfl g0)))))))) (gS rfl (gS rfl (gS rfl (gS rfl (gS rfl (gS rfl (gS rfl g0))))))) (gS rfl (gS rfl (gS rfl (gS rfl (gS rfl (gS rfl g0)))))) (gS rfl (gS rfl (gS rfl (gS rfl (gS rfl g0))))) (gS rfl (gS rfl (gS rfl (gS rfl g0)))) (gS rfl (gS rfl (gS rfl g0))) (fun g => ?_)
              refine c_seq (fun K57 hK57 => ?_)
              refine c_region ?_
              refine l_step ((y_slA000 Hvaa.underlying65 sz_26 (et (gS rfl (gS rfl (gS rfl (gS rfl (gS rfl g0))))) rfl) ).to (slE (o' := 0) (l' := (v0 :: Vr).length) (c' := 4) rfl (by omega) rfl)) ?_
              refine l_step (y_moveV (et (gS rfl g0) rfl)) ?_
              refine l_eff (e_callV cal_402 (aC (et (gS rfl g0) rfl) (aC (et g0 rfl) aN)) (shiftUp_spec b2 0 4 s [] (v0 :: Vr) [] _ hs64 rfl (by omega) hVd (by simpa using k2))) (fun v58 w58 h58 => ?_)
              obtain ⟨rfl, V4, c4, hV4l, hV4d, hc4, hV4v, nV, c58⟩ := h58
              replace k3 := k3.ch c58 (by omega)
              replace k4 := k4.ch c58 (by omega)
              replace k49 := k49.ch c58 (by omega)
              replace kB := kB.ch c58 (by omega)
              replace k2 := nV
              replace U := U.cc c58 (by intro b hb; first | omega | exact .inl hb | exact .inr (hb ▸ f2))
              replace k2 : Blk w58 b2 (uL V4).toArray := by simpa using k2
              have hb1 : 18446744073709551616 ^ (n - 1) ≤ bn := by have h := hn.2.2 hz; rw [hVv] at h; exact h
              have hp4 : 18446744073709551616 ^ n ≤ 18446744073709551616 ^ 4 := Nat.pow_le_pow_right (by decide) (by omega)
              have hc40 : c4 = 0 := by
                rw [hVv, hV4] at hV4v
                rcases Nat.eq_zero_or_pos c4 with h | h
                · exact h
                · exfalso
                  have h1 : 1 * 18446744073709551616 ^ 4 ≤ c4 * 18446744073709551616 ^ 4 := Nat.mul_le_mul_right _ h
                  omega
              subst hc40
              have hV4e : val 18446744073709551616 V4 = bn * 2 ^ s := by rw [Nat.zero_mul, Nat.add_zero, hVv] at hV4v; exact hV4v
              obtain ⟨Wv, tv, hdv, hWvl, hWvd, hWvv⟩ := dec_list V4 n (by omega) (by omega) hV4d (by rw [hV4e]; exact hV2hi)
              have htv : 9223372036854775808 ≤ tv := top_ge Wv tv _ hWvd (by rw [hWvv, hV4e, hWvl]; exact hV2lo)
              have hc90 : c9 = 0 := by
                have h1 : val 18446744073709551616 (Xl ++ [0]) = val 18446744073709551616 Xl := by rw [val_snoc]; simp
                have h2 := val_lt hdx
                rw [hx8] at h2
                rw [h1] at hU9v
                have h3 : val 18446744073709551616 Xl * 2 ^ s < 18446744073709551616 ^ 8 * 18446744073709551616 := Nat.mul_lt_mul'' h2 (Nat.lt_of_lt_of_le (Nat.pow_lt_pow_right (by decide) hs64) (Nat.le_refl (2 ^ 64)))
                rcases Nat.eq_zero_or_pos c9 with h | h
                · exact h
                · exfalso
                  have h4 : 1 * 18446744073709551616 ^ (Xl ++ [0]).length ≤ c9 * 18446744073709551616 ^ (Xl ++ [0]).length := Nat.mul_le_mul_right _ h
                  rw [show (Xl ++ [(0 : Nat)]).length = 8 + 1 by simp [hx8], Nat.pow_succ] at h4 hU9v
                  omega
              subst hc90
              have hU9e : val 18446744073709551616 U9 = val 18446744073709551616 Xl * 2 ^ s := by
                rw [Nat.zero_mul, Nat.add_zero, val_snoc, Nat.mul_zero, Nat.add_zero] at hU9v; exact hU9v
              obtain ⟨A0, D0, hAD, hA0l, hD0l, hA0d, hD0d, hD0v⟩ := kn_init U9 (val 18446744073709551616 Xl) s bn n T.length 9 (by rw [hU9l]; simp [hx8]) hU9 hU9e (by rw [hvX]; exact hres.lt) hs64 hb1 (by omega) htn (by omega)
              obtain ⟨V00, nx, rfl⟩ := snoc_of_len (l := Wv) (by omega)
              have hnV : n = V00.length + 2 := by simp at hWvl; omega
              have hVVe : V00 ++ [nx] ++ [tv] = V00 ++ [nx, tv] := by simp
              rw [hVVe] at hdv hWvd hWvv
              have hVVd := hWvd
              have hVV : val 18446744073709551616 (V00 ++ [nx, tv]) = bn * 2 ^ s := by rw [hWvv, hV4e]
              rw [hAD] at k49
              rw [hdv] at k2
              rw [hV4l, hV4] at k2
              refine l_nil ?_
              refine hK57 _ _ ?_
              refine fg7 0 3 4 5 6 8 9 (gS rfl (gS rfl (gS rfl (gS rfl (gS rfl (gS rfl (gS rfl (gS rfl (gS rfl g0))))))))) (gS rfl (gS rfl (gS rfl (gS rfl (gS rfl (gS rfl (gS rfl (gS rfl g0)))))))) (gS rfl (gS rfl (gS rfl (gS rfl (gS rfl (gS rfl (gS rfl g0))))))) (gS rfl (gS rfl (gS rfl (gS rfl (gS rfl (gS rfl g0)))))) (gS rfl (gS rfl (gS rfl (gS rfl (gS rfl g0))))) (gS rfl (gS rfl (gS rfl (gS rfl g0)))) (gS rfl (gS rfl (gS rfl g0))) (fun g => ?_)
              refine c_seq (fun K59 hK59 => ?_)
              refine c_region ?_
              refine l_step (y_moveV (et (gS rfl (gS rfl (gS rfl (gS rfl (gS rfl (gS rfl g0)))))) rfl)) ?_
              refine l_step (y_nil (et g0 rfl)) ?_
              refine l_step (y_slA000 Hvaa.underlying68 sz_26 (et g0 rfl) ) ?_
              refine l_effN (e_clear (l := uL (List.replicate 8 0)) Hvaa.underlying317 zr_26 (et g0 rfl) zc8 (one_uL _) kB (by rw [size_uL, hx8, length_uL]; decide)) (fun v60 w60 h60 => ?_)
              obtain ⟨rfl, x60⟩ := h60
              replace k2 := k2.ch x60.ch (by omega)
              replace k3 := k3.ch x60.ch (by omega)
              replace k4 := k4.ch x60.ch (by omega)
              replace k49 := k49.ch x60.ch (by omega)
              replace kB := x60.blk.full (by rw [size_uL, hx8, length_uL]; rfl)
              replace U := U.cc x60.ch (by intro b hb; first | omega | exact .inl hb | exact .inr (hb ▸ U))
              refine l_nil ?_
              refine hK59 _ _ ?_
              refine fg7 0 3 4 5 6 8 9 (gS rfl (gS rfl (gS rfl (gS rfl (gS rfl (gS rfl (gS rfl (gS rfl (gS rfl g0))))))))) (gS rfl (gS rfl (gS rfl (gS rfl (gS rfl (gS rfl (gS rfl (gS rfl g0)))))))) (gS rfl (gS rfl (gS rfl (gS rfl (gS rfl (gS rfl (gS rfl g0))))))) (gS rfl (gS rfl (gS rfl (gS rfl (gS rfl (gS rfl g0)))))) (gS rfl (gS rfl (gS rfl (gS rfl (gS rfl g0))))) (gS rfl (gS rfl (gS rfl (gS rfl g0)))) (gS rfl (gS rfl (gS rfl g0))) (fun g => ?_)
              refine c_seq (fun K61 hK61 => ?_)
              refine c_seq (fun K62 hK62 => ?_)
              refine c_region ?_
              refine l_step (y_fld fld_407_0 (et (gS rfl (gS rfl (gS rfl g0))) rfl)) ?_
              refine l_step (y_load1 one_5 (et g0 rfl) (at1 (k4.cell (show (bL [T.length - n + 1, 0, 0]).toArray[0]? = some (.int .u8 ((T.length - n + 1 : Nat) : Int)) from rfl)))) ?_
              refine l_step (y_assignV (et g0 rfl)) ?_
              refine l_nil ?_
              refine hK62 _ _ ?_
              refine fg8 0 3 4 5 6 8 9 10 (gS rfl (gS rfl (gS rfl (gS rfl (gS rfl (gS rfl (gS rfl (gS rfl (gS rfl g0))))))))) (gS rfl (gS rfl (gS rfl (gS rfl (gS rfl (gS rfl (gS rfl (gS rfl g0)))))))) (gS rfl (gS rfl (gS rfl (gS rfl (gS rfl (gS rfl (gS rfl g0))))))) (gS rfl (gS rfl (gS rfl (gS rfl (gS rfl (gS rfl g0)))))) (gS rfl (gS rfl (gS rfl (gS rfl (gS rfl g0))))) (gS rfl (gS rfl (gS rfl (gS rfl g0)))) (gS rfl (gS rfl (gS rfl g0))) g0 (fun g => ?_)
              refine c_block (fun Q63 hQ63 => ?_)
              refine fg8 0 3 4 5 6 8 9 10 (gS rfl (gS rfl (gS rfl (gS rfl (gS rfl (gS rfl (gS rfl g0))))))) (gS rfl (gS rfl (gS rfl (gS rfl (gS rfl (gS rfl g0)))))) (gS rfl (gS rfl (gS rfl (gS rfl (gS rfl g0))))) (gS rfl (gS rfl (gS rfl (gS rfl g0)))) (gS rfl (gS rfl (gS rfl g0))) (gS rfl (gS rfl g0)) (gS rfl g0) g0 (fun g => ?_)
              rw [show ((T.length - n + 1 : Nat) : Int) = ((A0.length : Nat) : Int) by rw [hA0l]]
              replace kB : Blk w60 bx (uL (List.replicate A0.length 0 ++ List.replicate (8 - A0.length) 0)).toArray := by rw [List.replicate_append_replicate, show A0.length + (8 - A0.length) = 8 by omega]; exact kB
              refine c_loop (fun k_ s_ W64 => ∃ (g : Nat → Value) (A D Qs p : List Nat), s_ = (upd (upd (upd (upd (upd (upd (upd (upd g 0 (.pointer (some ⟨bx, 0, none⟩))) 3 (.pointer (some ⟨b2, 0, none⟩))) 4 (.pointer (some ⟨b3, 0, none⟩))) 5 (.pointer (some ⟨b4, 0, none⟩))) 6 (.int .u8 (n : Nat))) 8 (.pointer (some ⟨b49, 0, none⟩))) 9 (.int .u8 (s : Nat))) 10 (.int .u8 (A.length : Nat))) ∧ A.length = k_ ∧ (A.length + n ≤ 9) ∧ (D.length = n) ∧ (Dig 18446744073709551616 A) ∧ (Dig 18446744073709551616 D) ∧ (Dig 18446744073709551616 Qs) ∧ (A.length + Qs.length = 8) ∧ (p.length = 3) ∧ (val 18446744073709551616 D < bn * 2 ^ s) ∧ (val 18446744073709551616 (A ++ (D ++ List.replicate (9 - A.length - n) 0)) + bn * 2 ^ s * val 18446744073709551616 (List.replicate A.length 0 ++ Qs) = val 18446744073709551616 Xl * 2 ^ s) ∧ Blk W64 b49 ((uL (A ++ (D ++ List.replicate (9 - A.length - n) 0))).toArray) ∧ Blk W64 bx ((uL (List.replicate A.length 0 ++ Qs)).toArray) ∧ Blk W64 b4 ((bL p).toArray) ∧ Ch (fun k => k = b49 ∨ k = bx ∨ k = b4) w60 W64) ((A0).length) ?_ ?_
              · exact ⟨g, A0, D0, (List.replicate (8 - A0.length) 0), [T.length - n + 1, 0, 0], rfl, rfl, by omega, hD0l, hA0d, hD0d, Dig.rep _ _ (by decide), by simp; omega, rfl, hD0v, by rw [← hAD, hU9e, val_append, val_rep, val_rep]; simp, k49, kB, k4, Ch.refl _ _⟩
              · skip
                intro k_ s_ W64 hI K64 hK64
                obtain ⟨g, A, D, Qs, p, rfl, rfl, hAl, hDl, hAd, hDd, hQd, hQl, hp3, hDv, hacc, nk49, nkB, nk4, V64⟩ := hI
                replace k2 := k2.ch V64 (by omega)
                replace k3 := k3.ch V64 (by omega)
                replace k49 := nk49
                replace kB := nkB
                replace k4 := nk4
                replace U := U.cc V64 (by intro b hb; first | exact hb.elim | omega | (simp at hb ⊢; omega))
                refine c_seq (fun K65 hK65 => ?_)
                refine c_seq (fun K66 hK66 => ?_)
                refine c_region ?_
                refine l_step (y_moveV (et g0 rfl)) ?_
                refine l_step (y_gtr (et g0 rfl) rfl) ?_
                refine l_nil ?_
                refine hK66 _ _ ?_
                refine fg9 0 3 4 5 6 8 9 10 87 (gS rfl (gS rfl (gS rfl (gS rfl (gS rfl (gS rfl (gS rfl (gS rfl (gS rfl g0))))))))) (gS rfl (gS rfl (gS rfl (gS rfl (gS rfl (gS rfl (gS rfl (gS rfl g0)))))))) (gS rfl (gS rfl (gS rfl (gS rfl (gS rfl (gS rfl (gS rfl g0))))))) (gS rfl (gS rfl (gS rfl (gS rfl (gS rfl (gS rfl g0)))))) (gS rfl (gS rfl (gS rfl (gS rfl (gS rfl g0))))) (gS rfl (gS rfl (gS rfl (gS rfl g0)))) (gS rfl (gS rfl (gS rfl g0))) (gS rfl (gS rfl g0)) g0 (fun g => ?_)
                refine c_cond (et g0 rfl) (fun cB5 => ?_) (fun cB5 => ?_)
                · skip
                  
                  obtain ⟨A', l, rfl⟩ := snoc_of_len (l := A) (by have := of_decide_eq_true cB5; omega)
                  obtain ⟨pa, pb, pc, rfl⟩ := list3 hp3
                  have hA'l : (A' ++ [l]).length = A'.length + 1 := by simp
                  rw [hA'l] at hAl hQl hacc
                  replace k49 : Blk W64 b49 (uL (A' ++ ((l :: D) ++ List.replicate (9 - (A'.length + 1) - n) 0))).toArray := by have h := k49; rw [hA'l] at h; simpa using h
                  replace kB : Blk W64 bx (uL (List.replicate A'.length 0 ++ 0 :: Qs)).toArray := by have h := kB; rw [hA'l, List.replicate_succ'] at h; simpa using h
                  have hMb : val 18446744073709551616 (l :: D) < val 18446744073709551616 (V00 ++ [nx, tv]) * 18446744073709551616 := by
                    have hl' := hAd.right.head
                    rw [val_cons, hVV]; omega
                  refine c_skip ?_
                  refine hK65 _ _ ?_
                  refine fg8 0 3 4 5 6 8 9 10 (gS rfl (gS rfl (gS rfl (gS rfl (gS rfl (gS rfl (gS rfl (gS rfl g0)))))))) (gS rfl (gS rfl (gS rfl (gS rfl (gS rfl (gS rfl (gS rfl g0))))))) (gS rfl (gS rfl (gS rfl (gS rfl (gS rfl (gS rfl g0)))))) (gS rfl (gS rfl (gS rfl (gS rfl (gS rfl g0))))) (gS rfl (gS rfl (gS rfl (gS rfl g0)))) (gS rfl (gS rfl (gS rfl g0))) (gS rfl (gS rfl g0)) (gS rfl g0) (fun g => ?_)
                  refine c_seq (fun K68 hK68 => ?_)
                  refine c_block (fun Q69 hQ69 => ?_)
                  refine c_seq (fun K70 hK70 => ?_)
                  refine c_region ?_
                  refine l_step (y_moveV (et (gS rfl (gS rfl (gS rfl g0))) rfl)) ?_
                  refine l_step (y_moveV (et (gS rfl g0) rfl)) ?_
                  refine l_step (y_sub (et g0 rfl) rfl ((wrapU_subN (b := 1) uk8 ?_ ?_).trans (castE (show (A' ++ [l]).length - 1 = A'.length by simp)))) ?_
                  simp
                  (simp; omega)
                  have hR := Round_spec b49 b2 (9 - (A'.length + 1) - n) (4 - n) nx tv A' (l :: D) V00 W64 (by omega) (by simp; omega) (by omega) (by simp; omega) (Dig.cons hAd.right.head hDd) hVVd htv hMb k49 k2
                  rw [← hnV] at hR
                  refine l_eff (e_callV cal_421 (aC (et (gS rfl (gS rfl (gS rfl (gS rfl (gS rfl g0))))) rfl) (aC (et (gS rfl (gS rfl (gS rfl (gS rfl (gS rfl (gS rfl (gS rfl (gS rfl (gS rfl g0))))))))) rfl) (aC (et (gS rfl (gS rfl g0)) rfl) (aC (et g0 rfl) aN)))) hR) (fun v71 w71 h71 => ?_)
                  obtain ⟨q, f, tb, E0, rfl, hq, hE0l, hE0d, hE0v, nU, c71⟩ := h71
                  replace k2 := k2.ch c71 (by omega)
                  replace k3 := k3.ch c71 (by omega)
                  replace k4 := k4.ch c71 (by omega)
                  replace kB := kB.ch c71 (by omega)
                  replace k49 := nU
                  replace V64 := V64.cc c71 (by intro b hb; first | omega | (simp at hb ⊢; omega))
                  replace U := U.cc c71 (by intro b hb; first | omega | exact .inl hb | exact .inr (hb ▸ f49))
                  refine l_step (y_moveV (et g0 rfl)) ?_
                  refine l_step (y_ext (et g0 rfl) rfl) ?_
                  refine l_step (y_ext (et (gS rfl g0) rfl) rfl) ?_
                  refine l_step (y_ext (et (gS rfl (gS rfl g0)) rfl) rfl) ?_
                  refine l_step (y_assignV (et (gS rfl (gS rfl g0)) rfl)) ?_
                  refine l_step (y_assignV (et (gS rfl (gS rfl g0)) rfl)) ?_
                  refine l_step (y_assignV (et (gS rfl (gS rfl g0)) rfl)) ?_
                  refine l_nil ?_
                  refine hK70 _ _ ?_
                  refine fg11 0 3 4 5 6 8 9 10 11 12 13 (gS rfl (gS rfl (gS rfl (gS rfl (gS rfl (gS rfl (gS rfl (gS rfl (gS rfl (gS rfl (gS rfl (gS rfl (gS rfl (gS rfl (gS rfl (gS rfl (gS rfl (gS rfl g0)))))))))))))))))) (gS rfl (gS rfl (gS rfl (gS rfl (gS rfl (gS rfl (gS rfl (gS rfl (gS rfl (gS rfl (gS rfl (gS rfl (gS rfl (gS rfl (gS rfl (gS rfl (gS rfl g0))))))))))))))))) (gS rfl (gS rfl (gS rfl (gS rfl (gS rfl (gS rfl (gS rfl (gS rfl (gS rfl (gS rfl (gS rfl (gS rfl (gS rfl (gS rfl (gS rfl (gS rfl g0)))))))))))))))) (gS rfl (gS rfl (gS rfl (gS rfl (gS rfl (gS rfl (gS rfl (gS rfl (gS rfl (gS rfl (gS rfl (gS rfl (gS rfl (gS rfl (gS rfl g0))))))))))))))) (gS rfl (gS rfl (gS rfl (gS rfl (gS rfl (gS rfl (gS rfl (gS rfl (gS rfl (gS rfl (gS rfl (gS rfl (gS rfl (gS rfl g0)))))))))))))) (gS rfl (gS rfl (gS rfl (gS rfl (gS rfl (gS rfl (gS rfl (gS rfl (gS rfl (gS rfl (gS rfl (gS rfl (gS rfl g0))))))))))))) (gS rfl (gS rfl (gS rfl (gS rfl (gS rfl (gS rfl (gS rfl (gS rfl (gS rfl (gS rfl (gS rfl (gS rfl g0)))))))))))) (gS rfl (gS rfl (gS rfl (gS rfl (gS rfl (gS rfl (gS rfl (gS rfl (gS rfl (gS rfl (gS rfl g0))))))))))) (gS rfl (gS rfl g0)) (gS rfl g0) g0 (fun g => ?_)
                  refine c_seq (fun K72 hK72 => ?_)
                  refine c_region ?_
                  refine l_step (y_moveV (et (gS rfl (gS rfl (gS rfl (gS rfl (gS rfl (gS rfl (gS rfl (gS rfl (gS rfl (gS rfl g0)))))))))) rfl)) ?_
                  refine l_step (y_moveV (et (gS rfl (gS rfl (gS rfl (gS rfl g0)))) rfl)) ?_
                  refine l_step (y_sub (et g0 rfl) rfl ((wrapU_subN (b := 1) uk8 ?_ ?_).trans (castE (show (A' ++ [l]).length - 1 = A'.length by simp)))) ?_
                  simp
                  (simp; omega)
                  refine l_step (y_moveV (et (gS rfl (gS rfl (gS rfl (gS rfl (gS rfl g0))))) rfl)) ?_
                  refine l_step (y_nil (et (gS rfl (gS rfl (gS rfl g0))) rfl)) ?_
                  refine l_step (y_idxA Hvaa.underlying68 sz_26 (et g0 rfl) (et (gS rfl (gS rfl g0)) rfl) ?_ ?_) ?_
                  exact Int.natCast_nonneg _
                  omega
                  refine l_effN (e_store sz_26 (et g0 rfl) (cellsV (et (gS rfl (gS rfl g0)) rfl) rfl) rfl (by first | exact one_bL _ | exact one_uL _ | (intro v hv; simp at hv; subst hv; rfl)) kB (by (simp only [size_uL, List.length_append, List.length_cons, List.length_replicate, Int.toNat_natCast, Nat.mul_one]; omega))) (fun v73 w73 h73 => ?_)
                  obtain ⟨rfl, x73⟩ := h73
                  replace k2 := k2.ch x73.ch (by omega)
                  replace k3 := k3.ch x73.ch (by omega)
                  replace k4 := k4.ch x73.ch (by omega)
                  replace k49 := k49.ch x73.ch (by omega)
                  replace kB := x73.blk
                  replace U := U.st x73 (.inl (by first | rfl | (simp; done)))
                  replace V64 := V64.st x73 (by omega)
                  replace kB := kB.setU (by simp)
                  obtain ⟨E, hEe, hEl, hEd, hEv0⟩ := top_zero E0 n hE0d (by rw [hE0l]; simp [hDl]) (by rw [hE0v, hVV]; exact Nat.lt_trans (Nat.mod_lt _ (by omega)) hV2hi)
                  have hEv : val 18446744073709551616 E < bn * 2 ^ s := by rw [hEv0, hE0v, hVV]; exact Nat.mod_lt _ (by omega)
                  have hqB : q < 18446744073709551616 := by rw [hq, Nat.div_lt_iff_lt_mul (by omega), Nat.mul_comm]; exact hMb
                  have hk := kn_keep A' (l :: D) E0 Qs (9 - (A'.length + 1) - n) (bn * 2 ^ s) _ q (by rw [hq, hVV]) hE0l (by rw [hE0v, hVV]) (by simpa using hacc)
                  have hrep : E0 ++ List.replicate (9 - (A'.length + 1) - n) 0 = E ++ List.replicate (9 - A'.length - n) 0 := by
                    rw [hEe, List.append_assoc, List.singleton_append, rep_snoc]; congr 2; omega
                  rw [hrep] at hk
                  replace k49 : Blk w73 b49 (uL (A' ++ (E ++ List.replicate (9 - A'.length - n) 0))).toArray := by have h := k49; rw [hrep] at h; exact h
                  have hacc2 := hk
                  refine l_nil ?_
                  refine hK72 _ _ ?_
                  refine fg10 0 3 4 5 6 8 9 10 12 13 (gS rfl (gS rfl (gS rfl (gS rfl (gS rfl (gS rfl (gS rfl (gS rfl (gS rfl (gS rfl (gS rfl (gS rfl (gS rfl (gS rfl (gS rfl (gS rfl g0)))))))))))))))) (gS rfl (gS rfl (gS rfl (gS rfl (gS rfl (gS rfl (gS rfl (gS rfl (gS rfl (gS rfl (gS rfl (gS rfl (gS rfl (gS rfl (gS rfl g0))))))))))))))) (gS rfl (gS rfl (gS rfl (gS rfl (gS rfl (gS rfl (gS rfl (gS rfl (gS rfl (gS rfl (gS rfl (gS rfl (gS rfl (gS rfl g0)))))))))))))) (gS rfl (gS rfl (gS rfl (gS rfl (gS rfl (gS rfl (gS rfl (gS rfl (gS rfl (gS rfl (gS rfl (gS rfl (gS rfl g0))))))))))))) (gS rfl (gS rfl (gS rfl (gS rfl (gS rfl (gS rfl (gS rfl (gS rfl (gS rfl (gS rfl (gS rfl (gS rfl g0)))))))))))) (gS rfl (gS rfl (gS rfl (gS rfl (gS rfl (gS rfl (gS rfl (gS rfl (gS rfl (gS rfl (gS rfl g0))))))))))) (gS rfl (gS rfl (gS rfl (gS rfl (gS rfl (gS rfl (gS rfl (gS rfl (gS rfl (gS rfl g0)))))))))) (gS rfl (gS rfl (gS rfl (gS rfl (gS rfl (gS rfl (gS rfl (gS rfl (gS rfl g0))))))))) (gS rfl (gS rfl (gS rfl (gS rfl (gS rfl (gS rfl (gS rfl g0))))))) (gS rfl (gS rfl (gS rfl (gS rfl (gS rfl (gS rfl g0)))))) (fun g => ?_)
                  refine c_seq (fun K74 hK74 => ?_)
                  refine c_region ?_
                  refine l_step (y_fld fld_407_1 (et (gS rfl (gS rfl (gS rfl (gS rfl (gS rfl (gS rfl g0)))))) rfl)) ?_
                  refine l_step (y_load1 one_5 (et g0 rfl) (at1 (k4.cell rfl))) ?_
                  refine l_step (y_moveV (et (gS rfl (gS rfl (gS rfl g0))) rfl)) ?_
                  refine l_step (y_add (et (gS rfl g0) rfl) (et g0 rfl) (wrapU_add uk8)) ?_
                  refine l_step (y_fld fld_407_1 (et (gS rfl (gS rfl (gS rfl (gS rfl (gS rfl (gS rfl (gS rfl (gS rfl (gS rfl (gS rfl g0)))))))))) rfl)) ?_
                  refine l_effN (e_store sz_5 (et g0 rfl) (cellsV (et (gS rfl g0) rfl) rfl) rfl (by first | exact one_bL _ | exact one_uL _ | (intro v hv; simp at hv; subst hv; rfl)) k4 (by first | exact Nat.le_of_ble_eq_true rfl | simp | omega)) (fun v75 w75 h75 => ?_)
                  obtain ⟨rfl, x75⟩ := h75
                  replace k2 := k2.ch x75.ch (by omega)
                  replace k3 := k3.ch x75.ch (by omega)
                  replace k49 := k49.ch x75.ch (by omega)
                  replace kB := kB.ch x75.ch (by first | omega | omega)
                  replace k4 := x75.blk
                  replace U := U.st x75 (.inr f4)
                  replace V64 := V64.st x75 (by omega)
                  replace k4 : Blk w75 b4 (bL [pa, (pb + f) % 256, pc]).toArray := k4
                  refine l_nil ?_
                  refine hK74 _ _ ?_
                  refine fg9 0 3 4 5 6 8 9 10 13 (gS rfl (gS rfl (gS rfl (gS rfl (gS rfl (gS rfl (gS rfl (gS rfl (gS rfl (gS rfl (gS rfl (gS rfl (gS rfl (gS rfl g0)))))))))))))) (gS rfl (gS rfl (gS rfl (gS rfl (gS rfl (gS rfl (gS rfl (gS rfl (gS rfl (gS rfl (gS rfl (gS rfl (gS rfl g0))))))))))))) (gS rfl (gS rfl (gS rfl (gS rfl (gS rfl (gS rfl (gS rfl (gS rfl (gS rfl (gS rfl (gS rfl (gS rfl g0)))))))))))) (gS rfl (gS rfl (gS rfl (gS rfl (gS rfl (gS rfl (gS rfl (gS rfl (gS rfl (gS rfl (gS rfl g0))))))))))) (gS rfl (gS rfl (gS rfl (gS rfl (gS rfl (gS rfl (gS rfl (gS rfl (gS rfl (gS rfl g0)))))))))) (gS rfl (gS rfl (gS rfl (gS rfl (gS rfl (gS rfl (gS rfl (gS rfl (gS rfl g0))))))))) (gS rfl (gS rfl (gS rfl (gS rfl (gS rfl (gS rfl (gS rfl (gS rfl g0)))))))) (gS rfl (gS rfl (gS rfl (gS rfl (gS rfl (gS rfl (gS rfl g0))))))) (gS rfl (gS rfl (gS rfl (gS rfl (gS rfl g0))))) (fun g => ?_)
                  refine c_seq (fun K76 hK76 => ?_)
                  refine c_region ?_
                  refine l_step (y_moveV (et g0 rfl)) ?_
                  refine l_nil ?_
                  refine hK76 _ _ ?_
                  refine fg9 0 3 4 5 6 8 9 10 109 (gS rfl (gS rfl (gS rfl (gS rfl (gS rfl (gS rfl (gS rfl (gS rfl (gS rfl g0))))))))) (gS rfl (gS rfl (gS rfl (gS rfl (gS rfl (gS rfl (gS rfl (gS rfl g0)))))))) (gS rfl (gS rfl (gS rfl (gS rfl (gS rfl (gS rfl (gS rfl g0))))))) (gS rfl (gS rfl (gS rfl (gS rfl (gS rfl (gS rfl g0)))))) (gS rfl (gS rfl (gS rfl (gS rfl (gS rfl g0))))) (gS rfl (gS rfl (gS rfl (gS rfl g0)))) (gS rfl (gS rfl (gS rfl g0))) (gS rfl (gS rfl g0)) g0 (fun g => ?_)
                  refine c_cond (et g0 rfl) (fun cB6 => ?_) (fun cB6 => ?_)
                  · skip
                    
                    refine c_region ?_
                    refine l_step (y_fld fld_407_2 (et (gS rfl (gS rfl (gS rfl (gS rfl (gS rfl g0))))) rfl)) ?_
                    refine l_step (y_load1 one_5 (et g0 rfl) (at1 (k4.cell rfl))) ?_
                    refine l_step (y_add (et g0 rfl) rfl (wrapU_add (b := 1) uk8)) ?_
                    refine l_step (y_fld fld_407_2 (et (gS rfl (gS rfl (gS rfl (gS rfl (gS rfl (gS rfl (gS rfl (gS rfl g0)))))))) rfl)) ?_
                    refine l_effN (e_store sz_5 (et g0 rfl) (cellsV (et (gS rfl g0) rfl) rfl) rfl (by first | exact one_bL _ | exact one_uL _ | (intro v hv; simp at hv; subst hv; rfl)) k4 (by first | exact Nat.le_of_ble_eq_true rfl | simp | omega)) (fun v78 w78 h78 => ?_)
                    obtain ⟨rfl, x78⟩ := h78
                    replace k2 := k2.ch x78.ch (by omega)
                    replace k3 := k3.ch x78.ch (by omega)
                    replace k49 := k49.ch x78.ch (by omega)
                    replace kB := kB.ch x78.ch (by first | omega | omega)
                    replace k4 := x78.blk
                    replace U := U.st x78 (.inr f4)
                    replace V64 := V64.st x78 (by omega)
                    replace k4 : Blk w78 b4 (bL [pa, (pb + f) % 256, (pc + 1) % 256]).toArray := k4
                    have hpN : [pa, (pb + f) % 256, (pc + 1) % 256].length = 3 := rfl
                    refine l_nil ?_
                    refine hQ69 _ _ _ (in_normal ?_)
                    refine hK68 _ _ ?_
                    refine fg8 0 3 4 5 6 8 9 10 (gS rfl (gS rfl (gS rfl (gS rfl (gS rfl (gS rfl (gS rfl (gS rfl (gS rfl (gS rfl (gS rfl (gS rfl g0)))))))))))) (gS rfl (gS rfl (gS rfl (gS rfl (gS rfl (gS rfl (gS rfl (gS rfl (gS rfl (gS rfl (gS rfl g0))))))))))) (gS rfl (gS rfl (gS rfl (gS rfl (gS rfl (gS rfl (gS rfl (gS rfl (gS rfl (gS rfl g0)))))))))) (gS rfl (gS rfl (gS rfl (gS rfl (gS rfl (gS rfl (gS rfl (gS rfl (gS rfl g0))))))))) (gS rfl (gS rfl (gS rfl (gS rfl (gS rfl (gS rfl (gS rfl (gS rfl g0)))))))) (gS rfl (gS rfl (gS rfl (gS rfl (gS rfl (gS rfl (gS rfl g0))))))) (gS rfl (gS rfl (gS rfl (gS rfl (gS rfl (gS rfl g0)))))) (gS rfl (gS rfl (gS rfl (gS rfl (gS rfl g0))))) (fun g => ?_)
                    refine c_region ?_
                    refine l_step (y_moveV (et g0 rfl)) ?_
                    refine l_step (y_sub (et g0 rfl) rfl ((wrapU_subN (b := 1) uk8 ?_ ?_).trans (castE (show (A' ++ [l]).length - 1 = A'.length by simp)))) ?_
                    simp
                    (simp; omega)
                    refine l_step (y_assignV (et g0 rfl)) ?_
                    refine l_nil ?_
                    refine fK8 0 3 4 5 6 8 9 10 (gS rfl (gS rfl (gS rfl (gS rfl (gS rfl (gS rfl (gS rfl (gS rfl (gS rfl (gS rfl g0)))))))))) (gS rfl (gS rfl (gS rfl (gS rfl (gS rfl (gS rfl (gS rfl (gS rfl (gS rfl g0))))))))) (gS rfl (gS rfl (gS rfl (gS rfl (gS rfl (gS rfl (gS rfl (gS rfl g0)))))))) (gS rfl (gS rfl (gS rfl (gS rfl (gS rfl (gS rfl (gS rfl g0))))))) (gS rfl (gS rfl (gS rfl (gS rfl (gS rfl (gS rfl g0)))))) (gS rfl (gS rfl (gS rfl (gS rfl (gS rfl g0))))) (gS rfl (gS rfl (gS rfl (gS rfl g0)))) g0 (fun g => ?_)
                    exact hK64 ((A').length) _ _ (by simp) ⟨g, A', E, (q :: Qs), _, rfl, rfl, by omega, hEl, hAd.left, hEd, Dig.cons hqB hQd, by simp; omega, hpN, hEv, hacc2, k49, kB, k4, V64⟩
                  · skip
                    
                    have hpN : [pa, (pb + f) % 256, pc].length = 3 := rfl
                    refine c_skip ?_
                    refine hQ69 _ _ _ (in_normal ?_)
                    refine hK68 _ _ ?_
                    refine fg8 0 3 4 5 6 8 9 10 (gS rfl (gS rfl (gS rfl (gS rfl (gS rfl (gS rfl (gS rfl (gS rfl g0)))))))) (gS rfl (gS rfl (gS rfl (gS rfl (gS rfl (gS rfl (gS rfl g0))))))) (gS rfl (gS rfl (gS rfl (gS rfl (gS rfl (gS rfl g0)))))) (gS rfl (gS rfl (gS rfl (gS rfl (gS rfl g0))))) (gS rfl (gS rfl (gS rfl (gS rfl g0)))) (gS rfl (gS rfl (gS rfl g0))) (gS rfl (gS rfl g0)) (gS rfl g0) (fun g => ?_)
                    refine c_region ?_
                    refine l_step (y_moveV (et g0 rfl)) ?_
                    refine l_step (y_sub (et g0 rfl) rfl ((wrapU_subN (b := 1) uk8 ?_ ?_).trans (castE (show (A' ++ [l]).length - 1 = A'.length by simp)))) ?_
                    simp
                    (simp; omega)
                    refine l_step (y_assignV (et g0 rfl)) ?_
                    refine l_nil ?_
                    refine fK8 0 3 4 5 6 8 9 10 (gS rfl (gS rfl (gS rfl (gS rfl (gS rfl (gS rfl (gS rfl (gS rfl (gS rfl (gS rfl g0)))))))))) (gS rfl (gS rfl (gS rfl (gS rfl (gS rfl (gS rfl (gS rfl (gS rfl (gS rfl g0))))))))) (gS rfl (gS rfl (gS rfl (gS rfl (gS rfl (gS rfl (gS rfl (gS rfl g0)))))))) (gS rfl (gS rfl (gS rfl (gS rfl (gS rfl (gS rfl (gS rfl g0))))))) (gS rfl (gS rfl (gS rfl (gS rfl (gS rfl (gS rfl g0)))))) (gS rfl (gS rfl (gS rfl (gS rfl (gS rfl g0))))) (gS rfl (gS rfl (gS rfl (gS rfl g0)))) g0 (fun g => ?_)
                    exact hK64 ((A').length) _ _ (by simp) ⟨g, A', E, (q :: Qs), _, rfl, rfl, by omega, hEl, hAd.left, hEd, Dig.cons hqB hQd, by simp; omega, hpN, hEv, hacc2, k49, kB, k4, V64⟩
                · skip
                  
                  have hA0 : A = [] := List.eq_nil_of_length_eq_zero (by have := of_decide_eq_false cB5; omega)
                  subst hA0
                  obtain ⟨pa, pb, pc, rfl⟩ := list3 hp3
                  replace k49 : Blk W64 b49 (uL (D ++ List.replicate (9 - 0 - n) 0)).toArray := k49
                  replace kB : Blk W64 bx (uL Qs).toArray := kB
                  obtain ⟨R4, hR4⟩ : ∃ R4, ((D ++ List.replicate (9 - 0 - n) 0).drop 0).take 4 = R4 := ⟨_, rfl⟩
                  have hR4l : R4.length = 4 := by rw [← hR4]; simp; omega
                  have hR4d : Dig 18446744073709551616 R4 := by rw [← hR4]; exact ((hDd.app (Dig.rep _ _ (by decide))).drop 0).take 4
                  have hR4v : val 18446744073709551616 R4 = val 18446744073709551616 D := by
                    have h1 : val 18446744073709551616 (D ++ List.replicate (9 - 0 - n) 0) = val 18446744073709551616 D := by rw [val_append, val_rep]; simp
                    rw [← hR4, List.drop_zero, take_val _ 4 (by simp; omega) (by rw [h1]; exact Nat.lt_of_lt_of_le (Nat.lt_trans hDv hV2hi) hp4), h1]
                  have hfin := kn_done (val 18446744073709551616 Xl) bn s (bn * 2 ^ s) (val 18446744073709551616 D) (val 18446744073709551616 Qs) rfl (by have h := hacc; simpa [val_append, val_rep] using h) hDv
                  refine c_exit ?_
                  refine hQ63 _ _ _ (in_exit ?_)
                  refine hK61 _ _ ?_
                  refine fg4 4 5 8 9 (gS rfl (gS rfl (gS rfl (gS rfl (gS rfl (gS rfl g0)))))) (gS rfl (gS rfl (gS rfl (gS rfl (gS rfl g0))))) (gS rfl (gS rfl (gS rfl g0))) (gS rfl (gS rfl g0)) (fun g => ?_)
                  refine c_seq (fun K79 hK79 => ?_)
                  refine c_region ?_
                  refine l_step (y_slA010 Hvaa.underlying468 sz_26 (et (gS rfl g0) rfl) rfl ?_ ?_) ?_
                  decide
                  decide
                  refine l_step (y_s2a Hvaa.underlying65 (et g0 rfl) ?_) ?_
                  decide
                  refine l_step (y_loadR agg_65 sz_65 (et g0 rfl) (by rw [length_uL, hR4l]) (at1R (show Row _ _ 0 (uL R4) from hR4 ▸ (k49.limbs 0 4)))) ?_
                  refine l_effN (e_store sz_65 (et (gS rfl (gS rfl (gS rfl (gS rfl (gS rfl (gS rfl g0)))))) rfl) (cellsV (et g0 rfl) rfl) (by rw [length_uL, hR4l]) (by exact one_uL _) k3 (by (simp only [List.size_toArray, length_uL, hR4l, List.length_cons, List.length_nil]; decide))) (fun v80 w80 h80 => ?_)
                  obtain ⟨rfl, x80⟩ := h80
                  replace k2 := k2.ch x80.ch (by omega)
                  replace k4 := k4.ch x80.ch (by omega)
                  replace k49 := k49.ch x80.ch (by omega)
                  replace kB := kB.ch x80.ch (by first | omega | omega)
                  replace k3 := x80.blk.full (by simp only [List.size_toArray, length_uL, hR4l, List.length_cons, List.length_nil])
                  replace U := U.st x80 (.inr f3)
                  refine l_nil ?_
                  refine hK79 _ _ ?_
                  refine fg3 4 5 9 (gS rfl (gS rfl (gS rfl (gS rfl (gS rfl (gS rfl g0)))))) (gS rfl (gS rfl (gS rfl (gS rfl (gS rfl g0))))) (gS rfl (gS rfl (gS rfl g0))) (fun g => ?_)
                  refine c_seq (fun K81 hK81 => ?_)
                  refine c_region ?_
                  refine l_step ((y_slA000 Hvaa.underlying65 sz_26 (et (gS rfl (gS rfl g0)) rfl) ).to (slE (o' := 0) (l' := R4.length) (c' := 4) rfl (by rw [hR4l]) rfl)) ?_
                  refine l_step (y_moveV (et (gS rfl g0) rfl)) ?_
                  refine l_eff (e_callV cal_404 (aC (et (gS rfl g0) rfl) (aC (et g0 rfl) aN)) (shiftDown_spec b3 0 4 s [] R4 [] _ hs64 rfl (by omega) hR4d (by simpa using k3))) (fun v82 w82 h82 => ?_)
                  obtain ⟨rfl, R5, hR5l, hR5d, hR5v, nR, c82⟩ := h82
                  replace k2 := k2.ch c82 (by omega)
                  replace k4 := k4.ch c82 (by omega)
                  replace k49 := k49.ch c82 (by omega)
                  replace kB := kB.ch c82 (by omega)
                  replace k3 := nR
                  replace U := U.cc c82 (by intro b hb; first | omega | exact .inl hb | exact .inr (hb ▸ f3))
                  replace k3 : Blk w82 b3 (uL R5).toArray := by simpa using k3
                  have hR54 : R5.length = 4 := by omega
                  refine l_nil ?_
                  refine hK81 _ _ ?_
                  refine fg2 4 5 (gS rfl (gS rfl (gS rfl (gS rfl (gS rfl g0))))) (gS rfl (gS rfl (gS rfl (gS rfl g0)))) (fun g => ?_)
                  refine c_seq (fun K83 hK83 => ?_)
                  refine c_draw Up 3 [(0, true), (1, true), (2, false), (3, false)] (by kernel_rfl) (fun w84 hu => ⟨Up.refl _, ?_⟩)
                  replace k2 := k2.up hu
                  replace k3 := k3.up hu
                  replace k4 := k4.up hu
                  replace k49 := k49.up hu
                  replace kB := kB.up hu
                  replace U := U.tr hu
                  have SU := Up.refl w84
                  refine p_step (by exact rfl) (y_loadB agg_65 sz_65 (et (gS rfl g0) rfl) (by rw [size_uL, hR54]) (atSB k3)) ?_
                  refine p_step (by exact rfl) (y_loadB agg_407 sz_407 (et (gS rfl g0) rfl) (by first | (simp only [Value.cells, hV, aV, bV, wV, wL, List.size_toArray, length_bL, length_uL, length_be, size_spl, List.length_cons, List.length_nil, List.length_replicate, Nat.zero_add, Nat.reduceAdd, Nat.reduceLeDiff, Nat.le_refl]; done) | rfl) (atSB k4)) ?_
                  refine p_effN (by exact rfl) (e_storeS sz_65 (et (gS rfl (gS rfl (gS rfl g0))) rfl) (cellsV (et (gS rfl g0) rfl) rfl) (by rw [length_uL, hR54]) (by first | exact one_bL _ | exact one_uL _ | (intro v hv; simp at hv; subst hv; rfl)) k3) (fun v85 w85 h85 => ?_)
                  obtain ⟨rfl, x85⟩ := h85
                  replace k2 := k2.up x85
                  replace k3 := k3.up x85
                  replace k4 := k4.up x85
                  replace k49 := k49.up x85
                  replace kB := kB.up x85
                  replace U := U.tr x85
                  refine ⟨.inr (SU.tr x85), ?_⟩
                  replace SU := SU.tr x85
                  refine p_effN (by exact rfl) (e_storeS sz_407 (et (gS rfl (gS rfl g0)) rfl) (cellsV (et g0 rfl) rfl) (by first | (simp only [Value.cells, hV, aV, bV, wV, wL, List.size_toArray, length_bL, length_uL, length_be, size_spl, List.length_cons, List.length_nil, List.length_replicate, Nat.zero_add, Nat.reduceAdd, Nat.reduceLeDiff, Nat.le_refl]; done) | rfl) (by first | exact one_bL _ | exact one_uL _ | (intro v hv; simp at hv; subst hv; rfl)) k4) (fun v86 w86 h86 => ?_)
                  obtain ⟨rfl, x86⟩ := h86
                  replace k2 := k2.up x86
                  replace k3 := k3.up x86
                  replace k4 := k4.up x86
                  replace k49 := k49.up x86
                  replace kB := kB.up x86
                  replace U := U.tr x86
                  refine ⟨.inl rfl, ?_⟩
                  refine p_nil ?_
                  refine hK83 _ _ ?_
                  refine fg2 4 5 (gS rfl (gS rfl (gS rfl g0))) (gS rfl (gS rfl g0)) (fun g => ?_)
                  refine c_ret ?_
                  refine ret2 rfl (res_blk agg_65 sz_65 (et (gS rfl g0) rfl) (by first | rfl | (rw [size_uL, hR54]) | (rw [size_uL, hR0l])) k3) (res_blk agg_407 sz_407 (et g0 rfl) (by first | rfl | (rw [size_uL, hR54]) | (rw [size_uL, hR0l])) k4) ?_
                  have hb0 : bn ≠ 0 := by
                    intro h0
                    rw [h0, Nat.zero_mul] at hDv
                    omega
                  refine ⟨[pa, pb, pc], rfl, tup2 ?_ rfl, Qs, by simpa using hQl, hQd, hfin.1, kB, U⟩
                  rw [if_neg hb0, ← hfin.2, ← hR4v, ← hR5v]
                  exact wV_val hR54 hR5d
      · skip
        have hP0 : P = [] := List.eq_nil_of_length_eq_zero (by have := of_decide_eq_false q22; omega)
        have hres := Lim.of P r hdP (.inl hP0)
        clear hP0 hlen
        obtain ⟨T, rfl⟩ : ∃ T, T = P := ⟨_, rfl⟩
        have hlT := congrArg List.length hP
        simp only [List.length_append, List.length_replicate] at hlT
        have hvX : val 18446744073709551616 Xl = val 18446744073709551616 T := by rw [hP, val_append, val_rep]; simp
        rw [← hP, hvX] at hres
        have hVlt := val_lt hVd
        refine l_gskip (j := 2) (t := 25) (by exact rfl) (by exact rfl) (et g0 rfl) (by decide) (by decide) ?_
        refine l_gskip (j := 2) (t := 25) (by exact rfl) (by exact rfl) (et (gS rfl g0) rfl) (by decide) (by decide) ?_
        refine l_gskip (j := 2) (t := 25) (by exact rfl) (by exact rfl) (et (gS rfl (gS rfl g0)) rfl) (by decide) (by decide) ?_
        refine l_gskip (j := 2) (t := 25) (by exact rfl) (by exact rfl) (et (gS rfl (gS rfl (gS rfl g0))) rfl) (by decide) (by decide) ?_
        refine l_gskip (j := 2) (t := 25) (by exact rfl) (by exact rfl) (et (gS rfl (gS rfl (gS rfl (gS rfl g0)))) rfl) (by decide) (by decide) ?_
        refine l_gskip (j := 2) (t := 25) (by exact rfl) (by exact rfl) (et (gS rfl (gS rfl (gS rfl (gS rfl (gS rfl g0))))) rfl) (by decide) (by decide) ?_
        refine l_gskip (j := 2) (t := 25) (by exact rfl) (by exact rfl) (et (gS rfl (gS rfl (gS rfl (gS rfl (gS rfl (gS rfl g0)))))) rfl) (by decide) (by decide) ?_
        refine l_step (y_pickF (et (gS rfl (gS rfl (gS rfl (gS rfl (gS rfl (gS rfl (gS rfl g0))))))) rfl) rfl) ?_
        refine l_nil ?_
        refine hK21 _ _ ?_
        refine fg7 0 3 4 5 6 7 33 (gS rfl (gS rfl (gS rfl (gS rfl (gS rfl (gS rfl (gS rfl (gS rfl (gS rfl (gS rfl (gS rfl (gS rfl (gS rfl (gS rfl (gS rfl (gS rfl (gS rfl g0))))))))))))))))) (gS rfl (gS rfl (gS rfl (gS rfl (gS rfl (gS rfl (gS rfl (gS rfl (gS rfl (gS rfl (gS rfl (gS rfl (gS rfl (gS rfl (gS rfl (gS rfl g0)))))))))))))))) (gS rfl (gS rfl (gS rfl (gS rfl (gS rfl (gS rfl (gS rfl (gS rfl (gS rfl (gS rfl (gS rfl (gS rfl (gS rfl (gS rfl (gS rfl g0))))))))))))))) (gS rfl (gS rfl (gS rfl (gS rfl (gS rfl (gS rfl (gS rfl (gS rfl (gS rfl (gS rfl (gS rfl (gS rfl (gS rfl (gS rfl g0)))))))))))))) (gS rfl (gS rfl (gS rfl (gS rfl (gS rfl (gS rfl (gS rfl (gS rfl (gS rfl (gS rfl (gS rfl (gS rfl (gS rfl g0))))))))))))) (gS rfl (gS rfl (gS rfl (gS rfl (gS rfl (gS rfl (gS rfl (gS rfl (gS rfl (gS rfl (gS rfl (gS rfl g0)))))))))))) g0 (fun g => ?_)
        refine c_false (et g0 rfl) rfl ?_
        refine c_exit ?_
        refine hQ18 _ _ _ (in_exit ?_)
        refine hK17 _ _ ?_
        refine fg6 0 3 4 5 6 7 (gS rfl (gS rfl (gS rfl (gS rfl (gS rfl (gS rfl g0)))))) (gS rfl (gS rfl (gS rfl (gS rfl (gS rfl g0))))) (gS rfl (gS rfl (gS rfl (gS rfl g0)))) (gS rfl (gS rfl (gS rfl g0))) (gS rfl (gS rfl g0)) (gS rfl g0) (fun g => ?_)
        refine c_seq (fun K88 hK88 => ?_)
        refine c_seq (fun K89 hK89 => ?_)
        refine c_region ?_
        refine l_step (y_moveV (et g0 rfl)) ?_
        refine l_step (y_moveV (et (gS rfl (gS rfl g0)) rfl)) ?_
        refine l_step (y_lss (et (gS rfl g0) rfl) (et g0 rfl)) ?_
        refine l_nil ?_
        refine hK89 _ _ ?_
        refine fg7 0 3 4 5 6 7 38 (gS rfl (gS rfl (gS rfl (gS rfl (gS rfl (gS rfl (gS rfl (gS rfl g0)))))))) (gS rfl (gS rfl (gS rfl (gS rfl (gS rfl (gS rfl (gS rfl g0))))))) (gS rfl (gS rfl (gS rfl (gS rfl (gS rfl (gS rfl g0)))))) (gS rfl (gS rfl (gS rfl (gS rfl (gS rfl g0))))) (gS rfl (gS rfl (gS rfl (gS rfl g0)))) (gS rfl (gS rfl (gS rfl g0))) g0 (fun g => ?_)
        refine c_cond (et g0 rfl) (fun cB3 => ?_) (fun cB3 => ?_)
        · skip
          
          have htn : T.length < n := by have := of_decide_eq_true cB3; omega
          have hsm : val 18446744073709551616 T < bn := by
            have h1 := hres.lt
            have h2 := hn.2.2 hz
            rw [hVv] at h2
            exact Nat.lt_of_lt_of_le h1 (Nat.le_trans (Nat.pow_le_pow_right (by decide) (by omega)) h2)
          have hsm4 : val 18446744073709551616 Xl < 18446744073709551616 ^ 4 := by rw [hvX]; exact Nat.lt_trans hsm hbn
          obtain ⟨R0, hR0⟩ : ∃ R0, (Xl.drop 0).take 4 = R0 := ⟨_, rfl⟩
          have hR0l : R0.length = 4 := by rw [← hR0]; simp [hx8]
          have hR0d : Dig 18446744073709551616 R0 := by rw [← hR0]; exact (hdx.drop 0).take 4
          have hR0v : val 18446744073709551616 R0 = val 18446744073709551616 Xl := by rw [← hR0, List.drop_zero]; exact take_val _ 4 (by omega) hsm4
          refine c_seq (fun K91 hK91 => ?_)
          refine c_region ?_
          refine l_step (y_moveV (et (gS rfl (gS rfl (gS rfl (gS rfl (gS rfl (gS rfl g0)))))) rfl)) ?_
          refine l_step (y_nil (et g0 rfl)) ?_
          refine l_step (y_slA010 Hvaa.underlying68 sz_26 (et g0 rfl) rfl ?_ ?_) ?_
          decide
          decide
          refine l_step (y_s2a Hvaa.underlying65 (et g0 rfl) ?_) ?_
          decide
          refine l_step (y_loadR agg_65 sz_65 (et g0 rfl) (by rw [length_uL, hR0l]) (at1R (show Row _ _ 0 (uL R0) from hR0 ▸ (kB.limbs 0 4)))) ?_
          refine l_effN (e_store sz_65 (et (gS rfl (gS rfl (gS rfl (gS rfl (gS rfl (gS rfl (gS rfl (gS rfl (gS rfl g0))))))))) rfl) (cellsV (et g0 rfl) rfl) (by rw [length_uL, hR0l]) (by exact one_uL _) k3 (by (simp only [List.size_toArray, length_uL, hR0l, List.length_cons, List.length_nil]; decide))) (fun v92 w92 h92 => ?_)
          obtain ⟨rfl, x92⟩ := h92
          replace k2 := k2.ch x92.ch (by omega)
          replace k4 := k4.ch x92.ch (by omega)
          replace kB := kB.ch x92.ch (by first | omega | omega)
          replace k3 := x92.blk.full (by simp only [List.size_toArray, length_uL, hR0l, List.length_cons, List.length_nil])
          replace U := U.st x92 (.inr f3)
          refine l_nil ?_
          refine hK91 _ _ ?_
          refine fg3 0 4 5 (gS rfl (gS rfl (gS rfl (gS rfl (gS rfl (gS rfl (gS rfl (gS rfl (gS rfl (gS rfl (gS rfl g0))))))))))) (gS rfl (gS rfl (gS rfl (gS rfl (gS rfl (gS rfl (gS rfl (gS rfl (gS rfl g0))))))))) (gS rfl (gS rfl (gS rfl (gS rfl (gS rfl (gS rfl (gS rfl (gS rfl g0)))))))) (fun g => ?_)
          refine c_seq (fun K93 hK93 => ?_)
          refine c_region ?_
          refine l_step (y_moveV (et (gS rfl (gS rfl g0)) rfl)) ?_
          refine l_step (y_nil (et g0 rfl)) ?_
          refine l_step (y_slA000 Hvaa.underlying68 sz_26 (et g0 rfl) ) ?_
          refine l_effN (e_clear (l := uL (List.replicate 8 0)) Hvaa.underlying317 zr_26 (et g0 rfl) zc8 (one_uL _) kB (by rw [size_uL, hx8, length_uL]; decide)) (fun v94 w94 h94 => ?_)
          obtain ⟨rfl, x94⟩ := h94
          replace k2 := k2.ch x94.ch (by omega)
          replace k3 := k3.ch x94.ch (by omega)
          replace k4 := k4.ch x94.ch (by omega)
          replace kB := x94.blk.full (by rw [size_uL, hx8, length_uL]; rfl)
          replace U := U.cc x94.ch (by intro b hb; first | omega | exact .inl hb | exact .inr (hb ▸ U))
          refine l_nil ?_
          refine hK93 _ _ ?_
          refine fg2 4 5 (gS rfl (gS rfl (gS rfl (gS rfl g0)))) (gS rfl (gS rfl (gS rfl g0))) (fun g => ?_)
          refine c_seq (fun K95 hK95 => ?_)
          refine c_draw Up 3 [(0, true), (1, true), (2, false), (3, false)] (by kernel_rfl) (fun w96 hu => ⟨Up.refl _, ?_⟩)
          replace k2 := k2.up hu
          replace k3 := k3.up hu
          replace k4 := k4.up hu
          replace kB := kB.up hu
          replace U := U.tr hu
          have SU := Up.refl w96
          refine p_step (by exact rfl) (y_loadB agg_65 sz_65 (et (gS rfl g0) rfl) (by rw [size_uL, hR0l]) (atSB k3)) ?_
          refine p_step (by exact rfl) (y_loadB agg_407 sz_407 (et (gS rfl g0) rfl) (by first | (simp only [Value.cells, hV, aV, bV, wV, wL, List.size_toArray, length_bL, length_uL, length_be, size_spl, List.length_cons, List.length_nil, List.length_replicate, Nat.zero_add, Nat.reduceAdd, Nat.reduceLeDiff, Nat.le_refl]; done) | rfl) (atSB k4)) ?_
          refine p_effN (by exact rfl) (e_storeS sz_65 (et (gS rfl (gS rfl (gS rfl g0))) rfl) (cellsV (et (gS rfl g0) rfl) rfl) (by rw [length_uL, hR0l]) (by first | exact one_bL _ | exact one_uL _ | (intro v hv; simp at hv; subst hv; rfl)) k3) (fun v97 w97 h97 => ?_)
          obtain ⟨rfl, x97⟩ := h97
          replace k2 := k2.up x97
          replace k3 := k3.up x97
          replace k4 := k4.up x97
          replace kB := kB.up x97
          replace U := U.tr x97
          refine ⟨.inr (SU.tr x97), ?_⟩
          replace SU := SU.tr x97
          refine p_effN (by exact rfl) (e_storeS sz_407 (et (gS rfl (gS rfl g0)) rfl) (cellsV (et g0 rfl) rfl) (by first | (simp only [Value.cells, hV, aV, bV, wV, wL, List.size_toArray, length_bL, length_uL, length_be, size_spl, List.length_cons, List.length_nil, List.length_replicate, Nat.zero_add, Nat.reduceAdd, Nat.reduceLeDiff, Nat.le_refl]; done) | rfl) (by first | exact one_bL _ | exact one_uL _ | (intro v hv; simp at hv; subst hv; rfl)) k4) (fun v98 w98 h98 => ?_)
          obtain ⟨rfl, x98⟩ := h98
          replace k2 := k2.up x98
          replace k3 := k3.up x98
          replace k4 := k4.up x98
          replace kB := kB.up x98
          replace U := U.tr x98
          refine ⟨.inl rfl, ?_⟩
          refine p_nil ?_
          refine hK95 _ _ ?_
          refine fg2 4 5 (gS rfl (gS rfl (gS rfl g0))) (gS rfl (gS rfl g0)) (fun g => ?_)
          refine c_ret ?_
          refine ret2 rfl (res_blk agg_65 sz_65 (et (gS rfl g0) rfl) (by first | rfl | (rw [size_uL, hR54]) | (rw [size_uL, hR0l])) k3) (res_blk agg_407 sz_407 (et g0 rfl) (by first | rfl | (rw [size_uL, hR54]) | (rw [size_uL, hR0l])) k4) ?_
          have hb0 : bn ≠ 0 := by omega
          refine ⟨[0, 0, 0], rfl, tup2 ?_ rfl, List.replicate 8 0, by simp, Dig.rep _ _ (by decide), ?_, kB, U⟩
          · rw [if_neg hb0, Nat.mod_eq_of_lt (by rw [hvX]; exact hsm), ← hR0v]; exact wV_val hR0l hR0d
          · rw [val_rep, Nat.div_eq_of_lt (by rw [hvX]; exact hsm)]
        · skip
          
          have htn : n ≤ T.length := by have := of_decide_eq_false cB3; omega
          refine c_skip ?_
          refine hK88 _ _ ?_
          refine fg6 0 3 4 5 6 7 (gS rfl (gS rfl (gS rfl (gS rfl (gS rfl (gS rfl g0)))))) (gS rfl (gS rfl (gS rfl (gS rfl (gS rfl g0))))) (gS rfl (gS rfl (gS rfl (gS rfl g0)))) (gS rfl (gS rfl (gS rfl g0))) (gS rfl (gS rfl g0)) (gS rfl g0) (fun g => ?_)
          refine c_seq (fun K99 hK99 => ?_)
          refine c_region ?_
          refine l_step (y_moveV (et g0 rfl)) ?_
          refine l_step (y_moveV (et (gS rfl (gS rfl g0)) rfl)) ?_
          refine l_step (y_sub (et (gS rfl g0) rfl) (et g0 rfl) (wrapU_subN uk8 ?_ ?_)) ?_
          omega
          omega
          refine l_step (y_add (et g0 rfl) rfl (wrapU_addN (b := 1) uk8 ?_)) ?_
          omega
          refine l_step (y_fld fld_407_0 (et (gS rfl (gS rfl (gS rfl (gS rfl (gS rfl (gS rfl g0)))))) rfl)) ?_
          refine l_effN (e_store sz_5 (et g0 rfl) (cellsV (et (gS rfl g0) rfl) rfl) rfl (by first | exact one_bL _ | exact one_uL _ | (intro v hv; simp at hv; subst hv; rfl)) k4 (by first | exact Nat.le_of_ble_eq_true rfl | simp | omega)) (fun v100 w100 h100 => ?_)
          obtain ⟨rfl, x100⟩ := h100
          replace k2 := k2.ch x100.ch (by omega)
          replace k3 := k3.ch x100.ch (by omega)
          replace kB := kB.ch x100.ch (by first | omega | omega)
          replace k4 := x100.blk
          replace U := U.st x100 (.inr f4)
          replace k4 : Blk w100 b4 (bL [T.length - n + 1, 0, 0]).toArray := k4
          refine l_nil ?_
          refine hK99 _ _ ?_
          refine fg6 0 3 4 5 6 7 (gS rfl (gS rfl (gS rfl (gS rfl (gS rfl (gS rfl (gS rfl (gS rfl (gS rfl (gS rfl g0)))))))))) (gS rfl (gS rfl (gS rfl (gS rfl (gS rfl (gS rfl (gS rfl (gS rfl (gS rfl g0))))))))) (gS rfl (gS rfl (gS rfl (gS rfl (gS rfl (gS rfl (gS rfl (gS rfl g0)))))))) (gS rfl (gS rfl (gS rfl (gS rfl (gS rfl (gS rfl (gS rfl g0))))))) (gS rfl (gS rfl (gS rfl (gS rfl (gS rfl (gS rfl g0)))))) (gS rfl (gS rfl (gS rfl (gS rfl (gS rfl g0))))) (fun g => ?_)
          refine c_seq (fun K101 hK101 => ?_)
          refine c_seq (fun K102 hK102 => ?_)
          refine c_region ?_
          refine l_step (y_moveV (et (gS rfl g0) rfl)) ?_
          refine l_step (y_eql (et g0 rfl) rfl) ?_
          refine l_nil ?_
          refine hK102 _ _ ?_
          refine fg7 0 3 4 5 6 7 55 (gS rfl (gS rfl (gS rfl (gS rfl (gS rfl (gS rfl (gS rfl g0))))))) (gS rfl (gS rfl (gS rfl (gS rfl (gS rfl (gS rfl g0)))))) (gS rfl (gS rfl (gS rfl (gS rfl (gS rfl g0))))) (gS rfl (gS rfl (gS rfl (gS rfl g0)))) (gS rfl (gS rfl (gS rfl g0))) (gS rfl (gS rfl g0)) g0 (fun g => ?_)
          refine c_cond (et g0 rfl) (fun cB4 => ?_) (fun cB4 => ?_)
          · skip
            
            have hn1 : n = 1 := by have := of_decide_eq_true cB4; omega
            subst hn1
            have hbv : bn = v0 := by
              have h1 := hn.2.1
              rw [hVv, Nat.pow_one] at h1
              rw [val_cons] at hVv
              omega
            have hv00 : 0 < v0 := by
              have h1 := hn.2.2 (by decide)
              rw [hVv, hbv] at h1
              exact h1
            refine c_seq (fun K104 hK104 => ?_)
            refine c_region ?_
            refine l_step (y_moveV (et (gS rfl (gS rfl (gS rfl (gS rfl (gS rfl (gS rfl g0)))))) rfl)) ?_
            refine l_step (y_moveV (et (gS rfl (gS rfl g0)) rfl)) ?_
            refine l_step (y_idxAC 0 0 Hvaa.underlying65 sz_26 (et (gS rfl (gS rfl (gS rfl (gS rfl (gS rfl (gS rfl (gS rfl g0))))))) rfl) rfl rfl rfl) ?_
            refine l_step (y_load1 one_26 (et g0 rfl) (at1 (k2.cell (uL_get [] v0 Vr _ rfl)))) ?_
            refine l_eff (e_callV cal_420 (aC (et (gS rfl (gS rfl (gS rfl g0))) rfl) (aC (et (gS rfl (gS rfl g0)) rfl) (aC (et g0 rfl) aN))) (short_spec bx v0 T (List.replicate r 0) _ (by simp; omega) hdP hv00 hv0 (hP ▸ kB))) (fun v105 w105 h105 => ?_)
            obtain ⟨rm, D, rfl, hDv, hrm, hDl, hD, nB, c105⟩ := h105
            replace k2 := k2.ch c105 (by omega)
            replace k3 := k3.ch c105 (by omega)
            replace k4 := k4.ch c105 (by omega)
            replace kB := nB
            replace U := U.cc c105 (by intro b hb; first | omega | exact .inl hb | exact .inr (hb ▸ U))
            refine l_step (y_idxAC 0 0 Hvaa.underlying65 sz_26 (et (gS rfl (gS rfl (gS rfl (gS rfl (gS rfl (gS rfl (gS rfl (gS rfl (gS rfl g0))))))))) rfl) rfl rfl rfl) ?_
            refine l_effN (e_store sz_26 (et g0 rfl) (cellsV (et (gS rfl g0) rfl) rfl) rfl (by first | exact one_bL _ | exact one_uL _ | (intro v hv; simp at hv; subst hv; rfl)) k3 (by first | exact Nat.le_of_ble_eq_true rfl | simp | omega)) (fun v106 w106 h106 => ?_)
            obtain ⟨rfl, x106⟩ := h106
            replace k2 := k2.ch x106.ch (by omega)
            replace k4 := k4.ch x106.ch (by omega)
            replace kB := kB.ch x106.ch (by first | omega | omega)
            replace k3 := x106.blk
            replace U := U.st x106 (.inr f3)
            replace k3 : Blk w106 b3 (uL [rm, 0, 0, 0]).toArray := k3
            refine l_nil ?_
            refine hK104 _ _ ?_
            refine fg2 4 5 (gS rfl (gS rfl (gS rfl (gS rfl (gS rfl (gS rfl (gS rfl (gS rfl (gS rfl (gS rfl g0)))))))))) (gS rfl (gS rfl (gS rfl (gS rfl (gS rfl (gS rfl (gS rfl (gS rfl (gS rfl g0))))))))) (fun g => ?_)
            refine c_seq (fun K107 hK107 => ?_)
            refine c_draw Up 3 [(0, true), (1, true), (2, false), (3, false)] (by kernel_rfl) (fun w108 hu => ⟨Up.refl _, ?_⟩)
            replace k2 := k2.up hu
            replace k3 := k3.up hu
            replace k4 := k4.up hu
            replace kB := kB.up hu
            replace U := U.tr hu
            have SU := Up.refl w108
            refine p_step (by exact rfl) (y_loadB agg_65 sz_65 (et (gS rfl g0) rfl) (by first | (simp only [Value.cells, hV, aV, bV, wV, wL, List.size_toArray, length_bL, length_uL, length_be, size_spl, List.length_cons, List.length_nil, List.length_replicate, Nat.zero_add, Nat.reduceAdd, Nat.reduceLeDiff, Nat.le_refl]; done) | rfl) (atSB k3)) ?_
            refine p_step (by exact rfl) (y_loadB agg_407 sz_407 (et (gS rfl g0) rfl) (by first | (simp only [Value.cells, hV, aV, bV, wV, wL, List.size_toArray, length_bL, length_uL, length_be, size_spl, List.length_cons, List.length_nil, List.length_replicate, Nat.zero_add, Nat.reduceAdd, Nat.reduceLeDiff, Nat.le_refl]; done) | rfl) (atSB k4)) ?_
            refine p_effN (by exact rfl) (e_storeS sz_65 (et (gS rfl (gS rfl (gS rfl g0))) rfl) (cellsV (et (gS rfl g0) rfl) rfl) (by first | (simp only [Value.cells, hV, aV, bV, wV, wL, List.size_toArray, length_bL, length_uL, length_be, size_spl, List.length_cons, List.length_nil, List.length_replicate, Nat.zero_add, Nat.reduceAdd, Nat.reduceLeDiff, Nat.le_refl]; done) | rfl) (by first | exact one_bL _ | exact one_uL _ | (intro v hv; simp at hv; subst hv; rfl)) k3) (fun v109 w109 h109 => ?_)
            obtain ⟨rfl, x109⟩ := h109
            replace k2 := k2.up x109
            replace k3 := k3.up x109
            replace k4 := k4.up x109
            replace kB := kB.up x109
            replace U := U.tr x109
            refine ⟨.inr (SU.tr x109), ?_⟩
            replace SU := SU.tr x109
            refine p_effN (by exact rfl) (e_storeS sz_407 (et (gS rfl (gS rfl g0)) rfl) (cellsV (et g0 rfl) rfl) (by first | (simp only [Value.cells, hV, aV, bV, wV, wL, List.size_toArray, length_bL, length_uL, length_be, size_spl, List.length_cons, List.length_nil, List.length_replicate, Nat.zero_add, Nat.reduceAdd, Nat.reduceLeDiff, Nat.le_refl]; done) | rfl) (by first | exact one_bL _ | exact one_uL _ | (intro v hv; simp at hv; subst hv; rfl)) k4) (fun v110 w110 h110 => ?_)
            obtain ⟨rfl, x110⟩ := h110
            replace k2 := k2.up x110
            replace k3 := k3.up x110
            replace k4 := k4.up x110
            replace kB := kB.up x110
            replace U := U.tr x110
            refine ⟨.inl rfl, ?_⟩
            refine p_nil ?_
            refine hK107 _ _ ?_
            refine fg2 4 5 (gS rfl (gS rfl (gS rfl g0))) (gS rfl (gS rfl g0)) (fun g => ?_)
            refine c_ret ?_
            refine ret2 rfl (res_blk agg_65 sz_65 (et (gS rfl g0) rfl) (by first | rfl | (rw [size_uL, hR54]) | (rw [size_uL, hR0l])) k3) (res_blk agg_407 sz_407 (et g0 rfl) (by first | rfl | (rw [size_uL, hR54]) | (rw [size_uL, hR0l])) k4) ?_
            have hb0 : bn ≠ 0 := by omega
            have hdm : val 18446744073709551616 Xl / bn = val 18446744073709551616 D ∧ val 18446744073709551616 Xl % bn = rm := by
              rw [hvX, hDv, hbv]
              exact ⟨by rw [Nat.mul_add_div hv00, Nat.div_eq_of_lt hrm, Nat.add_zero], by rw [Nat.mul_add_mod, Nat.mod_eq_of_lt hrm]⟩
            refine ⟨_, rfl, tup2 ?_ rfl, D ++ List.replicate r 0, by simp; omega, hD.app (Dig.rep _ _ (by decide)), ?_, kB, U⟩
            · rw [if_neg hb0, hdm.2]
              refine wV_of _ _ _ _ _ (by omega) (by decide) (by decide) (by decide) ?_
              unfold ofL; omega
            · rw [hdm.1, val_append, val_rep]; simp
          · skip
            
            have hn2 : 2 ≤ n := by have := of_decide_eq_false cB4; omega
            refine c_skip ?_
            refine hK101 _ _ ?_
            refine fg5 0 3 4 5 6 (gS rfl (gS rfl (gS rfl (gS rfl (gS rfl (gS rfl g0)))))) (gS rfl (gS rfl (gS rfl (gS rfl (gS rfl g0))))) (gS rfl (gS rfl (gS rfl (gS rfl g0)))) (gS rfl (gS rfl (gS rfl g0))) (gS rfl (gS rfl g0)) (fun g => ?_)
            refine c_seq (fun K111 hK111 => ?_)
            refine c_region ?_
            refine l_eff (e_alloc zr_468) (fun v112 w112 h112 => ?_)
            obtain ⟨b112, rfl, n112⟩ := h112
            have d2_112 : b2 < b112 := Nat.lt_of_lt_of_le k2.lt n112.fresh
            have d3_112 : b3 < b112 := Nat.lt_of_lt_of_le k3.lt n112.fresh
            have d4_112 : b4 < b112 := Nat.lt_of_lt_of_le k4.lt n112.fresh
            have f112 : w.heap.size ≤ b112 := Nat.le_trans U.size n112.fresh
            replace k2 := k2.up n112.up
            replace k3 := k3.up n112.up
            replace k4 := k4.up n112.up
            replace kB := kB.up n112.up
            replace U := U.tr n112.up
            have k112 := n112.blk
            replace k112 : Blk w112 b112 (uL (List.replicate 8 0 ++ [0])).toArray := k112
            refine l_nil ?_
            refine hK111 _ _ ?_
            refine c_seq (fun K113 hK113 => ?_)
            refine c_draw Up 4 [(0, true), (1, true), (2, true), (3, true), (4, false)] (by kernel_rfl) (fun w114 hu => ⟨Up.refl _, ?_⟩)
            replace k2 := k2.up hu
            replace k3 := k3.up hu
            replace k4 := k4.up hu
            replace k112 := k112.up hu
            replace kB := kB.up hu
            replace U := U.tr hu
            have SU := Up.refl w114
            refine p_step (by exact rfl) (y_slA000 Hvaa.underlying468 sz_26 (et g0 rfl) ) ?_
            refine p_step (by exact rfl) (y_moveV (et (gS rfl (gS rfl (gS rfl (gS rfl (gS rfl (gS rfl g0)))))) rfl)) ?_
            refine p_step (by exact rfl) (y_nil (et g0 rfl)) ?_
            refine p_step (by exact rfl) (y_slA000 Hvaa.underlying68 sz_26 (et g0 rfl) ) ?_
            refine p_eff (by exact rfl) (e_copy (l := uL ((Xl.drop 0).take 8)) Hvaa.underlying317 sz_26 (et (gS rfl (gS rfl (gS rfl g0))) rfl) (et g0 rfl) (by rw [length_uL]; simp [hx8]) (kB.limbs 0 8) (one_uL _) k112 (by rw [size_uL, length_uL]; simp [hx8])) (fun v115 w115 h115 => ?_)
            obtain ⟨rfl, x115⟩ := h115
            replace k2 := k2.ch x115.ch (by omega)
            replace k3 := k3.ch x115.ch (by omega)
            replace k4 := k4.ch x115.ch (by omega)
            replace kB := kB.ch x115.ch (by omega)
            replace k112 := x115.blk
            replace U := U.cc x115.ch (by intro b hb; first | omega | exact .inl hb | exact .inr (hb ▸ f112))
            refine ⟨.inl rfl, ?_⟩
            replace k112 : Blk w115 b112 (uL (Xl ++ [0])).toArray := by
              have h := k112
              rw [List.drop_zero, List.take_of_length_le (by omega), uL_append, spl_pre _ _ _ (by simp [length_uL, hx8])] at h
              rw [uL_append]; exact h
            obtain ⟨Wd, t, hdec, hWl, hWd, hWv⟩ := dec_list (v0 :: Vr) n (by omega) (by omega) hVd hn.2.1
            have ht1 : 1 ≤ t := top_ge Wd t 1 hWd (by rw [hWv, Nat.one_mul, hWl]; exact hn.2.2 hz)
            have htB : t < 18446744073709551616 := hWd.right.head
            obtain ⟨s, hs, hs64, hnlo, hnhi⟩ := norm_of t ht1 htB
            have hV2lo : 9223372036854775808 * 18446744073709551616 ^ (n - 1) ≤ bn * 2 ^ s := norm_lo Wd t s bn n (by rw [hWv, hVv]) hWl hnlo
            have hV2hi : bn * 2 ^ s < 18446744073709551616 ^ n := norm_hi Wd t s bn n (by rw [hWv, hVv]) hWl (by omega) hWd.left hs64 hnhi
            refine p_nil ?_
            refine hK113 _ _ ?_
            refine fg6 0 3 4 5 6 8 (gS rfl (gS rfl (gS rfl (gS rfl (gS rfl (gS rfl (gS rfl (gS rfl (gS rfl (gS rfl g0)))))))))) (gS rfl (gS rfl (gS rfl (gS rfl (gS rfl (gS rfl (gS rfl (gS rfl (gS rfl g0))))))))) (gS rfl (gS rfl (gS rfl (gS rfl (gS rfl (gS rfl (gS rfl (gS rfl g0)))))))) (gS rfl (gS rfl (gS rfl (gS rfl (gS rfl (gS rfl (gS rfl g0))))))) (gS rfl (gS rfl (gS rfl (gS rfl (gS rfl (gS rfl g0)))))) (gS rfl (gS rfl (gS rfl (gS rfl (gS rfl g0))))) (fun g => ?_)
            refine c_seq (fun K116 hK116 => ?_)
            refine c_region ?_
            refine l_step (y_moveV (et (gS rfl g0) rfl)) ?_
            refine l_step (y_sub (et g0 rfl) rfl (wrapU_subN (b := 1) uk8 ?_ ?_)) ?_
            omega
            omega
            refine l_step (y_idxA Hvaa.underlying65 sz_26 (et (gS rfl (gS rfl (gS rfl (gS rfl (gS rfl (gS rfl g0)))))) rfl) (et g0 rfl) ?_ ?_) ?_
            exact Int.natCast_nonneg _
            omega
            refine l_step (y_load1 one_26 (et g0 rfl) (at1 ((show Blk _ _ (uL (Wd ++ t :: List.replicate ((v0 :: Vr).length - n) 0)).toArray from (by have h := k2; rw [hdec] at h; simpa using h)).cell (uL_get Wd t _ _ (by simp; omega))))) ?_
            refine l_eff (e_callV cal_401 (aC (et g0 rfl) aN) (lz64_spec t _ htB)) (fun v117 w117 h117 => ?_)
            obtain ⟨rfl, u117⟩ := h117
            replace k2 := k2.up u117
            replace k3 := k3.up u117
            replace k4 := k4.up u117
            replace k112 := k112.up u117
            replace kB := kB.up u117
            replace U := U.tr u117
            refine l_step (y_conv Hvaa.underlying3 Hvaa.underlying5 (et g0 rfl) (cvS8 hs)) ?_
            refine l_step (y_assignV (et g0 rfl)) ?_
            refine l_nil ?_
            refine hK116 _ _ ?_
            refine fg7 0 3 4 5 6 8 9 (gS rfl (gS rfl (gS rfl (gS rfl (gS rfl (gS rfl (gS rfl (gS rfl (gS rfl (gS rfl (gS rfl (gS rfl g0)))))))))))) (gS rfl (gS rfl (gS rfl (gS rfl (gS rfl (gS rfl (gS rfl (gS rfl (gS rfl (gS rfl (gS rfl g0))))))))))) (gS rfl (gS rfl (gS rfl (gS rfl (gS rfl (gS rfl (gS rfl (gS rfl (gS rfl (gS rfl g0)))))))))) (gS rfl (gS rfl (gS rfl (gS rfl (gS rfl (gS rfl (gS rfl (gS rfl (gS rfl g0))))))))) (gS rfl (gS rfl (gS rfl (gS rfl (gS rfl (gS rfl (gS rfl (gS rfl g0)))))))) (gS rfl (gS rfl (gS rfl (gS rfl (gS rfl (gS rfl (gS rfl g0))))))) g0 (fun g => ?_)
            refine c_seq (fun K118 hK118 => ?_)
            refine c_region ?_
            refine l_step ((y_slA000 Hvaa.underlying468 sz_26 (et (gS rfl g0) rfl) ).to (slE (o' := 0) (l' := (Xl ++ [0]).length) (c' := 9) rfl (by simp [hx8]) rfl)) ?_
            refine l_step (y_moveV (et (gS rfl g0) rfl)) ?_
            refine l_eff (e_callV cal_402 (aC (et (gS rfl g0) rfl) (aC (et g0 rfl) aN)) (shiftUp_spec b112 0 9 s [] (Xl ++ [0]) [] _ hs64 rfl (by simp; omega) (hdx.app (Dig.one (by decide))) (by simpa using k112))) (fun v119 w119 h119 => ?_)
            obtain ⟨rfl, U9, c9, hU9l, hU9, hc9, hU9v, nU, c119⟩ := h119
            replace k2 := k2.ch c119 (by omega)
            replace k3 := k3.ch c119 (by omega)
            replace k4 := k4.ch c119 (by omega)
            replace kB := kB.ch c119 (by omega)
            replace k112 := nU
            replace U := U.cc c119 (by intro b hb; first | omega | exact .inl hb | exact .inr (hb ▸ f112))
            replace k112 : Blk w119 b112 (uL U9).toArray := by simpa using k112
            refine l_nil ?_
            refine hK118 _ _ ?_
            refine fg7 0 3 4 5 6 8 9 (gS rfl (gS rfl (gS rfl (gS rfl (gS rfl (gS rfl (gS rfl (gS rfl (gS rfl g0))))))))) (gS rfl (gS rfl (gS rfl (gS rfl (gS rfl (gS rfl (gS rfl (gS rfl g0)))))))) (gS rfl (gS rfl (gS rfl (gS rfl (gS rfl (gS rfl (gS rfl g0))))))) (gS rfl (gS rfl (gS rfl (gS rfl (gS rfl (gS rfl g0)))))) (gS rfl (gS rfl (gS rfl (gS rfl (gS rfl g0))))) (gS rfl (gS rfl (gS rfl (gS rfl g0)))) (gS rfl (gS rfl (gS rfl g0))) (fun g => ?_)
            refine c_seq (fun K120 hK120 => ?_)
            refine c_region ?_
            refine l_step ((y_slA000 Hvaa.underlying65 sz_26 (et (gS rfl (gS rfl (gS rfl (gS rfl (gS rfl g0))))) rfl) ).to (slE (o' := 0) (l' := (v0 :: Vr).length) (c' := 4) rfl (by omega) rfl)) ?_
            refine l_step (y_moveV (et (gS rfl g0) rfl)) ?_
            refine l_eff (e_callV cal_402 (aC (et (gS rfl g0) rfl) (aC (et g0 rfl) aN)) (shiftUp_spec b2 0 4 s [] (v0 :: Vr) [] _ hs64 rfl (by omega) hVd (by simpa using k2))) (fun v121 w121 h121 => ?_)
            obtain ⟨rfl, V4, c4, hV4l, hV4d, hc4, hV4v, nV, c121⟩ := h121
            replace k3 := k3.ch c121 (by omega)
            replace k4 := k4.ch c121 (by omega)
            replace k112 := k112.ch c121 (by omega)
            replace kB := kB.ch c121 (by omega)
            replace k2 := nV
            replace U := U.cc c121 (by intro b hb; first | omega | exact .inl hb | exact .inr (hb ▸ f2))
            replace k2 : Blk w121 b2 (uL V4).toArray := by simpa using k2
            have hb1 : 18446744073709551616 ^ (n - 1) ≤ bn := by have h := hn.2.2 hz; rw [hVv] at h; exact h
            have hp4 : 18446744073709551616 ^ n ≤ 18446744073709551616 ^ 4 := Nat.pow_le_pow_right (by decide) (by omega)
            have hc40 : c4 = 0 := by
              rw [hVv, hV4] at hV4v
              rcases Nat.eq_zero_or_pos c4 with h | h
              · exact h
              · exfalso
                have h1 : 1 * 18446744073709551616 ^ 4 ≤ c4 * 18446744073709551616 ^ 4 := Nat.mul_le_mul_right _ h
                omega
            subst hc40
            have hV4e : val 18446744073709551616 V4 = bn * 2 ^ s := by rw [Nat.zero_mul, Nat.add_zero, hVv] at hV4v; exact hV4v
            obtain ⟨Wv, tv, hdv, hWvl, hWvd, hWvv⟩ := dec_list V4 n (by omega) (by omega) hV4d (by rw [hV4e]; exact hV2hi)
            have htv : 9223372036854775808 ≤ tv := top_ge Wv tv _ hWvd (by rw [hWvv, hV4e, hWvl]; exact hV2lo)
            have hc90 : c9 = 0 := by
              have h1 : val 18446744073709551616 (Xl ++ [0]) = val 18446744073709551616 Xl := by rw [val_snoc]; simp
              have h2 := val_lt hdx
              rw [hx8] at h2
              rw [h1] at hU9v
              have h3 : val 18446744073709551616 Xl * 2 ^ s < 18446744073709551616 ^ 8 * 18446744073709551616 := Nat.mul_lt_mul'' h2 (Nat.lt_of_lt_of_le (Nat.pow_lt_pow_right (by decide) hs64) (Nat.le_refl (2 ^ 64)))
              rcases Nat.eq_zero_or_pos c9 with h | h
              · exact h
              · exfalso
                have h4 : 1 * 18446744073709551616 ^ (Xl ++ [0]).length ≤ c9 * 18446744073709551616 ^ (Xl ++ [0]).length := Nat.mul_le_mul_right _ h
                rw [show (Xl ++ [(0 : Nat)]).length = 8 + 1 by simp [hx8], Nat.pow_succ] at h4 hU9v
                omega
            subst hc90
            have hU9e : val 18446744073709551616 U9 = val 18446744073709551616 Xl * 2 ^ s := by
              rw [Nat.zero_mul, Nat.add_zero, val_snoc, Nat.mul_zero, Nat.add_zero] at hU9v; exact hU9v
            obtain ⟨A0, D0, hAD, hA0l, hD0l, hA0d, hD0d, hD0v⟩ := kn_init U9 (val 18446744073709551616 Xl) s bn n T.length 9 (by rw [hU9l]; simp [hx8]) hU9 hU9e (by rw [hvX]; exact hres.lt) hs64 hb1 (by omega) htn (by omega)
            obtain ⟨V00, nx, rfl⟩ := snoc_of_len (l := Wv) (by omega)
            have hnV : n = V00.length + 2 := by simp at hWvl; omega
            have hVVe : V00 ++ [nx] ++ [tv] = V00 ++ [nx, tv] := by simp
            rw [hVVe] at hdv hWvd hWvv
            have hVVd := hWvd
            have hVV : val 18446744073709551616 (V00 ++ [nx, tv]) = bn * 2 ^ s := by rw [hWvv, hV4e]
            rw [hAD] at k112
            rw [hdv] at k2
            rw [hV4l, hV4] at k2
            refine l_nil ?_
            refine hK120 _ _ ?_
            refine fg7 0 3 4 5 6 8 9 (gS rfl (gS rfl (gS rfl (gS rfl (gS rfl (gS rfl (gS rfl (gS rfl (gS rfl g0))))))))) (gS rfl (gS rfl (gS rfl (gS rfl (gS rfl (gS rfl (gS rfl (gS rfl g0)))))))) (gS rfl (gS rfl (gS rfl (gS rfl (gS rfl (gS rfl (gS rfl g0))))))) (gS rfl (gS rfl (gS rfl (gS rfl (gS rfl (gS rfl g0)))))) (gS rfl (gS rfl (gS rfl (gS rfl (gS rfl g0))))) (gS rfl (gS rfl (gS rfl (gS rfl g0)))) (gS rfl (gS rfl (gS rfl g0))) (fun g => ?_)
            refine c_seq (fun K122 hK122 => ?_)
            refine c_region ?_
            refine l_step (y_moveV (et (gS rfl (gS rfl (gS rfl (gS rfl (gS rfl (gS rfl g0)))))) rfl)) ?_
            refine l_step (y_nil (et g0 rfl)) ?_
            refine l_step (y_slA000 Hvaa.underlying68 sz_26 (et g0 rfl) ) ?_
            refine l_effN (e_clear (l := uL (List.replicate 8 0)) Hvaa.underlying317 zr_26 (et g0 rfl) zc8 (one_uL _) kB (by rw [size_uL, hx8, length_uL]; decide)) (fun v123 w123 h123 => ?_)
            obtain ⟨rfl, x123⟩ := h123
            replace k2 := k2.ch x123.ch (by omega)
            replace k3 := k3.ch x123.ch (by omega)
            replace k4 := k4.ch x123.ch (by omega)
            replace k112 := k112.ch x123.ch (by omega)
            replace kB := x123.blk.full (by rw [size_uL, hx8, length_uL]; rfl)
            replace U := U.cc x123.ch (by intro b hb; first | omega | exact .inl hb | exact .inr (hb ▸ U))
            refine l_nil ?_
            refine hK122 _ _ ?_
            refine fg7 0 3 4 5 6 8 9 (gS rfl (gS rfl (gS rfl (gS rfl (gS rfl (gS rfl (gS rfl (gS rfl (gS rfl g0))))))))) (gS rfl (gS rfl (gS rfl (gS rfl (gS rfl (gS rfl (gS rfl (gS rfl g0)))))))) (gS rfl (gS rfl (gS rfl (gS rfl (gS rfl (gS rfl (gS rfl g0))))))) (gS rfl (gS rfl (gS rfl (gS rfl (gS rfl (gS rfl g0)))))) (gS rfl (gS rfl (gS rfl (gS rfl (gS rfl g0))))) (gS rfl (gS rfl (gS rfl (gS rfl g0)))) (gS rfl (gS rfl (gS rfl g0))) (fun g => ?_)
            refine c_seq (fun K124 hK124 => ?_)
            refine c_seq (fun K125 hK125 => ?_)
            refine c_region ?_
            refine l_step (y_fld fld_407_0 (et (gS rfl (gS rfl (gS rfl g0))) rfl)) ?_
            refine l_step (y_load1 one_5 (et g0 rfl) (at1 (k4.cell (show (bL [T.length - n + 1, 0, 0]).toArray[0]? = some (.int .u8 ((T.length - n + 1 : Nat) : Int)) from rfl)))) ?_
            refine l_step (y_assignV (et g0 rfl)) ?_
            refine l_nil ?_
            refine hK125 _ _ ?_
            refine fg8 0 3 4 5 6 8 9 10 (gS rfl (gS rfl (gS rfl (gS rfl (gS rfl (gS rfl (gS rfl (gS rfl (gS rfl g0))))))))) (gS rfl (gS rfl (gS rfl (gS rfl (gS rfl (gS rfl (gS rfl (gS rfl g0)))))))) (gS rfl (gS rfl (gS rfl (gS rfl (gS rfl (gS rfl (gS rfl g0))))))) (gS rfl (gS rfl (gS rfl (gS rfl (gS rfl (gS rfl g0)))))) (gS rfl (gS rfl (gS rfl (gS rfl (gS rfl g0))))) (gS rfl (gS rfl (gS rfl (gS rfl g0)))) (gS rfl (gS rfl (gS rfl g0))) g0 (fun g => ?_)
            refine c_block (fun Q126 hQ126 => ?_)
            refine fg8 0 3 4 5 6 8 9 10 (gS rfl (gS rfl (gS rfl (gS rfl (gS rfl (gS rfl (gS rfl g0))))))) (gS rfl (gS rfl (gS rfl (gS rfl (gS rfl (gS rfl g0)))))) (gS rfl (gS rfl (gS rfl (gS rfl (gS rfl g0))))) (gS rfl (gS rfl (gS rfl (gS rfl g0)))) (gS rfl (gS rfl (gS rfl g0))) (gS rfl (gS rfl g0)) (gS rfl g0) g0 (fun g => ?_)
            rw [show ((T.length - n + 1 : Nat) : Int) = ((A0.length : Nat) : Int) by rw [hA0l]]
            replace kB : Blk w123 bx (uL (List.replicate A0.length 0 ++ List.replicate (8 - A0.length) 0)).toArray := by rw [List.replicate_append_replicate, show A0.length + (8 - A0.length) = 8 by omega]; exact kB
            refine c_loop (fun k_ s_ W127 => ∃ (g : Nat → Value) (A D Qs p : List Nat), s_ = (upd (upd (upd (upd (upd (upd (upd (upd g 0 (.pointer (some ⟨bx, 0, none⟩))) 3 (.pointer (some ⟨b2, 0, none⟩))) 4 (.pointer (some ⟨b3, 0, none⟩))) 5 (.pointer (some ⟨b4, 0, none⟩))) 6 (.int .u8 (n : Nat))) 8 (.pointer (some ⟨b112, 0, none⟩))) 9 (.int .u8 (s : Nat))) 10 (.int .u8 (A.length : Nat))) ∧ A.length = k_ ∧ (A.length + n ≤ 9) ∧ (D.length = n) ∧ (Dig 18446744073709551616 A) ∧ (Dig 18446744073709551616 D) ∧ (Dig 18446744073709551616 Qs) ∧ (A.length + Qs.length = 8) ∧ (p.length = 3) ∧ (val 18446744073709551616 D < bn * 2 ^ s) ∧ (val 18446744073709551616 (A ++ (D ++ List.replicate (9 - A.length - n) 0)) + bn * 2 ^ s * val 18446744073709551616 (List.replicate A.length 0 ++ Qs) = val 18446744073709551616 Xl * 2 ^ s) ∧ Blk W127 b112 ((uL (A ++ (D ++ List.replicate (9 - A.length - n) 0))).toArray) ∧ Blk W127 bx ((uL (List.replicate A.length 0 ++ Qs)).toArray) ∧ Blk W127 b4 ((bL p).toArray) ∧ Ch (fun k => k = b112 ∨ k = bx ∨ k = b4) w123 W127) ((A0).length) ?_ ?_
            · exact ⟨g, A0, D0, (List.replicate (8 - A0.length) 0), [T.length - n + 1, 0, 0], rfl, rfl, by omega, hD0l, hA0d, hD0d, Dig.rep _ _ (by decide), by simp; omega, rfl, hD0v, by rw [← hAD, hU9e, val_append, val_rep, val_rep]; simp, k112, kB, k4, Ch.refl _ _⟩
            · skip
              intro k_ s_ W127 hI K127 hK127
              obtain ⟨g, A, D, Qs, p, rfl, rfl, hAl, hDl, hAd, hDd, hQd, hQl, hp3, hDv, hacc, nk112, nkB, nk4, V127⟩ := hI
              replace k2 := k2.ch V127 (by omega)
              replace k3 := k3.ch V127 (by omega)
              replace k112 := nk112
              replace kB := nkB
              replace k4 := nk4
              replace U := U.cc V127 (by intro b hb; first | exact hb.elim | omega | (simp at hb ⊢; omega))
              refine c_seq (fun K128 hK128 => ?_)
              refine c_seq (fun K129 hK129 => ?_)
              refine c_region ?_
              refine l_step (y_moveV (et g0 rfl)) ?_
              refine l_step (y_gtr (et g0 rfl) rfl) ?_
              refine l_nil ?_
              refine hK129 _ _ ?_
              refine fg9 0 3 4 5 6 8 9 10 87 (gS rfl (gS rfl (gS rfl (gS rfl (gS rfl (gS rfl (gS rfl (gS rfl (gS rfl g0))))))))) (gS rfl (gS rfl (gS rfl (gS rfl (gS rfl (gS rfl (gS rfl (gS rfl g0)))))))) (gS rfl (gS rfl (gS rfl (gS rfl (gS rfl (gS rfl (gS rfl g0))))))) (gS rfl (gS rfl (gS rfl (gS rfl (gS rfl (gS rfl g0)))))) (gS rfl (gS rfl (gS rfl (gS rfl (gS rfl g0))))) (gS rfl (gS rfl (gS rfl (gS rfl g0)))) (gS rfl (gS rfl (gS rfl g0))) (gS rfl (gS rfl g0)) g0 (fun g => ?_)
              refine c_cond (et g0 rfl) (fun cB5 => ?_) (fun cB5 => ?_)
              · skip
                
                obtain ⟨A', l, rfl⟩ := snoc_of_len (l := A) (by have := of_decide_eq_true cB5; omega)
                obtain ⟨pa, pb, pc, rfl⟩ := list3 hp3
                have hA'l : (A' ++ [l]).length = A'.length + 1 := by simp
                rw [hA'l] at hAl hQl hacc
                replace k112 : Blk W127 b112 (uL (A' ++ ((l :: D) ++ List.replicate (9 - (A'.length + 1) - n) 0))).toArray := by have h := k112; rw [hA'l] at h; simpa using h
                replace kB : Blk W127 bx (uL (List.replicate A'.length 0 ++ 0 :: Qs)).toArray := by have h := kB; rw [hA'l, List.replicate_succ'] at h; simpa using h
                have hMb : val 18446744073709551616 (l :: D) < val 18446744073709551616 (V00 ++ [nx, tv]) * 18446744073709551616 := by
                  have hl' := hAd.right.head
                  rw [val_cons, hVV]; omega
                refine c_skip ?_
                refine hK128 _ _ ?_
                refine fg8 0 3 4 5 6 8 9 10 (gS rfl (gS rfl (gS rfl (gS rfl (gS rfl (gS rfl (gS rfl (gS rfl g0)))))))) (gS rfl (gS rfl (gS rfl (gS rfl (gS rfl (gS rfl (gS rfl g0))))))) (gS rfl (gS rfl (gS rfl (gS rfl (gS rfl (gS rfl g0)))))) (gS rfl (gS rfl (gS rfl (gS rfl (gS rfl g0))))) (gS rfl (gS rfl (gS rfl (gS rfl g0)))) (gS rfl (gS rfl (gS rfl g0))) (gS rfl (gS rfl g0)) (gS rfl g0) (fun g => ?_)
                refine c_seq (fun K131 hK131 => ?_)
                refine c_block (fun Q132 hQ132 => ?_)
                refine c_seq (fun K133 hK133 => ?_)
                refine c_region ?_
                refine l_step (y_moveV (et (gS rfl (gS rfl (gS rfl g0))) rfl)) ?_
                refine l_step (y_moveV (et (gS rfl g0) rfl)) ?_
                refine l_step (y_sub (et g0 rfl) rfl ((wrapU_subN (b := 1) uk8 ?_ ?_).trans (castE (show (A' ++ [l]).length - 1 = A'.length by simp)))) ?_
                simp
                (simp; omega)
                have hR := Round_spec b112 b2 (9 - (A'.length + 1) - n) (4 - n) nx tv A' (l :: D) V00 W127 (by omega) (by simp; omega) (by omega) (by simp; omega) (Dig.cons hAd.right.head hDd) hVVd htv hMb k112 k2
                rw [← hnV] at hR
                refine l_eff (e_callV cal_421 (aC (et (gS rfl (gS rfl (gS rfl (gS rfl (gS rfl g0))))) rfl) (aC (et (gS rfl (gS rfl (gS rfl (gS rfl (gS rfl (gS rfl (gS rfl (gS rfl (gS rfl g0))))))))) rfl) (aC (et (gS rfl (gS rfl g0)) rfl) (aC (et g0 rfl) aN)))) hR) (fun v134 w134 h134 => ?_)
                obtain ⟨q, f, tb, E0, rfl, hq, hE0l, hE0d, hE0v, nU, c134⟩ := h134
                replace k2 := k2.ch c134 (by omega)
                replace k3 := k3.ch c134 (by omega)
                replace k4 := k4.ch c134 (by omega)
                replace kB := kB.ch c134 (by omega)
                replace k112 := nU
                replace V127 := V127.cc c134 (by intro b hb; first | omega | (simp at hb ⊢; omega))
                replace U := U.cc c134 (by intro b hb; first | omega | exact .inl hb | exact .inr (hb ▸ f112))
                refine l_step (y_moveV (et g0 rfl)) ?_
                refine l_step (y_ext (et g0 rfl) rfl) ?_
                refine l_step (y_ext (et (gS rfl g0) rfl) rfl) ?_
                refine l_step (y_ext (et (gS rfl (gS rfl g0)) rfl) rfl) ?_
                refine l_step (y_assignV (et (gS rfl (gS rfl g0)) rfl)) ?_
                refine l_step (y_assignV (et (gS rfl (gS rfl g0)) rfl)) ?_
                refine l_step (y_assignV (et (gS rfl (gS rfl g0)) rfl)) ?_
                refine l_nil ?_
                refine hK133 _ _ ?_
                refine fg11 0 3 4 5 6 8 9 10 11 12 13 (gS rfl (gS rfl (gS rfl (gS rfl (gS rfl (gS rfl (gS rfl (gS rfl (gS rfl (gS rfl (gS rfl (gS rfl (gS rfl (gS rfl (gS rfl (gS rfl (gS rfl (gS rfl g0)))))))))))))))))) (gS rfl (gS rfl (gS rfl (gS rfl (gS rfl (gS rfl (gS rfl (gS rfl (gS rfl (gS rfl (gS rfl (gS rfl (gS rfl (gS rfl (gS rfl (gS rfl (gS rfl g0))))))))))))))))) (gS rfl (gS rfl (gS rfl (gS rfl (gS rfl (gS rfl (gS rfl (gS rfl (gS rfl (gS rfl (gS rfl (gS rfl (gS rfl (gS rfl (gS rfl (gS rfl g0)))))))))))))))) (gS rfl (gS rfl (gS rfl (gS rfl (gS rfl (gS rfl (gS rfl (gS rfl (gS rfl (gS rfl (gS rfl (gS rfl (gS rfl (gS rfl (gS rfl g0))))))))))))))) (gS rfl (gS rfl (gS rfl (gS rfl (gS rfl (gS rfl (gS rfl (gS rfl (gS rfl (gS rfl (gS rfl (gS rfl (gS rfl (gS rfl g0)))))))))))))) (gS rfl (gS rfl (gS rfl (gS rfl (gS rfl (gS rfl (gS rfl (gS rfl (gS rfl (gS rfl (gS rfl (gS rfl (gS rfl g0))))))))))))) (gS rfl (gS rfl (gS rfl (gS rfl (gS rfl (gS rfl (gS rfl (gS rfl (gS rfl (gS rfl (gS rfl (gS rfl g0)))))))))))) (gS rfl (gS rfl (gS rfl (gS rfl (gS rfl (gS rfl (gS rfl (gS rfl (gS rfl (gS rfl (gS rfl g0))))))))))) (gS rfl (gS rfl g0)) (gS rfl g0) g0 (fun g => ?_)
                refine c_seq (fun K135 hK135 => ?_)
                refine c_region ?_
                refine l_step (y_moveV (et (gS rfl (gS rfl (gS rfl (gS rfl (gS rfl (gS rfl (gS rfl (gS rfl (gS rfl (gS rfl g0)))))))))) rfl)) ?_
                refine l_step (y_moveV (et (gS rfl (gS rfl (gS rfl (gS rfl g0)))) rfl)) ?_
                refine l_step (y_sub (et g0 rfl) rfl ((wrapU_subN (b := 1) uk8 ?_ ?_).trans (castE (show (A' ++ [l]).length - 1 = A'.length by simp)))) ?_
                simp
                (simp; omega)
                refine l_step (y_moveV (et (gS rfl (gS rfl (gS rfl (gS rfl (gS rfl g0))))) rfl)) ?_
                refine l_step (y_nil (et (gS rfl (gS rfl (gS rfl g0))) rfl)) ?_
                refine l_step (y_idxA Hvaa.underlying68 sz_26 (et g0 rfl) (et (gS rfl (gS rfl g0)) rfl) ?_ ?_) ?_
                exact Int.natCast_nonneg _
                omega
                refine l_effN (e_store sz_26 (et g0 rfl) (cellsV (et (gS rfl (gS rfl g0)) rfl) rfl) rfl (by first | exact one_bL _ | exact one_uL _ | (intro v hv; simp at hv; subst hv; rfl)) kB (by (simp only [size_uL, List.length_append, List.length_cons, List.length_replicate, Int.toNat_natCast, Nat.mul_one]; omega))) (fun v136 w136 h136 => ?_)
                obtain ⟨rfl, x136⟩ := h136
                replace k2 := k2.ch x136.ch (by omega)
                replace k3 := k3.ch x136.ch (by omega)
                replace k4 := k4.ch x136.ch (by omega)
                replace k112 := k112.ch x136.ch (by omega)
                replace kB := x136.blk
                replace U := U.st x136 (.inl (by first | rfl | (simp; done)))
                replace V127 := V127.st x136 (by omega)
                replace kB := kB.setU (by simp)
                obtain ⟨E, hEe, hEl, hEd, hEv0⟩ := top_zero E0 n hE0d (by rw [hE0l]; simp [hDl]) (by rw [hE0v, hVV]; exact Nat.lt_trans (Nat.mod_lt _ (by omega)) hV2hi)
                have hEv : val 18446744073709551616 E < bn * 2 ^ s := by rw [hEv0, hE0v, hVV]; exact Nat.mod_lt _ (by omega)
                have hqB : q < 18446744073709551616 := by rw [hq, Nat.div_lt_iff_lt_mul (by omega), Nat.mul_comm]; exact hMb
                have hk := kn_keep A' (l :: D) E0 Qs (9 - (A'.length + 1) - n) (bn * 2 ^ s) _ q (by rw [hq, hVV]) hE0l (by rw [hE0v, hVV]) (by simpa using hacc)
                have hrep : E0 ++ List.replicate (9 - (A'.length + 1) - n) 0 = E ++ List.replicate (9 - A'.length - n) 0 := by
                  rw [hEe, List.append_assoc, List.singleton_append, rep_snoc]; congr 2; omega
                rw [hrep] at hk
                replace k112 : Blk w136 b112 (uL (A' ++ (E ++ List.replicate (9 - A'.length - n) 0))).toArray := by have h := k112; rw [hrep] at h; exact h
                have hacc2 := hk
                refine l_nil ?_
                refine hK135 _ _ ?_
                refine fg10 0 3 4 5 6 8 9 10 12 13 (gS rfl (gS rfl (gS rfl (gS rfl (gS rfl (gS rfl (gS rfl (gS rfl (gS rfl (gS rfl (gS rfl (gS rfl (gS rfl (gS rfl (gS rfl (gS rfl g0)))))))))))))))) (gS rfl (gS rfl (gS rfl (gS rfl (gS rfl (gS rfl (gS rfl (gS rfl (gS rfl (gS rfl (gS rfl (gS rfl (gS rfl (gS rfl (gS rfl g0))))))))))))))) (gS rfl (gS rfl (gS rfl (gS rfl (gS rfl (gS rfl (gS rfl (gS rfl (gS rfl (gS rfl (gS rfl (gS rfl (gS rfl (gS rfl g0)))))))))))))) (gS rfl (gS rfl (gS rfl (gS rfl (gS rfl (gS rfl (gS rfl (gS rfl (gS rfl (gS rfl (gS rfl (gS rfl (gS rfl g0))))))))))))) (gS rfl (gS rfl (gS rfl (gS rfl (gS rfl (gS rfl (gS rfl (gS rfl (gS rfl (gS rfl (gS rfl (gS rfl g0)))))))))))) (gS rfl (gS rfl (gS rfl (gS rfl (gS rfl (gS rfl (gS rfl (gS rfl (gS rfl (gS rfl (gS rfl g0))))))))))) (gS rfl (gS rfl (gS rfl (gS rfl (gS rfl (gS rfl (gS rfl (gS rfl (gS rfl (gS rfl g0)))))))))) (gS rfl (gS rfl (gS rfl (gS rfl (gS rfl (gS rfl (gS rfl (gS rfl (gS rfl g0))))))))) (gS rfl (gS rfl (gS rfl (gS rfl (gS rfl (gS rfl (gS rfl g0))))))) (gS rfl (gS rfl (gS rfl (gS rfl (gS rfl (gS rfl g0)))))) (fun g => ?_)
                refine c_seq (fun K137 hK137 => ?_)
                refine c_region ?_
                refine l_step (y_fld fld_407_1 (et (gS rfl (gS rfl (gS rfl (gS rfl (gS rfl (gS rfl g0)))))) rfl)) ?_
                refine l_step (y_load1 one_5 (et g0 rfl) (at1 (k4.cell rfl))) ?_
                refine l_step (y_moveV (et (gS rfl (gS rfl (gS rfl g0))) rfl)) ?_
                refine l_step (y_add (et (gS rfl g0) rfl) (et g0 rfl) (wrapU_add uk8)) ?_
                refine l_step (y_fld fld_407_1 (et (gS rfl (gS rfl (gS rfl (gS rfl (gS rfl (gS rfl (gS rfl (gS rfl (gS rfl (gS rfl g0)))))))))) rfl)) ?_
                refine l_effN (e_store sz_5 (et g0 rfl) (cellsV (et (gS rfl g0) rfl) rfl) rfl (by first | exact one_bL _ | exact one_uL _ | (intro v hv; simp at hv; subst hv; rfl)) k4 (by first | exact Nat.le_of_ble_eq_true rfl | simp | omega)) (fun v138 w138 h138 => ?_)
                obtain ⟨rfl, x138⟩ := h138
                replace k2 := k2.ch x138.ch (by omega)
                replace k3 := k3.ch x138.ch (by omega)
                replace k112 := k112.ch x138.ch (by omega)
                replace kB := kB.ch x138.ch (by first | omega | omega)
                replace k4 := x138.blk
                replace U := U.st x138 (.inr f4)
                replace V127 := V127.st x138 (by omega)
                replace k4 : Blk w138 b4 (bL [pa, (pb + f) % 256, pc]).toArray := k4
                refine l_nil ?_
                refine hK137 _ _ ?_
                refine fg9 0 3 4 5 6 8 9 10 13 (gS rfl (gS rfl (gS rfl (gS rfl (gS rfl (gS rfl (gS rfl (gS rfl (gS rfl (gS rfl (gS rfl (gS rfl (gS rfl (gS rfl g0)))))))))))))) (gS rfl (gS rfl (gS rfl (gS rfl (gS rfl (gS rfl (gS rfl (gS rfl (gS rfl (gS rfl (gS rfl (gS rfl (gS rfl g0))))))))))))) (gS rfl (gS rfl (gS rfl (gS rfl (gS rfl (gS rfl (gS rfl (gS rfl (gS rfl (gS rfl (gS rfl (gS rfl g0)))))))))))) (gS rfl (gS rfl (gS rfl (gS rfl (gS rfl (gS rfl (gS rfl (gS rfl (gS rfl (gS rfl (gS rfl g0))))))))))) (gS rfl (gS rfl (gS rfl (gS rfl (gS rfl (gS rfl (gS rfl (gS rfl (gS rfl (gS rfl g0)))))))))) (gS rfl (gS rfl (gS rfl (gS rfl (gS rfl (gS rfl (gS rfl (gS rfl (gS rfl g0))))))))) (gS rfl (gS rfl (gS rfl (gS rfl (gS rfl (gS rfl (gS rfl (gS rfl g0)))))))) (gS rfl (gS rfl (gS rfl (gS rfl (gS rfl (gS rfl (gS rfl g0))))))) (gS rfl (gS rfl (gS rfl (gS rfl (gS rfl g0))))) (fun g => ?_)
                refine c_seq (fun K139 hK139 => ?_)
                refine c_region ?_
                refine l_step (y_moveV (et g0 rfl)) ?_
                refine l_nil ?_
                refine hK139 _ _ ?_
                refine fg9 0 3 4 5 6 8 9 10 109 (gS rfl (gS rfl (gS rfl (gS rfl (gS rfl (gS rfl (gS rfl (gS rfl (gS rfl g0))))))))) (gS rfl (gS rfl (gS rfl (gS rfl (gS rfl (gS rfl (gS rfl (gS rfl g0)))))))) (gS rfl (gS rfl (gS rfl (gS rfl (gS rfl (gS rfl (gS rfl g0))))))) (gS rfl (gS rfl (gS rfl (gS rfl (gS rfl (gS rfl g0)))))) (gS rfl (gS rfl (gS rfl (gS rfl (gS rfl g0))))) (gS rfl (gS rfl (gS rfl (gS rfl g0)))) (gS rfl (gS rfl (gS rfl g0))) (gS rfl (gS rfl g0)) g0 (fun g => ?_)
                refine c_cond (et g0 rfl) (fun cB6 => ?_) (fun cB6 => ?_)
                · skip
                  
                  refine c_region ?_
                  refine l_step (y_fld fld_407_2 (et (gS rfl (gS rfl (gS rfl (gS rfl (gS rfl g0))))) rfl)) ?_
                  refine l_step (y_load1 one_5 (et g0 rfl) (at1 (k4.cell rfl))) ?_
                  refine l_step (y_add (et g0 rfl) rfl (wrapU_add (b := 1) uk8)) ?_
                  refine l_step (y_fld fld_407_2 (et (gS rfl (gS rfl (gS rfl (gS rfl (gS rfl (gS rfl (gS rfl (gS rfl g0)))))))) rfl)) ?_
                  refine l_effN (e_store sz_5 (et g0 rfl) (cellsV (et (gS rfl g0) rfl) rfl) rfl (by first | exact one_bL _ | exact one_uL _ | (intro v hv; simp at hv; subst hv; rfl)) k4 (by first | exact Nat.le_of_ble_eq_true rfl | simp | omega)) (fun v141 w141 h141 => ?_)
                  obtain ⟨rfl, x141⟩ := h141
                  replace k2 := k2.ch x141.ch (by omega)
                  replace k3 := k3.ch x141.ch (by omega)
                  replace k112 := k112.ch x141.ch (by omega)
                  replace kB := kB.ch x141.ch (by first | omega | omega)
                  replace k4 := x141.blk
                  replace U := U.st x141 (.inr f4)
                  replace V127 := V127.st x141 (by omega)
                  replace k4 : Blk w141 b4 (bL [pa, (pb + f) % 256, (pc + 1) % 256]).toArray := k4
                  have hpN : [pa, (pb + f) % 256, (pc + 1) % 256].length = 3 := rfl
                  refine l_nil ?_
                  refine hQ132 _ _ _ (in_normal ?_)
                  refine hK131 _ _ ?_
                  refine fg8 0 3 4 5 6 8 9 10 (gS rfl (gS rfl (gS rfl (gS rfl (gS rfl (gS rfl (gS rfl (gS rfl (gS rfl (gS rfl (gS rfl (gS rfl g0)))))))))))) (gS rfl (gS rfl (gS rfl (gS rfl (gS rfl (gS rfl (gS rfl (gS rfl (gS rfl (gS rfl (gS rfl g0))))))))))) (gS rfl (gS rfl (gS rfl (gS rfl (gS rfl (gS rfl (gS rfl (gS rfl (gS rfl (gS rfl g0)))))))))) (gS rfl (gS rfl (gS rfl (gS rfl (gS rfl (gS rfl (gS rfl (gS rfl (gS rfl g0))))))))) (gS rfl (gS rfl (gS rfl (gS rfl (gS rfl (gS rfl (gS rfl (gS rfl g0)))))))) (gS rfl (gS rfl (gS rfl (gS rfl (gS rfl (gS rfl (gS rfl g0))))))) (gS rfl (gS rfl (gS rfl (gS rfl (gS rfl (gS rfl g0)))))) (gS rfl (gS rfl (gS rfl (gS rfl (gS rfl g0))))) (fun g => ?_)
                  refine c_region ?_
                  refine l_step (y_moveV (et g0 rfl)) ?_
                  refine l_step (y_sub (et g0 rfl) rfl ((wrapU_subN (b := 1) uk8 ?_ ?_).trans (castE (show (A' ++ [l]).length - 1 = A'.length by simp)))) ?_
                  simp
                  (simp; omega)
                  refine l_step (y_assignV (et g0 rfl)) ?_
                  refine l_nil ?_
                  refine fK8 0 3 4 5 6 8 9 10 (gS rfl (gS rfl (gS rfl (gS rfl (gS rfl (gS rfl (gS rfl (gS rfl (gS rfl (gS rfl g0)))))))))) (gS rfl (gS rfl (gS rfl (gS rfl (gS rfl (gS rfl (gS rfl (gS rfl (gS rfl g0))))))))) (gS rfl (gS rfl (gS rfl (gS rfl (gS rfl (gS rfl (gS rfl (gS rfl g0)))))))) (gS rfl (gS rfl (gS rfl (gS rfl (gS rfl (gS rfl (gS rfl g0))))))) (gS rfl (gS rfl (gS rfl (gS rfl (gS rfl (gS rfl g0)))))) (gS rfl (gS rfl (gS rfl (gS rfl (gS rfl g0))))) (gS rfl (gS rfl (gS rfl (gS rfl g0)))) g0 (fun g => ?_)
                  exact hK127 ((A').length) _ _ (by simp) ⟨g, A', E, (q :: Qs), _, rfl, rfl, by omega, hEl, hAd.left, hEd, Dig.cons hqB hQd, by simp; omega, hpN, hEv, hacc2, k112, kB, k4, V127⟩
                · skip
                  
                  have hpN : [pa, (pb + f) % 256, pc].length = 3 := rfl
                  refine c_skip ?_
                  refine hQ132 _ _ _ (in_normal ?_)
                  refine hK131 _ _ ?_
                  refine fg8 0 3 4 5 6 8 9 10 (gS rfl (gS rfl (gS rfl (gS rfl (gS rfl (gS rfl (gS rfl (gS rfl g0)))))))) (gS rfl (gS rfl (gS rfl (gS rfl (gS rfl (gS rfl (gS rfl g0))))))) (gS rfl (gS rfl (gS rfl (gS rfl (gS rfl (gS rfl g0)))))) (gS rfl (gS rfl (gS rfl (gS rfl (gS rfl g0))))) (gS rfl (gS rfl (gS rfl (gS rfl g0)))) (gS rfl (gS rfl (gS rfl g0))) (gS rfl (gS rfl g0)) (gS rfl g0) (fun g => ?_)
                  refine c_region ?_
                  refine l_step (y_moveV (et g0 rfl)) ?_
                  refine l_step (y_sub (et g0 rfl) rfl ((wrapU_subN (b := 1) uk8 ?_ ?_).trans (castE (show (A' ++ [l]).length - 1 = A'.length by simp)))) ?_
                  simp
                  (simp; omega)
                  refine l_step (y_assignV (et g0 rfl)) ?_
                  refine l_nil ?_
                  refine fK8 0 3 4 5 6 8 9 10 (gS rfl (gS rfl (gS rfl (gS rfl (gS rfl (gS rfl (gS rfl (gS rfl (gS rfl (gS rfl g0)))))))))) (gS rfl (gS rfl (gS rfl (gS rfl (gS rfl (gS rfl (gS rfl (gS rfl (gS rfl g0))))))))) (gS rfl (gS rfl (gS rfl (gS rfl (gS rfl (gS rfl (gS rfl (gS rfl g0)))))))) (gS rfl (gS rfl (gS rfl (gS rfl (gS rfl (gS rfl (gS rfl g0))))))) (gS rfl (gS rfl (gS rfl (gS rfl (gS rfl (gS rfl g0)))))) (gS rfl (gS rfl (gS rfl (gS rfl (gS rfl g0))))) (gS rfl (gS rfl (gS rfl (gS rfl g0)))) g0 (fun g => ?_)
                  exact hK127 ((A').length) _ _ (by simp) ⟨g, A', E, (q :: Qs), _, rfl, rfl, by omega, hEl, hAd.left, hEd, Dig.cons hqB hQd, by simp; omega, hpN, hEv, hacc2, k112, kB, k4, V127⟩
              · skip
                
                have hA0 : A = [] := List.eq_nil_of_length_eq_zero (by have := of_decide_eq_false cB5; omega)
                subst hA0
                obtain ⟨pa, pb, pc, rfl⟩ := list3 hp3
                replace k112 : Blk W127 b112 (uL (D ++ List.replicate (9 - 0 - n) 0)).toArray := k112
                replace kB : Blk W127 bx (uL Qs).toArray := kB
                obtain ⟨R4, hR4⟩ : ∃ R4, ((D ++ List.replicate (9 - 0 - n) 0).drop 0).take 4 = R4 := ⟨_, rfl⟩
                have hR4l : R4.length = 4 := by rw [← hR4]; simp; omega
                have hR4d : Dig 18446744073709551616 R4 := by rw [← hR4]; exact ((hDd.app (Dig.rep _ _ (by decide))).drop 0).take 4
                have hR4v : val 18446744073709551616 R4 = val 18446744073709551616 D := by
                  have h1 : val 18446744073709551616 (D ++ List.replicate (9 - 0 - n) 0) = val 18446744073709551616 D := by rw [val_append, val_rep]; simp
                  rw [← hR4, List.drop_zero, take_val _ 4 (by simp; omega) (by rw [h1]; exact Nat.lt_of_lt_of_le (Nat.lt_trans hDv hV2hi) hp4), h1]
                have hfin := kn_done (val 18446744073709551616 Xl) bn s (bn * 2 ^ s) (val 18446744073709551616 D) (val 18446744073709551616 Qs) rfl (by have h := hacc; simpa [val_append, val_rep] using h) hDv
                refine c_exit ?_
                refine hQ126 _ _ _ (in_exit ?_)
                refine hK124 _ _ ?_
                refine fg4 4 5 8 9 (gS rfl (gS rfl (gS rfl (gS rfl (gS rfl (gS rfl g0)))))) (gS rfl (gS rfl (gS rfl (gS rfl (gS rfl g0))))) (gS rfl (gS rfl (gS rfl g0))) (gS rfl (gS rfl g0)) (fun g => ?_)
                refine c_seq (fun K142 hK142 => ?_)
                refine c_region ?_
                refine l_step (y_slA010 Hvaa.underlying468 sz_26 (et (gS rfl g0) rfl) rfl ?_ ?_) ?_
                decide
                decide
                refine l_step (y_s2a Hvaa.underlying65 (et g0 rfl) ?_) ?_
                decide
                refine l_step (y_loadR agg_65 sz_65 (et g0 rfl) (by rw [length_uL, hR4l]) (at1R (show Row _ _ 0 (uL R4) from hR4 ▸ (k112.limbs 0 4)))) ?_
                refine l_effN (e_store sz_65 (et (gS rfl (gS rfl (gS rfl (gS rfl (gS rfl (gS rfl g0)))))) rfl) (cellsV (et g0 rfl) rfl) (by rw [length_uL, hR4l]) (by exact one_uL _) k3 (by (simp only [List.size_toArray, length_uL, hR4l, List.length_cons, List.length_nil]; decide))) (fun v143 w143 h143 => ?_)
                obtain ⟨rfl, x143⟩ := h143
                replace k2 := k2.ch x143.ch (by omega)
                replace k4 := k4.ch x143.ch (by omega)
                replace k112 := k112.ch x143.ch (by omega)
                replace kB := kB.ch x143.ch (by first | omega | omega)
                replace k3 := x143.blk.full (by simp only [List.size_toArray, length_uL, hR4l, List.length_cons, List.length_nil])
                replace U := U.st x143 (.inr f3)
                refine l_nil ?_
                refine hK142 _ _ ?_
                refine fg3 4 5 9 (gS rfl (gS rfl (gS rfl (gS rfl (gS rfl (gS rfl g0)))))) (gS rfl (gS rfl (gS rfl (gS rfl (gS rfl g0))))) (gS rfl (gS rfl (gS rfl g0))) (fun g => ?_)
                refine c_seq (fun K144 hK144 => ?_)
                refine c_region ?_
                refine l_step ((y_slA000 Hvaa.underlying65 sz_26 (et (gS rfl (gS rfl g0)) rfl) ).to (slE (o' := 0) (l' := R4.length) (c' := 4) rfl (by rw [hR4l]) rfl)) ?_
                refine l_step (y_moveV (et (gS rfl g0) rfl)) ?_
                refine l_eff (e_callV cal_404 (aC (et (gS rfl g0) rfl) (aC (et g0 rfl) aN)) (shiftDown_spec b3 0 4 s [] R4 [] _ hs64 rfl (by omega) hR4d (by simpa using k3))) (fun v145 w145 h145 => ?_)
                obtain ⟨rfl, R5, hR5l, hR5d, hR5v, nR, c145⟩ := h145
                replace k2 := k2.ch c145 (by omega)
                replace k4 := k4.ch c145 (by omega)
                replace k112 := k112.ch c145 (by omega)
                replace kB := kB.ch c145 (by omega)
                replace k3 := nR
                replace U := U.cc c145 (by intro b hb; first | omega | exact .inl hb | exact .inr (hb ▸ f3))
                replace k3 : Blk w145 b3 (uL R5).toArray := by simpa using k3
                have hR54 : R5.length = 4 := by omega
                refine l_nil ?_
                refine hK144 _ _ ?_
                refine fg2 4 5 (gS rfl (gS rfl (gS rfl (gS rfl (gS rfl g0))))) (gS rfl (gS rfl (gS rfl (gS rfl g0)))) (fun g => ?_)
                refine c_seq (fun K146 hK146 => ?_)
                refine c_draw Up 3 [(0, true), (1, true), (2, false), (3, false)] (by kernel_rfl) (fun w147 hu => ⟨Up.refl _, ?_⟩)
                replace k2 := k2.up hu
                replace k3 := k3.up hu
                replace k4 := k4.up hu
                replace k112 := k112.up hu
                replace kB := kB.up hu
                replace U := U.tr hu
                have SU := Up.refl w147
                refine p_step (by exact rfl) (y_loadB agg_65 sz_65 (et (gS rfl g0) rfl) (by rw [size_uL, hR54]) (atSB k3)) ?_
                refine p_step (by exact rfl) (y_loadB agg_407 sz_407 (et (gS rfl g0) rfl) (by first | (simp only [Value.cells, hV, aV, bV, wV, wL, List.size_toArray, length_bL, length_uL, length_be, size_spl, List.length_cons, List.length_nil, List.length_replicate, Nat.zero_add, Nat.reduceAdd, Nat.reduceLeDiff, Nat.le_refl]; done) | rfl) (atSB k4)) ?_
                refine p_effN (by exact rfl) (e_storeS sz_65 (et (gS rfl (gS rfl (gS rfl g0))) rfl) (cellsV (et (gS rfl g0) rfl) rfl) (by rw [length_uL, hR54]) (by first | exact one_bL _ | exact one_uL _ | (intro v hv; simp at hv; subst hv; rfl)) k3) (fun v148 w148 h148 => ?_)
                obtain ⟨rfl, x148⟩ := h148
                replace k2 := k2.up x148
                replace k3 := k3.up x148
                replace k4 := k4.up x148
                replace k112 := k112.up x148
                replace kB := kB.up x148
                replace U := U.tr x148
                refine ⟨.inr (SU.tr x148), ?_⟩
                replace SU := SU.tr x148
                refine p_effN (by exact rfl) (e_storeS sz_407 (et (gS rfl (gS rfl g0)) rfl) (cellsV (et g0 rfl) rfl) (by first | (simp only [Value.cells, hV, aV, bV, wV, wL, List.size_toArray, length_bL, length_uL, length_be, size_spl, List.length_cons, List.length_nil, List.length_replicate, Nat.zero_add, Nat.reduceAdd, Nat.reduceLeDiff, Nat.le_refl]; done) | rfl) (by first | exact one_bL _ | exact one_uL _ | (intro v hv; simp at hv; subst hv; rfl)) k4) (fun v149 w149 h149 => ?_)
                obtain ⟨rfl, x149⟩ := h149
                replace k2 := k2.up x149
                replace k3 := k3.up x149
                replace k4 := k4.up x149
                replace k112 := k112.up x149
                replace kB := kB.up x149
                replace U := U.tr x149
                refine ⟨.inl rfl, ?_⟩
                refine p_nil ?_
                refine hK146 _ _ ?_
                refine fg2 4 5 (gS rfl (gS rfl (gS rfl g0))) (gS rfl (gS rfl g0)) (fun g => ?_)
                refine c_ret ?_
                refine ret2 rfl (res_blk agg_65 sz_65 (et (gS rfl g0) rfl) (by first | rfl | (rw [size_uL, hR54]) | (rw [size_uL, hR0l])) k3) (res_blk agg_407 sz_407 (et g0 rfl) (by first | rfl | (rw [size_uL, hR54]) | (rw [size_uL, hR0l])) k4) ?_
                have hb0 : bn ≠ 0 := by
                  intro h0
                  rw [h0, Nat.zero_mul] at hDv
                  omega
                refine ⟨[pa, pb, pc], rfl, tup2 ?_ rfl, Qs, by simpa using hQl, hQd, hfin.1, kB, U⟩
                rw [if_neg hb0, ← hfin.2, ← hR4v, ← hR5v]
                exact wV_val hR54 hR5d
end Go.Proofs.YgvaawGreat
