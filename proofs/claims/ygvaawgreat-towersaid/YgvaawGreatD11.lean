import Derived.Test.YgvaawGreatD10
set_option maxRecDepth 100000
set_option maxHeartbeats 4000000
set_option linter.unusedSimpArgs false
set_option linter.unusedVariables false
namespace Go.Proofs.YgvaawGreat
open Go
theorem mul_stepU {VN VD VP C W y d z C' q : Nat} (e1 : VN + C * W = VD + q * VP) (e2 : z + C' * 18446744073709551616 = q * y + d + C) : (VN + W * z) + C' * (W * 18446744073709551616) = (VD + W * d) + q * (VP + W * y) := by
  have h : W * (z + C' * 18446744073709551616) = W * (q * y + d + C) := by rw [e2]
  rw [Nat.mul_add, Nat.mul_add, Nat.mul_add] at h
  rw [show C' * (W * 18446744073709551616) = W * (C' * 18446744073709551616) by grind, show q * (VP + W * y) = q * VP + W * (q * y) by grind, show C * W = W * C by grind] at *
  omega
theorem mul_invU {N D p : List Nat} {C q z C' : Nat} (hD : N.length < D.length) (hp : N.length < p.length) (e1 : val 18446744073709551616 N + C * 18446744073709551616 ^ N.length = val 18446744073709551616 (D.take N.length) + q * val 18446744073709551616 (p.take N.length)) (e2 : z + C' * 18446744073709551616 = q * p[N.length] + D[N.length] + C) :
    val 18446744073709551616 (N ++ [z]) + C' * 18446744073709551616 ^ (N ++ [z]).length = val 18446744073709551616 (D.take (N ++ [z]).length) + q * val 18446744073709551616 (p.take (N ++ [z]).length) := by
  rw [List.length_append, List.length_singleton, val_snoc, val_take_inU hD, val_take_inU hp, Nat.pow_succ]
  exact mul_stepU e1 e2
theorem mul_outU {L N D m p : List Nat} {C i : Nat} (hL : L.length = i) (hi : i < m.length) (e0 : val 18446744073709551616 (L ++ D) = val 18446744073709551616 (m.take i) * val 18446744073709551616 p) (e1 : val 18446744073709551616 N + C * 18446744073709551616 ^ N.length = val 18446744073709551616 D + m[i] * val 18446744073709551616 p) :
    val 18446744073709551616 ((L ++ N) ++ [C]) = val 18446744073709551616 (m.take (i + 1)) * val 18446744073709551616 p := by
  have e2 : val 18446744073709551616 ((L ++ N) ++ [C]) = val 18446744073709551616 L + 18446744073709551616 ^ i * (val 18446744073709551616 N + C * 18446744073709551616 ^ N.length) := by
    rw [val_snoc, val_append, List.length_append, hL, Nat.pow_add]; grind
  have e3 : val 18446744073709551616 (L ++ D) = val 18446744073709551616 L + 18446744073709551616 ^ i * val 18446744073709551616 D := by rw [val_append, hL]
  rw [e2, e1, val_take_inU hi, Nat.add_mul, ← e0, e3]
  grind
theorem bit_valU {l : List Nat} {i : Nat} (hd : Dig 18446744073709551616 l) (h : i / 64 < l.length) : val 18446744073709551616 l / 2 ^ i % 2 = l[i / 64] / 2 ^ (i % 64) % 2 := by
  have h0 : val 18446744073709551616 l = val 18446744073709551616 (l.take (i / 64)) + 18446744073709551616 ^ (i / 64) * (l[i / 64] + 18446744073709551616 * val 18446744073709551616 (l.drop (i / 64 + 1))) := by
    rw [← val_dropU h]; exact val_take_drop 18446744073709551616 l _ (Nat.le_of_lt h)
  rw [h0]
  have e1 : 2 ^ i = 18446744073709551616 ^ (i / 64) * 2 ^ (i % 64) := by
    rw [show (18446744073709551616 : Nat) = 2 ^ 64 from rfl, ← Nat.pow_mul, ← Nat.pow_add]
    congr 1; omega
  have h1 : val 18446744073709551616 (l.take (i / 64)) < 18446744073709551616 ^ (i / 64) := by have := val_lt (hd.take (i / 64)); rwa [List.length_take, Nat.min_eq_left (Nat.le_of_lt h)] at this
  rw [e1, ← Nat.div_div_eq_div_mul, Nat.add_mul_div_left _ _ (Nat.pow_pos (by decide)), Nat.div_eq_of_lt h1, Nat.zero_add]
  have hm : i % 64 < 64 := Nat.mod_lt _ (by decide)
  have e2 : (18446744073709551616 : Nat) = 2 ^ (i % 64) * (2 * 2 ^ (63 - i % 64)) := by
    rw [← Nat.mul_assoc, ← Nat.pow_succ, ← Nat.pow_add, show i % 64 + 1 + (63 - i % 64) = 64 by omega]
  rw [e2, Nat.mul_assoc, Nat.add_mul_div_left _ _ (Nat.pow_pos (by decide)), Nat.mul_assoc, Nat.add_mul_mod_self_left]
theorem shr64N {a c : Nat} (hc : c ≤ 64) : ((a : Int)).fdiv (2 ^ (min ((c : Int)).toNat IntKind.u64.bits)) = ((a / 2 ^ c : Nat) : Int) := shr_nat hc
/-- what ModExp answers -/
def mexp (b e m : Nat) : Nat := if m = 0 then 0 else b ^ e % m
theorem mexp_lt (b e m N : Nat) (h : m < N) (h0 : 0 < N) : mexp b e m < N := by
  unfold mexp; split
  · exact h0
  · exact Nat.lt_trans (Nat.mod_lt _ (by omega)) h
theorem mexp_sq (b e m : Nat) : (if m = 0 then 0 else mexp b e m * mexp b e m % m) = mexp b (2 * e) m := by
  unfold mexp
  by_cases h : m = 0
  · simp [h]
  · rw [if_neg h, if_neg h, if_neg h, ← Nat.mul_mod, ← Nat.pow_add, Nat.two_mul]
theorem mexp_mul (b e m : Nat) : (if m = 0 then 0 else mexp b e m * mexp b 1 m % m) = mexp b (e + 1) m := by
  unfold mexp
  by_cases h : m = 0
  · simp [h]
  · rw [if_neg h, if_neg h, if_neg h, if_neg h, ← Nat.mul_mod, Nat.pow_one, Nat.pow_succ]
theorem mexp_zero (b m : Nat) : mexp b 0 m = if m = 0 then 0 else 1 % m := by unfold mexp; simp
theorem mexp_one (b m : Nat) : mexp b 1 m = if m = 0 then 0 else b % m := by unfold mexp; simp
theorem mul1024_spec (ba bb : Nat) (A B : List Nat) (w : World) (hA8 : A.length = 8) (hB8 : B.length = 8) (hA : Dig 18446744073709551616 A) (hB : Dig 18446744073709551616 B) (kA : Blk w ba (uL A).toArray) (kB : Blk w bb (uL B).toArray) :
    Ret 360 [.pointer (some ⟨ba, 0, none⟩), .pointer (some ⟨bb, 0, none⟩)] w (fun v w' => ∃ P, v = .agg (uL P).toArray ∧ P.length = 16 ∧ Dig 18446744073709551616 P ∧ val 18446744073709551616 P = val 18446744073709551616 A * val 18446744073709551616 B ∧ Up w w') := by
  have lA := kA.lt
  have lB := kB.lt
  refine enter (n := 52) Hvaa.func360 rfl rfl (Nat.le_of_ble_eq_true rfl) ?_
  have U := Up.refl w
  refine c_seq (fun K1 hK1 => ?_)
  refine c_region ?_
  refine l_eff (e_alloc zr_405) (fun v2 w2 h2 => ?_)
  obtain ⟨b2, rfl, n2⟩ := h2
  have f2 : w.heap.size ≤ b2 := Nat.le_trans U.size n2.fresh
  replace kA := kA.up n2.up
  replace kB := kB.up n2.up
  replace U := U.tr n2.up
  have k2 := n2.blk
  refine l_nil ?_
  refine hK1 _ _ ?_
  refine c_seq (fun K3 hK3 => ?_)
  refine c_region ?_
  refine l_eff (e_alloc zr_405) (fun v4 w4 h4 => ?_)
  obtain ⟨b4, rfl, n4⟩ := h4
  have d2_4 : b2 < b4 := Nat.lt_of_lt_of_le k2.lt n4.fresh
  have f4 : w.heap.size ≤ b4 := Nat.le_trans U.size n4.fresh
  replace k2 := k2.up n4.up
  replace kA := kA.up n4.up
  replace kB := kB.up n4.up
  replace U := U.tr n4.up
  have k4 := n4.blk
  refine l_nil ?_
  refine hK3 _ _ ?_
  refine c_seq (fun K5 hK5 => ?_)
  refine c_seq (fun K6 hK6 => ?_)
  refine c_region ?_
  refine l_step (y_moveV (et (gS rfl (gS rfl g0)) rfl)) ?_
  refine l_step y_moveC ?_
  refine l_nil ?_
  refine hK6 _ _ ?_
  refine fg5 1 4 5 13 14 (gS rfl (gS rfl (gS rfl (gS rfl (gS rfl g0))))) (gS rfl (gS rfl (gS rfl g0))) (gS rfl (gS rfl g0)) (gS rfl g0) g0 (fun g => ?_)
  refine c_block (fun Q7 hQ7 => ?_)
  refine fg5 1 4 5 13 14 (gS rfl (gS rfl (gS rfl (gS rfl g0)))) (gS rfl (gS rfl (gS rfl g0))) (gS rfl (gS rfl g0)) (gS rfl g0) g0 (fun g => ?_)
  replace k4 : Blk w4 b4 (uL (List.replicate 8 0 ++ List.replicate 8 0)).toArray := k4
  refine c_loop (fun k_ s_ W8 => ∃ (g : Nat → Value) (P : List Nat) (i r : Nat), s_ = (upd (upd (upd (upd (upd g 1 (.pointer (some ⟨bb, 0, none⟩))) 4 (.pointer (some ⟨b2, 0, none⟩))) 5 (.pointer (some ⟨b4, 0, none⟩))) 13 (.pointer (some ⟨ba, 0, none⟩))) 14 (.int .i64 (i : Nat))) ∧ r = k_ ∧ (i + r = 8) ∧ (P.length = i + 8) ∧ (Dig 18446744073709551616 P) ∧ (val 18446744073709551616 P = val 18446744073709551616 (A.take i) * val 18446744073709551616 B) ∧ Blk W8 b4 ((uL (P ++ List.replicate r 0)).toArray) ∧ Ch (fun k => k = b4) w4 W8) ((8)) ?_ ?_
  · exact ⟨g, (List.replicate 8 0), 0, 8, rfl, rfl, rfl, by simp, Dig.rep _ _ (by decide), by rw [val_rep]; simp [val], k4, Ch.refl _ _⟩
  · skip
    intro k_ s_ W8 hI K8 hK8
    obtain ⟨g, P, i, r, rfl, rfl, hir, hPl, hPd, hPv, nk4, V8⟩ := hI
    replace k2 := k2.ch V8 (by omega)
    replace kA := kA.ch V8 (by omega)
    replace kB := kB.ch V8 (by omega)
    replace k4 := nk4
    replace U := U.cc V8 (by intro b hb; first | exact hb.elim | omega | (simp at hb ⊢; omega))
    refine c_seq (fun K9 hK9 => ?_)
    refine c_region ?_
    refine l_step (y_lss (et g0 rfl) rfl) ?_
    refine l_nil ?_
    refine hK9 _ _ ?_
    refine c_seq (fun K10 hK10 => ?_)
    refine c_cond (et g0 rfl) (fun cB1 => ?_) (fun cB1 => ?_)
    · skip
      simp only [decide_eq_true_eq, decide_eq_false_iff_not, Int.not_lt, Int.not_le, Bool.not_eq_true', Bool.not_eq_false', Bool.not_eq_eq_eq_not, Bool.not_true, Bool.not_false] at cB1
      obtain ⟨r', rfl, hrr⟩ := rep_succ r P (by omega)
      obtain ⟨L, D, rfl, hLl⟩ : ∃ L D, P = L ++ D ∧ L.length = i := ⟨P.take i, P.drop i, (List.take_append_drop i P).symm, by simp; omega⟩
      have hDl : D.length = 8 := by simp at hPl; omega
      have hLd := hPd.left
      have hDd := hPd.right
      rw [hrr, List.append_assoc] at k4
      have hmi := hA _ (List.getElem_mem (l := A) (n := i) (by omega))
      refine c_skip ?_
      refine hK10 _ _ ?_
      refine fg5 1 4 5 13 14 (gS rfl (gS rfl (gS rfl (gS rfl (gS rfl g0))))) (gS rfl (gS rfl (gS rfl (gS rfl g0)))) (gS rfl (gS rfl (gS rfl g0))) (gS rfl (gS rfl g0)) (gS rfl g0) (fun g => ?_)
      refine c_seq (fun K12 hK12 => ?_)
      refine c_block (fun Q13 hQ13 => ?_)
      refine c_seq (fun K14 hK14 => ?_)
      refine c_draw Up 6 [(0, true), (1, true), (2, true), (3, true), (4, true), (5, true)] (by kernel_rfl) (fun w15 hu => ⟨Up.refl _, ?_⟩)
      replace k2 := k2.up hu
      replace k4 := k4.up hu
      replace kA := kA.up hu
      replace kB := kB.up hu
      replace U := U.tr hu
      replace V8 := V8.tr hu
      have SU := Up.refl w15
      refine p_step (by exact rfl) (y_moveV (et g0 rfl)) ?_
      refine p_step (by exact rfl) (y_nil (et (gS rfl (gS rfl g0)) rfl)) ?_
      refine p_step (by exact rfl) (y_idxA Hvaa.underlying336 sz_26 (et g0 rfl) (et (gS rfl (gS rfl g0)) rfl) ?_ ?_) ?_
      omega
      omega
      refine p_step (by exact rfl) (y_load1 one_26 (et g0 rfl) (atS (kA.cell (uL_getI (i := i) (by omega) (by omega))))) ?_
      refine p_step (by exact rfl) (y_assignV (et (gS rfl (gS rfl (gS rfl g0))) rfl)) ?_
      refine p_step (by exact rfl) (y_assignV (et (gS rfl g0) rfl)) ?_
      refine p_nil ?_
      refine hK14 _ _ ?_
      refine fg7 1 4 5 13 14 6 7 (gS rfl (gS rfl (gS rfl (gS rfl (gS rfl (gS rfl (gS rfl (gS rfl (gS rfl (gS rfl g0)))))))))) (gS rfl (gS rfl (gS rfl (gS rfl (gS rfl (gS rfl (gS rfl (gS rfl (gS rfl g0))))))))) (gS rfl (gS rfl (gS rfl (gS rfl (gS rfl (gS rfl (gS rfl (gS rfl g0)))))))) (gS rfl (gS rfl (gS rfl (gS rfl (gS rfl (gS rfl (gS rfl g0))))))) (gS rfl (gS rfl (gS rfl (gS rfl (gS rfl (gS rfl g0)))))) (gS rfl g0) g0 (fun g => ?_)
      refine c_seq (fun K16 hK16 => ?_)
      refine c_region ?_
      refine l_step y_assignC ?_
      refine l_nil ?_
      refine hK16 _ _ ?_
      refine c_seq (fun K17 hK17 => ?_)
      refine c_seq (fun K18 hK18 => ?_)
      refine c_region ?_
      refine l_step (y_moveV (et (gS rfl (gS rfl (gS rfl (gS rfl (gS rfl (gS rfl (gS rfl g0))))))) rfl)) ?_
      refine l_step y_moveC ?_
      refine l_nil ?_
      refine hK18 _ _ ?_
      refine c_block (fun Q19 hQ19 => ?_)
      refine fg10 1 4 5 6 7 8 13 14 20 21 (gS rfl (gS rfl (gS rfl (gS rfl (gS rfl (gS rfl (gS rfl (gS rfl (gS rfl g0))))))))) (gS rfl (gS rfl (gS rfl (gS rfl (gS rfl (gS rfl (gS rfl (gS rfl g0)))))))) (gS rfl (gS rfl (gS rfl (gS rfl (gS rfl (gS rfl (gS rfl g0))))))) (gS rfl (gS rfl (gS rfl (gS rfl g0)))) (gS rfl (gS rfl (gS rfl g0))) (gS rfl (gS rfl g0)) (gS rfl (gS rfl (gS rfl (gS rfl (gS rfl (gS rfl g0)))))) (gS rfl (gS rfl (gS rfl (gS rfl (gS rfl g0))))) (gS rfl g0) g0 (fun g => ?_)
      replace k4 : Blk w15 b4 (uL ((L ++ []) ++ (D.drop ([] : List Nat).length ++ 0 :: List.replicate r' 0))).toArray := by simpa using k4
      refine c_loop (fun k_ s_ W20 => ∃ (g : Nat → Value) (N : List Nat) (C : Nat), s_ = (upd (upd (upd (upd (upd (upd (upd (upd (upd (upd g 1 (.pointer (some ⟨bb, 0, none⟩))) 4 (.pointer (some ⟨b2, 0, none⟩))) 5 (.pointer (some ⟨b4, 0, none⟩))) 6 (.int .i64 (i : Nat))) 7 (.int .u64 (A[i] : Nat))) 8 (.int .u64 (C : Nat))) 13 (.pointer (some ⟨ba, 0, none⟩))) 14 (.int .i64 (i : Nat))) 20 (.pointer (some ⟨bb, 0, none⟩))) 21 (.int .i64 (N.length : Nat))) ∧ 8 - N.length = k_ ∧ (N.length ≤ 8) ∧ (Dig 18446744073709551616 N) ∧ (C < 18446744073709551616) ∧ (val 18446744073709551616 N + C * 18446744073709551616 ^ N.length = val 18446744073709551616 (D.take N.length) + A[i] * val 18446744073709551616 (B.take N.length)) ∧ Blk W20 b4 ((uL ((L ++ N) ++ (D.drop N.length ++ 0 :: List.replicate r' 0))).toArray) ∧ Ch (fun k => k = b4) w15 W20) (8 - (([] : List Nat)).length) ?_ ?_
      · exact ⟨g, ([] : List Nat), 0, rfl, rfl, Nat.zero_le _, Dig.nil _, by decide, by simp [val], k4, Ch.refl _ _⟩
      · skip
        intro k_ s_ W20 hI K20 hK20
        obtain ⟨g, N, C, rfl, rfl, hNl, hNd, hC, hNv, nk4, V20⟩ := hI
        replace k2 := k2.ch V20 (by omega)
        replace kA := kA.ch V20 (by omega)
        replace kB := kB.ch V20 (by omega)
        replace k4 := nk4
        replace V8 := V8.cc V20 (by intro b hb; first | exact hb.elim | omega)
        replace U := U.cc V20 (by intro b hb; first | exact hb.elim | omega | (simp at hb ⊢; omega))
        refine c_seq (fun K21 hK21 => ?_)
        refine c_region ?_
        refine l_step (y_lss (et g0 rfl) rfl) ?_
        refine l_nil ?_
        refine hK21 _ _ ?_
        refine c_seq (fun K22 hK22 => ?_)
        refine c_cond (et g0 rfl) (fun cB2 => ?_) (fun cB2 => ?_)
        · skip
          simp only [decide_eq_true_eq, decide_eq_false_iff_not, Int.not_lt, Int.not_le, Bool.not_eq_true', Bool.not_eq_false', Bool.not_eq_eq_eq_not, Bool.not_true, Bool.not_false] at cB2
          have hpi := hB _ (List.getElem_mem (l := B) (n := N.length) (by omega))
          have hDi := hDd _ (List.getElem_mem (l := D) (n := N.length) (by omega))
          rw [List.drop_eq_getElem_cons (show N.length < D.length by omega)] at k4
          have hLN : (L ++ N).length = i + N.length := by simp; omega
          refine c_skip ?_
          refine hK22 _ _ ?_
          refine fg10 1 4 5 6 7 8 13 14 20 21 (gS rfl (gS rfl (gS rfl (gS rfl (gS rfl (gS rfl (gS rfl (gS rfl (gS rfl (gS rfl g0)))))))))) (gS rfl (gS rfl (gS rfl (gS rfl (gS rfl (gS rfl (gS rfl (gS rfl (gS rfl g0))))))))) (gS rfl (gS rfl (gS rfl (gS rfl (gS rfl (gS rfl (gS rfl (gS rfl g0)))))))) (gS rfl (gS rfl (gS rfl (gS rfl (gS rfl (gS rfl (gS rfl g0))))))) (gS rfl (gS rfl (gS rfl (gS rfl (gS rfl (gS rfl g0)))))) (gS rfl (gS rfl (gS rfl (gS rfl (gS rfl g0))))) (gS rfl (gS rfl (gS rfl (gS rfl g0)))) (gS rfl (gS rfl (gS rfl g0))) (gS rfl (gS rfl g0)) (gS rfl g0) (fun g => ?_)
          refine c_seq (fun K24 hK24 => ?_)
          refine c_block (fun Q25 hQ25 => ?_)
          refine c_seq (fun K26 hK26 => ?_)
          refine c_draw Up 6 [(0, true), (1, true), (2, true), (3, true), (4, true), (5, true)] (by kernel_rfl) (fun w27 hu => ⟨Up.refl _, ?_⟩)
          replace k2 := k2.up hu
          replace k4 := k4.up hu
          replace kA := kA.up hu
          replace kB := kB.up hu
          replace U := U.tr hu
          replace V8 := V8.tr hu
          replace V20 := V20.tr hu
          have SU := Up.refl w27
          refine p_step (by exact rfl) (y_moveV (et g0 rfl)) ?_
          refine p_step (by exact rfl) (y_nil (et (gS rfl (gS rfl g0)) rfl)) ?_
          refine p_step (by exact rfl) (y_idxA Hvaa.underlying336 sz_26 (et g0 rfl) (et (gS rfl (gS rfl g0)) rfl) ?_ ?_) ?_
          omega
          omega
          refine p_step (by exact rfl) (y_load1 one_26 (et g0 rfl) (atS (kB.cell (uL_getI (i := N.length) (by omega) (by omega))))) ?_
          refine p_step (by exact rfl) (y_assignV (et (gS rfl (gS rfl (gS rfl g0))) rfl)) ?_
          refine p_step (by exact rfl) (y_assignV (et (gS rfl g0) rfl)) ?_
          refine p_nil ?_
          refine hK26 _ _ ?_
          refine fg12 1 4 5 6 7 8 13 14 20 21 9 10 (gS rfl (gS rfl (gS rfl (gS rfl (gS rfl (gS rfl (gS rfl (gS rfl (gS rfl (gS rfl (gS rfl (gS rfl (gS rfl (gS rfl (gS rfl g0))))))))))))))) (gS rfl (gS rfl (gS rfl (gS rfl (gS rfl (gS rfl (gS rfl (gS rfl (gS rfl (gS rfl (gS rfl (gS rfl (gS rfl (gS rfl g0)))))))))))))) (gS rfl (gS rfl (gS rfl (gS rfl (gS rfl (gS rfl (gS rfl (gS rfl (gS rfl (gS rfl (gS rfl (gS rfl (gS rfl g0))))))))))))) (gS rfl (gS rfl (gS rfl (gS rfl (gS rfl (gS rfl (gS rfl (gS rfl (gS rfl (gS rfl (gS rfl (gS rfl g0)))))))))))) (gS rfl (gS rfl (gS rfl (gS rfl (gS rfl (gS rfl (gS rfl (gS rfl (gS rfl (gS rfl (gS rfl g0))))))))))) (gS rfl (gS rfl (gS rfl (gS rfl (gS rfl (gS rfl (gS rfl (gS rfl (gS rfl (gS rfl g0)))))))))) (gS rfl (gS rfl (gS rfl (gS rfl (gS rfl (gS rfl (gS rfl (gS rfl (gS rfl g0))))))))) (gS rfl (gS rfl (gS rfl (gS rfl (gS rfl (gS rfl (gS rfl (gS rfl g0)))))))) (gS rfl (gS rfl (gS rfl (gS rfl (gS rfl (gS rfl (gS rfl g0))))))) (gS rfl (gS rfl (gS rfl (gS rfl (gS rfl (gS rfl g0)))))) (gS rfl g0) g0 (fun g => ?_)
          refine c_seq (fun K28 hK28 => ?_)
          refine c_region ?_
          refine l_step (y_moveV (et (gS rfl (gS rfl (gS rfl (gS rfl (gS rfl (gS rfl (gS rfl g0))))))) rfl)) ?_
          refine l_step (y_moveV (et (gS rfl g0) rfl)) ?_
          refine l_step (y_moveV (et (gS rfl (gS rfl (gS rfl (gS rfl (gS rfl (gS rfl (gS rfl (gS rfl (gS rfl (gS rfl g0)))))))))) rfl)) ?_
          refine l_step (y_moveV (et (gS rfl (gS rfl (gS rfl (gS rfl g0)))) rfl)) ?_
          refine l_step (y_add (et (gS rfl g0) rfl) (et g0 rfl) (addIN ?_)) ?_
          omega
          refine l_step (y_idxA Hvaa.underlying405 sz_26 (et (gS rfl (gS rfl (gS rfl (gS rfl (gS rfl (gS rfl (gS rfl (gS rfl (gS rfl (gS rfl (gS rfl (gS rfl (gS rfl (gS rfl g0)))))))))))))) rfl) (et g0 rfl) ?_ ?_) ?_
          omega
          omega
          refine l_step (y_load1 one_26 (et g0 rfl) (at1 (k4.cell (uL_get (L ++ N) _ _ _ (by omega))))) ?_
          refine l_step (y_moveV (et (gS rfl (gS rfl (gS rfl (gS rfl (gS rfl (gS rfl (gS rfl (gS rfl (gS rfl (gS rfl (gS rfl (gS rfl (gS rfl g0))))))))))))) rfl)) ?_
          refine l_eff (e_callV cal_405 (aC (et (gS rfl (gS rfl (gS rfl (gS rfl (gS rfl (gS rfl (gS rfl g0))))))) rfl) (aC (et (gS rfl (gS rfl (gS rfl (gS rfl (gS rfl (gS rfl g0)))))) rfl) (aC (et (gS rfl g0) rfl) (aC (et g0 rfl) aN)))) (mulAdd_spec _ _ _ _ _ hmi hpi hDi hC)) (fun v29 w29 h29 => ?_)
          obtain ⟨lo, hi, rfl, hlo, hhi, hsum, u29⟩ := h29
          replace k2 := k2.up u29
          replace k4 := k4.up u29
          replace kA := kA.up u29
          replace kB := kB.up u29
          replace U := U.tr u29
          replace V8 := V8.tr u29
          replace V20 := V20.tr u29
          refine l_step (y_moveV (et g0 rfl)) ?_
          refine l_step (y_ext (et g0 rfl) rfl) ?_
          refine l_step (y_ext (et (gS rfl g0) rfl) rfl) ?_
          refine l_step (y_assignV (et (gS rfl g0) rfl)) ?_
          refine l_step (y_assignV (et (gS rfl g0) rfl)) ?_
          refine l_nil ?_
          refine hK28 _ _ ?_
          refine fg12 1 4 5 6 7 13 14 20 21 9 11 12 (gS rfl (gS rfl (gS rfl (gS rfl (gS rfl (gS rfl (gS rfl (gS rfl (gS rfl (gS rfl (gS rfl (gS rfl (gS rfl (gS rfl (gS rfl (gS rfl (gS rfl (gS rfl (gS rfl (gS rfl (gS rfl (gS rfl (gS rfl (gS rfl (gS rfl g0))))))))))))))))))))))))) (gS rfl (gS rfl (gS rfl (gS rfl (gS rfl (gS rfl (gS rfl (gS rfl (gS rfl (gS rfl (gS rfl (gS rfl (gS rfl (gS rfl (gS rfl (gS rfl (gS rfl (gS rfl (gS rfl (gS rfl (gS rfl (gS rfl (gS rfl (gS rfl g0)))))))))))))))))))))))) (gS rfl (gS rfl (gS rfl (gS rfl (gS rfl (gS rfl (gS rfl (gS rfl (gS rfl (gS rfl (gS rfl (gS rfl (gS rfl (gS rfl (gS rfl (gS rfl (gS rfl (gS rfl (gS rfl (gS rfl (gS rfl (gS rfl (gS rfl g0))))))))))))))))))))))) (gS rfl (gS rfl (gS rfl (gS rfl (gS rfl (gS rfl (gS rfl (gS rfl (gS rfl (gS rfl (gS rfl (gS rfl (gS rfl (gS rfl (gS rfl (gS rfl (gS rfl (gS rfl (gS rfl (gS rfl (gS rfl (gS rfl g0)))))))))))))))))))))) (gS rfl (gS rfl (gS rfl (gS rfl (gS rfl (gS rfl (gS rfl (gS rfl (gS rfl (gS rfl (gS rfl (gS rfl (gS rfl (gS rfl (gS rfl (gS rfl (gS rfl (gS rfl (gS rfl (gS rfl (gS rfl g0))))))))))))))))))))) (gS rfl (gS rfl (gS rfl (gS rfl (gS rfl (gS rfl (gS rfl (gS rfl (gS rfl (gS rfl (gS rfl (gS rfl (gS rfl (gS rfl (gS rfl (gS rfl (gS rfl (gS rfl (gS rfl g0))))))))))))))))))) (gS rfl (gS rfl (gS rfl (gS rfl (gS rfl (gS rfl (gS rfl (gS rfl (gS rfl (gS rfl (gS rfl (gS rfl (gS rfl (gS rfl (gS rfl (gS rfl (gS rfl (gS rfl g0)))))))))))))))))) (gS rfl (gS rfl (gS rfl (gS rfl (gS rfl (gS rfl (gS rfl (gS rfl (gS rfl (gS rfl (gS rfl (gS rfl (gS rfl (gS rfl (gS rfl (gS rfl (gS rfl g0))))))))))))))))) (gS rfl (gS rfl (gS rfl (gS rfl (gS rfl (gS rfl (gS rfl (gS rfl (gS rfl (gS rfl (gS rfl (gS rfl (gS rfl (gS rfl (gS rfl (gS rfl g0)))))))))))))))) (gS rfl (gS rfl (gS rfl (gS rfl (gS rfl (gS rfl (gS rfl (gS rfl (gS rfl (gS rfl (gS rfl (gS rfl (gS rfl (gS rfl (gS rfl g0))))))))))))))) (gS rfl g0) g0 (fun g => ?_)
          refine c_seq (fun K30 hK30 => ?_)
          refine c_region ?_
          refine l_step (y_moveV (et (gS rfl (gS rfl (gS rfl (gS rfl (gS rfl (gS rfl (gS rfl (gS rfl g0)))))))) rfl)) ?_
          refine l_step (y_moveV (et (gS rfl (gS rfl (gS rfl g0))) rfl)) ?_
          refine l_step (y_add (et (gS rfl g0) rfl) (et g0 rfl) (addIN ?_)) ?_
          omega
          refine l_step (y_moveV (et (gS rfl (gS rfl (gS rfl (gS rfl g0)))) rfl)) ?_
          refine l_step (y_idxA Hvaa.underlying405 sz_26 (et (gS rfl (gS rfl (gS rfl (gS rfl (gS rfl (gS rfl (gS rfl (gS rfl (gS rfl (gS rfl (gS rfl (gS rfl (gS rfl g0))))))))))))) rfl) (et (gS rfl g0) rfl) ?_ ?_) ?_
          omega
          omega
          refine l_effN (e_store sz_26 (et g0 rfl) (cellsV (et (gS rfl g0) rfl) rfl) rfl (by first | exact one_bL _ | exact one_uL _ | (intro v hv; simp at hv; subst hv; rfl)) k4 (by (simp only [List.size_toArray, length_uL, List.length_append, List.length_cons, List.length_drop, List.length_replicate]; omega))) (fun v31 w31 h31 => ?_)
          obtain ⟨rfl, x31⟩ := h31
          replace k2 := k2.ch x31.ch (by omega)
          replace kA := kA.ch x31.ch (by first | omega | omega)
          replace kB := kB.ch x31.ch (by first | omega | omega)
          replace k4 := x31.blk
          replace U := U.st x31 f4
          replace V8 := V8.st x31 (by omega)
          replace V20 := V20.st x31 (by omega)
          replace k4 := Blk.setU k4 (by omega)
          replace k4 : Blk w31 b4 (uL ((L ++ (N ++ [lo])) ++ (D.drop (N ++ [lo]).length ++ 0 :: List.replicate r' 0))).toArray := by simpa using k4
          refine l_nil ?_
          refine hK30 _ _ ?_
          refine fg10 1 4 5 6 7 13 14 20 21 12 (gS rfl (gS rfl (gS rfl (gS rfl (gS rfl (gS rfl (gS rfl (gS rfl (gS rfl (gS rfl (gS rfl (gS rfl (gS rfl (gS rfl (gS rfl (gS rfl g0)))))))))))))))) (gS rfl (gS rfl (gS rfl (gS rfl (gS rfl (gS rfl (gS rfl (gS rfl (gS rfl (gS rfl (gS rfl (gS rfl (gS rfl (gS rfl (gS rfl g0))))))))))))))) (gS rfl (gS rfl (gS rfl (gS rfl (gS rfl (gS rfl (gS rfl (gS rfl (gS rfl (gS rfl (gS rfl (gS rfl (gS rfl (gS rfl g0)))))))))))))) (gS rfl (gS rfl (gS rfl (gS rfl (gS rfl (gS rfl (gS rfl (gS rfl (gS rfl (gS rfl (gS rfl (gS rfl (gS rfl g0))))))))))))) (gS rfl (gS rfl (gS rfl (gS rfl (gS rfl (gS rfl (gS rfl (gS rfl (gS rfl (gS rfl (gS rfl (gS rfl g0)))))))))))) (gS rfl (gS rfl (gS rfl (gS rfl (gS rfl (gS rfl (gS rfl (gS rfl (gS rfl (gS rfl (gS rfl g0))))))))))) (gS rfl (gS rfl (gS rfl (gS rfl (gS rfl (gS rfl (gS rfl (gS rfl (gS rfl (gS rfl g0)))))))))) (gS rfl (gS rfl (gS rfl (gS rfl (gS rfl (gS rfl (gS rfl (gS rfl (gS rfl g0))))))))) (gS rfl (gS rfl (gS rfl (gS rfl (gS rfl (gS rfl (gS rfl (gS rfl g0)))))))) (gS rfl (gS rfl (gS rfl (gS rfl (gS rfl g0))))) (fun g => ?_)
          refine c_region ?_
          refine l_step (y_moveV (et g0 rfl)) ?_
          refine l_step (y_assignV (et g0 rfl)) ?_
          refine l_nil ?_
          refine hQ25 _ _ _ (in_normal ?_)
          refine hK24 _ _ ?_
          refine fg10 1 4 5 6 7 13 14 20 21 8 (gS rfl (gS rfl (gS rfl (gS rfl (gS rfl (gS rfl (gS rfl (gS rfl (gS rfl (gS rfl (gS rfl g0))))))))))) (gS rfl (gS rfl (gS rfl (gS rfl (gS rfl (gS rfl (gS rfl (gS rfl (gS rfl (gS rfl g0)))))))))) (gS rfl (gS rfl (gS rfl (gS rfl (gS rfl (gS rfl (gS rfl (gS rfl (gS rfl g0))))))))) (gS rfl (gS rfl (gS rfl (gS rfl (gS rfl (gS rfl (gS rfl (gS rfl g0)))))))) (gS rfl (gS rfl (gS rfl (gS rfl (gS rfl (gS rfl (gS rfl g0))))))) (gS rfl (gS rfl (gS rfl (gS rfl (gS rfl (gS rfl g0)))))) (gS rfl (gS rfl (gS rfl (gS rfl (gS rfl g0))))) (gS rfl (gS rfl (gS rfl (gS rfl g0)))) (gS rfl (gS rfl (gS rfl g0))) g0 (fun g => ?_)
          refine c_region ?_
          refine l_step (y_add (et (gS rfl g0) rfl) rfl ((addIN (y := 1) ?_).trans (castE (show N.length + 1 = (N ++ [lo]).length by simp)))) ?_
          omega
          refine l_step (y_moveV (et g0 rfl)) ?_
          refine l_nil ?_
          refine fK10 1 4 5 6 7 8 13 14 20 21 (gS rfl (gS rfl (gS rfl (gS rfl (gS rfl (gS rfl (gS rfl (gS rfl (gS rfl (gS rfl (gS rfl g0))))))))))) (gS rfl (gS rfl (gS rfl (gS rfl (gS rfl (gS rfl (gS rfl (gS rfl (gS rfl (gS rfl g0)))))))))) (gS rfl (gS rfl (gS rfl (gS rfl (gS rfl (gS rfl (gS rfl (gS rfl (gS rfl g0))))))))) (gS rfl (gS rfl (gS rfl (gS rfl (gS rfl (gS rfl (gS rfl (gS rfl g0)))))))) (gS rfl (gS rfl (gS rfl (gS rfl (gS rfl (gS rfl (gS rfl g0))))))) (gS rfl (gS rfl g0)) (gS rfl (gS rfl (gS rfl (gS rfl (gS rfl (gS rfl g0)))))) (gS rfl (gS rfl (gS rfl (gS rfl (gS rfl g0))))) (gS rfl (gS rfl (gS rfl (gS rfl g0)))) g0 (fun g => ?_)
          exact hK20 (8 - ((N ++ [lo])).length) _ _ (by simp; omega) ⟨g, (N ++ [lo]), hi, rfl, rfl, by simp; omega, hNd.app (Dig.one hlo), hhi, mul_invU (by omega) (by omega) hNv hsum, k4, V20⟩
        · skip
          simp only [decide_eq_true_eq, decide_eq_false_iff_not, Int.not_lt, Int.not_le, Bool.not_eq_true', Bool.not_eq_false', Bool.not_eq_eq_eq_not, Bool.not_true, Bool.not_false] at cB2
          have hNj : N.length = 8 := by omega
          rw [List.drop_of_length_le (by omega), List.nil_append] at k4
          have hLN : (L ++ N).length = i + 8 := by simp; omega
          refine c_exit ?_
          refine hQ19 _ _ _ (in_exit ?_)
          refine hK17 _ _ ?_
          refine fg7 1 4 5 6 8 13 14 (gS rfl (gS rfl (gS rfl (gS rfl (gS rfl (gS rfl (gS rfl (gS rfl (gS rfl (gS rfl g0)))))))))) (gS rfl (gS rfl (gS rfl (gS rfl (gS rfl (gS rfl (gS rfl (gS rfl (gS rfl g0))))))))) (gS rfl (gS rfl (gS rfl (gS rfl (gS rfl (gS rfl (gS rfl (gS rfl g0)))))))) (gS rfl (gS rfl (gS rfl (gS rfl (gS rfl (gS rfl (gS rfl g0))))))) (gS rfl (gS rfl (gS rfl (gS rfl (gS rfl g0))))) (gS rfl (gS rfl (gS rfl (gS rfl g0)))) (gS rfl (gS rfl (gS rfl g0))) (fun g => ?_)
          refine c_region ?_
          refine l_step (y_moveV (et (gS rfl (gS rfl (gS rfl g0))) rfl)) ?_
          refine l_step (y_add (et g0 rfl) rfl (addIN (y := 8) ?_)) ?_
          omega
          refine l_step (y_moveV (et (gS rfl (gS rfl (gS rfl (gS rfl g0)))) rfl)) ?_
          refine l_step (y_idxA Hvaa.underlying405 sz_26 (et (gS rfl (gS rfl (gS rfl (gS rfl (gS rfl (gS rfl (gS rfl g0))))))) rfl) (et (gS rfl g0) rfl) ?_ ?_) ?_
          omega
          omega
          refine l_effN (e_store sz_26 (et g0 rfl) (cellsV (et (gS rfl g0) rfl) rfl) rfl (by first | exact one_bL _ | exact one_uL _ | (intro v hv; simp at hv; subst hv; rfl)) k4 (by (simp only [List.size_toArray, length_uL, List.length_append, List.length_cons, List.length_drop, List.length_replicate]; omega))) (fun v32 w32 h32 => ?_)
          obtain ⟨rfl, x32⟩ := h32
          replace k2 := k2.ch x32.ch (by omega)
          replace kA := kA.ch x32.ch (by first | omega | omega)
          replace kB := kB.ch x32.ch (by first | omega | omega)
          replace k4 := x32.blk
          replace U := U.st x32 f4
          replace V8 := V8.st x32 (by omega)
          replace k4 := Blk.setU k4 (by omega)
          replace k4 : Blk w32 b4 (uL (((L ++ N) ++ [C]) ++ List.replicate r' 0)).toArray := by simpa using k4
          refine l_nil ?_
          refine hQ13 _ _ _ (in_normal ?_)
          refine hK12 _ _ ?_
          refine fg5 1 4 5 13 14 (gS rfl (gS rfl (gS rfl (gS rfl (gS rfl (gS rfl (gS rfl (gS rfl (gS rfl (gS rfl g0)))))))))) (gS rfl (gS rfl (gS rfl (gS rfl (gS rfl (gS rfl (gS rfl (gS rfl (gS rfl g0))))))))) (gS rfl (gS rfl (gS rfl (gS rfl (gS rfl (gS rfl (gS rfl (gS rfl g0)))))))) (gS rfl (gS rfl (gS rfl (gS rfl (gS rfl g0))))) (gS rfl (gS rfl (gS rfl (gS rfl g0)))) (fun g => ?_)
          refine c_region ?_
          refine l_step (y_add (et g0 rfl) rfl (addIN (y := 1) ?_)) ?_
          omega
          refine l_step (y_moveV (et g0 rfl)) ?_
          refine l_nil ?_
          refine fK5 1 4 5 13 14 (gS rfl (gS rfl (gS rfl (gS rfl (gS rfl (gS rfl g0)))))) (gS rfl (gS rfl (gS rfl (gS rfl (gS rfl g0))))) (gS rfl (gS rfl (gS rfl (gS rfl g0)))) (gS rfl (gS rfl (gS rfl g0))) g0 (fun g => ?_)
          exact hK8 ((r')) _ _ (by omega) ⟨g, ((L ++ N) ++ [C]), (i + 1), r', rfl, rfl, by omega, by simp; omega, (hLd.app hNd).app (Dig.one hC), mul_outU hLl (by omega) hPv (by rw [hNj, take_ge (by omega), take_ge (by omega)] at hNv; rw [hNj]; exact hNv), k4, V8⟩
    · skip
      simp only [decide_eq_true_eq, decide_eq_false_iff_not, Int.not_lt, Int.not_le, Bool.not_eq_true', Bool.not_eq_false', Bool.not_eq_eq_eq_not, Bool.not_true, Bool.not_false] at cB1
      have hr0 : r = 0 := by omega
      subst hr0
      have him : i = 8 := by omega
      subst him
      rw [List.replicate_zero, List.append_nil] at k4
      rw [take_ge (by omega)] at hPv
      refine c_exit ?_
      refine hQ7 _ _ _ (in_exit ?_)
      refine hK5 _ _ ?_
      refine fg2 4 5 (gS rfl (gS rfl (gS rfl (gS rfl g0)))) (gS rfl (gS rfl (gS rfl g0))) (fun g => ?_)
      refine c_seq (fun K33 hK33 => ?_)
      refine c_region ?_
      refine l_step (y_loadB agg_405 sz_405 (et g0 rfl) (by rw [size_uL]; omega) (at1B k4)) ?_
      refine l_effN (e_store sz_405 (et (gS rfl (gS rfl g0)) rfl) (cellsV (et g0 rfl) rfl) (by rw [length_uL]; omega) (by exact one_uL _) k2 (by (exact Nat.le_of_ble_eq_true rfl))) (fun v34 w34 h34 => ?_)
      obtain ⟨rfl, x34⟩ := h34
      replace k4 := k4.ch x34.ch (by omega)
      replace kA := kA.ch x34.ch (by first | omega | omega)
      replace kB := kB.ch x34.ch (by first | omega | omega)
      replace k2 := x34.blk.full (by rw [length_uL, show P.length = 16 by omega]; rfl)
      replace U := U.st x34 f2
      refine l_nil ?_
      refine hK33 _ _ ?_
      refine fg1 4 (gS rfl (gS rfl g0)) (fun g => ?_)
      refine c_ret ?_
      refine ret1 rfl (res_blk agg_405 sz_405 (et g0 rfl) (by rw [List.size_toArray, length_uL]; omega) k2) ?_
      exact ⟨P, rfl, by omega, hPd, hPv, U⟩
theorem bld405_1 (a : Nat) (w : World) : (Instr.build 405 [(0, .int .u64 (a : Int))].toArray).run Hvaa.prog w = .ok (.agg (uL (a :: List.replicate 15 0)).toArray) w := by kernel_rfl
theorem bld405_0 (w : World) : (Instr.build 405 [].toArray).run Hvaa.prog w = .ok (.agg (uL (List.replicate 16 0)).toArray) w := by kernel_rfl
set_option exponentiation.threshold 600 in
theorem modexp_spec (bb be_ bm m : Nat) (B E M : List Nat) (w : World) (hB8 : B.length = 8) (hE8 : E.length = 8) (hM8 : M.length = 8) (hB : Dig 18446744073709551616 B) (hE : Dig 18446744073709551616 E) (hM : Dig 18446744073709551616 M) (hMv : val 18446744073709551616 M = m) (kB : Blk w bb (uL B).toArray) (kE : Blk w be_ (uL E).toArray) (kM : Blk w bm (uL M).toArray) :
    Ret 262 [.pointer (some ⟨bb, 0, none⟩), .pointer (some ⟨be_, 0, none⟩), .pointer (some ⟨bm, 0, none⟩)] w (fun v w' => ∃ R, v = .agg (uL R).toArray ∧ R.length = 8 ∧ Dig 18446744073709551616 R ∧ val 18446744073709551616 R = mexp (val 18446744073709551616 B) (val 18446744073709551616 E) m ∧ Up w w') := by
  have lB := kB.lt
  have lE := kE.lt
  have lM := kM.lt
  refine enter (n := 65) Hvaa.func262 rfl rfl (Nat.le_of_ble_eq_true rfl) ?_
  have U := Up.refl w
  refine c_seq (fun K1 hK1 => ?_)
  refine c_region ?_
  refine l_eff (e_alloc zr_336) (fun v2 w2 h2 => ?_)
  obtain ⟨b2, rfl, n2⟩ := h2
  have f2 : w.heap.size ≤ b2 := Nat.le_trans U.size n2.fresh
  replace kB := kB.up n2.up
  replace kE := kE.up n2.up
  replace kM := kM.up n2.up
  replace U := U.tr n2.up
  have k2 := n2.blk
  refine l_nil ?_
  refine hK1 _ _ ?_
  refine c_seq (fun K3 hK3 => ?_)
  refine c_region ?_
  refine l_step (y_bld (bC rfl bN) (bld405_1 1)) ?_
  refine l_eff (e_alloc zr_405) (fun v4 w4 h4 => ?_)
  obtain ⟨b4, rfl, n4⟩ := h4
  have d2_4 : b2 < b4 := Nat.lt_of_lt_of_le k2.lt n4.fresh
  have f4 : w.heap.size ≤ b4 := Nat.le_trans U.size n4.fresh
  replace k2 := k2.up n4.up
  replace kB := kB.up n4.up
  replace kE := kE.up n4.up
  replace kM := kM.up n4.up
  replace U := U.tr n4.up
  have k4 := n4.blk
  refine l_effN (e_store sz_405 (et g0 rfl) (cellsV (et (gS rfl g0) rfl) rfl) (by first | (simp only [Value.cells, hV, aV, bV, wV, wL, List.size_toArray, length_bL, length_uL, length_be, size_spl, List.length_cons, List.length_nil, List.length_replicate, Nat.zero_add, Nat.reduceAdd, Nat.reduceLeDiff, Nat.le_refl]; done) | rfl) (by first | exact one_bL _ | exact one_uL _ | (intro v hv; simp at hv; subst hv; rfl)) k4 (by first | (simp only [Value.cells, hV, aV, bV, wV, wL, List.size_toArray, length_bL, length_uL, length_be, size_spl, List.length_cons, List.length_nil, List.length_replicate, Nat.zero_add, Nat.reduceAdd, Nat.reduceLeDiff, Nat.le_refl]; done) | exact Nat.le_of_ble_eq_true rfl | simp | omega)) (fun v5 w5 h5 => ?_)
  obtain ⟨rfl, x5⟩ := h5
  replace k2 := k2.ch x5.ch (by omega)
  replace kB := kB.ch x5.ch (by first | omega | omega)
  replace kE := kE.ch x5.ch (by first | omega | omega)
  replace kM := kM.ch x5.ch (by first | omega | omega)
  replace k4 := x5.blk.full (by first | (simp only [Value.cells, hV, aV, bV, wV, wL, List.size_toArray, length_bL, length_uL, length_be, size_spl, List.length_cons, List.length_nil, List.length_replicate, Nat.zero_add, Nat.reduceAdd, Nat.reduceLeDiff, Nat.le_refl]; done) | rfl)
  replace U := U.st x5 f4
  have hOne : val 18446744073709551616 (1 :: List.replicate 15 0) = 1 := by rw [val_cons, val_rep]
  refine l_nil ?_
  refine hK3 _ _ ?_
  refine fg5 2 1 0 6 7 (gS rfl (gS rfl (gS rfl (gS rfl (gS rfl g0))))) (gS rfl (gS rfl (gS rfl (gS rfl g0)))) (gS rfl (gS rfl (gS rfl g0))) (gS rfl (gS rfl g0)) g0 (fun g => ?_)
  refine c_seq (fun K6 hK6 => ?_)
  refine c_region ?_
  refine l_step (y_moveV (et (gS rfl (gS rfl (gS rfl (gS rfl g0)))) rfl)) ?_
  refine l_eff (e_callV cal_359 (aC (et (gS rfl g0) rfl) (aC (et g0 rfl) aN)) (rem1024_spec _ bm m (1 :: List.replicate 15 0) M _ rfl (Dig.cons (by decide) (Dig.rep _ 15 (by decide))) hM8 hM hMv (show Blk _ _ (uL (1 :: List.replicate 15 0)).toArray from k4) kM)) (fun v7 w7 h7 => ?_)
  obtain ⟨R, q0, rfl, Rl, q03, Rd, Rv, u7⟩ := h7
  replace k2 := k2.up u7
  replace k4 := k4.up u7
  replace kB := kB.up u7
  replace kE := kE.up u7
  replace kM := kM.up u7
  replace U := U.tr u7
  rw [hOne, ← mexp_zero (val 18446744073709551616 B)] at Rv
  refine l_step (y_moveV (et g0 rfl)) ?_
  refine l_step (y_ext (et g0 rfl) rfl) ?_
  refine l_step (y_ext (et (gS rfl g0) rfl) rfl) ?_
  refine l_eff (e_alloc zr_336) (fun v8 w8 h8 => ?_)
  obtain ⟨b8, rfl, n8⟩ := h8
  have d2_8 : b2 < b8 := Nat.lt_of_lt_of_le k2.lt n8.fresh
  have d4_8 : b4 < b8 := Nat.lt_of_lt_of_le k4.lt n8.fresh
  have f8 : w.heap.size ≤ b8 := Nat.le_trans U.size n8.fresh
  replace k2 := k2.up n8.up
  replace k4 := k4.up n8.up
  replace kB := kB.up n8.up
  replace kE := kE.up n8.up
  replace kM := kM.up n8.up
  replace U := U.tr n8.up
  have k8 := n8.blk
  refine l_eff (e_alloc zr_407) (fun v9 w9 h9 => ?_)
  obtain ⟨b9, rfl, n9⟩ := h9
  have d2_9 : b2 < b9 := Nat.lt_of_lt_of_le k2.lt n9.fresh
  have d4_9 : b4 < b9 := Nat.lt_of_lt_of_le k4.lt n9.fresh
  have d8_9 : b8 < b9 := Nat.lt_of_lt_of_le k8.lt n9.fresh
  have f9 : w.heap.size ≤ b9 := Nat.le_trans U.size n9.fresh
  replace k2 := k2.up n9.up
  replace k4 := k4.up n9.up
  replace k8 := k8.up n9.up
  replace kB := kB.up n9.up
  replace kE := kE.up n9.up
  replace kM := kM.up n9.up
  replace U := U.tr n9.up
  have k9 := n9.blk
  refine l_effN (e_store sz_336 (et (gS rfl g0) rfl) (cellsV (et (gS rfl (gS rfl (gS rfl g0))) rfl) rfl) (by rw [length_uL, Rl]) (by exact one_uL _) k8 (by (exact Nat.le_of_ble_eq_true rfl))) (fun v10 w10 h10 => ?_)
  obtain ⟨rfl, x10⟩ := h10
  replace k2 := k2.ch x10.ch (by omega)
  replace k4 := k4.ch x10.ch (by omega)
  replace k9 := k9.ch x10.ch (by omega)
  replace kB := kB.ch x10.ch (by first | omega | omega)
  replace kE := kE.ch x10.ch (by first | omega | omega)
  replace kM := kM.ch x10.ch (by first | omega | omega)
  replace k8 := x10.blk.full (by rw [length_uL, Rl]; rfl)
  replace U := U.st x10 f8
  refine l_effN (e_store sz_407 (et g0 rfl) (cellsV (et (gS rfl (gS rfl g0)) rfl) rfl) (by rw [length_bL, q03]) (by exact one_bL _) k9 (by exact Nat.le_of_ble_eq_true rfl)) (fun v11 w11 h11 => ?_)
  obtain ⟨rfl, x11⟩ := h11
  replace k2 := k2.ch x11.ch (by omega)
  replace k4 := k4.ch x11.ch (by omega)
  replace k8 := k8.ch x11.ch (by omega)
  replace kB := kB.ch x11.ch (by first | omega | omega)
  replace kE := kE.ch x11.ch (by first | omega | omega)
  replace kM := kM.ch x11.ch (by first | omega | omega)
  replace k9 := x11.blk.full (by rw [length_bL, q03]; rfl)
  replace U := U.st x11 f9
  refine l_nil ?_
  refine hK6 _ _ ?_
  refine fg5 2 1 0 6 8 (gS rfl (gS rfl (gS rfl (gS rfl (gS rfl (gS rfl (gS rfl (gS rfl (gS rfl (gS rfl (gS rfl g0))))))))))) (gS rfl (gS rfl (gS rfl (gS rfl (gS rfl (gS rfl (gS rfl (gS rfl (gS rfl (gS rfl g0)))))))))) (gS rfl (gS rfl (gS rfl (gS rfl (gS rfl (gS rfl (gS rfl (gS rfl (gS rfl g0))))))))) (gS rfl (gS rfl (gS rfl (gS rfl (gS rfl (gS rfl (gS rfl (gS rfl g0)))))))) (gS rfl g0) (fun g => ?_)
  refine c_seq (fun K12 hK12 => ?_)
  refine c_region ?_
  refine l_step (y_bld bN bld405_0) ?_
  refine l_eff (e_alloc zr_405) (fun v13 w13 h13 => ?_)
  obtain ⟨b13, rfl, n13⟩ := h13
  have d2_13 : b2 < b13 := Nat.lt_of_lt_of_le k2.lt n13.fresh
  have d4_13 : b4 < b13 := Nat.lt_of_lt_of_le k4.lt n13.fresh
  have d8_13 : b8 < b13 := Nat.lt_of_lt_of_le k8.lt n13.fresh
  have d9_13 : b9 < b13 := Nat.lt_of_lt_of_le k9.lt n13.fresh
  have f13 : w.heap.size ≤ b13 := Nat.le_trans U.size n13.fresh
  replace k2 := k2.up n13.up
  replace k4 := k4.up n13.up
  replace k8 := k8.up n13.up
  replace k9 := k9.up n13.up
  replace kB := kB.up n13.up
  replace kE := kE.up n13.up
  replace kM := kM.up n13.up
  replace U := U.tr n13.up
  have k13 := n13.blk
  refine l_effN (e_store sz_405 (et g0 rfl) (cellsV (et (gS rfl g0) rfl) rfl) (by first | (simp only [Value.cells, hV, aV, bV, wV, wL, List.size_toArray, length_bL, length_uL, length_be, size_spl, List.length_cons, List.length_nil, List.length_replicate, Nat.zero_add, Nat.reduceAdd, Nat.reduceLeDiff, Nat.le_refl]; done) | rfl) (by first | exact one_bL _ | exact one_uL _ | (intro v hv; simp at hv; subst hv; rfl)) k13 (by first | (simp only [Value.cells, hV, aV, bV, wV, wL, List.size_toArray, length_bL, length_uL, length_be, size_spl, List.length_cons, List.length_nil, List.length_replicate, Nat.zero_add, Nat.reduceAdd, Nat.reduceLeDiff, Nat.le_refl]; done) | exact Nat.le_of_ble_eq_true rfl | simp | omega)) (fun v14 w14 h14 => ?_)
  obtain ⟨rfl, x14⟩ := h14
  replace k2 := k2.ch x14.ch (by omega)
  replace k4 := k4.ch x14.ch (by omega)
  replace k8 := k8.ch x14.ch (by omega)
  replace k9 := k9.ch x14.ch (by omega)
  replace kB := kB.ch x14.ch (by first | omega | omega)
  replace kE := kE.ch x14.ch (by first | omega | omega)
  replace kM := kM.ch x14.ch (by first | omega | omega)
  replace k13 := x14.blk.full (by first | (simp only [Value.cells, hV, aV, bV, wV, wL, List.size_toArray, length_bL, length_uL, length_be, size_spl, List.length_cons, List.length_nil, List.length_replicate, Nat.zero_add, Nat.reduceAdd, Nat.reduceLeDiff, Nat.le_refl]; done) | rfl)
  replace U := U.st x14 f13
  have k10 : Blk w14 b13 (uL (List.replicate 8 0 ++ List.replicate 8 0)).toArray := k13
  replace k13 := k10
  refine l_nil ?_
  refine hK12 _ _ ?_
  refine fg6 2 1 0 6 8 10 (gS rfl (gS rfl (gS rfl (gS rfl (gS rfl (gS rfl g0)))))) (gS rfl (gS rfl (gS rfl (gS rfl (gS rfl g0))))) (gS rfl (gS rfl (gS rfl (gS rfl g0)))) (gS rfl (gS rfl (gS rfl g0))) (gS rfl (gS rfl g0)) g0 (fun g => ?_)
  refine c_seq (fun K15 hK15 => ?_)
  refine c_draw Up 4 [(0, true), (1, true), (2, true), (3, true), (4, false)] (by kernel_rfl) (fun w16 hu => ⟨Up.refl _, ?_⟩)
  replace k2 := k2.up hu
  replace k4 := k4.up hu
  replace k8 := k8.up hu
  replace k9 := k9.up hu
  replace k13 := k13.up hu
  replace kB := kB.up hu
  replace kE := kE.up hu
  replace kM := kM.up hu
  replace U := U.tr hu
  have SU := Up.refl w16
  refine p_step (by exact rfl) (y_slA000 Hvaa.underlying405 sz_26 (et g0 rfl) ) ?_
  refine p_step (by exact rfl) (y_moveV (et (gS rfl (gS rfl (gS rfl (gS rfl g0)))) rfl)) ?_
  refine p_step (by exact rfl) (y_nil (et g0 rfl)) ?_
  refine p_step (by exact rfl) (y_slA000 Hvaa.underlying336 sz_26 (et g0 rfl) ) ?_
  refine p_eff (by exact rfl) (e_copy (l := uL ((B.drop 0).take 8)) Hvaa.underlying317 sz_26 (et (gS rfl (gS rfl (gS rfl g0))) rfl) (et g0 rfl) (by rw [length_uL]; simp [hB8]) (kB.limbs 0 8) (one_uL _) k13 (by rw [size_uL, length_uL]; simp [hB8])) (fun v17 w17 h17 => ?_)
  obtain ⟨rfl, x17⟩ := h17
  replace k2 := k2.ch x17.ch (by omega)
  replace k4 := k4.ch x17.ch (by omega)
  replace k8 := k8.ch x17.ch (by omega)
  replace k9 := k9.ch x17.ch (by omega)
  replace kB := kB.ch x17.ch (by omega)
  replace kE := kE.ch x17.ch (by omega)
  replace kM := kM.ch x17.ch (by omega)
  replace k13 := x17.blk
  replace U := U.cc x17.ch (by intro b hb; first | exact hb ▸ f13 | omega)
  refine ⟨.inl rfl, ?_⟩
  replace k13 : Blk w17 b13 (uL (B ++ List.replicate 8 0)).toArray := by
    have h := k13
    rw [List.drop_zero, List.take_of_length_le (by omega), uL_append, spl_pre _ _ _ (by simp [length_uL, hB8])] at h
    rw [uL_append]; exact h
  have hBv : val 18446744073709551616 (B ++ List.replicate 8 0) = val 18446744073709551616 B := by rw [val_append, val_rep]; simp
  refine p_nil ?_
  refine hK15 _ _ ?_
  refine fg5 2 1 6 8 10 (gS rfl (gS rfl (gS rfl (gS rfl (gS rfl (gS rfl (gS rfl (gS rfl (gS rfl (gS rfl g0)))))))))) (gS rfl (gS rfl (gS rfl (gS rfl (gS rfl (gS rfl (gS rfl (gS rfl (gS rfl g0))))))))) (gS rfl (gS rfl (gS rfl (gS rfl (gS rfl (gS rfl (gS rfl g0))))))) (gS rfl (gS rfl (gS rfl (gS rfl (gS rfl (gS rfl g0)))))) (gS rfl (gS rfl (gS rfl (gS rfl (gS rfl g0))))) (fun g => ?_)
  refine c_seq (fun K18 hK18 => ?_)
  refine c_region ?_
  refine l_step (y_moveV (et (gS rfl (gS rfl (gS rfl (gS rfl g0)))) rfl)) ?_
  refine l_eff (e_callV cal_359 (aC (et (gS rfl g0) rfl) (aC (et g0 rfl) aN)) (rem1024_spec _ bm m (B ++ List.replicate 8 0) M _ (by simp [hB8]) (hB.app (Dig.rep _ 8 (by decide))) hM8 hM hMv k13 kM)) (fun v19 w19 h19 => ?_)
  obtain ⟨S, q1, rfl, Sl, q13, Sd, Sv, u19⟩ := h19
  replace k2 := k2.up u19
  replace k4 := k4.up u19
  replace k8 := k8.up u19
  replace k9 := k9.up u19
  replace k13 := k13.up u19
  replace kB := kB.up u19
  replace kE := kE.up u19
  replace kM := kM.up u19
  replace U := U.tr u19
  rw [hBv, ← mexp_one] at Sv
  refine l_step (y_moveV (et g0 rfl)) ?_
  refine l_step (y_ext (et g0 rfl) rfl) ?_
  refine l_step (y_ext (et (gS rfl g0) rfl) rfl) ?_
  refine l_eff (e_alloc zr_336) (fun v20 w20 h20 => ?_)
  obtain ⟨b20, rfl, n20⟩ := h20
  have d2_20 : b2 < b20 := Nat.lt_of_lt_of_le k2.lt n20.fresh
  have d4_20 : b4 < b20 := Nat.lt_of_lt_of_le k4.lt n20.fresh
  have d8_20 : b8 < b20 := Nat.lt_of_lt_of_le k8.lt n20.fresh
  have d9_20 : b9 < b20 := Nat.lt_of_lt_of_le k9.lt n20.fresh
  have d13_20 : b13 < b20 := Nat.lt_of_lt_of_le k13.lt n20.fresh
  have f20 : w.heap.size ≤ b20 := Nat.le_trans U.size n20.fresh
  replace k2 := k2.up n20.up
  replace k4 := k4.up n20.up
  replace k8 := k8.up n20.up
  replace k9 := k9.up n20.up
  replace k13 := k13.up n20.up
  replace kB := kB.up n20.up
  replace kE := kE.up n20.up
  replace kM := kM.up n20.up
  replace U := U.tr n20.up
  have k20 := n20.blk
  refine l_eff (e_alloc zr_407) (fun v21 w21 h21 => ?_)
  obtain ⟨b21, rfl, n21⟩ := h21
  have d2_21 : b2 < b21 := Nat.lt_of_lt_of_le k2.lt n21.fresh
  have d4_21 : b4 < b21 := Nat.lt_of_lt_of_le k4.lt n21.fresh
  have d8_21 : b8 < b21 := Nat.lt_of_lt_of_le k8.lt n21.fresh
  have d9_21 : b9 < b21 := Nat.lt_of_lt_of_le k9.lt n21.fresh
  have d13_21 : b13 < b21 := Nat.lt_of_lt_of_le k13.lt n21.fresh
  have d20_21 : b20 < b21 := Nat.lt_of_lt_of_le k20.lt n21.fresh
  have f21 : w.heap.size ≤ b21 := Nat.le_trans U.size n21.fresh
  replace k2 := k2.up n21.up
  replace k4 := k4.up n21.up
  replace k8 := k8.up n21.up
  replace k9 := k9.up n21.up
  replace k13 := k13.up n21.up
  replace k20 := k20.up n21.up
  replace kB := kB.up n21.up
  replace kE := kE.up n21.up
  replace kM := kM.up n21.up
  replace U := U.tr n21.up
  have k21 := n21.blk
  refine l_effN (e_store sz_336 (et (gS rfl g0) rfl) (cellsV (et (gS rfl (gS rfl (gS rfl g0))) rfl) rfl) (by rw [length_uL, Sl]) (by exact one_uL _) k20 (by (exact Nat.le_of_ble_eq_true rfl))) (fun v22 w22 h22 => ?_)
  obtain ⟨rfl, x22⟩ := h22
  replace k2 := k2.ch x22.ch (by omega)
  replace k4 := k4.ch x22.ch (by omega)
  replace k8 := k8.ch x22.ch (by omega)
  replace k9 := k9.ch x22.ch (by omega)
  replace k13 := k13.ch x22.ch (by omega)
  replace k21 := k21.ch x22.ch (by omega)
  replace kB := kB.ch x22.ch (by first | omega | omega)
  replace kE := kE.ch x22.ch (by first | omega | omega)
  replace kM := kM.ch x22.ch (by first | omega | omega)
  replace k20 := x22.blk.full (by rw [length_uL, Sl]; rfl)
  replace U := U.st x22 f20
  refine l_effN (e_store sz_407 (et g0 rfl) (cellsV (et (gS rfl (gS rfl g0)) rfl) rfl) (by rw [length_bL, q13]) (by exact one_bL _) k21 (by exact Nat.le_of_ble_eq_true rfl)) (fun v23 w23 h23 => ?_)
  obtain ⟨rfl, x23⟩ := h23
  replace k2 := k2.ch x23.ch (by omega)
  replace k4 := k4.ch x23.ch (by omega)
  replace k8 := k8.ch x23.ch (by omega)
  replace k9 := k9.ch x23.ch (by omega)
  replace k13 := k13.ch x23.ch (by omega)
  replace k20 := k20.ch x23.ch (by omega)
  replace kB := kB.ch x23.ch (by first | omega | omega)
  replace kE := kE.ch x23.ch (by first | omega | omega)
  replace kM := kM.ch x23.ch (by first | omega | omega)
  replace k21 := x23.blk.full (by rw [length_bL, q13]; rfl)
  replace U := U.st x23 f21
  refine l_nil ?_
  refine hK18 _ _ ?_
  refine fg5 2 1 6 8 11 (gS rfl (gS rfl (gS rfl (gS rfl (gS rfl (gS rfl (gS rfl (gS rfl (gS rfl (gS rfl (gS rfl g0))))))))))) (gS rfl (gS rfl (gS rfl (gS rfl (gS rfl (gS rfl (gS rfl (gS rfl (gS rfl (gS rfl g0)))))))))) (gS rfl (gS rfl (gS rfl (gS rfl (gS rfl (gS rfl (gS rfl (gS rfl (gS rfl g0))))))))) (gS rfl (gS rfl (gS rfl (gS rfl (gS rfl (gS rfl (gS rfl (gS rfl g0)))))))) (gS rfl g0) (fun g => ?_)
  refine c_seq (fun K24 hK24 => ?_)
  refine c_region ?_
  refine l_step y_assignC ?_
  refine l_nil ?_
  refine hK24 _ _ ?_
  refine c_seq (fun K25 hK25 => ?_)
  refine c_seq (fun K26 hK26 => ?_)
  refine c_region ?_
  refine l_step y_assignC ?_
  refine l_nil ?_
  refine hK26 _ _ ?_
  refine c_block (fun Q27 hQ27 => ?_)
  refine fg7 1 2 6 8 11 13 14 (gS rfl (gS rfl (gS rfl (gS rfl (gS rfl g0))))) (gS rfl (gS rfl (gS rfl (gS rfl (gS rfl (gS rfl g0)))))) (gS rfl (gS rfl (gS rfl (gS rfl g0)))) (gS rfl (gS rfl (gS rfl g0))) (gS rfl (gS rfl g0)) (gS rfl g0) g0 (fun g => ?_)
  have he0 : val 18446744073709551616 E / 2 ^ 512 = 0 := by
    have := val_lt hE
    rw [hE8] at this
    rw [show (512 : Nat) = 64 * 8 from rfl, Nat.pow_mul]
    exact Nat.div_eq_of_lt this
  refine c_loop (fun k_ s_ W28 => ∃ (g : Nat → Value) (R : List Nat) (tt : Bool) (i : Nat), s_ = (upd (upd (upd (upd (upd (upd (upd g 1 (.pointer (some ⟨be_, 0, none⟩))) 2 (.pointer (some ⟨bm, 0, none⟩))) 6 (.pointer (some ⟨b2, 0, none⟩))) 8 (.pointer (some ⟨b8, 0, none⟩))) 11 (.pointer (some ⟨b20, 0, none⟩))) 13 (.bool tt)) 14 (.int .u64 (i : Nat))) ∧ i = k_ ∧ (i ≤ 512) ∧ (R.length = 8) ∧ (Dig 18446744073709551616 R) ∧ (val 18446744073709551616 R = mexp (val 18446744073709551616 B) (val 18446744073709551616 E / 2 ^ i) m) ∧ (tt = false → val 18446744073709551616 E / 2 ^ i = 0) ∧ Blk W28 b8 ((uL R).toArray) ∧ Ch (fun k => k = b8) w23 W28) ((512)) ?_ ?_
  · exact ⟨g, R, false, 512, rfl, rfl, Nat.le_refl _, Rl, Rd, by rw [he0]; exact Rv, fun _ => he0, k8, Ch.refl _ _⟩
  · skip
    intro k_ s_ W28 hI K28 hK28
    obtain ⟨g, R, tt, i, rfl, rfl, hi, Rl, Rd, Rv, hst, nk8, V28⟩ := hI
    replace k2 := k2.ch V28 (by omega)
    replace k4 := k4.ch V28 (by omega)
    replace k9 := k9.ch V28 (by omega)
    replace k13 := k13.ch V28 (by omega)
    replace k20 := k20.ch V28 (by omega)
    replace k21 := k21.ch V28 (by omega)
    replace kB := kB.ch V28 (by omega)
    replace kE := kE.ch V28 (by omega)
    replace kM := kM.ch V28 (by omega)
    replace k8 := nk8
    replace U := U.cc V28 (by intro b hb; first | exact hb.elim | omega | (simp at hb ⊢; omega))
    refine c_seq (fun K29 hK29 => ?_)
    refine c_seq (fun K30 hK30 => ?_)
    refine c_region ?_
    refine l_step (y_moveV (et g0 rfl)) ?_
    refine l_step (y_gtr (et g0 rfl) rfl) ?_
    refine l_nil ?_
    refine hK30 _ _ ?_
    refine fg8 1 2 6 8 11 13 14 35 (gS rfl (gS rfl (gS rfl (gS rfl (gS rfl (gS rfl (gS rfl (gS rfl g0)))))))) (gS rfl (gS rfl (gS rfl (gS rfl (gS rfl (gS rfl (gS rfl g0))))))) (gS rfl (gS rfl (gS rfl (gS rfl (gS rfl (gS rfl g0)))))) (gS rfl (gS rfl (gS rfl (gS rfl (gS rfl g0))))) (gS rfl (gS rfl (gS rfl (gS rfl g0)))) (gS rfl (gS rfl (gS rfl g0))) (gS rfl (gS rfl g0)) g0 (fun g => ?_)
    refine c_cond (et g0 rfl) (fun cB1 => ?_) (fun cB1 => ?_)
    · skip
      simp only [decide_eq_true_eq, decide_eq_false_iff_not, Int.not_lt, Int.not_le, Bool.not_eq_true', Bool.not_eq_false', Bool.not_eq_eq_eq_not, Bool.not_true, Bool.not_false] at cB1
      obtain ⟨i', rfl⟩ : ∃ i', i = i' + 1 := ⟨i - 1, by omega⟩
      have hhs := half_step (val 18446744073709551616 E) i'
      have hat : i' / 64 < E.length := by omega
      have hbv := bit_valU hE hat
      have hEi := hE _ (List.getElem_mem (l := E) (n := i' / 64) hat)
      refine c_skip ?_
      refine hK29 _ _ ?_
      refine fg7 1 2 6 8 11 13 14 (gS rfl (gS rfl (gS rfl (gS rfl (gS rfl (gS rfl (gS rfl g0))))))) (gS rfl (gS rfl (gS rfl (gS rfl (gS rfl (gS rfl g0)))))) (gS rfl (gS rfl (gS rfl (gS rfl (gS rfl g0))))) (gS rfl (gS rfl (gS rfl (gS rfl g0)))) (gS rfl (gS rfl (gS rfl g0))) (gS rfl (gS rfl g0)) (gS rfl g0) (fun g => ?_)
      refine c_seq (fun K32 hK32 => ?_)
      refine c_block (fun Q33 hQ33 => ?_)
      refine c_seq (fun K34 hK34 => ?_)
      refine c_seq (fun K35 hK35 => ?_)
      refine c_region ?_
      refine l_step (y_moveV (et (gS rfl g0) rfl)) ?_
      refine l_nil ?_
      refine hK35 _ _ ?_
      refine c_cond (et g0 rfl) (fun cB2 => ?_) (fun cB2 => ?_)
      · skip
        
        subst cB2
        refine c_seq (fun K37 hK37 => ?_)
        refine c_region ?_
        refine l_eff (e_callV cal_360 (aC (et (gS rfl (gS rfl (gS rfl (gS rfl g0)))) rfl) (aC (et (gS rfl (gS rfl (gS rfl (gS rfl g0)))) rfl) aN)) (mul1024_spec _ _ R R _ Rl Rl Rd Rd k8 k8)) (fun v38 w38 h38 => ?_)
        obtain ⟨P, rfl, Pl, Pd, Pv, u38⟩ := h38
        replace k2 := k2.up u38
        replace k4 := k4.up u38
        replace k8 := k8.up u38
        replace k9 := k9.up u38
        replace k13 := k13.up u38
        replace k20 := k20.up u38
        replace k21 := k21.up u38
        replace kB := kB.up u38
        replace kE := kE.up u38
        replace kM := kM.up u38
        replace U := U.tr u38
        replace V28 := V28.tr u38
        refine l_eff (e_alloc zr_405) (fun v39 w39 h39 => ?_)
        obtain ⟨b39, rfl, n39⟩ := h39
        have d2_39 : b2 < b39 := Nat.lt_of_lt_of_le k2.lt n39.fresh
        have d4_39 : b4 < b39 := Nat.lt_of_lt_of_le k4.lt n39.fresh
        have d8_39 : b8 < b39 := Nat.lt_of_lt_of_le k8.lt n39.fresh
        have d9_39 : b9 < b39 := Nat.lt_of_lt_of_le k9.lt n39.fresh
        have d13_39 : b13 < b39 := Nat.lt_of_lt_of_le k13.lt n39.fresh
        have d20_39 : b20 < b39 := Nat.lt_of_lt_of_le k20.lt n39.fresh
        have d21_39 : b21 < b39 := Nat.lt_of_lt_of_le k21.lt n39.fresh
        have f39 : w.heap.size ≤ b39 := Nat.le_trans U.size n39.fresh
        have fV28_39 := Nat.le_trans V28.size n39.fresh
        replace k2 := k2.up n39.up
        replace k4 := k4.up n39.up
        replace k8 := k8.up n39.up
        replace k9 := k9.up n39.up
        replace k13 := k13.up n39.up
        replace k20 := k20.up n39.up
        replace k21 := k21.up n39.up
        replace kB := kB.up n39.up
        replace kE := kE.up n39.up
        replace kM := kM.up n39.up
        replace U := U.tr n39.up
        replace V28 := V28.tr n39.up
        have k39 := n39.blk
        refine l_effN (e_store sz_405 (et g0 rfl) (cellsV (et (gS rfl g0) rfl) rfl) (by rw [length_uL, Pl]) (by exact one_uL _) k39 (by (exact Nat.le_of_ble_eq_true rfl))) (fun v40 w40 h40 => ?_)
        obtain ⟨rfl, x40⟩ := h40
        replace k2 := k2.ch x40.ch (by omega)
        replace k4 := k4.ch x40.ch (by omega)
        replace k8 := k8.ch x40.ch (by omega)
        replace k9 := k9.ch x40.ch (by omega)
        replace k13 := k13.ch x40.ch (by omega)
        replace k20 := k20.ch x40.ch (by omega)
        replace k21 := k21.ch x40.ch (by omega)
        replace kB := kB.ch x40.ch (by first | omega | omega)
        replace kE := kE.ch x40.ch (by first | omega | omega)
        replace kM := kM.ch x40.ch (by first | omega | omega)
        replace k39 := x40.blk.full (by rw [length_uL, Pl]; rfl)
        replace U := U.st x40 f39
        replace V28 := V28.st x40 (by omega)
        refine l_nil ?_
        refine hK37 _ _ ?_
        refine fg8 1 2 6 8 11 13 14 15 (gS rfl (gS rfl (gS rfl (gS rfl (gS rfl (gS rfl (gS rfl (gS rfl (gS rfl g0))))))))) (gS rfl (gS rfl (gS rfl (gS rfl (gS rfl (gS rfl (gS rfl (gS rfl g0)))))))) (gS rfl (gS rfl (gS rfl (gS rfl (gS rfl (gS rfl (gS rfl g0))))))) (gS rfl (gS rfl (gS rfl (gS rfl (gS rfl (gS rfl g0)))))) (gS rfl (gS rfl (gS rfl (gS rfl (gS rfl g0))))) (gS rfl (gS rfl (gS rfl (gS rfl g0)))) (gS rfl (gS rfl (gS rfl g0))) g0 (fun g => ?_)
        refine c_region ?_
        refine l_step (y_moveV (et (gS rfl (gS rfl (gS rfl (gS rfl (gS rfl (gS rfl g0)))))) rfl)) ?_
        refine l_eff (e_callV cal_359 (aC (et (gS rfl g0) rfl) (aC (et g0 rfl) aN)) (rem1024_spec _ bm m P M _ Pl Pd hM8 hM hMv k39 kM)) (fun v41 w41 h41 => ?_)
        obtain ⟨R2, q2, rfl, R2l, q23, R2d, R2v, u41⟩ := h41
        replace k2 := k2.up u41
        replace k4 := k4.up u41
        replace k8 := k8.up u41
        replace k9 := k9.up u41
        replace k13 := k13.up u41
        replace k20 := k20.up u41
        replace k21 := k21.up u41
        replace k39 := k39.up u41
        replace kB := kB.up u41
        replace kE := kE.up u41
        replace kM := kM.up u41
        replace U := U.tr u41
        replace V28 := V28.tr u41
        rw [Pv, Rv, mexp_sq] at R2v
        refine l_step (y_moveV (et g0 rfl)) ?_
        refine l_step (y_ext (et g0 rfl) rfl) ?_
        refine l_step (y_ext (et (gS rfl g0) rfl) rfl) ?_
        refine l_effN (e_store sz_336 (et (gS rfl (gS rfl (gS rfl (gS rfl (gS rfl (gS rfl (gS rfl (gS rfl (gS rfl g0))))))))) rfl) (cellsV (et (gS rfl g0) rfl) rfl) (by rw [length_uL, R2l]) (by exact one_uL _) k8 (by (rw [size_uL, Rl]; omega))) (fun v42 w42 h42 => ?_)
        obtain ⟨rfl, x42⟩ := h42
        replace k2 := k2.ch x42.ch (by omega)
        replace k4 := k4.ch x42.ch (by omega)
        replace k9 := k9.ch x42.ch (by omega)
        replace k13 := k13.ch x42.ch (by omega)
        replace k20 := k20.ch x42.ch (by omega)
        replace k21 := k21.ch x42.ch (by omega)
        replace k39 := k39.ch x42.ch (by omega)
        replace kB := kB.ch x42.ch (by first | omega | omega)
        replace kE := kE.ch x42.ch (by first | omega | omega)
        replace kM := kM.ch x42.ch (by first | omega | omega)
        replace k8 := x42.blk.full (by rw [length_uL, R2l]; rw [size_uL, Rl])
        replace U := U.st x42 f8
        replace V28 := V28.st x42 (by omega)
        refine l_nil ?_
        refine hK34 _ _ ?_
        refine fg7 1 2 6 8 11 13 14 (gS rfl (gS rfl (gS rfl (gS rfl (gS rfl (gS rfl (gS rfl (gS rfl (gS rfl (gS rfl (gS rfl (gS rfl g0)))))))))))) (gS rfl (gS rfl (gS rfl (gS rfl (gS rfl (gS rfl (gS rfl (gS rfl (gS rfl (gS rfl (gS rfl g0))))))))))) (gS rfl (gS rfl (gS rfl (gS rfl (gS rfl (gS rfl (gS rfl (gS rfl (gS rfl (gS rfl g0)))))))))) (gS rfl (gS rfl (gS rfl (gS rfl (gS rfl (gS rfl (gS rfl (gS rfl (gS rfl g0))))))))) (gS rfl (gS rfl (gS rfl (gS rfl (gS rfl (gS rfl (gS rfl (gS rfl g0)))))))) (gS rfl (gS rfl (gS rfl (gS rfl (gS rfl (gS rfl (gS rfl g0))))))) (gS rfl (gS rfl (gS rfl (gS rfl (gS rfl (gS rfl g0)))))) (fun g => ?_)
        refine c_seq (fun K43 hK43 => ?_)
        refine c_region ?_
        refine l_step (y_moveV (et (gS rfl (gS rfl (gS rfl (gS rfl (gS rfl (gS rfl g0)))))) rfl)) ?_
        refine l_step (y_moveV (et (gS rfl g0) rfl)) ?_
        refine l_step (y_sub (et g0 rfl) rfl ((wrapU_subN (b := 1) uk64 ?_ ?_).trans (castE (show i' + 1 - 1 = i' by omega)))) ?_
        omega
        omega
        refine l_step (y_quo (et g0 rfl) rfl (by decide) (quoU (b := 64) uk64 ?_)) ?_
        omega
        refine l_step (y_nil (et (gS rfl (gS rfl (gS rfl g0))) rfl)) ?_
        refine l_step (y_idxA Hvaa.underlying336 sz_26 (et g0 rfl) (et (gS rfl g0) rfl) ?_ ?_) ?_
        omega
        omega
        refine l_step (y_load1 one_26 (et g0 rfl) (at1 (kE.cell (uL_getI (i := i' / 64) (by omega) (by omega))))) ?_
        refine l_step (y_moveV (et (gS rfl (gS rfl (gS rfl (gS rfl (gS rfl (gS rfl (gS rfl g0))))))) rfl)) ?_
        refine l_step (y_sub (et g0 rfl) rfl ((wrapU_subN (b := 1) uk64 ?_ ?_).trans (castE (show i' + 1 - 1 = i' by omega)))) ?_
        omega
        omega
        refine l_step (y_rem (et g0 rfl) rfl (by decide) (remN (b := 64))) ?_
        refine l_step (y_shr (et (gS rfl (gS rfl (gS rfl g0))) rfl) (et g0 rfl) ?_ (shr64N ?_)) ?_
        omega
        omega
        refine l_step (y_andM 1 2 uk64 (et g0 rfl) rfl ?_ rfl rfl (by decide)) ?_
        exact Nat.lt_of_le_of_lt (Nat.div_le_self _ _) hEi
        refine l_step (y_eql (et g0 rfl) rfl) ?_
        refine l_nil ?_
        refine hK43 _ _ ?_
        refine fg8 1 2 6 8 11 13 14 57 (gS rfl (gS rfl (gS rfl (gS rfl (gS rfl (gS rfl (gS rfl (gS rfl (gS rfl (gS rfl (gS rfl (gS rfl (gS rfl (gS rfl (gS rfl (gS rfl (gS rfl (gS rfl (gS rfl g0))))))))))))))))))) (gS rfl (gS rfl (gS rfl (gS rfl (gS rfl (gS rfl (gS rfl (gS rfl (gS rfl (gS rfl (gS rfl (gS rfl (gS rfl (gS rfl (gS rfl (gS rfl (gS rfl (gS rfl g0)))))))))))))))))) (gS rfl (gS rfl (gS rfl (gS rfl (gS rfl (gS rfl (gS rfl (gS rfl (gS rfl (gS rfl (gS rfl (gS rfl (gS rfl (gS rfl (gS rfl (gS rfl (gS rfl g0))))))))))))))))) (gS rfl (gS rfl (gS rfl (gS rfl (gS rfl (gS rfl (gS rfl (gS rfl (gS rfl (gS rfl (gS rfl (gS rfl (gS rfl (gS rfl (gS rfl (gS rfl g0)))))))))))))))) (gS rfl (gS rfl (gS rfl (gS rfl (gS rfl (gS rfl (gS rfl (gS rfl (gS rfl (gS rfl (gS rfl (gS rfl (gS rfl (gS rfl (gS rfl g0))))))))))))))) (gS rfl (gS rfl (gS rfl (gS rfl (gS rfl (gS rfl (gS rfl (gS rfl (gS rfl (gS rfl (gS rfl (gS rfl (gS rfl (gS rfl g0)))))))))))))) (gS rfl (gS rfl (gS rfl (gS rfl (gS rfl (gS rfl (gS rfl (gS rfl (gS rfl (gS rfl (gS rfl (gS rfl (gS rfl g0))))))))))))) g0 (fun g => ?_)
        refine c_cond (et g0 rfl) (fun cB3 => ?_) (fun cB3 => ?_)
        · skip
          
          have hb1 : E[i' / 64] / 2 ^ (i' % 64) % 2 = 1 := by have := of_decide_eq_true cB3; omega
          refine c_seq (fun K45 hK45 => ?_)
          refine c_region ?_
          refine l_eff (e_callV cal_360 (aC (et (gS rfl (gS rfl (gS rfl (gS rfl g0)))) rfl) (aC (et (gS rfl (gS rfl (gS rfl g0))) rfl) aN)) (mul1024_spec _ _ R2 S _ R2l Sl R2d Sd k8 k20)) (fun v46 w46 h46 => ?_)
          obtain ⟨P2, rfl, P2l, P2d, P2v, u46⟩ := h46
          replace k2 := k2.up u46
          replace k4 := k4.up u46
          replace k8 := k8.up u46
          replace k9 := k9.up u46
          replace k13 := k13.up u46
          replace k20 := k20.up u46
          replace k21 := k21.up u46
          replace k39 := k39.up u46
          replace kB := kB.up u46
          replace kE := kE.up u46
          replace kM := kM.up u46
          replace U := U.tr u46
          replace V28 := V28.tr u46
          refine l_eff (e_alloc zr_405) (fun v47 w47 h47 => ?_)
          obtain ⟨b47, rfl, n47⟩ := h47
          have d2_47 : b2 < b47 := Nat.lt_of_lt_of_le k2.lt n47.fresh
          have d4_47 : b4 < b47 := Nat.lt_of_lt_of_le k4.lt n47.fresh
          have d8_47 : b8 < b47 := Nat.lt_of_lt_of_le k8.lt n47.fresh
          have d9_47 : b9 < b47 := Nat.lt_of_lt_of_le k9.lt n47.fresh
          have d13_47 : b13 < b47 := Nat.lt_of_lt_of_le k13.lt n47.fresh
          have d20_47 : b20 < b47 := Nat.lt_of_lt_of_le k20.lt n47.fresh
          have d21_47 : b21 < b47 := Nat.lt_of_lt_of_le k21.lt n47.fresh
          have d39_47 : b39 < b47 := Nat.lt_of_lt_of_le k39.lt n47.fresh
          have f47 : w.heap.size ≤ b47 := Nat.le_trans U.size n47.fresh
          have fV28_47 := Nat.le_trans V28.size n47.fresh
          replace k2 := k2.up n47.up
          replace k4 := k4.up n47.up
          replace k8 := k8.up n47.up
          replace k9 := k9.up n47.up
          replace k13 := k13.up n47.up
          replace k20 := k20.up n47.up
          replace k21 := k21.up n47.up
          replace k39 := k39.up n47.up
          replace kB := kB.up n47.up
          replace kE := kE.up n47.up
          replace kM := kM.up n47.up
          replace U := U.tr n47.up
          replace V28 := V28.tr n47.up
          have k47 := n47.blk
          refine l_effN (e_store sz_405 (et g0 rfl) (cellsV (et (gS rfl g0) rfl) rfl) (by rw [length_uL, P2l]) (by exact one_uL _) k47 (by (exact Nat.le_of_ble_eq_true rfl))) (fun v48 w48 h48 => ?_)
          obtain ⟨rfl, x48⟩ := h48
          replace k2 := k2.ch x48.ch (by omega)
          replace k4 := k4.ch x48.ch (by omega)
          replace k8 := k8.ch x48.ch (by omega)
          replace k9 := k9.ch x48.ch (by omega)
          replace k13 := k13.ch x48.ch (by omega)
          replace k20 := k20.ch x48.ch (by omega)
          replace k21 := k21.ch x48.ch (by omega)
          replace k39 := k39.ch x48.ch (by omega)
          replace kB := kB.ch x48.ch (by first | omega | omega)
          replace kE := kE.ch x48.ch (by first | omega | omega)
          replace kM := kM.ch x48.ch (by first | omega | omega)
          replace k47 := x48.blk.full (by rw [length_uL, P2l]; rfl)
          replace U := U.st x48 f47
          replace V28 := V28.st x48 (by omega)
          refine l_nil ?_
          refine hK45 _ _ ?_
          refine fg7 1 2 6 8 11 14 16 (gS rfl (gS rfl (gS rfl (gS rfl (gS rfl (gS rfl (gS rfl (gS rfl (gS rfl g0))))))))) (gS rfl (gS rfl (gS rfl (gS rfl (gS rfl (gS rfl (gS rfl (gS rfl g0)))))))) (gS rfl (gS rfl (gS rfl (gS rfl (gS rfl (gS rfl (gS rfl g0))))))) (gS rfl (gS rfl (gS rfl (gS rfl (gS rfl (gS rfl g0)))))) (gS rfl (gS rfl (gS rfl (gS rfl (gS rfl g0))))) (gS rfl (gS rfl (gS rfl g0))) g0 (fun g => ?_)
          refine c_seq (fun K49 hK49 => ?_)
          refine c_region ?_
          refine l_step (y_moveV (et (gS rfl (gS rfl (gS rfl (gS rfl (gS rfl g0))))) rfl)) ?_
          refine l_eff (e_callV cal_359 (aC (et (gS rfl g0) rfl) (aC (et g0 rfl) aN)) (rem1024_spec _ bm m P2 M _ P2l P2d hM8 hM hMv k47 kM)) (fun v50 w50 h50 => ?_)
          obtain ⟨R3, q3, rfl, R3l, q33, R3d, R3v, u50⟩ := h50
          replace k2 := k2.up u50
          replace k4 := k4.up u50
          replace k8 := k8.up u50
          replace k9 := k9.up u50
          replace k13 := k13.up u50
          replace k20 := k20.up u50
          replace k21 := k21.up u50
          replace k39 := k39.up u50
          replace k47 := k47.up u50
          replace kB := kB.up u50
          replace kE := kE.up u50
          replace kM := kM.up u50
          replace U := U.tr u50
          replace V28 := V28.tr u50
          have hnew : val 18446744073709551616 R3 = mexp (val 18446744073709551616 B) (val 18446744073709551616 E / 2 ^ i') m := by rw [hhs, hbv, hb1, R3v, P2v, R2v, Sv]; exact mexp_mul _ _ _
          refine l_step (y_moveV (et g0 rfl)) ?_
          refine l_step (y_ext (et g0 rfl) rfl) ?_
          refine l_step (y_ext (et (gS rfl g0) rfl) rfl) ?_
          refine l_effN (e_store sz_336 (et (gS rfl (gS rfl (gS rfl (gS rfl (gS rfl (gS rfl (gS rfl (gS rfl g0)))))))) rfl) (cellsV (et (gS rfl g0) rfl) rfl) (by rw [length_uL, R3l]) (by exact one_uL _) k8 (by (rw [size_uL, R2l]; omega))) (fun v51 w51 h51 => ?_)
          obtain ⟨rfl, x51⟩ := h51
          replace k2 := k2.ch x51.ch (by omega)
          replace k4 := k4.ch x51.ch (by omega)
          replace k9 := k9.ch x51.ch (by omega)
          replace k13 := k13.ch x51.ch (by omega)
          replace k20 := k20.ch x51.ch (by omega)
          replace k21 := k21.ch x51.ch (by omega)
          replace k39 := k39.ch x51.ch (by omega)
          replace k47 := k47.ch x51.ch (by omega)
          replace kB := kB.ch x51.ch (by first | omega | omega)
          replace kE := kE.ch x51.ch (by first | omega | omega)
          replace kM := kM.ch x51.ch (by first | omega | omega)
          replace k8 := x51.blk.full (by rw [length_uL, R3l]; rw [size_uL, R2l])
          replace U := U.st x51 f8
          replace V28 := V28.st x51 (by omega)
          refine l_nil ?_
          refine hK49 _ _ ?_
          refine fg6 1 2 6 8 11 14 (gS rfl (gS rfl (gS rfl (gS rfl (gS rfl (gS rfl (gS rfl (gS rfl (gS rfl (gS rfl (gS rfl g0))))))))))) (gS rfl (gS rfl (gS rfl (gS rfl (gS rfl (gS rfl (gS rfl (gS rfl (gS rfl (gS rfl g0)))))))))) (gS rfl (gS rfl (gS rfl (gS rfl (gS rfl (gS rfl (gS rfl (gS rfl (gS rfl g0))))))))) (gS rfl (gS rfl (gS rfl (gS rfl (gS rfl (gS rfl (gS rfl (gS rfl g0)))))))) (gS rfl (gS rfl (gS rfl (gS rfl (gS rfl (gS rfl (gS rfl g0))))))) (gS rfl (gS rfl (gS rfl (gS rfl (gS rfl (gS rfl g0)))))) (fun g => ?_)
          refine c_region ?_
          refine l_step y_assignC ?_
          refine l_nil ?_
          refine hQ33 _ _ _ (in_normal ?_)
          refine hK32 _ _ ?_
          refine c_region ?_
          refine l_step (y_moveV (et (gS rfl g0) rfl)) ?_
          refine l_step (y_sub (et g0 rfl) rfl ((wrapU_subN (b := 1) uk64 ?_ ?_).trans (castE (show i' + 1 - 1 = i' by omega)))) ?_
          omega
          omega
          refine l_step (y_assignV (et g0 rfl)) ?_
          refine l_nil ?_
          refine fK7 1 2 6 8 11 13 14 (gS rfl (gS rfl (gS rfl (gS rfl (gS rfl (gS rfl (gS rfl (gS rfl (gS rfl g0))))))))) (gS rfl (gS rfl (gS rfl (gS rfl (gS rfl (gS rfl (gS rfl (gS rfl g0)))))))) (gS rfl (gS rfl (gS rfl (gS rfl (gS rfl (gS rfl (gS rfl g0))))))) (gS rfl (gS rfl (gS rfl (gS rfl (gS rfl (gS rfl g0)))))) (gS rfl (gS rfl (gS rfl (gS rfl (gS rfl g0))))) (gS rfl (gS rfl (gS rfl g0))) g0 (fun g => ?_)
          exact hK28 ((i')) _ _ (by omega) ⟨g, R3, true, i', rfl, rfl, by omega, R3l, R3d, hnew, (fun h => Bool.noConfusion h), k8, V28⟩
        · skip
          
          have hb1 : E[i' / 64] / 2 ^ (i' % 64) % 2 = 0 := by have := of_decide_eq_false cB3; omega
          have hnew : val 18446744073709551616 R2 = mexp (val 18446744073709551616 B) (val 18446744073709551616 E / 2 ^ i') m := by rw [hhs, hbv, hb1]; exact R2v
          have hst2 : true = false → val 18446744073709551616 E / 2 ^ i' = 0 := by intro h; cases h
          refine c_skip ?_
          refine hQ33 _ _ _ (in_normal ?_)
          refine hK32 _ _ ?_
          refine fg7 1 2 6 8 11 13 14 (gS rfl (gS rfl (gS rfl (gS rfl (gS rfl (gS rfl (gS rfl g0))))))) (gS rfl (gS rfl (gS rfl (gS rfl (gS rfl (gS rfl g0)))))) (gS rfl (gS rfl (gS rfl (gS rfl (gS rfl g0))))) (gS rfl (gS rfl (gS rfl (gS rfl g0)))) (gS rfl (gS rfl (gS rfl g0))) (gS rfl (gS rfl g0)) (gS rfl g0) (fun g => ?_)
          refine c_region ?_
          refine l_step (y_moveV (et g0 rfl)) ?_
          refine l_step (y_sub (et g0 rfl) rfl ((wrapU_subN (b := 1) uk64 ?_ ?_).trans (castE (show i' + 1 - 1 = i' by omega)))) ?_
          omega
          omega
          refine l_step (y_assignV (et g0 rfl)) ?_
          refine l_nil ?_
          refine fK7 1 2 6 8 11 13 14 (gS rfl (gS rfl (gS rfl (gS rfl (gS rfl (gS rfl (gS rfl (gS rfl (gS rfl g0))))))))) (gS rfl (gS rfl (gS rfl (gS rfl (gS rfl (gS rfl (gS rfl (gS rfl g0)))))))) (gS rfl (gS rfl (gS rfl (gS rfl (gS rfl (gS rfl (gS rfl g0))))))) (gS rfl (gS rfl (gS rfl (gS rfl (gS rfl (gS rfl g0)))))) (gS rfl (gS rfl (gS rfl (gS rfl (gS rfl g0))))) (gS rfl (gS rfl (gS rfl (gS rfl g0)))) g0 (fun g => ?_)
          exact hK28 ((i')) _ _ (by omega) ⟨g, R2, true, i', rfl, rfl, by omega, R2l, R2d, hnew, hst2, k8, V28⟩
      · skip
        
        have hz0 := hst cB2
        have R2v : val 18446744073709551616 R = mexp (val 18446744073709551616 B) (2 * (val 18446744073709551616 E / 2 ^ (i' + 1))) m := by rw [Rv, hz0]
        refine c_skip ?_
        refine hK34 _ _ ?_
        refine fg7 1 2 6 8 11 13 14 (gS rfl (gS rfl (gS rfl (gS rfl (gS rfl (gS rfl (gS rfl g0))))))) (gS rfl (gS rfl (gS rfl (gS rfl (gS rfl (gS rfl g0)))))) (gS rfl (gS rfl (gS rfl (gS rfl (gS rfl g0))))) (gS rfl (gS rfl (gS rfl (gS rfl g0)))) (gS rfl (gS rfl (gS rfl g0))) (gS rfl (gS rfl g0)) (gS rfl g0) (fun g => ?_)
        refine c_seq (fun K52 hK52 => ?_)
        refine c_region ?_
        refine l_step (y_moveV (et (gS rfl (gS rfl (gS rfl (gS rfl (gS rfl (gS rfl g0)))))) rfl)) ?_
        refine l_step (y_moveV (et (gS rfl g0) rfl)) ?_
        refine l_step (y_sub (et g0 rfl) rfl ((wrapU_subN (b := 1) uk64 ?_ ?_).trans (castE (show i' + 1 - 1 = i' by omega)))) ?_
        omega
        omega
        refine l_step (y_quo (et g0 rfl) rfl (by decide) (quoU (b := 64) uk64 ?_)) ?_
        omega
        refine l_step (y_nil (et (gS rfl (gS rfl (gS rfl g0))) rfl)) ?_
        refine l_step (y_idxA Hvaa.underlying336 sz_26 (et g0 rfl) (et (gS rfl g0) rfl) ?_ ?_) ?_
        omega
        omega
        refine l_step (y_load1 one_26 (et g0 rfl) (at1 (kE.cell (uL_getI (i := i' / 64) (by omega) (by omega))))) ?_
        refine l_step (y_moveV (et (gS rfl (gS rfl (gS rfl (gS rfl (gS rfl (gS rfl (gS rfl g0))))))) rfl)) ?_
        refine l_step (y_sub (et g0 rfl) rfl ((wrapU_subN (b := 1) uk64 ?_ ?_).trans (castE (show i' + 1 - 1 = i' by omega)))) ?_
        omega
        omega
        refine l_step (y_rem (et g0 rfl) rfl (by decide) (remN (b := 64))) ?_
        refine l_step (y_shr (et (gS rfl (gS rfl (gS rfl g0))) rfl) (et g0 rfl) ?_ (shr64N ?_)) ?_
        omega
        omega
        refine l_step (y_andM 1 2 uk64 (et g0 rfl) rfl ?_ rfl rfl (by decide)) ?_
        exact Nat.lt_of_le_of_lt (Nat.div_le_self _ _) hEi
        refine l_step (y_eql (et g0 rfl) rfl) ?_
        refine l_nil ?_
        refine hK52 _ _ ?_
        refine fg8 1 2 6 8 11 13 14 57 (gS rfl (gS rfl (gS rfl (gS rfl (gS rfl (gS rfl (gS rfl (gS rfl (gS rfl (gS rfl (gS rfl (gS rfl (gS rfl (gS rfl (gS rfl (gS rfl (gS rfl (gS rfl (gS rfl g0))))))))))))))))))) (gS rfl (gS rfl (gS rfl (gS rfl (gS rfl (gS rfl (gS rfl (gS rfl (gS rfl (gS rfl (gS rfl (gS rfl (gS rfl (gS rfl (gS rfl (gS rfl (gS rfl (gS rfl g0)))))))))))))))))) (gS rfl (gS rfl (gS rfl (gS rfl (gS rfl (gS rfl (gS rfl (gS rfl (gS rfl (gS rfl (gS rfl (gS rfl (gS rfl (gS rfl (gS rfl (gS rfl (gS rfl g0))))))))))))))))) (gS rfl (gS rfl (gS rfl (gS rfl (gS rfl (gS rfl (gS rfl (gS rfl (gS rfl (gS rfl (gS rfl (gS rfl (gS rfl (gS rfl (gS rfl (gS rfl g0)))))))))))))))) (gS rfl (gS rfl (gS rfl (gS rfl (gS rfl (gS rfl (gS rfl (gS rfl (gS rfl (gS rfl (gS rfl (gS rfl (gS rfl (gS rfl (gS rfl g0))))))))))))))) (gS rfl (gS rfl (gS rfl (gS rfl (gS rfl (gS rfl (gS rfl (gS rfl (gS rfl (gS rfl (gS rfl (gS rfl (gS rfl (gS rfl g0)))))))))))))) (gS rfl (gS rfl (gS rfl (gS rfl (gS rfl (gS rfl (gS rfl (gS rfl (gS rfl (gS rfl (gS rfl (gS rfl (gS rfl g0))))))))))))) g0 (fun g => ?_)
        refine c_cond (et g0 rfl) (fun cB3 => ?_) (fun cB3 => ?_)
        · skip
          
          have hb1 : E[i' / 64] / 2 ^ (i' % 64) % 2 = 1 := by have := of_decide_eq_true cB3; omega
          refine c_seq (fun K54 hK54 => ?_)
          refine c_region ?_
          refine l_eff (e_callV cal_360 (aC (et (gS rfl (gS rfl (gS rfl (gS rfl g0)))) rfl) (aC (et (gS rfl (gS rfl (gS rfl g0))) rfl) aN)) (mul1024_spec _ _ R S _ Rl Sl Rd Sd k8 k20)) (fun v55 w55 h55 => ?_)
          obtain ⟨P2, rfl, P2l, P2d, P2v, u55⟩ := h55
          replace k2 := k2.up u55
          replace k4 := k4.up u55
          replace k8 := k8.up u55
          replace k9 := k9.up u55
          replace k13 := k13.up u55
          replace k20 := k20.up u55
          replace k21 := k21.up u55
          replace kB := kB.up u55
          replace kE := kE.up u55
          replace kM := kM.up u55
          replace U := U.tr u55
          replace V28 := V28.tr u55
          refine l_eff (e_alloc zr_405) (fun v56 w56 h56 => ?_)
          obtain ⟨b56, rfl, n56⟩ := h56
          have d2_56 : b2 < b56 := Nat.lt_of_lt_of_le k2.lt n56.fresh
          have d4_56 : b4 < b56 := Nat.lt_of_lt_of_le k4.lt n56.fresh
          have d8_56 : b8 < b56 := Nat.lt_of_lt_of_le k8.lt n56.fresh
          have d9_56 : b9 < b56 := Nat.lt_of_lt_of_le k9.lt n56.fresh
          have d13_56 : b13 < b56 := Nat.lt_of_lt_of_le k13.lt n56.fresh
          have d20_56 : b20 < b56 := Nat.lt_of_lt_of_le k20.lt n56.fresh
          have d21_56 : b21 < b56 := Nat.lt_of_lt_of_le k21.lt n56.fresh
          have f56 : w.heap.size ≤ b56 := Nat.le_trans U.size n56.fresh
          have fV28_56 := Nat.le_trans V28.size n56.fresh
          replace k2 := k2.up n56.up
          replace k4 := k4.up n56.up
          replace k8 := k8.up n56.up
          replace k9 := k9.up n56.up
          replace k13 := k13.up n56.up
          replace k20 := k20.up n56.up
          replace k21 := k21.up n56.up
          replace kB := kB.up n56.up
          replace kE := kE.up n56.up
          replace kM := kM.up n56.up
          replace U := U.tr n56.up
          replace V28 := V28.tr n56.up
          have k56 := n56.blk
          refine l_effN (e_store sz_405 (et g0 rfl) (cellsV (et (gS rfl g0) rfl) rfl) (by rw [length_uL, P2l]) (by exact one_uL _) k56 (by (exact Nat.le_of_ble_eq_true rfl))) (fun v57 w57 h57 => ?_)
          obtain ⟨rfl, x57⟩ := h57
          replace k2 := k2.ch x57.ch (by omega)
          replace k4 := k4.ch x57.ch (by omega)
          replace k8 := k8.ch x57.ch (by omega)
          replace k9 := k9.ch x57.ch (by omega)
          replace k13 := k13.ch x57.ch (by omega)
          replace k20 := k20.ch x57.ch (by omega)
          replace k21 := k21.ch x57.ch (by omega)
          replace kB := kB.ch x57.ch (by first | omega | omega)
          replace kE := kE.ch x57.ch (by first | omega | omega)
          replace kM := kM.ch x57.ch (by first | omega | omega)
          replace k56 := x57.blk.full (by rw [length_uL, P2l]; rfl)
          replace U := U.st x57 f56
          replace V28 := V28.st x57 (by omega)
          refine l_nil ?_
          refine hK54 _ _ ?_
          refine fg7 1 2 6 8 11 14 16 (gS rfl (gS rfl (gS rfl (gS rfl (gS rfl (gS rfl (gS rfl (gS rfl (gS rfl g0))))))))) (gS rfl (gS rfl (gS rfl (gS rfl (gS rfl (gS rfl (gS rfl (gS rfl g0)))))))) (gS rfl (gS rfl (gS rfl (gS rfl (gS rfl (gS rfl (gS rfl g0))))))) (gS rfl (gS rfl (gS rfl (gS rfl (gS rfl (gS rfl g0)))))) (gS rfl (gS rfl (gS rfl (gS rfl (gS rfl g0))))) (gS rfl (gS rfl (gS rfl g0))) g0 (fun g => ?_)
          refine c_seq (fun K58 hK58 => ?_)
          refine c_region ?_
          refine l_step (y_moveV (et (gS rfl (gS rfl (gS rfl (gS rfl (gS rfl g0))))) rfl)) ?_
          refine l_eff (e_callV cal_359 (aC (et (gS rfl g0) rfl) (aC (et g0 rfl) aN)) (rem1024_spec _ bm m P2 M _ P2l P2d hM8 hM hMv k56 kM)) (fun v59 w59 h59 => ?_)
          obtain ⟨R3, q3, rfl, R3l, q33, R3d, R3v, u59⟩ := h59
          replace k2 := k2.up u59
          replace k4 := k4.up u59
          replace k8 := k8.up u59
          replace k9 := k9.up u59
          replace k13 := k13.up u59
          replace k20 := k20.up u59
          replace k21 := k21.up u59
          replace k56 := k56.up u59
          replace kB := kB.up u59
          replace kE := kE.up u59
          replace kM := kM.up u59
          replace U := U.tr u59
          replace V28 := V28.tr u59
          have hnew : val 18446744073709551616 R3 = mexp (val 18446744073709551616 B) (val 18446744073709551616 E / 2 ^ i') m := by rw [hhs, hbv, hb1, R3v, P2v, R2v, Sv]; exact mexp_mul _ _ _
          refine l_step (y_moveV (et g0 rfl)) ?_
          refine l_step (y_ext (et g0 rfl) rfl) ?_
          refine l_step (y_ext (et (gS rfl g0) rfl) rfl) ?_
          refine l_effN (e_store sz_336 (et (gS rfl (gS rfl (gS rfl (gS rfl (gS rfl (gS rfl (gS rfl (gS rfl g0)))))))) rfl) (cellsV (et (gS rfl g0) rfl) rfl) (by rw [length_uL, R3l]) (by exact one_uL _) k8 (by (rw [size_uL, Rl]; omega))) (fun v60 w60 h60 => ?_)
          obtain ⟨rfl, x60⟩ := h60
          replace k2 := k2.ch x60.ch (by omega)
          replace k4 := k4.ch x60.ch (by omega)
          replace k9 := k9.ch x60.ch (by omega)
          replace k13 := k13.ch x60.ch (by omega)
          replace k20 := k20.ch x60.ch (by omega)
          replace k21 := k21.ch x60.ch (by omega)
          replace k56 := k56.ch x60.ch (by omega)
          replace kB := kB.ch x60.ch (by first | omega | omega)
          replace kE := kE.ch x60.ch (by first | omega | omega)
          replace kM := kM.ch x60.ch (by first | omega | omega)
          replace k8 := x60.blk.full (by rw [length_uL, R3l]; rw [size_uL, Rl])
          replace U := U.st x60 f8
          replace V28 := V28.st x60 (by omega)
          refine l_nil ?_
          refine hK58 _ _ ?_
          refine fg6 1 2 6 8 11 14 (gS rfl (gS rfl (gS rfl (gS rfl (gS rfl (gS rfl (gS rfl (gS rfl (gS rfl (gS rfl (gS rfl g0))))))))))) (gS rfl (gS rfl (gS rfl (gS rfl (gS rfl (gS rfl (gS rfl (gS rfl (gS rfl (gS rfl g0)))))))))) (gS rfl (gS rfl (gS rfl (gS rfl (gS rfl (gS rfl (gS rfl (gS rfl (gS rfl g0))))))))) (gS rfl (gS rfl (gS rfl (gS rfl (gS rfl (gS rfl (gS rfl (gS rfl g0)))))))) (gS rfl (gS rfl (gS rfl (gS rfl (gS rfl (gS rfl (gS rfl g0))))))) (gS rfl (gS rfl (gS rfl (gS rfl (gS rfl (gS rfl g0)))))) (fun g => ?_)
          refine c_region ?_
          refine l_step y_assignC ?_
          refine l_nil ?_
          refine hQ33 _ _ _ (in_normal ?_)
          refine hK32 _ _ ?_
          refine c_region ?_
          refine l_step (y_moveV (et (gS rfl g0) rfl)) ?_
          refine l_step (y_sub (et g0 rfl) rfl ((wrapU_subN (b := 1) uk64 ?_ ?_).trans (castE (show i' + 1 - 1 = i' by omega)))) ?_
          omega
          omega
          refine l_step (y_assignV (et g0 rfl)) ?_
          refine l_nil ?_
          refine fK7 1 2 6 8 11 13 14 (gS rfl (gS rfl (gS rfl (gS rfl (gS rfl (gS rfl (gS rfl (gS rfl (gS rfl g0))))))))) (gS rfl (gS rfl (gS rfl (gS rfl (gS rfl (gS rfl (gS rfl (gS rfl g0)))))))) (gS rfl (gS rfl (gS rfl (gS rfl (gS rfl (gS rfl (gS rfl g0))))))) (gS rfl (gS rfl (gS rfl (gS rfl (gS rfl (gS rfl g0)))))) (gS rfl (gS rfl (gS rfl (gS rfl (gS rfl g0))))) (gS rfl (gS rfl (gS rfl g0))) g0 (fun g => ?_)
          exact hK28 ((i')) _ _ (by omega) ⟨g, R3, true, i', rfl, rfl, by omega, R3l, R3d, hnew, (fun h => Bool.noConfusion h), k8, V28⟩
        · skip
          
          have hb1 : E[i' / 64] / 2 ^ (i' % 64) % 2 = 0 := by have := of_decide_eq_false cB3; omega
          have hnew : val 18446744073709551616 R = mexp (val 18446744073709551616 B) (val 18446744073709551616 E / 2 ^ i') m := by rw [hhs, hbv, hb1]; exact R2v
          have hst2 : tt = false → val 18446744073709551616 E / 2 ^ i' = 0 := by intro h; rw [hhs, hbv, hb1, hz0]
          refine c_skip ?_
          refine hQ33 _ _ _ (in_normal ?_)
          refine hK32 _ _ ?_
          refine fg7 1 2 6 8 11 13 14 (gS rfl (gS rfl (gS rfl (gS rfl (gS rfl (gS rfl (gS rfl g0))))))) (gS rfl (gS rfl (gS rfl (gS rfl (gS rfl (gS rfl g0)))))) (gS rfl (gS rfl (gS rfl (gS rfl (gS rfl g0))))) (gS rfl (gS rfl (gS rfl (gS rfl g0)))) (gS rfl (gS rfl (gS rfl g0))) (gS rfl (gS rfl g0)) (gS rfl g0) (fun g => ?_)
          refine c_region ?_
          refine l_step (y_moveV (et g0 rfl)) ?_
          refine l_step (y_sub (et g0 rfl) rfl ((wrapU_subN (b := 1) uk64 ?_ ?_).trans (castE (show i' + 1 - 1 = i' by omega)))) ?_
          omega
          omega
          refine l_step (y_assignV (et g0 rfl)) ?_
          refine l_nil ?_
          refine fK7 1 2 6 8 11 13 14 (gS rfl (gS rfl (gS rfl (gS rfl (gS rfl (gS rfl (gS rfl (gS rfl (gS rfl g0))))))))) (gS rfl (gS rfl (gS rfl (gS rfl (gS rfl (gS rfl (gS rfl (gS rfl g0)))))))) (gS rfl (gS rfl (gS rfl (gS rfl (gS rfl (gS rfl (gS rfl g0))))))) (gS rfl (gS rfl (gS rfl (gS rfl (gS rfl (gS rfl g0)))))) (gS rfl (gS rfl (gS rfl (gS rfl (gS rfl g0))))) (gS rfl (gS rfl (gS rfl (gS rfl g0)))) g0 (fun g => ?_)
          exact hK28 ((i')) _ _ (by omega) ⟨g, R, tt, i', rfl, rfl, by omega, Rl, Rd, hnew, hst2, k8, V28⟩
    · skip
      simp only [decide_eq_true_eq, decide_eq_false_iff_not, Int.not_lt, Int.not_le, Bool.not_eq_true', Bool.not_eq_false', Bool.not_eq_eq_eq_not, Bool.not_true, Bool.not_false] at cB1
      have hi0 : i = 0 := by omega
      subst hi0
      rw [Nat.pow_zero, Nat.div_one] at Rv
      refine c_exit ?_
      refine hQ27 _ _ _ (in_exit ?_)
      refine hK25 _ _ ?_
      refine fg2 6 8 (gS rfl (gS rfl (gS rfl (gS rfl (gS rfl g0))))) (gS rfl (gS rfl (gS rfl (gS rfl g0)))) (fun g => ?_)
      refine c_seq (fun K61 hK61 => ?_)
      refine c_region ?_
      refine l_step (y_loadB agg_336 sz_336 (et g0 rfl) (by rw [size_uL, Rl]) (at1B k8)) ?_
      refine l_effN (e_store sz_336 (et (gS rfl (gS rfl g0)) rfl) (cellsV (et g0 rfl) rfl) (by rw [length_uL, Rl]) (by exact one_uL _) k2 (by (exact Nat.le_of_ble_eq_true rfl))) (fun v62 w62 h62 => ?_)
      obtain ⟨rfl, x62⟩ := h62
      replace k4 := k4.ch x62.ch (by omega)
      replace k8 := k8.ch x62.ch (by omega)
      replace k9 := k9.ch x62.ch (by omega)
      replace k13 := k13.ch x62.ch (by omega)
      replace k20 := k20.ch x62.ch (by omega)
      replace k21 := k21.ch x62.ch (by omega)
      replace kB := kB.ch x62.ch (by first | omega | omega)
      replace kE := kE.ch x62.ch (by first | omega | omega)
      replace kM := kM.ch x62.ch (by first | omega | omega)
      replace k2 := x62.blk.full (by rw [length_uL, Rl]; rfl)
      replace U := U.st x62 f2
      refine l_nil ?_
      refine hK61 _ _ ?_
      refine fg1 6 (gS rfl (gS rfl g0)) (fun g => ?_)
      refine c_ret ?_
      refine ret1 rfl (res_blk agg_336 sz_336 (et g0 rfl) (by rw [List.size_toArray, length_uL, Rl]) k2) ?_
      exact ⟨R, rfl, Rl, Rd, Rv, U⟩
end Go.Proofs.YgvaawGreat
