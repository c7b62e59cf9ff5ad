import Derived.Test.YgvaawGreatN8
set_option maxRecDepth 100000
set_option maxHeartbeats 4000000
set_option linter.unusedSimpArgs false
set_option linter.unusedVariables false
namespace Go.Proofs.YgvaawGreat
open Go
theorem dm_step {X X' y bt : Nat} (hX : X = 2 * X' + bt) (hb : bt ≤ 1) (hy : 0 < y) :
    (y ≤ 2 * (X' % y) + bt → X / y = 2 * (X' / y) + 1 ∧ X % y = 2 * (X' % y) + bt - y) ∧ (2 * (X' % y) + bt < y → X / y = 2 * (X' / y) ∧ X % y = 2 * (X' % y) + bt) := by
  have h1 := Nat.div_add_mod X' y
  have h2 := Nat.mod_lt X' hy
  have e : X = y * (2 * (X' / y)) + (2 * (X' % y) + bt) := by
    rw [hX]; rw [show y * (2 * (X' / y)) = 2 * (y * (X' / y)) by grind]; omega
  constructor
  · intro h
    have e2 : X = y * (2 * (X' / y) + 1) + (2 * (X' % y) + bt - y) := by rw [Nat.mul_add, Nat.mul_one]; omega
    have h3 : 2 * (X' % y) + bt - y < y := by omega
    rw [e2]
    exact ⟨by rw [Nat.mul_add_div hy, Nat.div_eq_of_lt h3, Nat.add_zero], by rw [Nat.mul_add_mod, Nat.mod_eq_of_lt h3]⟩
  · intro h
    rw [e]
    exact ⟨by rw [Nat.mul_add_div hy, Nat.div_eq_of_lt h, Nat.add_zero], by rw [Nat.mul_add_mod, Nat.mod_eq_of_lt h]⟩
theorem half_step (x i : Nat) : x / 2 ^ i = 2 * (x / 2 ^ (i + 1)) + x / 2 ^ i % 2 := by
  rw [Nat.pow_succ, ← Nat.div_div_eq_div_mul]; omega
theorem val_set {Q : List Nat} {i v : Nat} (h : i < Q.length) : val 256 (Q.set i v) + 256 ^ i * Q[i] = val 256 Q + 256 ^ i * v := by
  have e1 := val_split h
  have e2 : val 256 (Q.set i v) = val 256 (Q.take i) + 256 ^ i * (v + 256 * val 256 (Q.drop (i + 1))) := by
    rw [List.set_eq_take_append_cons_drop, if_pos h, val_append, val_cons, List.length_take, Nat.min_eq_left (Nat.le_of_lt h)]
  rw [e2, e1]; grind
theorem pow_at (i : Nat) : 2 ^ (i + 1) = 256 ^ (i / 8) * 2 ^ (i % 8 + 1) := by
  rw [show (256 : Nat) = 2 ^ 8 from rfl, ← Nat.pow_mul, ← Nat.pow_add]; congr 1; omega
theorem pow_at' (i : Nat) : 2 ^ i = 256 ^ (i / 8) * 2 ^ (i % 8) := by
  rw [show (256 : Nat) = 2 ^ 8 from rfl, ← Nat.pow_mul, ← Nat.pow_add]; congr 1; omega
theorem low_zero {Q : List Nat} {i t : Nat} (hd : Dig 256 Q) (h : i / 8 < Q.length) (hv : val 256 Q = t * 2 ^ (i + 1)) : Q[i / 8] % 2 ^ (i % 8 + 1) = 0 := by
  rw [val_split h, pow_at] at hv
  have h1 : val 256 (Q.take (i / 8)) < 256 ^ (i / 8) := by have := val_lt (hd.take (i / 8)); rwa [List.length_take, Nat.min_eq_left (Nat.le_of_lt h)] at this
  have hp : 0 < 256 ^ (i / 8) := Nat.pow_pos (by decide)
  have e1 : val 256 (Q.take (i / 8)) = 0 := by
    have e := congrArg (· % 256 ^ (i / 8)) hv
    simp only [Nat.add_mul_mod_self_left] at e
    rw [Nat.mod_eq_of_lt h1, Nat.mul_left_comm, Nat.mul_mod_right] at e
    exact e
  rw [e1, Nat.zero_add, Nat.mul_left_comm] at hv
  have e2 := Nat.eq_of_mul_eq_mul_left hp hv
  have hm : i % 8 < 8 := Nat.mod_lt _ (by decide)
  have e3 : (256 : Nat) = 2 ^ (i % 8 + 1) * 2 ^ (7 - i % 8) := by rw [← Nat.pow_add, show i % 8 + 1 + (7 - i % 8) = 8 by omega]
  have e4 : (Q[i / 8] + 256 * val 256 (Q.drop (i / 8 + 1))) % 2 ^ (i % 8 + 1) = Q[i / 8] % 2 ^ (i % 8 + 1) := by
    rw [e3, Nat.mul_assoc, Nat.add_mul_mod_self_left]
  rw [← e4, e2, Nat.mul_mod_left]
theorem new_dig {d c : Nat} (hd : d < 256) (hc : c < 8) (h : d % 2 ^ (c + 1) = 0) : d + 2 ^ c < 256 := by
  have e3 : (256 : Nat) = 2 ^ (c + 1) * 2 ^ (7 - c) := by rw [← Nat.pow_add, show c + 1 + (7 - c) = 8 by omega]
  have e5 : 2 ^ (c + 1) = 2 ^ c * 2 := Nat.pow_succ ..
  have hp : 0 < 2 ^ c := Nat.pow_pos (by decide)
  have e6 := Nat.div_add_mod d (2 ^ (c + 1))
  rw [h, Nat.add_zero] at e6
  have h7 : d / 2 ^ (c + 1) < 2 ^ (7 - c) := Nat.div_lt_of_lt_mul (by rw [← e3]; exact hd)
  have h8 : 2 ^ (c + 1) * (d / 2 ^ (c + 1) + 1) ≤ 2 ^ (c + 1) * 2 ^ (7 - c) := Nat.mul_le_mul_left _ h7
  rw [Nat.mul_add, Nat.mul_one, e6, ← e3] at h8
  omega
theorem dbl_inv {P R : List Nat} {C bt : Nat} (hR : P.length < R.length) (hC : C ≤ 1) (hdR : R[P.length] < 256) (e1 : val 256 P + C * 256 ^ P.length = 2 * val 256 (R.take P.length) + bt) :
    val 256 (P ++ [R[P.length] * 2 % 256 + C]) + R[P.length] / 128 * 256 ^ (P ++ [R[P.length] * 2 % 256 + C]).length = 2 * val 256 (R.take (P ++ [R[P.length] * 2 % 256 + C]).length) + bt := by
  rw [List.length_append, List.length_singleton, val_snoc, val_take_in hR, Nat.pow_succ]
  generalize R[P.length] = d at *
  generalize 256 ^ P.length = W at *
  have h : W * (d * 2 % 256 + C + 256 * (d / 128)) = W * (2 * d + C) := by congr 1; omega
  rw [Nat.mul_add, Nat.mul_add, Nat.mul_add] at h
  rw [show d / 128 * (W * 256) = W * (256 * (d / 128)) by grind, Nat.mul_add 2, show 2 * (W * d) = W * (2 * d) by grind, Nat.mul_add W]
  rw [show C * W = W * C by grind] at e1
  omega
theorem dbl_done {P R : List Nat} {C bt y n : Nat} (hPl : P.length = n + 1) (hRl : R.length = n + 1) (hb : bt ≤ 1) (hC : C ≤ 1) (hR : val 256 R < y) (hy : y < 256 ^ n) (e1 : val 256 P + C * 256 ^ P.length = 2 * val 256 (R.take P.length) + bt) : val 256 P = 2 * val 256 R + bt := by
  rw [take_ge (by omega), hPl, Nat.pow_succ] at e1
  rcases Nat.eq_zero_or_pos C with h | h
  · subst h; omega
  · have : C = 1 := by omega
    subst this
    omega
theorem tr_pos {p : List Nat} (h : Tr p) (hp : p.length ≠ 0) : 0 < val 256 p := by
  have := tr_ge (k := 0) h (by omega)
  simp at this; omega
theorem div_top {m : List Nat} (hd : Dig 256 m) : val 256 m / 2 ^ (8 * m.length) = 0 := by
  apply Nat.div_eq_of_lt
  rw [Nat.pow_mul]; exact val_lt hd
theorem q_step {x y i t : Nat} : (2 * t + 1) * 2 ^ i = t * 2 ^ (i + 1) + 2 ^ i := by rw [Nat.pow_succ]; grind
theorem q_step0 {x y i t : Nat} : (2 * t) * 2 ^ i = t * 2 ^ (i + 1) := by rw [Nat.pow_succ]; grind
theorem Dig.set {β : Nat} {l : List Nat} {i v : Nat} (h : Dig β l) (hv : v < β) : Dig β (l.set i v) := by
  intro d hd
  rcases List.mem_or_eq_of_mem_set hd with h1 | h1
  · exact h d h1
  · rw [h1]; exact hv
theorem set_split {Q : List Nat} {i v : Nat} (h : i < Q.length) : Q.take i ++ v :: Q.drop (i + 1) = Q.set i v := by rw [List.set_eq_take_append_cons_drop, if_pos h]
theorem get_split {Q : List Nat} {i : Nat} (h : i < Q.length) : Q = Q.take i ++ Q[i] :: Q.drop (i + 1) := by
  rw [← List.drop_eq_getElem_cons h, List.take_append_drop]
theorem bL_setI {Q : List Nat} {i v : Nat} (h : i < Q.length) : spl (bL Q).toArray i [bval v] = (bL (Q.set i v)).toArray := by
  rw [← set_split h]
  have e := bL_set (Q.take i) Q[i] (Q.drop (i + 1)) v i (by simp; omega)
  rw [← get_split h] at e
  exact e
theorem Blk.setI {w : World} {b o i v : Nat} {Q : List Nat} (h : Blk w b (spl (bL Q).toArray o [bval v])) (ho : o = i) (hi : i < Q.length) : Blk w b (bL (Q.set i v)).toArray := by
  rw [ho, bL_setI hi] at h; exact h
/-- one bit brought down, not taken -/
theorem bit_no {x y i : Nat} {VQ VP VR : Nat} (hy : 0 < y) (hQ : VQ = x / 2 ^ (i + 1) / y * 2 ^ (i + 1)) (hR : VR = x / 2 ^ (i + 1) % y) (hP : VP = 2 * VR + x / 2 ^ i % 2) (h : VP < y) : VQ = x / 2 ^ i / y * 2 ^ i ∧ VP = x / 2 ^ i % y := by
  have h1 := (dm_step (y := y) (half_step x i) (by omega) hy).2 (by omega)
  rw [h1.1, h1.2, q_step0 (x := x) (y := y)]
  exact ⟨hQ, by omega⟩
theorem bit_yes {x y i : Nat} {VQ VP VR : Nat} (hy : 0 < y) (hQ : VQ = x / 2 ^ (i + 1) / y * 2 ^ (i + 1)) (hR : VR = x / 2 ^ (i + 1) % y) (hP : VP = 2 * VR + x / 2 ^ i % 2) (h : y ≤ VP) : VQ + 2 ^ i = x / 2 ^ i / y * 2 ^ i ∧ VP - y = x / 2 ^ i % y := by
  have h1 := (dm_step (y := y) (half_step x i) (by omega) hy).1 (by omega)
  rw [h1.1, h1.2, q_step (x := x) (y := y)]
  exact ⟨by omega, by omega⟩
theorem divmod_raw (s0 c : Nat) (a : Option Addr) (l : List Nat) (w : World) (hW : WV s0 w (.slice a l.length c) l) (hs0 : s0 ≤ w.heap.size) (hc : l.length ≤ c) (h48 : l.length < 140737488355328) (s1 c1 : Nat) (a1 : Option Addr) (l1 : List Nat) (hX : WV s1 w (.slice a1 l1.length c1) l1) (hs1 : s1 ≤ w.heap.size) (hc1 : l1.length ≤ c1) (h481 : l1.length < 140737488355328) :
    Ret 155 [.slice a l.length c, .slice a1 l1.length c1] w (fun v w' => ∃ q r t, v = .tuple #[q, r, .bool t] ∧ Up w w' ∧ ((t = false ∧ q = .slice none 0 0 ∧ r = .slice none 0 0 ∧ val 256 l1 = 0) ∨ (t = true ∧ 0 < val 256 l1 ∧ ∃ lq lr, FB w w' q lq ∧ FB w w' r lr ∧ val 256 lq = val 256 l / val 256 l1 ∧ val 256 lr = val 256 l % val 256 l1 ∧ Tr lq ∧ Tr lr))) := by
  refine enter (n := 86) Hvaa.func155 rfl rfl (Nat.le_of_ble_eq_true rfl) ?_
  have U := Up.refl w
  refine c_seq (fun K1 hK1 => ?_)
  refine c_region ?_
  refine l_step y_assignC ?_
  refine l_step y_assignC ?_
  refine l_step y_assignC ?_
  refine l_nil ?_
  refine hK1 _ _ ?_
  refine fg2 1 0 (gS rfl (gS rfl (gS rfl (gS rfl g0)))) (gS rfl (gS rfl (gS rfl g0))) (fun g => ?_)
  refine c_seq (fun K2 hK2 => ?_)
  refine c_region ?_
  refine l_step (y_moveV (et g0 rfl)) ?_
  refine l_eff (e_callV cal_88 (aC (et g0 rfl) aN) (trim_spec _ _ _ l _ hW (by omega) (by omega))) (fun v3 w3 h3 => ?_)
  obtain ⟨k, hk, rfl, hT, hv, u3⟩ := h3
  replace hW := hW.up u3
  replace hX := hX.up u3
  replace U := U.tr u3
  have hW2 := hW.take hk
  have hlk : (l.take k).length = k := by simp; omega
  refine l_step (y_assignV (et g0 rfl)) ?_
  refine l_nil ?_
  refine hK2 _ _ ?_
  refine fg2 1 0 (gS rfl (gS rfl (gS rfl (gS rfl g0)))) g0 (fun g => ?_)
  refine c_seq (fun K4 hK4 => ?_)
  refine c_region ?_
  refine l_step (y_moveV (et (gS rfl g0) rfl)) ?_
  refine l_eff (e_callV cal_88 (aC (et g0 rfl) aN) (trim_spec _ _ _ l1 _ hX (by omega) (by omega))) (fun v5 w5 h5 => ?_)
  obtain ⟨j, hj, rfl, hT1, hv1, u5⟩ := h5
  replace hW := hW.up u5
  replace hX := hX.up u5
  replace hW2 := hW2.up u5
  replace U := U.tr u5
  have hX2 := hX.take hj
  have hlj : (l1.take j).length = j := by simp; omega
  obtain ⟨m, hm⟩ : ∃ m, m = l.take k := ⟨_, rfl⟩
  obtain ⟨p, hp⟩ : ∃ p, p = l1.take j := ⟨_, rfl⟩
  rw [← hm] at hW2 hT hv hlk
  rw [← hp] at hX2 hT1 hv1 hlj
  clear hm hp
  subst hlk hlj
  refine l_step (y_assignV (et g0 rfl)) ?_
  refine l_nil ?_
  refine hK4 _ _ ?_
  refine fg2 1 0 g0 (gS rfl (gS rfl (gS rfl g0))) (fun g => ?_)
  refine c_seq (fun K6 hK6 => ?_)
  refine c_seq (fun K7 hK7 => ?_)
  refine c_region ?_
  refine l_step (y_moveV (et (gS rfl g0) rfl)) ?_
  refine l_step (y_len Hvaa.underlying95 (et g0 rfl)) ?_
  refine l_step (y_eql (et g0 rfl) rfl) ?_
  refine l_nil ?_
  refine hK7 _ _ ?_
  refine fg3 1 0 21 (gS rfl (gS rfl (gS rfl (gS rfl g0)))) (gS rfl (gS rfl (gS rfl g0))) g0 (fun g => ?_)
  refine c_cond (et g0 rfl) (fun cB1 => ?_) (fun cB1 => ?_)
  · skip
    
    have hp0 : p.length = 0 := by have := of_decide_eq_true cB1; omega
    refine c_seq (fun K9 hK9 => ?_)
    refine c_region ?_
    refine l_step y_assignC ?_
    refine l_step y_assignC ?_
    refine l_step y_assignC ?_
    refine l_nil ?_
    refine hK9 _ _ ?_
    refine fg3 4 5 6 (gS rfl (gS rfl g0)) (gS rfl g0) g0 (fun g => ?_)
    refine c_ret ?_
    refine ret3 rfl (res_tmp (et (gS rfl (gS rfl g0)) rfl)) (res_tmp (et (gS rfl g0) rfl)) (res_tmp (et g0 rfl)) ?_
    refine ⟨_, _, _, rfl, U, .inl ⟨rfl, rfl, rfl, ?_⟩⟩
    rw [← hv1, List.eq_nil_of_length_eq_zero hp0]; rfl
  · skip
    
    have hp0 : p.length ≠ 0 := by have := of_decide_eq_false cB1; omega
    have hy := tr_pos hT1 hp0
    have hyl := val_lt hX2.dig
    refine c_skip ?_
    refine hK6 _ _ ?_
    refine fg2 1 0 (gS rfl (gS rfl g0)) (gS rfl g0) (fun g => ?_)
    refine c_seq (fun K10 hK10 => ?_)
    refine c_region ?_
    refine l_step (y_moveV (et g0 rfl)) ?_
    refine l_step (y_len Hvaa.underlying95 (et g0 rfl)) ?_
    refine l_eff (e_make Hvaa.underlying95 sz_5 zr_5 by_5 (et g0 rfl) (et g0 rfl) (by omega) (by omega)) (fun v11 w11 h11 => ?_)
    obtain ⟨b11, rfl, n11⟩ := h11
    have f11 : w.heap.size ≤ b11 := Nat.le_trans U.size n11.fresh
    replace hW := hW.up n11.up
    replace hX := hX.up n11.up
    replace hW2 := hW2.up n11.up
    replace hX2 := hX2.up n11.up
    replace U := U.tr n11.up
    have k11 := mzB n11.blk
    refine l_step (y_assignV (et g0 rfl)) ?_
    refine l_nil ?_
    refine hK10 _ _ ?_
    refine fg3 1 0 7 (gS rfl (gS rfl (gS rfl (gS rfl (gS rfl g0))))) (gS rfl (gS rfl (gS rfl (gS rfl g0)))) g0 (fun g => ?_)
    refine c_seq (fun K12 hK12 => ?_)
    refine c_region ?_
    refine l_step (y_moveV (et (gS rfl (gS rfl g0)) rfl)) ?_
    refine l_step (y_len Hvaa.underlying95 (et g0 rfl)) ?_
    refine l_step (y_add (et g0 rfl) rfl (addIN (y := 1) ?_)) ?_
    omega
    refine l_eff (e_make Hvaa.underlying95 sz_5 zr_5 by_5 (et g0 rfl) (et g0 rfl) (by omega) (by omega)) (fun v13 w13 h13 => ?_)
    obtain ⟨b13, rfl, n13⟩ := h13
    have d11_13 : b11 < b13 := Nat.lt_of_lt_of_le k11.lt n13.fresh
    have f13 : w.heap.size ≤ b13 := Nat.le_trans U.size n13.fresh
    replace k11 := k11.up n13.up
    replace hW := hW.up n13.up
    replace hX := hX.up n13.up
    replace hW2 := hW2.up n13.up
    replace hX2 := hX2.up n13.up
    replace U := U.tr n13.up
    have k13 := mzB n13.blk
    refine l_step (y_assignV (et g0 rfl)) ?_
    refine l_nil ?_
    refine hK12 _ _ ?_
    refine fg4 1 0 7 8 (gS rfl (gS rfl (gS rfl (gS rfl (gS rfl (gS rfl (gS rfl g0))))))) (gS rfl (gS rfl (gS rfl (gS rfl (gS rfl (gS rfl g0)))))) (gS rfl (gS rfl (gS rfl (gS rfl (gS rfl g0))))) g0 (fun g => ?_)
    refine c_seq (fun K14 hK14 => ?_)
    refine c_seq (fun K15 hK15 => ?_)
    refine c_region ?_
    refine l_step (y_moveV (et (gS rfl (gS rfl g0)) rfl)) ?_
    refine l_step (y_len Hvaa.underlying95 (et g0 rfl)) ?_
    refine l_step (y_mul rfl (et g0 rfl) (mulIN (x := 8) ?_)) ?_
    omega
    refine l_step (y_assignV (et g0 rfl)) ?_
    refine l_nil ?_
    refine hK15 _ _ ?_
    refine fg5 1 0 7 8 9 (gS rfl (gS rfl (gS rfl (gS rfl (gS rfl (gS rfl (gS rfl g0))))))) (gS rfl (gS rfl (gS rfl (gS rfl (gS rfl (gS rfl g0)))))) (gS rfl (gS rfl (gS rfl (gS rfl (gS rfl g0))))) (gS rfl (gS rfl (gS rfl (gS rfl g0)))) g0 (fun g => ?_)
    refine c_block (fun Q16 hQ16 => ?_)
    refine fg5 0 1 7 8 9 (gS rfl (gS rfl (gS rfl g0))) (gS rfl (gS rfl (gS rfl (gS rfl g0)))) (gS rfl (gS rfl g0)) (gS rfl g0) g0 (fun g => ?_)
    refine c_loop (fun k_ s_ W17 => ∃ (g : Nat → Value) (Q R : List Nat) (i : Nat), s_ = (upd (upd (upd (upd (upd g 0 (.slice a m.length m.length)) 1 (.slice a1 p.length p.length)) 7 (.slice (some ⟨b11, 0, none⟩) m.length m.length)) 8 (.slice (some ⟨b13, 0, none⟩) (p.length + 1) (p.length + 1))) 9 (.int .i64 (i : Nat))) ∧ i = k_ ∧ (i ≤ 8 * m.length) ∧ (Q.length = m.length) ∧ (R.length = p.length + 1) ∧ (Dig 256 Q) ∧ (Dig 256 R) ∧ (val 256 Q = val 256 m / 2 ^ i / val 256 p * 2 ^ i) ∧ (val 256 R = val 256 m / 2 ^ i % val 256 p) ∧ Blk W17 b11 ((bL Q).toArray) ∧ Blk W17 b13 ((bL R).toArray) ∧ Ch (fun k => k = b11 ∨ k = b13) w13 W17) (((8 * m.length))) ?_ ?_
    · exact ⟨g, (List.replicate m.length 0), (List.replicate (p.length + 1) 0), (8 * m.length), rfl, rfl, Nat.le_refl _, by simp, by simp, Dig.rep _ _ (by decide), Dig.rep _ _ (by decide), by rw [val_rep, div_top hW2.dig]; simp, by rw [val_rep, div_top hW2.dig]; simp, k11, k13, Ch.refl _ _⟩
    · skip
      intro k_ s_ W17 hI K17 hK17
      obtain ⟨g, Q, R, i, rfl, rfl, hi, hQl, hRl, hQd, hRd, hQv, hRv, nk11, nk13, V17⟩ := hI
      replace hW := hW.ch V17 (by first | omega | (intro q hq; omega))
      replace hX := hX.ch V17 (by first | omega | (intro q hq; omega))
      replace hW2 := hW2.ch V17 (by first | omega | (intro q hq; omega))
      replace hX2 := hX2.ch V17 (by first | omega | (intro q hq; omega))
      replace k11 := nk11
      replace k13 := nk13
      replace U := U.cc V17 (by intro b hb; first | exact hb.elim | omega | (simp at hb ⊢; omega))
      refine c_seq (fun K18 hK18 => ?_)
      refine c_seq (fun K19 hK19 => ?_)
      refine c_region ?_
      refine l_step (y_moveV (et g0 rfl)) ?_
      refine l_step (y_gtr (et g0 rfl) rfl) ?_
      refine l_nil ?_
      refine hK19 _ _ ?_
      refine fg6 0 1 7 8 9 33 (gS rfl (gS rfl (gS rfl (gS rfl (gS rfl (gS rfl g0)))))) (gS rfl (gS rfl (gS rfl (gS rfl (gS rfl g0))))) (gS rfl (gS rfl (gS rfl (gS rfl g0)))) (gS rfl (gS rfl (gS rfl g0))) (gS rfl (gS rfl g0)) g0 (fun g => ?_)
      refine c_cond (et g0 rfl) (fun cB2 => ?_) (fun cB2 => ?_)
      · skip
        simp only [decide_eq_true_eq, decide_eq_false_iff_not, Int.not_lt, Int.not_le, Bool.not_eq_true', Bool.not_eq_false', Bool.not_eq_eq_eq_not, Bool.not_true, Bool.not_false] at cB2
        obtain ⟨i', rfl⟩ : ∃ i', i = i' + 1 := ⟨i - 1, by omega⟩
        obtain ⟨ba, oa, ha, hb0, hr⟩ := hW2.at (by omega)
        have hat : i' / 8 < m.length := by omega
        have hmi := hW2.dig _ (List.getElem_mem (l := m) (n := i' / 8) hat)
        have hbv := bit_val hW2.dig hat
        have hRy : val 256 R < val 256 p := by rw [hRv]; exact Nat.mod_lt _ hy
        refine c_skip ?_
        refine hK18 _ _ ?_
        refine fg5 0 1 7 8 9 (gS rfl (gS rfl (gS rfl (gS rfl (gS rfl g0))))) (gS rfl (gS rfl (gS rfl (gS rfl g0)))) (gS rfl (gS rfl (gS rfl g0))) (gS rfl (gS rfl g0)) (gS rfl g0) (fun g => ?_)
        refine c_seq (fun K21 hK21 => ?_)
        refine c_block (fun Q22 hQ22 => ?_)
        refine c_seq (fun K23 hK23 => ?_)
        refine c_region ?_
        refine l_step (y_moveV (et g0 rfl)) ?_
        refine l_step (y_sub (et g0 rfl) rfl ((subIN (y := 1) ?_ ?_).trans (castE (show i' + 1 - 1 = i' by omega)))) ?_
        omega
        omega
        refine l_step (y_quo (et g0 rfl) rfl (by decide) (quoI (b := 8) ?_)) ?_
        omega
        refine l_step (y_assignV (et g0 rfl)) ?_
        refine l_nil ?_
        refine hK23 _ _ ?_
        refine fg6 0 1 7 8 9 10 (gS rfl (gS rfl (gS rfl (gS rfl (gS rfl (gS rfl (gS rfl (gS rfl g0)))))))) (gS rfl (gS rfl (gS rfl (gS rfl (gS rfl (gS rfl (gS rfl g0))))))) (gS rfl (gS rfl (gS rfl (gS rfl (gS rfl (gS rfl g0)))))) (gS rfl (gS rfl (gS rfl (gS rfl (gS rfl g0))))) (gS rfl (gS rfl (gS rfl (gS rfl g0)))) g0 (fun g => ?_)
        refine c_seq (fun K24 hK24 => ?_)
        refine c_region ?_
        refine l_step (y_moveV (et (gS rfl g0) rfl)) ?_
        refine l_step (y_sub (et g0 rfl) rfl ((subIN (y := 1) ?_ ?_).trans (castE (show i' + 1 - 1 = i' by omega)))) ?_
        omega
        omega
        refine l_step (y_rem (et g0 rfl) rfl (by decide) (remN (b := 8))) ?_
        refine l_step (y_conv Hvaa.underlying3 Hvaa.underlying192 (et g0 rfl) (wrapU_id uk64 ?_)) ?_
        omega
        refine l_step (y_assignV (et g0 rfl)) ?_
        refine l_nil ?_
        refine hK24 _ _ ?_
        refine fg7 0 1 7 8 9 10 11 (gS rfl (gS rfl (gS rfl (gS rfl (gS rfl (gS rfl (gS rfl (gS rfl (gS rfl (gS rfl g0)))))))))) (gS rfl (gS rfl (gS rfl (gS rfl (gS rfl (gS rfl (gS rfl (gS rfl (gS rfl g0))))))))) (gS rfl (gS rfl (gS rfl (gS rfl (gS rfl (gS rfl (gS rfl (gS rfl g0)))))))) (gS rfl (gS rfl (gS rfl (gS rfl (gS rfl (gS rfl (gS rfl g0))))))) (gS rfl (gS rfl (gS rfl (gS rfl (gS rfl (gS rfl g0)))))) (gS rfl (gS rfl (gS rfl (gS rfl (gS rfl g0))))) g0 (fun g => ?_)
        refine c_seq (fun K25 hK25 => ?_)
        refine c_region ?_
        refine l_step (y_moveV (et (gS rfl (gS rfl (gS rfl (gS rfl (gS rfl (gS rfl g0)))))) rfl)) ?_
        refine l_step (y_moveV (et (gS rfl (gS rfl g0)) rfl)) ?_
        refine l_step (y_idxSa ha Hvaa.underlying95 sz_5 (et (gS rfl g0) rfl) (et g0 rfl) ?_) ?_
        omega
        refine l_step (y_load1 one_5 (et g0 rfl) (at1 (row_byte hr (by omega)))) ?_
        refine l_step (y_moveV (et (gS rfl (gS rfl (gS rfl (gS rfl g0)))) rfl)) ?_
        refine l_step (y_shr (et (gS rfl g0) rfl) (et g0 rfl) ?_ (shr8N ?_)) ?_
        omega
        omega
        refine l_step (y_andM 1 2 uk8 (et g0 rfl) rfl ?_ rfl rfl (by decide)) ?_
        exact Nat.lt_of_le_of_lt (Nat.div_le_self _ _) hmi
        refine l_step (y_assignV (et g0 rfl)) ?_
        refine l_nil ?_
        refine hK25 _ _ ?_
        refine fg8 0 1 7 8 9 10 11 12 (gS rfl (gS rfl (gS rfl (gS rfl (gS rfl (gS rfl (gS rfl (gS rfl (gS rfl (gS rfl (gS rfl (gS rfl (gS rfl (gS rfl g0)))))))))))))) (gS rfl (gS rfl (gS rfl (gS rfl (gS rfl (gS rfl (gS rfl (gS rfl (gS rfl (gS rfl (gS rfl (gS rfl (gS rfl g0))))))))))))) (gS rfl (gS rfl (gS rfl (gS rfl (gS rfl (gS rfl (gS rfl (gS rfl (gS rfl (gS rfl (gS rfl (gS rfl g0)))))))))))) (gS rfl (gS rfl (gS rfl (gS rfl (gS rfl (gS rfl (gS rfl (gS rfl (gS rfl (gS rfl (gS rfl g0))))))))))) (gS rfl (gS rfl (gS rfl (gS rfl (gS rfl (gS rfl (gS rfl (gS rfl (gS rfl (gS rfl g0)))))))))) (gS rfl (gS rfl (gS rfl (gS rfl (gS rfl (gS rfl (gS rfl (gS rfl (gS rfl g0))))))))) (gS rfl (gS rfl (gS rfl (gS rfl (gS rfl (gS rfl (gS rfl (gS rfl g0)))))))) g0 (fun g => ?_)
        refine c_seq (fun K26 hK26 => ?_)
        refine c_seq (fun K27 hK27 => ?_)
        refine c_region ?_
        refine l_step (y_moveV (et (gS rfl (gS rfl (gS rfl (gS rfl g0)))) rfl)) ?_
        refine l_step (y_len Hvaa.underlying95 (et g0 rfl)) ?_
        refine l_step y_moveC ?_
        refine l_nil ?_
        refine hK27 _ _ ?_
        refine c_block (fun Q28 hQ28 => ?_)
        refine fg11 0 1 7 8 9 10 11 12 50 51 52 (gS rfl (gS rfl (gS rfl (gS rfl (gS rfl (gS rfl (gS rfl (gS rfl (gS rfl (gS rfl g0)))))))))) (gS rfl (gS rfl (gS rfl (gS rfl (gS rfl (gS rfl (gS rfl (gS rfl (gS rfl g0))))))))) (gS rfl (gS rfl (gS rfl (gS rfl (gS rfl (gS rfl (gS rfl (gS rfl g0)))))))) (gS rfl (gS rfl (gS rfl (gS rfl (gS rfl (gS rfl (gS rfl g0))))))) (gS rfl (gS rfl (gS rfl (gS rfl (gS rfl (gS rfl g0)))))) (gS rfl (gS rfl (gS rfl (gS rfl (gS rfl g0))))) (gS rfl (gS rfl (gS rfl (gS rfl g0)))) (gS rfl (gS rfl (gS rfl g0))) (gS rfl (gS rfl g0)) (gS rfl g0) g0 (fun g => ?_)
        replace k13 : Blk W17 b13 (bL ([] ++ R.drop ([] : List Nat).length)).toArray := k13
        refine c_loop (fun k_ s_ W29 => ∃ (g : Nat → Value) (P : List Nat) (C : Nat), s_ = (upd (upd (upd (upd (upd (upd (upd (upd (upd (upd (upd g 0 (.slice a m.length m.length)) 1 (.slice a1 p.length p.length)) 7 (.slice (some ⟨b11, 0, none⟩) m.length m.length)) 8 (.slice (some ⟨b13, 0, none⟩) (p.length + 1) (p.length + 1))) 9 (.int .i64 (i' + 1 : Nat))) 10 (.int .i64 (i' / 8 : Nat))) 11 (.int .u64 (i' % 8 : Nat))) 12 (.int .u8 (C : Nat))) 50 (.slice (some ⟨b13, 0, none⟩) (p.length + 1) (p.length + 1))) 51 (.int .i64 (p.length + 1 : Nat))) 52 (.int .i64 (P.length : Nat))) ∧ R.length - P.length = k_ ∧ (P.length ≤ R.length) ∧ (Dig 256 P) ∧ (C ≤ 1) ∧ (val 256 P + C * 256 ^ P.length = 2 * val 256 (R.take P.length) + m[i' / 8] / 2 ^ (i' % 8) % 2) ∧ Blk W29 b13 ((bL (P ++ R.drop P.length)).toArray) ∧ Ch (fun k => k = b13) W17 W29) (R.length - (([] : List Nat)).length) ?_ ?_
        · exact ⟨g, ([] : List Nat), (m[i' / 8] / 2 ^ (i' % 8) % 2), rfl, rfl, Nat.zero_le _, Dig.nil _, by omega, by simp [val], k13, Ch.refl _ _⟩
        · skip
          intro k_ s_ W29 hI K29 hK29
          obtain ⟨g, P, C, rfl, rfl, hPl, hPd, hC, hPv, nk13, V29⟩ := hI
          replace k11 := k11.ch V29 (by omega)
          replace hW := hW.ch V29 (by first | omega | (intro q hq; omega))
          replace hX := hX.ch V29 (by first | omega | (intro q hq; omega))
          replace hW2 := hW2.ch V29 (by first | omega | (intro q hq; omega))
          replace hX2 := hX2.ch V29 (by first | omega | (intro q hq; omega))
          replace k13 := nk13
          replace V17 := V17.cc V29 (by intro b hb; first | exact hb.elim | omega)
          replace U := U.cc V29 (by intro b hb; first | exact hb.elim | omega | (simp at hb ⊢; omega))
          refine c_seq (fun K30 hK30 => ?_)
          refine c_region ?_
          refine l_step (y_lss (et g0 rfl) (et (gS rfl g0) rfl)) ?_
          refine l_nil ?_
          refine hK30 _ _ ?_
          refine c_seq (fun K31 hK31 => ?_)
          refine c_cond (et g0 rfl) (fun cB3 => ?_) (fun cB3 => ?_)
          · skip
            simp only [decide_eq_true_eq, decide_eq_false_iff_not, Int.not_lt, Int.not_le, Bool.not_eq_true', Bool.not_eq_false', Bool.not_eq_eq_eq_not, Bool.not_true, Bool.not_false] at cB3
            have hPR : P.length < R.length := by omega
            have hRi := hRd _ (List.getElem_mem (l := R) (n := P.length) hPR)
            rw [List.drop_eq_getElem_cons hPR] at k13
            refine c_skip ?_
            refine hK31 _ _ ?_
            refine fg11 0 1 7 8 9 10 11 12 50 51 52 (gS rfl (gS rfl (gS rfl (gS rfl (gS rfl (gS rfl (gS rfl (gS rfl (gS rfl (gS rfl (gS rfl g0))))))))))) (gS rfl (gS rfl (gS rfl (gS rfl (gS rfl (gS rfl (gS rfl (gS rfl (gS rfl (gS rfl g0)))))))))) (gS rfl (gS rfl (gS rfl (gS rfl (gS rfl (gS rfl (gS rfl (gS rfl (gS rfl g0))))))))) (gS rfl (gS rfl (gS rfl (gS rfl (gS rfl (gS rfl (gS rfl (gS rfl g0)))))))) (gS rfl (gS rfl (gS rfl (gS rfl (gS rfl (gS rfl (gS rfl g0))))))) (gS rfl (gS rfl (gS rfl (gS rfl (gS rfl (gS rfl g0)))))) (gS rfl (gS rfl (gS rfl (gS rfl (gS rfl g0))))) (gS rfl (gS rfl (gS rfl (gS rfl g0)))) (gS rfl (gS rfl (gS rfl g0))) (gS rfl (gS rfl g0)) (gS rfl g0) (fun g => ?_)
            refine c_seq (fun K33 hK33 => ?_)
            refine c_block (fun Q34 hQ34 => ?_)
            refine c_seq (fun K35 hK35 => ?_)
            refine c_region ?_
            refine l_step (y_moveV (et g0 rfl)) ?_
            refine l_step (y_idxSa rfl Hvaa.underlying95 sz_5 (et (gS rfl (gS rfl (gS rfl g0))) rfl) (et (gS rfl g0) rfl) ?_) ?_
            omega
            refine l_step (y_load1 one_5 (et g0 rfl) (at1 (k13.cell (bL_get P _ _ _ (by omega))))) ?_
            refine l_step (y_assignV (et (gS rfl (gS rfl g0)) rfl)) ?_
            refine l_step (y_assignV (et (gS rfl g0) rfl)) ?_
            refine l_nil ?_
            refine hK35 _ _ ?_
            refine fg13 0 1 7 8 9 10 11 12 50 51 52 13 14 (gS rfl (gS rfl (gS rfl (gS rfl (gS rfl (gS rfl (gS rfl (gS rfl (gS rfl (gS rfl (gS rfl (gS rfl (gS rfl (gS rfl (gS rfl g0))))))))))))))) (gS rfl (gS rfl (gS rfl (gS rfl (gS rfl (gS rfl (gS rfl (gS rfl (gS rfl (gS rfl (gS rfl (gS rfl (gS rfl (gS rfl g0)))))))))))))) (gS rfl (gS rfl (gS rfl (gS rfl (gS rfl (gS rfl (gS rfl (gS rfl (gS rfl (gS rfl (gS rfl (gS rfl (gS rfl g0))))))))))))) (gS rfl (gS rfl (gS rfl (gS rfl (gS rfl (gS rfl (gS rfl (gS rfl (gS rfl (gS rfl (gS rfl (gS rfl g0)))))))))))) (gS rfl (gS rfl (gS rfl (gS rfl (gS rfl (gS rfl (gS rfl (gS rfl (gS rfl (gS rfl (gS rfl g0))))))))))) (gS rfl (gS rfl (gS rfl (gS rfl (gS rfl (gS rfl (gS rfl (gS rfl (gS rfl (gS rfl g0)))))))))) (gS rfl (gS rfl (gS rfl (gS rfl (gS rfl (gS rfl (gS rfl (gS rfl (gS rfl g0))))))))) (gS rfl (gS rfl (gS rfl (gS rfl (gS rfl (gS rfl (gS rfl (gS rfl g0)))))))) (gS rfl (gS rfl (gS rfl (gS rfl (gS rfl (gS rfl (gS rfl g0))))))) (gS rfl (gS rfl (gS rfl (gS rfl (gS rfl (gS rfl g0)))))) (gS rfl (gS rfl (gS rfl (gS rfl (gS rfl g0))))) (gS rfl g0) g0 (fun g => ?_)
            refine c_seq (fun K36 hK36 => ?_)
            refine c_region ?_
            refine l_step (y_moveV (et (gS rfl (gS rfl (gS rfl (gS rfl (gS rfl (gS rfl (gS rfl (gS rfl (gS rfl g0))))))))) rfl)) ?_
            refine l_step (y_moveV (et (gS rfl (gS rfl g0)) rfl)) ?_
            refine l_step (y_moveV (et (gS rfl (gS rfl g0)) rfl)) ?_
            refine l_step (y_shl (et g0 rfl) rfl (by decide) (shl8C 1 2 (by decide) rfl)) ?_
            refine l_step (y_moveV (et (gS rfl (gS rfl (gS rfl (gS rfl (gS rfl (gS rfl (gS rfl (gS rfl (gS rfl g0))))))))) rfl)) ?_
            refine l_step (y_orR 1 uk8 (et (gS rfl g0) rfl) (et g0 rfl) ?_ ?_ ?_ ?_) ?_
            omega
            omega
            omega
            omega
            refine l_step (y_idxSa rfl Hvaa.underlying95 sz_5 (et (gS rfl (gS rfl (gS rfl (gS rfl (gS rfl g0))))) rfl) (et (gS rfl (gS rfl (gS rfl (gS rfl g0)))) rfl) ?_) ?_
            omega
            refine l_effN (e_store sz_5 (et g0 rfl) (cellsV (et (gS rfl g0) rfl) rfl) rfl (by first | exact one_bL _ | exact one_uL _ | (intro v hv; simp at hv; subst hv; rfl)) k13 (by (simp only [List.size_toArray, length_bL, List.length_append, List.length_cons, List.length_drop, List.length_take, List.length_replicate]; omega))) (fun v37 w37 h37 => ?_)
            obtain ⟨rfl, x37⟩ := h37
            replace k11 := k11.ch x37.ch (by omega)
            replace hW := hW.ch x37.ch (by first | omega | first | omega | (intro q hq; omega))
            replace hX := hX.ch x37.ch (by first | omega | first | omega | (intro q hq; omega))
            replace k13 := x37.blk
            replace hW2 := hW2.wr x37 (by omega)
            replace hX2 := hX2.wr x37 (by omega)
            replace U := U.st x37 f13
            replace V17 := V17.st x37 (by omega)
            replace V29 := V29.st x37 (by omega)
            replace k13 := Blk.setB k13 (by omega)
            replace k13 : Blk w37 b13 (bL ((P ++ [R[P.length] * 2 % 256 + C]) ++ R.drop (P ++ [R[P.length] * 2 % 256 + C]).length)).toArray := by simpa using k13
            refine l_nil ?_
            refine hK36 _ _ ?_
            refine fg11 0 1 7 8 9 10 11 50 51 52 14 (gS rfl (gS rfl (gS rfl (gS rfl (gS rfl (gS rfl (gS rfl (gS rfl (gS rfl (gS rfl (gS rfl (gS rfl (gS rfl (gS rfl (gS rfl (gS rfl (gS rfl (gS rfl (gS rfl g0))))))))))))))))))) (gS rfl (gS rfl (gS rfl (gS rfl (gS rfl (gS rfl (gS rfl (gS rfl (gS rfl (gS rfl (gS rfl (gS rfl (gS rfl (gS rfl (gS rfl (gS rfl (gS rfl (gS rfl g0)))))))))))))))))) (gS rfl (gS rfl (gS rfl (gS rfl (gS rfl (gS rfl (gS rfl (gS rfl (gS rfl (gS rfl (gS rfl (gS rfl (gS rfl (gS rfl (gS rfl (gS rfl (gS rfl g0))))))))))))))))) (gS rfl (gS rfl (gS rfl (gS rfl (gS rfl (gS rfl (gS rfl (gS rfl (gS rfl (gS rfl (gS rfl (gS rfl (gS rfl (gS rfl (gS rfl (gS rfl g0)))))))))))))))) (gS rfl (gS rfl (gS rfl (gS rfl (gS rfl (gS rfl (gS rfl (gS rfl (gS rfl (gS rfl (gS rfl (gS rfl (gS rfl (gS rfl (gS rfl g0))))))))))))))) (gS rfl (gS rfl (gS rfl (gS rfl (gS rfl (gS rfl (gS rfl (gS rfl (gS rfl (gS rfl (gS rfl (gS rfl (gS rfl (gS rfl g0)))))))))))))) (gS rfl (gS rfl (gS rfl (gS rfl (gS rfl (gS rfl (gS rfl (gS rfl (gS rfl (gS rfl (gS rfl (gS rfl (gS rfl g0))))))))))))) (gS rfl (gS rfl (gS rfl (gS rfl (gS rfl (gS rfl (gS rfl (gS rfl (gS rfl (gS rfl (gS rfl g0))))))))))) (gS rfl (gS rfl (gS rfl (gS rfl (gS rfl (gS rfl (gS rfl (gS rfl (gS rfl (gS rfl g0)))))))))) (gS rfl (gS rfl (gS rfl (gS rfl (gS rfl (gS rfl (gS rfl (gS rfl (gS rfl g0))))))))) (gS rfl (gS rfl (gS rfl (gS rfl (gS rfl (gS rfl (gS rfl g0))))))) (fun g => ?_)
            refine c_region ?_
            refine l_step (y_moveV (et g0 rfl)) ?_
            refine l_step (y_shr (et g0 rfl) rfl (by decide) (shr8C 7 128 (by decide) rfl)) ?_
            refine l_step (y_assignV (et g0 rfl)) ?_
            refine l_nil ?_
            refine hQ34 _ _ _ (in_normal ?_)
            refine hK33 _ _ ?_
            refine fg11 0 1 7 8 9 10 11 50 51 52 12 (gS rfl (gS rfl (gS rfl (gS rfl (gS rfl (gS rfl (gS rfl (gS rfl (gS rfl (gS rfl (gS rfl (gS rfl (gS rfl g0))))))))))))) (gS rfl (gS rfl (gS rfl (gS rfl (gS rfl (gS rfl (gS rfl (gS rfl (gS rfl (gS rfl (gS rfl (gS rfl g0)))))))))))) (gS rfl (gS rfl (gS rfl (gS rfl (gS rfl (gS rfl (gS rfl (gS rfl (gS rfl (gS rfl (gS rfl g0))))))))))) (gS rfl (gS rfl (gS rfl (gS rfl (gS rfl (gS rfl (gS rfl (gS rfl (gS rfl (gS rfl g0)))))))))) (gS rfl (gS rfl (gS rfl (gS rfl (gS rfl (gS rfl (gS rfl (gS rfl (gS rfl g0))))))))) (gS rfl (gS rfl (gS rfl (gS rfl (gS rfl (gS rfl (gS rfl (gS rfl g0)))))))) (gS rfl (gS rfl (gS rfl (gS rfl (gS rfl (gS rfl (gS rfl g0))))))) (gS rfl (gS rfl (gS rfl (gS rfl (gS rfl (gS rfl g0)))))) (gS rfl (gS rfl (gS rfl (gS rfl (gS rfl g0))))) (gS rfl (gS rfl (gS rfl (gS rfl g0)))) g0 (fun g => ?_)
            refine c_region ?_
            refine l_step (y_add (et (gS rfl g0) rfl) rfl ((addIN (y := 1) ?_).trans (castE (show P.length + 1 = (P ++ [R[P.length] * 2 % 256 + C]).length by simp)))) ?_
            omega
            refine l_step (y_moveV (et g0 rfl)) ?_
            refine l_nil ?_
            refine fK11 0 1 7 8 9 10 11 12 50 51 52 (gS rfl (gS rfl (gS rfl (gS rfl (gS rfl (gS rfl (gS rfl (gS rfl (gS rfl (gS rfl (gS rfl (gS rfl g0)))))))))))) (gS rfl (gS rfl (gS rfl (gS rfl (gS rfl (gS rfl (gS rfl (gS rfl (gS rfl (gS rfl (gS rfl g0))))))))))) (gS rfl (gS rfl (gS rfl (gS rfl (gS rfl (gS rfl (gS rfl (gS rfl (gS rfl (gS rfl g0)))))))))) (gS rfl (gS rfl (gS rfl (gS rfl (gS rfl (gS rfl (gS rfl (gS rfl (gS rfl g0))))))))) (gS rfl (gS rfl (gS rfl (gS rfl (gS rfl (gS rfl (gS rfl (gS rfl g0)))))))) (gS rfl (gS rfl (gS rfl (gS rfl (gS rfl (gS rfl (gS rfl g0))))))) (gS rfl (gS rfl (gS rfl (gS rfl (gS rfl (gS rfl g0)))))) (gS rfl (gS rfl g0)) (gS rfl (gS rfl (gS rfl (gS rfl (gS rfl g0))))) (gS rfl (gS rfl (gS rfl (gS rfl g0)))) g0 (fun g => ?_)
            exact hK29 (R.length - ((P ++ [R[P.length] * 2 % 256 + C])).length) _ _ (by simp; omega) ⟨g, (P ++ [R[P.length] * 2 % 256 + C]), (R[P.length] / 128), rfl, rfl, by simp; omega, hPd.app (Dig.one (by omega)), by omega, dbl_inv (by omega) hC hRi hPv, k13, V29⟩
          · skip
            simp only [decide_eq_true_eq, decide_eq_false_iff_not, Int.not_lt, Int.not_le, Bool.not_eq_true', Bool.not_eq_false', Bool.not_eq_eq_eq_not, Bool.not_true, Bool.not_false] at cB3
            have hPR : P.length = p.length + 1 := by omega
            rw [List.drop_of_length_le (by omega), List.append_nil] at k13
            have hP2 := dbl_done hPR hRl (by omega) hC hRy hyl hPv
            rw [← hbv] at hP2
            refine c_exit ?_
            refine hQ28 _ _ _ (in_exit ?_)
            refine hK26 _ _ ?_
            refine fg7 0 1 7 8 9 10 11 (gS rfl (gS rfl (gS rfl (gS rfl (gS rfl (gS rfl (gS rfl (gS rfl (gS rfl (gS rfl (gS rfl g0))))))))))) (gS rfl (gS rfl (gS rfl (gS rfl (gS rfl (gS rfl (gS rfl (gS rfl (gS rfl (gS rfl g0)))))))))) (gS rfl (gS rfl (gS rfl (gS rfl (gS rfl (gS rfl (gS rfl (gS rfl (gS rfl g0))))))))) (gS rfl (gS rfl (gS rfl (gS rfl (gS rfl (gS rfl (gS rfl (gS rfl g0)))))))) (gS rfl (gS rfl (gS rfl (gS rfl (gS rfl (gS rfl (gS rfl g0))))))) (gS rfl (gS rfl (gS rfl (gS rfl (gS rfl (gS rfl g0)))))) (gS rfl (gS rfl (gS rfl (gS rfl (gS rfl g0))))) (fun g => ?_)
            refine c_seq (fun K38 hK38 => ?_)
            refine c_region ?_
            refine l_step (y_moveV (et (gS rfl (gS rfl (gS rfl g0))) rfl)) ?_
            refine l_step (y_moveV (et (gS rfl (gS rfl (gS rfl (gS rfl (gS rfl (gS rfl g0)))))) rfl)) ?_
            have hWr : WV (b13 + 1) W29 (.slice (some ⟨b13, 0, none⟩) P.length (p.length + 1)) P := WV.ofBlk (r := []) (by simpa [bL] using k13) hPd (by omega) (by omega) (by omega)
            have hlt8 := k13.lt
            have hcmp := cmp_raw _ _ _ P _ hWr (by omega) (by omega) (by omega) _ _ _ p hX2 (by have := U.size; omega) (by omega) (by omega)
            rw [hPR] at hcmp
            refine l_eff (e_callV cal_121 (aC (et (gS rfl g0) rfl) (aC (et g0 rfl) aN)) hcmp) (fun v39 w39 h39 => ?_)
            obtain ⟨rfl, u39⟩ := h39
            replace k11 := k11.up u39
            replace k13 := k13.up u39
            replace hW := hW.up u39
            replace hX := hX.up u39
            replace hW2 := hW2.up u39
            replace hX2 := hX2.up u39
            replace U := U.tr u39
            replace V17 := V17.tr u39
            refine l_step (y_geq (et g0 rfl) rfl) ?_
            refine l_nil ?_
            refine hK38 _ _ ?_
            refine fg8 0 1 7 8 9 10 11 70 (gS rfl (gS rfl (gS rfl (gS rfl (gS rfl (gS rfl (gS rfl (gS rfl (gS rfl (gS rfl g0)))))))))) (gS rfl (gS rfl (gS rfl (gS rfl (gS rfl (gS rfl (gS rfl (gS rfl (gS rfl g0))))))))) (gS rfl (gS rfl (gS rfl (gS rfl (gS rfl (gS rfl (gS rfl (gS rfl g0)))))))) (gS rfl (gS rfl (gS rfl (gS rfl (gS rfl (gS rfl (gS rfl g0))))))) (gS rfl (gS rfl (gS rfl (gS rfl (gS rfl (gS rfl g0)))))) (gS rfl (gS rfl (gS rfl (gS rfl (gS rfl g0))))) (gS rfl (gS rfl (gS rfl (gS rfl g0)))) g0 (fun g => ?_)
            refine c_cond (et g0 rfl) (fun cB4 => ?_) (fun cB4 => ?_)
            · skip
              
              have hge : val 256 p ≤ val 256 P := by
                have h1 := of_decide_eq_true cB4
                unfold cmpN at h1
                split at h1
                · omega
                · omega
              have hnew0 := bit_yes hy hQv hRv hP2 hge
              refine c_seq (fun K41 hK41 => ?_)
              refine c_region ?_
              refine l_step (y_moveV (et (gS rfl (gS rfl (gS rfl (gS rfl g0)))) rfl)) ?_
              refine l_step (y_moveV (et (gS rfl (gS rfl (gS rfl (gS rfl (gS rfl (gS rfl (gS rfl g0))))))) rfl)) ?_
              have f8 := f13
              have htk := take_raw b13 (p.length + 1) P hPd _ k13 (by omega) _ _ _ p hX2 (by omega)
              rw [hPR, take_ge (show p.length ≤ p.length + 1 by omega)] at htk
              refine l_eff (e_callV cal_216 (aC (et (gS rfl g0) rfl) (aC (et g0 rfl) aN)) htk) (fun v42 w42 h42 => ?_)
              obtain ⟨l', B, rfl, hll, hd', hval, hB, k8', c42⟩ := h42
              replace k11 := k11.ch c42 (by first | omega | (intro q hq; omega))
              replace hW := hW.ch c42 (by first | omega | (intro q hq; omega))
              replace hX := hX.ch c42 (by first | omega | (intro q hq; omega))
              replace hW2 := hW2.ch c42 (by first | omega | (intro q hq; omega))
              replace hX2 := hX2.ch c42 (by first | omega | (intro q hq; omega))
              replace k13 := k8'
              replace V17 := V17.cc c42 (by intro b hb; first | omega | (simp at hb ⊢; omega))
              replace U := U.cc c42 (by intro b hb; first | exact hb ▸ f13 | omega)
              have hB0 : B = 0 := sub_noborrow hd' (l := P) (by rw [hPR]; exact hval) hge (by omega) hB
              subst hB0
              have hQat : i' / 8 < Q.length := by omega
              have hlow := low_zero hQd hQat hQv
              have hqd := hQd _ (List.getElem_mem (l := Q) (n := i' / 8) hQat)
              have hm8 : i' % 8 < 8 := Nat.mod_lt _ (by decide)
              have hnd := new_dig hqd hm8 hlow
              have hvs := val_set (v := Q[i' / 8] + 2 ^ (i' % 8)) hQat
              have hp2 := pow_at' i'
              have hnew : val 256 (Q.set (i' / 8) (Q[i' / 8] + 2 ^ (i' % 8))) = val 256 m / 2 ^ i' / val 256 p * 2 ^ i' ∧ val 256 l' = val 256 m / 2 ^ i' % val 256 p := by
                rw [Nat.mul_add, ← hp2] at hvs
                exact ⟨by rw [← hnew0.1]; omega, by rw [← hnew0.2]; omega⟩
              have hpd := pow_dig hm8
              have hpl := pow_lt8 hm8
              have k7' := k11
              rw [get_split hQat] at k7'
              refine l_nil ?_
              refine hK41 _ _ ?_
              refine fg7 0 1 7 8 9 10 11 (gS rfl (gS rfl (gS rfl (gS rfl (gS rfl (gS rfl (gS rfl (gS rfl (gS rfl (gS rfl g0)))))))))) (gS rfl (gS rfl (gS rfl (gS rfl (gS rfl (gS rfl (gS rfl (gS rfl (gS rfl g0))))))))) (gS rfl (gS rfl (gS rfl (gS rfl (gS rfl (gS rfl (gS rfl (gS rfl g0)))))))) (gS rfl (gS rfl (gS rfl (gS rfl (gS rfl (gS rfl (gS rfl g0))))))) (gS rfl (gS rfl (gS rfl (gS rfl (gS rfl (gS rfl g0)))))) (gS rfl (gS rfl (gS rfl (gS rfl (gS rfl g0))))) (gS rfl (gS rfl (gS rfl (gS rfl g0)))) (fun g => ?_)
              refine c_region ?_
              refine l_step (y_moveV (et (gS rfl (gS rfl (gS rfl (gS rfl g0)))) rfl)) ?_
              refine l_step (y_moveV (et (gS rfl (gS rfl g0)) rfl)) ?_
              refine l_step (y_idxSa rfl Hvaa.underlying95 sz_5 (et (gS rfl g0) rfl) (et g0 rfl) ?_) ?_
              omega
              refine l_step (y_load1 one_5 (et g0 rfl) (at1 (k7'.cell (bL_get (Q.take (i' / 8)) _ _ _ (by simp; omega))))) ?_
              refine l_step (y_moveV (et (gS rfl (gS rfl (gS rfl (gS rfl g0)))) rfl)) ?_
              refine l_step (y_shl rfl (et g0 rfl) ?_ ((shl8N ?_).trans (castE hpl))) ?_
              omega
              omega
              refine l_step (y_orR (i' % 8 + 1) uk8 (et (gS rfl (gS rfl g0)) rfl) (et g0 rfl) ?_ ?_ ?_ ?_) ?_
              exact Nat.pow_lt_pow_right (by decide) (by omega)
              exact hlow
              omega
              omega
              refine l_step (y_idxSa rfl Hvaa.underlying95 sz_5 (et (gS rfl (gS rfl (gS rfl (gS rfl (gS rfl (gS rfl g0)))))) rfl) (et (gS rfl (gS rfl (gS rfl (gS rfl (gS rfl g0))))) rfl) ?_) ?_
              omega
              refine l_effN (e_store sz_5 (et g0 rfl) (cellsV (et (gS rfl g0) rfl) rfl) rfl (by first | exact one_bL _ | exact one_uL _ | (intro v hv; simp at hv; subst hv; rfl)) k11 (by (simp only [List.size_toArray, length_bL]; omega))) (fun v43 w43 h43 => ?_)
              obtain ⟨rfl, x43⟩ := h43
              replace k13 := k13.ch x43.ch (by omega)
              replace hW := hW.ch x43.ch (by first | omega | first | omega | (intro q hq; omega))
              replace hX := hX.ch x43.ch (by first | omega | first | omega | (intro q hq; omega))
              replace k11 := x43.blk
              replace hW2 := hW2.wr x43 (by omega)
              replace hX2 := hX2.wr x43 (by omega)
              replace U := U.st x43 f11
              replace V17 := V17.st x43 (by omega)
              replace k11 := Blk.setI k11 (by omega) hQat
              refine l_nil ?_
              refine hQ22 _ _ _ (in_normal ?_)
              refine hK21 _ _ ?_
              refine fg5 0 1 7 8 9 (gS rfl (gS rfl (gS rfl (gS rfl (gS rfl (gS rfl (gS rfl (gS rfl (gS rfl (gS rfl (gS rfl (gS rfl (gS rfl (gS rfl g0)))))))))))))) (gS rfl (gS rfl (gS rfl (gS rfl (gS rfl (gS rfl (gS rfl (gS rfl (gS rfl (gS rfl (gS rfl (gS rfl (gS rfl g0))))))))))))) (gS rfl (gS rfl (gS rfl (gS rfl (gS rfl (gS rfl (gS rfl (gS rfl (gS rfl (gS rfl (gS rfl (gS rfl g0)))))))))))) (gS rfl (gS rfl (gS rfl (gS rfl (gS rfl (gS rfl (gS rfl (gS rfl (gS rfl (gS rfl (gS rfl g0))))))))))) (gS rfl (gS rfl (gS rfl (gS rfl (gS rfl (gS rfl (gS rfl (gS rfl (gS rfl (gS rfl g0)))))))))) (fun g => ?_)
              refine c_region ?_
              refine l_step (y_moveV (et g0 rfl)) ?_
              refine l_step (y_sub (et g0 rfl) rfl ((subIN (y := 1) ?_ ?_).trans (castE (show i' + 1 - 1 = i' by omega)))) ?_
              omega
              omega
              refine l_step (y_assignV (et g0 rfl)) ?_
              refine l_nil ?_
              refine fK5 0 1 7 8 9 (gS rfl (gS rfl (gS rfl (gS rfl (gS rfl (gS rfl (gS rfl g0))))))) (gS rfl (gS rfl (gS rfl (gS rfl (gS rfl (gS rfl g0)))))) (gS rfl (gS rfl (gS rfl (gS rfl (gS rfl g0))))) (gS rfl (gS rfl (gS rfl (gS rfl g0)))) g0 (fun g => ?_)
              exact hK17 ((i')) _ _ (by omega) ⟨g, (Q.set (i' / 8) (Q[i' / 8] + 2 ^ (i' % 8))), l', i', rfl, rfl, by omega, by simp; omega, by omega, hQd.set hnd, hd', hnew.1, hnew.2, k11, k13, V17⟩
            · skip
              
              have hge : val 256 P < val 256 p := by
                have h1 := of_decide_eq_false cB4
                unfold cmpN at h1
                split at h1
                · assumption
                · split at h1 <;> omega
              have hnew := bit_no hy hQv hRv hP2 hge
              refine c_skip ?_
              refine hQ22 _ _ _ (in_normal ?_)
              refine hK21 _ _ ?_
              refine fg5 0 1 7 8 9 (gS rfl (gS rfl (gS rfl (gS rfl (gS rfl (gS rfl (gS rfl g0))))))) (gS rfl (gS rfl (gS rfl (gS rfl (gS rfl (gS rfl g0)))))) (gS rfl (gS rfl (gS rfl (gS rfl (gS rfl g0))))) (gS rfl (gS rfl (gS rfl (gS rfl g0)))) (gS rfl (gS rfl (gS rfl g0))) (fun g => ?_)
              refine c_region ?_
              refine l_step (y_moveV (et g0 rfl)) ?_
              refine l_step (y_sub (et g0 rfl) rfl ((subIN (y := 1) ?_ ?_).trans (castE (show i' + 1 - 1 = i' by omega)))) ?_
              omega
              omega
              refine l_step (y_assignV (et g0 rfl)) ?_
              refine l_nil ?_
              refine fK5 0 1 7 8 9 (gS rfl (gS rfl (gS rfl (gS rfl (gS rfl (gS rfl (gS rfl g0))))))) (gS rfl (gS rfl (gS rfl (gS rfl (gS rfl (gS rfl g0)))))) (gS rfl (gS rfl (gS rfl (gS rfl (gS rfl g0))))) (gS rfl (gS rfl (gS rfl (gS rfl g0)))) g0 (fun g => ?_)
              exact hK17 ((i')) _ _ (by omega) ⟨g, Q, P, i', rfl, rfl, by omega, hQl, by omega, hQd, hPd, hnew.1, hnew.2, k11, k13, V17⟩
      · skip
        simp only [decide_eq_true_eq, decide_eq_false_iff_not, Int.not_lt, Int.not_le, Bool.not_eq_true', Bool.not_eq_false', Bool.not_eq_eq_eq_not, Bool.not_true, Bool.not_false] at cB2
        have hi0 : i = 0 := by omega
        subst hi0
        simp only [Nat.pow_zero, Nat.div_one, Nat.mul_one] at hQv hRv
        refine c_exit ?_
        refine hQ16 _ _ _ (in_exit ?_)
        refine hK14 _ _ ?_
        refine fg2 7 8 (gS rfl (gS rfl (gS rfl g0))) (gS rfl (gS rfl g0)) (fun g => ?_)
        refine c_seq (fun K44 hK44 => ?_)
        refine c_region ?_
        refine l_step (y_moveV (et (gS rfl g0) rfl)) ?_
        rw [← hQl]
        have f7 := f11
        refine l_eff (e_callV cal_89 (aC (et g0 rfl) aN) (clip_fb hQd f7 k11 (by omega))) (fun v45 w45 h45 => ?_)
        obtain ⟨lq, u45, hfq, hvq, hTq⟩ := h45
        replace k11 := k11.up u45
        replace k13 := k13.up u45
        replace hW := hW.up u45
        replace hX := hX.up u45
        replace hW2 := hW2.up u45
        replace hX2 := hX2.up u45
        replace U := U.tr u45
        refine l_step (y_moveV (et (gS rfl (gS rfl g0)) rfl)) ?_
        rw [← hRl]
        have f8 := f13
        refine l_eff (e_callV cal_89 (aC (et g0 rfl) aN) (clip_fb hRd f8 k13 (by omega))) (fun v46 w46 h46 => ?_)
        obtain ⟨lr, u46, hfr, hvr, hTr⟩ := h46
        replace k11 := k11.up u46
        replace k13 := k13.up u46
        replace hW := hW.up u46
        replace hX := hX.up u46
        replace hW2 := hW2.up u46
        replace hX2 := hX2.up u46
        replace hfq := hfq.up u46
        replace U := U.tr u46
        refine l_step (y_assignV (et (gS rfl (gS rfl g0)) rfl)) ?_
        refine l_step (y_assignV (et (gS rfl g0) rfl)) ?_
        refine l_step y_assignC ?_
        refine l_nil ?_
        refine hK44 _ _ ?_
        refine fg3 4 5 6 (gS rfl (gS rfl g0)) (gS rfl g0) g0 (fun g => ?_)
        refine c_ret ?_
        refine ret3 rfl (res_tmp (et (gS rfl (gS rfl g0)) rfl)) (res_tmp (et (gS rfl g0) rfl)) (res_tmp (et g0 rfl)) ?_
        refine ⟨_, _, _, rfl, U, .inr ⟨rfl, by omega, lq, lr, hfq, hfr, by rw [hvq, hQv, hv, hv1], by rw [hvr, hRv, hv, hv1], hTq, hTr⟩⟩
end Go.Proofs.YgvaawGreat
