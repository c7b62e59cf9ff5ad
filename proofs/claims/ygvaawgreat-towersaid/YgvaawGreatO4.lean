import Derived.Test.YgvaawGreatRa
set_option maxRecDepth 100000
set_option maxHeartbeats 4000000
set_option linter.unusedSimpArgs false
set_option linter.unusedVariables false
namespace Go.Proofs.YgvaawGreat
open Go
/-! addTo: a sum of two words of bytes, in place. -/
def adS (a y m : Nat) : Nat := a % 256 ^ m + y % 256 ^ m
theorem ad_succ (a y m : Nat) : adS a y (m + 1) = (a / 256 ^ m % 256 + y / 256 ^ m % 256) * 256 ^ m + adS a y m := by
  unfold adS
  have h : ∀ z : Nat, z % 256 ^ (m + 1) = z / 256 ^ m % 256 * 256 ^ m + z % 256 ^ m := fun z => by
    rw [Nat.pow_succ, Nat.mod_mul, Nat.mul_comm (256 ^ m), Nat.add_comm]
  rw [h a, h y, Nat.add_mul]
  omega
theorem ad_car (a y m : Nat) : adS a y (m + 1) / 256 ^ (m + 1) = (adS a y m / 256 ^ m + (a / 256 ^ m % 256 + y / 256 ^ m % 256)) / 256 := by
  rw [Nat.pow_succ, ← Nat.div_div_eq_div_mul, ad_succ, Nat.add_comm, Nat.add_mul_div_right _ _ (Nat.pow_pos (by decide))]
theorem ad_dig (a y m : Nat) : adS a y (m + 1) / 256 ^ m = adS a y m / 256 ^ m + (a / 256 ^ m % 256 + y / 256 ^ m % 256) := by
  rw [ad_succ, Nat.add_comm, Nat.add_mul_div_right _ _ (Nat.pow_pos (by decide))]
theorem ad_lt (a y m : Nat) : adS a y m / 256 ^ m ≤ 1 := by
  have hp : 0 < 256 ^ m := Nat.pow_pos (by decide)
  have h1 := Nat.mod_lt a hp
  have h2 := Nat.mod_lt y hp
  have : adS a y m / 256 ^ m < 2 := by
    rw [Nat.div_lt_iff_lt_mul hp]
    unfold adS
    omega
  omega
theorem be_nil (x : Nat) : be 0 x = [] := rfl
theorem be_snoc (i z : Nat) : be (i + 1) z = be i (z / 256) ++ [z % 256] := by
  have h := be_split i 1 z
  rw [Nat.pow_one] at h
  rw [h]
  congr 1
theorem be_ad (a y m : Nat) : be (m + 1) (adS a y (m + 1)) = (adS a y m / 256 ^ m + (a / 256 ^ m % 256 + y / 256 ^ m % 256)) % 256 :: be m (adS a y m) := by
  have h := be_split 1 m (adS a y (m + 1))
  rw [Nat.add_comm 1 m] at h
  rw [h, ad_dig]
  have e1 : be 1 (adS a y m / 256 ^ m + (a / 256 ^ m % 256 + y / 256 ^ m % 256)) = [(adS a y m / 256 ^ m + (a / 256 ^ m % 256 + y / 256 ^ m % 256)) % 256] := by
    exact be_snoc 0 _
  have e2 : be m (adS a y (m + 1)) = be m (adS a y m) := by
    have h1 := be_ofBE (be m (adS a y (m + 1))) (be_lt _ _)
    have h2 := be_ofBE (be m (adS a y m)) (be_lt _ _)
    rw [length_be, ofBE_be] at h1 h2
    rw [← h1, ← h2, ad_succ, Nat.add_comm, Nat.add_mul_mod_self_right]
  rw [e1, e2]
  rfl
def adC (a y i : Nat) : List Value := bL (be i (a / 256 ^ (32 - i)) ++ be (32 - i) (adS a y (32 - i)))
theorem ad_a {a y i o : Nat} (h : o = i) : (adC a y (i + 1)).toArray[o]? = some (.int .u8 ((a / 256 ^ (31 - i) % 256 : Nat) : Int)) := by
  subst h
  unfold adC
  rw [show 32 - (o + 1) = 31 - o by omega, be_snoc, List.append_assoc, bL_append, List.getElem?_toArray, List.getElem?_append_right (by rw [length_bL, length_be]; exact Nat.le_refl _), length_bL, length_be, Nat.sub_self]
  rfl
theorem ad_put {a y i : Nat} (hi : i < 32) : spl (adC a y (i + 1)).toArray i [.int .u8 (((adS a y (31 - i) / 256 ^ (31 - i) + (a / 256 ^ (31 - i) % 256 + y / 256 ^ (31 - i) % 256)) % 256 : Nat) : Int)] = (adC a y i).toArray := by
  unfold adC
  rw [show 32 - (i + 1) = 31 - i by omega, be_snoc, List.append_assoc, bL_append]
  have h := spl_mid (bL (be i (a / 256 ^ (31 - i) / 256))) (bval (a / 256 ^ (31 - i) % 256)) (bL (be (31 - i) (adS a y (31 - i)))) (bval ((adS a y (31 - i) / 256 ^ (31 - i) + (a / 256 ^ (31 - i) % 256 + y / 256 ^ (31 - i) % 256)) % 256)) i (by rw [length_bL, length_be])
  refine Eq.trans h ?_
  rw [show 32 - i = (31 - i) + 1 by omega, be_ad, bL_append, Nat.div_div_eq_div_mul, ← Nat.pow_succ]
  rfl
theorem ad_b {y o j oo : Nat} {cb : Array Value} (hr : RowIn cb oo (bL (be 32 y))) (hj : j < 32) (h : o = oo + j) : cb[o]? = some (.int .u8 ((y / 256 ^ (31 - j) % 256 : Nat) : Int)) := by
  subst h
  refine hr j _ ?_
  have e := be_split (j + 1) (31 - j) y
  rw [show j + 1 + (31 - j) = 32 by omega] at e
  rw [e, be_snoc, List.append_assoc, bL_append, List.getElem?_append_right (by rw [length_bL, length_be]; exact Nat.le_refl _), length_bL, length_be, Nat.sub_self]
  rfl
theorem ad_all {a y : Nat} (ha : a < W256) (hy : y < W256) : adS a y 32 = a + y := by
  unfold adS
  have e : (256 : Nat) ^ 32 = W256 := rfl
  rw [e, Nat.mod_eq_of_lt ha, Nat.mod_eq_of_lt hy]
theorem ad_zero {a y : Nat} : (adC a y 32) = bL (be 32 a) := by
  unfold adC
  rw [Nat.sub_self, Nat.pow_zero, Nat.div_one, be_nil, List.append_nil]
theorem ad_fin {a y : Nat} (ha : a < W256) (hy : y < W256) : adC a y 0 = bL (be 32 (a + y)) := by
  unfold adC
  rw [Nat.sub_zero, ad_all ha hy, be_nil, List.nil_append]
theorem obs_addTo {w : World} {bs bb oo a y : Nat} {cb : Array Value} (kS : Blk w bs (bL (be 32 a)).toArray) (kB : RBlk w bb cb) (hrB : RowIn cb oo (bL (be 32 y))) (hne : bb ≠ bs) (ha : a < W256) (hy : y < W256) :
    Ret 86 [(.pointer (some ⟨bs, 0, none⟩)), (.pointer (some ⟨bb, oo, none⟩))] w (fun v w' => v = .bool (decide (a + y < W256)) ∧ Blk w' bs (bL (be 32 (a + y))).toArray ∧ Ch (fun k => k = bs) w w') := by
  refine enter (n := 39) Hvaa.func86 rfl rfl (Nat.le_of_ble_eq_true rfl) ?_
  have U : Ch (fun k => k = bs) w w := Ch.refl _ w
  refine c_seq (fun K1 hK1 => ?_)
  exact (by
    refine c_region ?_
    refine l_step y_assignC ?_
    refine l_nil ?_
    refine hK1 _ _ ?_
    refine fg2 1 0 (gS rfl (gS rfl g0)) (gS rfl g0) (fun g => ?_)
    refine c_seq (fun K2 hK2 => ?_)
    exact (by
      refine c_region ?_
      refine l_step y_assignC ?_
      refine l_nil ?_
      refine hK2 _ _ ?_
      refine c_seq (fun K3 hK3 => ?_)
      refine c_seq (fun K4 hK4 => ?_)
      exact (by
        refine c_region ?_
        refine l_step y_assignC ?_
        refine l_nil ?_
        refine hK4 _ _ ?_
        refine c_block (fun Q5 hQ5 => ?_)
        refine fg4 0 1 5 6 (gS rfl (gS rfl g0)) (gS rfl (gS rfl (gS rfl g0))) (gS rfl g0) g0 (fun g => ?_)
        rw [← ad_zero (y := y)] at kS
        refine c_loop (fun k_ s_ W6 => ∃ (g : Nat → Value) (c i : Nat), s_ = (upd (upd (upd (upd g 0 (.pointer (some ⟨bs, 0, none⟩))) 1 (.pointer (some ⟨bb, oo, none⟩))) 5 (.int .u16 (c : Nat))) 6 (.int .i64 (i : Nat))) ∧ i = k_ ∧ (i ≤ 32) ∧ (c = adS a y (32 - i) / 256 ^ (32 - i)) ∧ Blk W6 bs ((adC a y i).toArray) ∧ Ch (fun k => k = bs) w W6) ((32)) ?_ ?_
        · exact ⟨g, 0, 32, rfl, rfl, Nat.le_refl _, by show 0 = (a % 1 + y % 1) / 1; omega, kS, Ch.refl _ _⟩
        · skip
          intro k_ s_ W6 hI K6 hK6
          obtain ⟨g, c, i, rfl, rfl, hi, hc, nkS, V6⟩ := hI
          replace kB := kB.ch V6 (by omega)
          replace kS := nkS
          replace U := U.cc V6 (by intro b hb; first | exact hb.elim | omega | (simp at hb ⊢; omega))
          refine c_seq (fun K7 hK7 => ?_)
          refine c_seq (fun K8 hK8 => ?_)
          exact (by
            refine c_region ?_
            refine l_step (y_moveV (et g0 rfl)) ?_
            refine l_step (y_gtr (et g0 rfl) rfl) ?_
            refine l_nil ?_
            refine hK8 _ _ ?_
            refine fg5 0 1 5 6 8 (gS rfl (gS rfl (gS rfl (gS rfl (gS rfl g0))))) (gS rfl (gS rfl (gS rfl (gS rfl g0)))) (gS rfl (gS rfl (gS rfl g0))) (gS rfl (gS rfl g0)) g0 (fun g => ?_)
            refine c_cond (et g0 rfl) (fun cB1 => ?_) (fun cB1 => ?_)
            · skip
              
              obtain ⟨j, rfl⟩ : ∃ j, i = j + 1 := ⟨i - 1, by have := of_decide_eq_true cB1; omega⟩
              rw [show 32 - (j + 1) = 31 - j by omega] at hc
              subst hc
              have hcl := ad_lt a y (31 - j)
              have hca : (a / 256 ^ (31 - j) % 256) < 256 := Nat.mod_lt _ (by decide)
              have hyb : (y / 256 ^ (31 - j) % 256) < 256 := Nat.mod_lt _ (by decide)
              refine c_skip ?_
              refine hK7 _ _ ?_
              refine fg4 0 1 5 6 (gS rfl (gS rfl (gS rfl (gS rfl g0)))) (gS rfl (gS rfl (gS rfl g0))) (gS rfl (gS rfl g0)) (gS rfl g0) (fun g => ?_)
              refine c_seq (fun K10 hK10 => ?_)
              refine c_block (fun Q11 hQ11 => ?_)
              refine c_seq (fun K12 hK12 => ?_)
              exact (by
                refine c_draw Up 18 [(0, true), (1, true), (2, true), (3, true), (4, true), (5, true), (6, true), (7, true), (8, true), (9, true), (10, true), (11, true), (12, true), (13, true), (14, true), (15, true), (16, true), (17, true)] (by kernel_rfl) (fun w13 hu => ⟨Up.refl _, ?_⟩)
                replace kS := kS.up hu
                replace kB := kB.up hu
                replace U := U.tr hu
                replace V6 := V6.tr hu
                have SU := Up.refl w13
                refine p_step (by exact rfl) (y_moveV (et (gS rfl g0) rfl)) ?_
                refine p_step (by exact rfl) (y_moveV (et (gS rfl (gS rfl (gS rfl (gS rfl g0)))) rfl)) ?_
                refine p_step (by exact rfl) (y_moveV (et (gS rfl (gS rfl g0)) rfl)) ?_
                refine p_step (by exact rfl) (y_sub (et g0 rfl) rfl (subIN (y := 1) ?_ ?_)) ?_
                omega
                omega
                refine p_step (by exact rfl) (y_nil (et (gS rfl (gS rfl g0)) rfl)) ?_
                refine p_step (by exact rfl) (y_idxA Hvaa.underlying28 sz_5 (et g0 rfl) (et (gS rfl g0) rfl) ?_ ?_) ?_
                omega
                omega
                refine p_step (by exact rfl) (y_load1 one_5 (et g0 rfl) (atS (kS.cell (ad_a (i := j) (by simp))))) ?_
                refine p_step (by exact rfl) (y_conv Hvaa.underlying5 Hvaa.underlying67 (et g0 rfl) (wrapU_id uk16 ?_)) ?_
                omega
                refine p_step (by exact rfl) (y_moveV (et (gS rfl (gS rfl (gS rfl (gS rfl (gS rfl (gS rfl (gS rfl (gS rfl (gS rfl (gS rfl g0)))))))))) rfl)) ?_
                refine p_step (by exact rfl) (y_moveV (et (gS rfl (gS rfl (gS rfl (gS rfl (gS rfl (gS rfl (gS rfl (gS rfl (gS rfl g0))))))))) rfl)) ?_
                refine p_step (by exact rfl) (y_sub (et g0 rfl) rfl (subIN (y := 1) ?_ ?_)) ?_
                omega
                omega
                refine p_step (by exact rfl) (y_nil (et (gS rfl (gS rfl g0)) rfl)) ?_
                refine p_step (by exact rfl) (y_idxA Hvaa.underlying28 sz_5 (et g0 rfl) (et (gS rfl g0) rfl) ?_ ?_) ?_
                omega
                omega
                refine p_step (by exact rfl) (y_load1 one_5 (et g0 rfl) (atS (kB.cell (ad_b hrB (j := j) (by omega) (by simp))))) ?_
                refine p_step (by exact rfl) (y_conv Hvaa.underlying5 Hvaa.underlying67 (et g0 rfl) (wrapU_id uk16 ?_)) ?_
                omega
                exact (by
                  refine p_step (by exact rfl) (y_add (et (gS rfl (gS rfl (gS rfl (gS rfl (gS rfl (gS rfl (gS rfl g0))))))) rfl) (et g0 rfl) (wrapU_addN uk16 ?_)) ?_
                  omega
                  refine p_step (by exact rfl) (y_add (et (gS rfl (gS rfl (gS rfl (gS rfl (gS rfl (gS rfl (gS rfl (gS rfl (gS rfl (gS rfl (gS rfl (gS rfl (gS rfl (gS rfl (gS rfl g0))))))))))))))) rfl) (et g0 rfl) (wrapU_addN uk16 ?_)) ?_
                  omega
                  refine p_step (by exact rfl) (y_assignV (et g0 rfl)) ?_
                  refine p_nil ?_
                  refine hK12 _ _ ?_
                  refine fg4 0 1 5 6 (gS rfl (gS rfl (gS rfl (gS rfl (gS rfl (gS rfl (gS rfl (gS rfl (gS rfl (gS rfl (gS rfl (gS rfl (gS rfl (gS rfl (gS rfl (gS rfl (gS rfl (gS rfl (gS rfl (gS rfl (gS rfl g0))))))))))))))))))))) (gS rfl (gS rfl (gS rfl (gS rfl (gS rfl (gS rfl (gS rfl (gS rfl (gS rfl (gS rfl (gS rfl (gS rfl (gS rfl (gS rfl (gS rfl (gS rfl (gS rfl (gS rfl (gS rfl (gS rfl g0)))))))))))))))))))) g0 (gS rfl (gS rfl (gS rfl (gS rfl (gS rfl (gS rfl (gS rfl (gS rfl (gS rfl (gS rfl (gS rfl (gS rfl (gS rfl (gS rfl (gS rfl (gS rfl (gS rfl (gS rfl g0)))))))))))))))))) (fun g => ?_)
                  refine c_seq (fun K14 hK14 => ?_)
                  exact (by
                    refine c_region ?_
                    refine l_step (y_moveV (et (gS rfl (gS rfl (gS rfl g0))) rfl)) ?_
                    refine l_step (y_moveV (et (gS rfl g0) rfl)) ?_
                    refine l_step (y_sub (et g0 rfl) rfl (subIN (y := 1) ?_ ?_)) ?_
                    omega
                    omega
                    refine l_step (y_moveV (et (gS rfl (gS rfl (gS rfl (gS rfl g0)))) rfl)) ?_
                    refine l_step (y_conv Hvaa.underlying67 Hvaa.underlying5 (et g0 rfl) (wrapU_nat uk8)) ?_
                    refine l_step (y_nil (et (gS rfl (gS rfl (gS rfl (gS rfl g0)))) rfl)) ?_
                    refine l_step (y_idxA Hvaa.underlying28 sz_5 (et g0 rfl) (et (gS rfl (gS rfl (gS rfl g0))) rfl) ?_ ?_) ?_
                    omega
                    omega
                    refine l_effN (e_store sz_5 (et g0 rfl) (cellsV (et (gS rfl (gS rfl g0)) rfl) rfl) rfl (by first | exact one_bL _ | exact one_uL _ | (intro v hv; simp at hv; subst hv; rfl)) kS (by (unfold adC; rw [List.size_toArray, length_bL, List.length_append, length_be, length_be]; simp))) (fun v15 w15 h15 => ?_)
                    obtain ⟨rfl, x15⟩ := h15
                    replace kB := kB.ch x15.ch (by omega)
                    replace kS := x15.blk
                    replace U := U.st x15 (.inl (by first | rfl | (simp; done)))
                    replace V6 := V6.st x15 (by omega)
                    replace kS : Blk w15 bs (adC a y j).toArray := by
                      have h9 := kS
                      rw [show 0 + (((j + 1 - 1 : Nat) : Nat) : Int).toNat * 1 = j by simp] at h9
                      rw [ad_put (by omega)] at h9
                      exact h9
                    refine l_nil ?_
                    refine hK14 _ _ ?_
                    refine fg4 0 1 5 6 (gS rfl (gS rfl (gS rfl (gS rfl (gS rfl (gS rfl (gS rfl (gS rfl (gS rfl (gS rfl g0)))))))))) (gS rfl (gS rfl (gS rfl (gS rfl (gS rfl (gS rfl (gS rfl (gS rfl (gS rfl g0))))))))) (gS rfl (gS rfl (gS rfl (gS rfl (gS rfl (gS rfl (gS rfl (gS rfl g0)))))))) (gS rfl (gS rfl (gS rfl (gS rfl (gS rfl (gS rfl (gS rfl g0))))))) (fun g => ?_)
                    refine c_region ?_
                    refine l_step (y_moveV (et (gS rfl g0) rfl)) ?_
                    refine l_step (y_shr (et g0 rfl) rfl (by decide) (shr16C 8 256 (by decide) rfl)) ?_
                    refine l_step (y_assignV (et g0 rfl)) ?_
                    refine l_nil ?_
                    refine hQ11 _ _ _ (in_normal ?_)
                    refine hK10 _ _ ?_
                    refine fg4 0 1 5 6 (gS rfl (gS rfl (gS rfl (gS rfl (gS rfl (gS rfl g0)))))) (gS rfl (gS rfl (gS rfl (gS rfl (gS rfl g0))))) g0 (gS rfl (gS rfl (gS rfl g0))) (fun g => ?_)
                    refine c_region ?_
                    exact (by
                      refine l_step (y_moveV (et g0 rfl)) ?_
                      refine l_step (y_sub (et g0 rfl) rfl (subIN (y := 1) ?_ ?_)) ?_
                      omega
                      omega
                      refine l_step (y_assignV (et g0 rfl)) ?_
                      refine l_nil ?_
                      refine fK4 0 1 5 6 (gS rfl (gS rfl (gS rfl (gS rfl (gS rfl (gS rfl g0)))))) (gS rfl (gS rfl (gS rfl (gS rfl (gS rfl g0))))) (gS rfl (gS rfl (gS rfl (gS rfl g0)))) g0 (fun g => ?_)
                      exact hK6 ((j)) _ _ (by omega) ⟨g, _, j, rfl, rfl, by omega, by rw [show 32 - j = (31 - j) + 1 by omega, ad_car], kS, V6⟩))))
            · skip
              
              obtain rfl : i = 0 := by have := of_decide_eq_false cB1; omega
              rw [Nat.sub_zero, ad_all ha hy] at hc
              subst hc
              rw [ad_fin ha hy] at kS
              refine c_exit ?_
              refine hQ5 _ _ _ (in_exit ?_)
              refine hK3 _ _ ?_
              refine fg1 5 (gS rfl (gS rfl g0)) (fun g => ?_)
              refine c_seq (fun K16 hK16 => ?_)
              exact (by
                refine c_region ?_
                refine l_step (y_moveV (et g0 rfl)) ?_
                refine l_step (y_eql (et g0 rfl) rfl) ?_
                refine l_step (y_assignV (et g0 rfl)) ?_
                refine l_nil ?_
                refine hK16 _ _ ?_
                refine fg1 4 g0 (fun g => ?_)
                refine c_ret ?_
                repeat with_reducible refine then_ret ?_
                refine ret1 rfl (res_tmp (et g0 rfl)) ?_
                refine ⟨congrArg Value.bool ?_, kS, U⟩
                rw [Bool.eq_iff_iff, decide_eq_true_iff, decide_eq_true_iff]
                rw [show (256 : Nat) ^ 32 = W256 from rfl]
                have hW : 0 < W256 := by decide
                constructor
                · intro h9
                  have h8 : (a + y) / W256 = 0 := by omega
                  exact Nat.lt_of_div_eq_zero hW h8
                · intro h9
                  rw [Nat.div_eq_of_lt h9]
                  rfl)))))
def SlR (l : List (Nat × Nat)) (n : Nat) : Prop := ∀ i, (hi : i < l.length) → i < n → l[i].2 ≠ 0 ∧ (0 < i → (l[i - 1]'(by omega)).1 < l[i].1)
structure AOk (A : YAcct) : Prop where
  ne : ¬ (A.nonce = 0 ∧ A.code.length = 0 ∧ (A.bal = 0 ∨ 0 < A.slots.length))
  code : A.code.length ≤ 256
  slots : A.slots.length ≤ 16
  sl : SlR A.slots A.slots.length
theorem ofBE_w32 {a : Nat} (h : a < W256) : ofBE (be 32 a) = a := by rw [ofBE_be, show (256 : Nat) ^ 32 = W256 from rfl, Nat.mod_eq_of_lt h]
theorem bool_be32 {a b : Nat} (ha : a < W256) (hb : b < W256) : Value.bool (decide (ofBE (be 32 b) ≤ ofBE (be 32 a))) = Value.bool (decide (b ≤ a)) := by rw [ofBE_w32 ha, ofBE_w32 hb]
theorem os_key {k v : Nat} {w : World} {b o q : Nat} (h : Row w b o (bL (be 32 k) ++ bL (be 32 v))) (e : q = o) : Row w b q (bL (be 32 k)) := fun i x hx => by
  rw [e]
  exact h i x (by rw [List.getElem?_append_left (List.getElem?_eq_some_iff.1 hx).1]; exact hx)
theorem os_va {k v : Nat} {w : World} {b o q : Nat} (h : Row w b o (bL (be 32 k) ++ bL (be 32 v))) (e : q = o + 32) : Row w b q (bL (be 32 v)) := fun i x hx => by
  rw [e, Nat.add_assoc]
  refine h (32 + i) x ?_
  rw [List.getElem?_append_right (by rw [length_bL, length_be]; omega), length_bL, length_be, show 32 + i - 32 = i by omega]
  exact hx
theorem oa_row {A : YAcct} {vc vs : Value} {w : World} {b o q : Nat} (h : Row w b o (oaC A vc vs)) (e : q = o + 21) : Row w b q (bL (be 32 A.bal)) := fun i x hx => by
  rw [e, Nat.add_assoc]
  refine h (21 + i) x ?_
  have := oaC_bal (A := A) (vc := vc) (vs := vs) i x hx
  rw [List.getElem?_toArray] at this
  exact this
theorem oa_c1 {A : YAcct} {vc vs v : Value} {w : World} {b o j q : Nat} (h : Row w b o (oaC A vc vs)) (hv : (oaC A vc vs).toArray[j]? = some v) (e : q = o + j) : w.cell? ⟨b, q, none⟩ = some v := by
  rw [e]
  refine h j v ?_
  rw [List.getElem?_toArray] at hv
  exact hv
theorem sok_nil (l : List (Nat × Nat)) : SlR l 0 := fun i _ h => absurd h (Nat.not_lt_zero _)
theorem sok_next {l : List (Nat × Nat)} {j : Nat} (hj : j < l.length) (h : SlR l j) (h1 : l[j].2 ≠ 0) (h2 : 0 < j → (l[j - 1]'(by omega)).1 < l[j].1) : SlR l (j + 1) := fun i hi hn => by
  rcases Nat.lt_or_ge i j with h9 | h9
  · exact h i hi h9
  · obtain rfl : i = j := by omega
    exact ⟨h1, h2⟩
theorem bld28_z (w : World) : (Instr.build 28 [].toArray).run Hvaa.prog w = .ok (hV 0) w := by kernel_rfl
theorem obs_accountOK {w : World} {H : Store} (hF : Fz w H) {A : YAcct} {b o : Nat} {ca sa : Option Addr} {cc sc : Nat} (hR : Row w b o (oaC A (.slice ca A.code.length cc) (.slice sa A.slots.length sc))) (hbl : A.bal < W256) (hSl : LV P_oslot 64 H (.slice sa A.slots.length sc) A.slots) :
    Ret 85 [(.pointer (some ⟨b, o, none⟩))] w (fun v w' => ∃ t, v = .bool t ∧ (t = true ↔ AOk A) ∧ Up w w') := by
  refine enter (n := 90) Hvaa.func85 rfl rfl (Nat.le_of_ble_eq_true rfl) ?_
  have U := Up.refl w
  have G : Go (No) w H w H := Go.refl hF
  have hL0 : Le H H := Le.refl H
  refine c_seq (fun K1 hK1 => ?_)
  exact (by
    refine c_region ?_
    refine l_step y_assignC ?_
    refine l_nil ?_
    refine hK1 _ _ ?_
    refine fg1 0 (gS rfl g0) (fun g => ?_)
    refine c_seq (fun K2 hK2 => ?_)
    refine c_seq (fun K3 hK3 => ?_)
    have hJ3 : ∀ (s_ : Nat → Value) (W3 : World), (∃ (g : Nat → Value) (Hk3 : Store) (b9 : Bool), s_ = (upd (upd g 0 (.pointer (some ⟨b, o, none⟩))) 32 (.bool b9)) ∧ (b9 = true ↔ (A.nonce = 0 ∧ A.code.length = 0 ∧ (A.bal = 0 ∨ 0 < A.slots.length))) ∧ Go (fun k => False) w H W3 Hk3) → K3 (mk 90 s_) W3 := by
      intro s_ W3 hI
      obtain ⟨g, Hk3, b9, rfl, hb9, V3⟩ := hI
      have hle3 := V3.le
      replace hL0 := hL0.trans hle3
      replace G := G.trans V3 (by intro b hb; first | exact hb.elim | omega | (simp at hb ⊢; omega))
      replace hF := V3.fz
      replace hR := hR.ch V3.ch (by first | exact fun h => h | exact fun _ h => h.elim | exact fun _ _ h => h)
      replace U := U.cc V3.ch (by intro b hb; first | exact hb.elim | omega | (simp at hb ⊢; omega))
      refine hK3 _ _ ?_
      refine c_cond (et g0 rfl) (fun cB1 => ?_) (fun cB1 => ?_)
      · skip
        
        have hn : ¬ AOk A := fun h9 => h9.ne (hb9.1 cB1)
        refine c_seq (fun K5 hK5 => ?_)
        exact (by
          refine c_region ?_
          refine l_step y_assignC ?_
          refine l_nil ?_
          refine hK5 _ _ ?_
          refine fg1 2 g0 (fun g => ?_)
          refine c_ret ?_
          repeat with_reducible refine then_ret ?_
          refine ret1 rfl (res_tmp (et g0 rfl)) ?_
          first | exact ⟨false, rfl, ⟨fun h9 => (by cases h9), fun h9 => absurd h9 hn⟩, U⟩ | exact ⟨true, rfl, ⟨fun _ => hall, fun _ => rfl⟩, U⟩)
      · skip
        
        have hne : ¬ (A.nonce = 0 ∧ A.code.length = 0 ∧ (A.bal = 0 ∨ 0 < A.slots.length)) := fun h9 => by have := hb9.2 h9; rw [cB1] at this; cases this
        refine c_skip ?_
        refine hK2 _ _ ?_
        refine fg1 0 (gS rfl g0) (fun g => ?_)
        refine c_seq (fun K6 hK6 => ?_)
        refine c_seq (fun K7 hK7 => ?_)
        have hJ7 : ∀ (s_ : Nat → Value) (W7 : World), (∃ (g : Nat → Value) (Hk7 : Store) (b8 : Bool), s_ = (upd (upd g 0 (.pointer (some ⟨b, o, none⟩))) 46 (.bool b8)) ∧ (b8 = true ↔ ¬ (A.code.length ≤ 256 ∧ A.slots.length ≤ 16)) ∧ Go (fun k => False) W3 Hk3 W7 Hk7) → K7 (mk 90 s_) W7 := by
          intro s_ W7 hI
          obtain ⟨g, Hk7, b8, rfl, hb8, V7⟩ := hI
          have hle7 := V7.le
          replace hL0 := hL0.trans hle7
          replace G := G.trans V7 (by intro b hb; first | exact hb.elim | omega | (simp at hb ⊢; omega))
          replace hF := V7.fz
          replace hR := hR.ch V7.ch (by first | exact fun h => h | exact fun _ h => h.elim | exact fun _ _ h => h)
          replace U := U.cc V7.ch (by intro b hb; first | exact hb.elim | omega | (simp at hb ⊢; omega))
          refine hK7 _ _ ?_
          refine c_cond (et g0 rfl) (fun cB2 => ?_) (fun cB2 => ?_)
          · skip
            
            have hn : ¬ AOk A := fun h9 => hb8.1 cB2 ⟨h9.code, h9.slots⟩
            refine c_seq (fun K9 hK9 => ?_)
            exact (by
              refine c_region ?_
              refine l_step y_assignC ?_
              refine l_nil ?_
              refine hK9 _ _ ?_
              refine fg1 2 g0 (fun g => ?_)
              refine c_ret ?_
              repeat with_reducible refine then_ret ?_
              refine ret1 rfl (res_tmp (et g0 rfl)) ?_
              first | exact ⟨false, rfl, ⟨fun h9 => (by cases h9), fun h9 => absurd h9 hn⟩, U⟩ | exact ⟨true, rfl, ⟨fun _ => hall, fun _ => rfl⟩, U⟩)
          · skip
            
            have hcs : A.code.length ≤ 256 ∧ A.slots.length ≤ 16 := Classical.byContradiction fun h9 => by have := hb8.2 h9; rw [cB2] at this; cases this
            refine c_skip ?_
            refine hK6 _ _ ?_
            refine fg1 0 (gS rfl g0) (fun g => ?_)
            refine c_seq (fun K10 hK10 => ?_)
            refine c_seq (fun K11 hK11 => ?_)
            exact (by
              refine c_region ?_
              refine l_step (y_moveV (et g0 rfl)) ?_
              refine l_step (y_nil (et g0 rfl)) ?_
              refine l_step (y_fld fld_113_4 (et g0 rfl)) ?_
              refine l_step (y_load1 one_111 (et g0 rfl) (at1 (oa_c1 hR oaC_sto (by omega)))) ?_
              refine l_step (y_len Hvaa.underlying111 (et g0 rfl)) ?_
              refine l_step y_moveC ?_
              refine l_nil ?_
              refine hK11 _ _ ?_
              refine fg3 0 51 52 (gS rfl (gS rfl (gS rfl (gS rfl (gS rfl (gS rfl g0)))))) (gS rfl g0) g0 (fun g => ?_)
              refine c_block (fun Q12 hQ12 => ?_)
              refine fg3 0 51 52 (gS rfl (gS rfl g0)) (gS rfl g0) g0 (fun g => ?_)
              refine c_loop (fun k_ s_ W13 => ∃ (g : Nat → Value) (Hk13 : Store) (j : Nat), s_ = (upd (upd (upd g 0 (.pointer (some ⟨b, o, none⟩))) 51 (.int .i64 (A.slots.length : Nat))) 52 (.int .i64 (j : Nat))) ∧ A.slots.length - j = k_ ∧ (j ≤ A.slots.length) ∧ (SlR A.slots j) ∧ Go (fun k => False) W7 Hk7 W13 Hk13) (A.slots.length - (0)) ?_ ?_
              · exact ⟨g, _, 0, rfl, rfl, Nat.zero_le _, sok_nil _, Go.refl hF⟩
              · skip
                intro k_ s_ W13 hI K13 hK13
                obtain ⟨g, Hk13, j, rfl, rfl, hj, hso, V13⟩ := hI
                have hle13 := V13.le
                replace hL0 := hL0.trans hle13
                replace G := G.trans V13 (by intro b hb; first | exact hb.elim | omega | (simp at hb ⊢; omega))
                replace hF := V13.fz
                replace hR := hR.ch V13.ch (by first | exact fun h => h | exact fun _ h => h.elim | exact fun _ _ h => h)
                replace U := U.cc V13.ch (by intro b hb; first | exact hb.elim | omega | (simp at hb ⊢; omega))
                refine c_seq (fun K14 hK14 => ?_)
                exact (by
                  refine c_region ?_
                  refine l_step (y_lss (et g0 rfl) (et (gS rfl g0) rfl)) ?_
                  refine l_nil ?_
                  refine hK14 _ _ ?_
                  refine c_seq (fun K15 hK15 => ?_)
                  refine c_cond (et g0 rfl) (fun cB3 => ?_) (fun cB3 => ?_)
                  · skip
                    
                    have hjl : j < A.slots.length := by have := of_decide_eq_true cB3; omega
                    obtain ⟨bq, oq, Cq, rq, hsa, hBq, hRq, hrl, hrq, hkl, hvl⟩ := (hSl.mono hL0).rowH (i := j) hjl
                    rw [hrq] at hRq hrl
                    have hrow := hBq.row hF hRq
                    refine c_skip ?_
                    refine hK15 _ _ ?_
                    refine fg3 0 51 52 (gS rfl (gS rfl (gS rfl g0))) (gS rfl (gS rfl g0)) (gS rfl g0) (fun g => ?_)
                    refine c_seq (fun K17 hK17 => ?_)
                    refine c_block (fun Q18 hQ18 => ?_)
                    refine c_seq (fun K19 hK19 => ?_)
                    exact (by
                      refine c_region ?_
                      refine l_step (y_moveV (et g0 rfl)) ?_
                      refine l_step (y_assignV (et g0 rfl)) ?_
                      refine l_nil ?_
                      refine hK19 _ _ ?_
                      refine fg4 0 51 52 3 (gS rfl (gS rfl (gS rfl (gS rfl g0)))) (gS rfl (gS rfl (gS rfl g0))) (gS rfl (gS rfl g0)) g0 (fun g => ?_)
                      refine c_seq (fun K20 hK20 => ?_)
                      refine c_seq (fun K21 hK21 => ?_)
                      exact (by
                        refine c_region ?_
                        refine l_step (y_moveV (et (gS rfl (gS rfl (gS rfl g0))) rfl)) ?_
                        refine l_step (y_nil (et g0 rfl)) ?_
                        refine l_step (y_fld fld_113_4 (et g0 rfl)) ?_
                        refine l_step (y_load1 one_111 (et g0 rfl) (at1 (oa_c1 hR oaC_sto (by omega)))) ?_
                        refine l_step (y_moveV (et (gS rfl (gS rfl (gS rfl (gS rfl g0)))) rfl)) ?_
                        refine l_step (y_idxSa hsa Hvaa.underlying111 sz_117 (et (gS rfl g0) rfl) (et g0 rfl) ?_) ?_
                        omega
                        refine l_step (y_fld fld_117_1 (et g0 rfl)) ?_
                        refine l_step (y_loadR agg_28 sz_28 (et g0 rfl) (by rw [length_bL, length_be]) (at1R (os_va hrow (by omega)))) ?_
                        refine l_step (y_bld bN bld28_z) ?_
                        refine l_step (y_eqlH hvl (by decide) (et (gS rfl g0) rfl) (et g0 rfl)) ?_
                        refine l_nil ?_
                        refine hK21 _ _ ?_
                        refine fg5 0 51 52 3 64 (gS rfl (gS rfl (gS rfl (gS rfl (gS rfl (gS rfl (gS rfl (gS rfl (gS rfl (gS rfl (gS rfl (gS rfl (gS rfl g0))))))))))))) (gS rfl (gS rfl (gS rfl (gS rfl (gS rfl (gS rfl (gS rfl (gS rfl (gS rfl (gS rfl (gS rfl (gS rfl g0)))))))))))) (gS rfl (gS rfl (gS rfl (gS rfl (gS rfl (gS rfl (gS rfl (gS rfl (gS rfl (gS rfl (gS rfl g0))))))))))) (gS rfl (gS rfl (gS rfl (gS rfl (gS rfl (gS rfl (gS rfl (gS rfl (gS rfl (gS rfl g0)))))))))) g0 (fun g => ?_)
                        refine c_cond (et g0 rfl) (fun cB4 => ?_) (fun cB4 => ?_)
                        · skip
                          
                          have hn : ¬ AOk A := fun h9 => (h9.sl j hjl hjl).1 (of_decide_eq_true cB4)
                          refine c_seq (fun K23 hK23 => ?_)
                          exact (by
                            refine c_region ?_
                            refine l_step y_assignC ?_
                            refine l_nil ?_
                            refine hK23 _ _ ?_
                            refine fg1 2 g0 (fun g => ?_)
                            refine c_ret ?_
                            refine hQ18 _ _ _ (in_ret ?_)
                            refine hQ12 _ _ _ (in_ret ?_)
                            repeat with_reducible refine then_ret ?_
                            refine ret1 rfl (res_tmp (et g0 rfl)) ?_
                            first | exact ⟨false, rfl, ⟨fun h9 => (by cases h9), fun h9 => absurd h9 hn⟩, U⟩ | exact ⟨true, rfl, ⟨fun _ => hall, fun _ => rfl⟩, U⟩)
                        · skip
                          
                          have hz9 : A.slots[j].2 ≠ 0 := of_decide_eq_false cB4
                          refine c_skip ?_
                          refine hK20 _ _ ?_
                          refine fg4 0 51 52 3 (gS rfl (gS rfl (gS rfl (gS rfl g0)))) (gS rfl (gS rfl (gS rfl g0))) (gS rfl (gS rfl g0)) (gS rfl g0) (fun g => ?_)
                          refine c_seq (fun K24 hK24 => ?_)
                          have hJ24 : ∀ (s_ : Nat → Value) (W24 : World), (∃ (g : Nat → Value) (Hk24 : Store) (b7 : Bool), s_ = (upd (upd (upd (upd g 0 (.pointer (some ⟨b, o, none⟩))) 51 (.int .i64 (A.slots.length : Nat))) 52 (.int .i64 (j : Nat))) 88 (.bool b7)) ∧ (b7 = true ↔ (0 < j ∧ ∀ hq : j - 1 < A.slots.length, ¬ A.slots[j - 1].1 < A.slots[j].1)) ∧ Go (fun k => False) W13 Hk13 W24 Hk24) → K24 (mk 90 s_) W24 := by
                            intro s_ W24 hI
                            obtain ⟨g, Hk24, b7, rfl, hb7, V24⟩ := hI
                            have hle24 := V24.le
                            replace hL0 := hL0.trans hle24
                            replace G := G.trans V24 (by intro b hb; first | exact hb.elim | omega | (simp at hb ⊢; omega))
                            replace V13 := V13.trans V24 (by intro b hb; first | exact hb.elim | omega | (simp at hb ⊢; omega))
                            replace hF := V24.fz
                            replace hR := hR.ch V24.ch (by first | exact fun h => h | exact fun _ h => h.elim | exact fun _ _ h => h)
                            replace U := U.cc V24.ch (by intro b hb; first | exact hb.elim | omega | (simp at hb ⊢; omega))
                            refine hK24 _ _ ?_
                            refine c_cond (et g0 rfl) (fun cB5 => ?_) (fun cB5 => ?_)
                            · skip
                              
                              have hn : ¬ AOk A := fun h9 => by have h8 := hb7.1 cB5; exact h8.2 (by omega) ((h9.sl j hjl hjl).2 h8.1)
                              refine c_seq (fun K26 hK26 => ?_)
                              exact (by
                                refine c_region ?_
                                refine l_step y_assignC ?_
                                refine l_nil ?_
                                refine hK26 _ _ ?_
                                refine fg1 2 g0 (fun g => ?_)
                                refine c_ret ?_
                                refine hQ18 _ _ _ (in_ret ?_)
                                refine hQ12 _ _ _ (in_ret ?_)
                                repeat with_reducible refine then_ret ?_
                                refine ret1 rfl (res_tmp (et g0 rfl)) ?_
                                first | exact ⟨false, rfl, ⟨fun h9 => (by cases h9), fun h9 => absurd h9 hn⟩, U⟩ | exact ⟨true, rfl, ⟨fun _ => hall, fun _ => rfl⟩, U⟩)
                            · skip
                              
                              have hri9 : 0 < j → (A.slots[j - 1]'(by omega)).1 < A.slots[j].1 := fun h9 => Classical.byContradiction fun h8 => by have := hb7.2 ⟨h9, fun _ => h8⟩; rw [cB5] at this; cases this
                              refine c_skip ?_
                              refine hQ18 _ _ _ (in_normal ?_)
                              refine hK17 _ _ ?_
                              refine fg3 0 51 52 (gS rfl (gS rfl (gS rfl g0))) (gS rfl (gS rfl g0)) (gS rfl g0) (fun g => ?_)
                              refine c_region ?_
                              refine l_step (y_add (et g0 rfl) rfl (addIN (y := 1) ?_)) ?_
                              omega
                              refine l_step (y_moveV (et g0 rfl)) ?_
                              refine l_nil ?_
                              refine fK3 0 51 52 (gS rfl (gS rfl (gS rfl (gS rfl g0)))) (gS rfl (gS rfl (gS rfl g0))) g0 (fun g => ?_)
                              exact hK13 (A.slots.length - ((j + 1))) _ _ (by omega) ⟨g, _, (j + 1), rfl, rfl, by omega, sok_next hjl hso hz9 hri9, V13⟩
                          have V24 : Go (fun k => False) W13 Hk13 W13 Hk13 := Go.refl hF
                          refine c_draw Up 24 [(0, true), (1, true), (2, true), (3, true), (4, true), (5, true), (6, true), (7, true), (8, true), (9, true), (10, true), (11, true), (12, true), (13, true), (14, true), (15, true), (16, true), (17, true), (18, true), (19, true), (20, true), (21, true), (22, true), (23, true)] (by kernel_rfl) (fun w27 hu => ⟨Up.refl _, ?_⟩)
                          replace G := G.tr (Go.ofUp hF hu)
                          replace V13 := V13.tr (Go.ofUp hF hu)
                          replace V24 := V24.tr (Go.ofUp hF hu)
                          replace hF := hF.up hu
                          replace hR := hR.up hu
                          replace U := U.tr hu
                          have SU := Up.refl w27
                          refine p_step (by exact rfl) (y_moveV (et g0 rfl)) ?_
                          refine p_step (by exact rfl) (y_gtr (et g0 rfl) rfl) ?_
                          refine p_step (by exact rfl) (y_moveV (et g0 rfl)) ?_
                          refine gsplitP (i := 67) g0 (fun q28 => ?_) (fun q28 => ?_)
                          · skip
                            have hj0 : 0 < j := by have := of_decide_eq_true q28; omega
                            obtain ⟨bp, op, Cp_, rp, hsa2, hBp, hRp, hrlp, hrp, hkp, hvp⟩ := (hSl.mono hL0).rowH (i := j - 1) (by omega)
                            rw [hrp] at hRp hrlp
                            have hrow1 := os_key (hBp.row hF hRp) rfl
                            have hrow2 := os_key (hBq.row hF hRq) rfl
                            refine p_gstep (j := 2) (t := 67) (by exact rfl) (by exact rfl) (by exact rfl) (et g0 rfl) rfl (y_moveV (et (gS rfl (gS rfl (gS rfl (gS rfl (gS rfl (gS rfl (gS rfl g0))))))) rfl)) ?_
                            refine p_gstep (j := 2) (t := 67) (by exact rfl) (by exact rfl) (by exact rfl) (et (gS rfl g0) rfl) rfl (y_nil (et g0 rfl)) ?_
                            refine p_gstep (j := 2) (t := 67) (by exact rfl) (by exact rfl) (by exact rfl) (et (gS rfl (gS rfl g0)) rfl) rfl (y_fld fld_113_4 (et g0 rfl)) ?_
                            refine p_gstep (j := 2) (t := 67) (by exact rfl) (by exact rfl) (by exact rfl) (et (gS rfl (gS rfl (gS rfl g0))) rfl) rfl (y_load1 one_111 (et g0 rfl) (atS (oa_c1 hR oaC_sto (by omega)))) ?_
                            refine p_gstep (j := 2) (t := 67) (by exact rfl) (by exact rfl) (by exact rfl) (et (gS rfl (gS rfl (gS rfl (gS rfl g0)))) rfl) rfl (y_moveV (et (gS rfl (gS rfl (gS rfl (gS rfl (gS rfl (gS rfl (gS rfl (gS rfl g0)))))))) rfl)) ?_
                            refine p_gstep (j := 2) (t := 67) (by exact rfl) (by exact rfl) (by exact rfl) (et (gS rfl (gS rfl (gS rfl (gS rfl (gS rfl g0))))) rfl) rfl (y_sub (et g0 rfl) rfl (subIN (y := 1) ?_ ?_)) ?_
                            omega
                            omega
                            refine p_gstep (j := 2) (t := 67) (by exact rfl) (by exact rfl) (by exact rfl) (et (gS rfl (gS rfl (gS rfl (gS rfl (gS rfl (gS rfl g0)))))) rfl) rfl (y_idxSa hsa2 Hvaa.underlying111 sz_117 (et (gS rfl (gS rfl g0)) rfl) (et g0 rfl) ?_) ?_
                            omega
                            refine p_gstep (j := 2) (t := 67) (by exact rfl) (by exact rfl) (by exact rfl) (et (gS rfl (gS rfl (gS rfl (gS rfl (gS rfl (gS rfl (gS rfl g0))))))) rfl) rfl (y_fld fld_117_0 (et g0 rfl)) ?_
                            refine p_gstep (j := 2) (t := 67) (by exact rfl) (by exact rfl) (by exact rfl) (et (gS rfl (gS rfl (gS rfl (gS rfl (gS rfl (gS rfl (gS rfl (gS rfl g0)))))))) rfl) rfl (y_slA000 Hvaa.underlying28 sz_5 (et g0 rfl) ) ?_
                            refine p_gstep (j := 2) (t := 67) (by exact rfl) (by exact rfl) (by exact rfl) (et (gS rfl (gS rfl (gS rfl (gS rfl (gS rfl (gS rfl (gS rfl (gS rfl (gS rfl g0))))))))) rfl) rfl (y_str Hvaa.underlying38 Hvaa.underlying9 (et g0 rfl) (atSW (wv_row32 hrow1))) ?_
                            refine p_gstep (j := 2) (t := 67) (by exact rfl) (by exact rfl) (by exact rfl) (et (gS rfl (gS rfl (gS rfl (gS rfl (gS rfl (gS rfl (gS rfl (gS rfl (gS rfl (gS rfl g0)))))))))) rfl) rfl (y_moveV (et (gS rfl (gS rfl (gS rfl (gS rfl (gS rfl (gS rfl (gS rfl (gS rfl (gS rfl (gS rfl (gS rfl (gS rfl (gS rfl (gS rfl (gS rfl (gS rfl (gS rfl g0))))))))))))))))) rfl)) ?_
                            refine p_gstep (j := 2) (t := 67) (by exact rfl) (by exact rfl) (by exact rfl) (et (gS rfl (gS rfl (gS rfl (gS rfl (gS rfl (gS rfl (gS rfl (gS rfl (gS rfl (gS rfl (gS rfl g0))))))))))) rfl) rfl (y_nil (et g0 rfl)) ?_
                            refine p_gstep (j := 2) (t := 67) (by exact rfl) (by exact rfl) (by exact rfl) (et (gS rfl (gS rfl (gS rfl (gS rfl (gS rfl (gS rfl (gS rfl (gS rfl (gS rfl (gS rfl (gS rfl (gS rfl g0)))))))))))) rfl) rfl (y_fld fld_113_4 (et g0 rfl)) ?_
                            refine p_gstep (j := 2) (t := 67) (by exact rfl) (by exact rfl) (by exact rfl) (et (gS rfl (gS rfl (gS rfl (gS rfl (gS rfl (gS rfl (gS rfl (gS rfl (gS rfl (gS rfl (gS rfl (gS rfl (gS rfl g0))))))))))))) rfl) rfl (y_load1 one_111 (et g0 rfl) (atS (oa_c1 hR oaC_sto (by omega)))) ?_
                            refine p_gstep (j := 2) (t := 67) (by exact rfl) (by exact rfl) (by exact rfl) (et (gS rfl (gS rfl (gS rfl (gS rfl (gS rfl (gS rfl (gS rfl (gS rfl (gS rfl (gS rfl (gS rfl (gS rfl (gS rfl (gS rfl g0)))))))))))))) rfl) rfl (y_moveV (et (gS rfl (gS rfl (gS rfl (gS rfl (gS rfl (gS rfl (gS rfl (gS rfl (gS rfl (gS rfl (gS rfl (gS rfl (gS rfl (gS rfl (gS rfl (gS rfl (gS rfl (gS rfl g0)))))))))))))))))) rfl)) ?_
                            refine p_gstep (j := 2) (t := 67) (by exact rfl) (by exact rfl) (by exact rfl) (et (gS rfl (gS rfl (gS rfl (gS rfl (gS rfl (gS rfl (gS rfl (gS rfl (gS rfl (gS rfl (gS rfl (gS rfl (gS rfl (gS rfl (gS rfl g0))))))))))))))) rfl) rfl (y_idxSa hsa Hvaa.underlying111 sz_117 (et (gS rfl g0) rfl) (et g0 rfl) ?_) ?_
                            omega
                            refine p_gstep (j := 2) (t := 67) (by exact rfl) (by exact rfl) (by exact rfl) (et (gS rfl (gS rfl (gS rfl (gS rfl (gS rfl (gS rfl (gS rfl (gS rfl (gS rfl (gS rfl (gS rfl (gS rfl (gS rfl (gS rfl (gS rfl (gS rfl g0)))))))))))))))) rfl) rfl (y_fld fld_117_0 (et g0 rfl)) ?_
                            refine p_gstep (j := 2) (t := 67) (by exact rfl) (by exact rfl) (by exact rfl) (et (gS rfl (gS rfl (gS rfl (gS rfl (gS rfl (gS rfl (gS rfl (gS rfl (gS rfl (gS rfl (gS rfl (gS rfl (gS rfl (gS rfl (gS rfl (gS rfl (gS rfl g0))))))))))))))))) rfl) rfl (y_slA000 Hvaa.underlying28 sz_5 (et g0 rfl) ) ?_
                            refine p_gstep (j := 2) (t := 67) (by exact rfl) (by exact rfl) (by exact rfl) (et (gS rfl (gS rfl (gS rfl (gS rfl (gS rfl (gS rfl (gS rfl (gS rfl (gS rfl (gS rfl (gS rfl (gS rfl (gS rfl (gS rfl (gS rfl (gS rfl (gS rfl (gS rfl g0)))))))))))))))))) rfl) rfl (y_str Hvaa.underlying38 Hvaa.underlying9 (et g0 rfl) (atSW (wv_row32 hrow2))) ?_
                            refine p_gstep (j := 2) (t := 67) (by exact rfl) (by exact rfl) (by exact rfl) (et (gS rfl (gS rfl (gS rfl (gS rfl (gS rfl (gS rfl (gS rfl (gS rfl (gS rfl (gS rfl (gS rfl (gS rfl (gS rfl (gS rfl (gS rfl (gS rfl (gS rfl (gS rfl (gS rfl g0))))))))))))))))))) rfl) rfl ((y_sGeq Hvaa.underlying9 (be_lt 32 _) (be_lt 32 _) (by rw [length_be, length_be]) (et (gS rfl (gS rfl (gS rfl (gS rfl (gS rfl (gS rfl (gS rfl (gS rfl (gS rfl g0))))))))) rfl) (et g0 rfl)).to (bool_be32 hkp hkl)) ?_
                            refine p_step (by exact rfl) (y_pickT (et (gS rfl (gS rfl (gS rfl (gS rfl (gS rfl (gS rfl (gS rfl (gS rfl (gS rfl (gS rfl (gS rfl (gS rfl (gS rfl (gS rfl (gS rfl (gS rfl (gS rfl (gS rfl (gS rfl (gS rfl g0)))))))))))))))))))) rfl) (et g0 rfl)) ?_
                            refine p_nil ?_
                            refine fK4 0 51 52 88 (gS rfl (gS rfl (gS rfl (gS rfl (gS rfl (gS rfl (gS rfl (gS rfl (gS rfl (gS rfl (gS rfl (gS rfl (gS rfl (gS rfl (gS rfl (gS rfl (gS rfl (gS rfl (gS rfl (gS rfl (gS rfl (gS rfl (gS rfl (gS rfl (gS rfl (gS rfl (gS rfl (gS rfl g0)))))))))))))))))))))))))))) (gS rfl (gS rfl (gS rfl (gS rfl (gS rfl (gS rfl (gS rfl (gS rfl (gS rfl (gS rfl (gS rfl (gS rfl (gS rfl (gS rfl (gS rfl (gS rfl (gS rfl (gS rfl (gS rfl (gS rfl (gS rfl (gS rfl (gS rfl (gS rfl (gS rfl (gS rfl (gS rfl g0))))))))))))))))))))))))))) (gS rfl (gS rfl (gS rfl (gS rfl (gS rfl (gS rfl (gS rfl (gS rfl (gS rfl (gS rfl (gS rfl (gS rfl (gS rfl (gS rfl (gS rfl (gS rfl (gS rfl (gS rfl (gS rfl (gS rfl (gS rfl (gS rfl (gS rfl (gS rfl (gS rfl (gS rfl g0)))))))))))))))))))))))))) g0 (fun g => ?_)
                            exact hJ24 _ _ ⟨g, _, _, rfl, (by first | (rw [decide_eq_true_iff]; exact ⟨fun h9 => ⟨hj0, fun _ => by omega⟩, fun h9 => by have := h9.2 (by omega); omega⟩) | (simp only [Bool.false_eq_true, false_iff]; exact fun h9 => hj0 h9.1)), V24⟩
                          · skip
                            have hj0 : ¬ 0 < j := by have := of_decide_eq_false q28; omega
                            refine p_gskip (j := 2) (t := 67) (by exact rfl) (by exact rfl) (by exact rfl) (et g0 rfl) rfl rfl ?_
                            refine p_gskip (j := 2) (t := 67) (by exact rfl) (by exact rfl) (by exact rfl) (et (gS rfl g0) rfl) rfl rfl ?_
                            refine p_gskip (j := 2) (t := 67) (by exact rfl) (by exact rfl) (by exact rfl) (et (gS rfl (gS rfl g0)) rfl) rfl rfl ?_
                            refine p_gskip (j := 2) (t := 67) (by exact rfl) (by exact rfl) (by exact rfl) (et (gS rfl (gS rfl (gS rfl g0))) rfl) rfl rfl ?_
                            refine p_gskip (j := 2) (t := 67) (by exact rfl) (by exact rfl) (by exact rfl) (et (gS rfl (gS rfl (gS rfl (gS rfl g0)))) rfl) rfl rfl ?_
                            refine p_gskip (j := 2) (t := 67) (by exact rfl) (by exact rfl) (by exact rfl) (et (gS rfl (gS rfl (gS rfl (gS rfl (gS rfl g0))))) rfl) rfl rfl ?_
                            refine p_gskip (j := 2) (t := 67) (by exact rfl) (by exact rfl) (by exact rfl) (et (gS rfl (gS rfl (gS rfl (gS rfl (gS rfl (gS rfl g0)))))) rfl) rfl rfl ?_
                            refine p_gskip (j := 2) (t := 67) (by exact rfl) (by exact rfl) (by exact rfl) (et (gS rfl (gS rfl (gS rfl (gS rfl (gS rfl (gS rfl (gS rfl g0))))))) rfl) rfl rfl ?_
                            refine p_gskip (j := 2) (t := 67) (by exact rfl) (by exact rfl) (by exact rfl) (et (gS rfl (gS rfl (gS rfl (gS rfl (gS rfl (gS rfl (gS rfl (gS rfl g0)))))))) rfl) rfl rfl ?_
                            refine p_gskip (j := 2) (t := 67) (by exact rfl) (by exact rfl) (by exact rfl) (et (gS rfl (gS rfl (gS rfl (gS rfl (gS rfl (gS rfl (gS rfl (gS rfl (gS rfl g0))))))))) rfl) rfl rfl ?_
                            refine p_gskip (j := 2) (t := 67) (by exact rfl) (by exact rfl) (by exact rfl) (et (gS rfl (gS rfl (gS rfl (gS rfl (gS rfl (gS rfl (gS rfl (gS rfl (gS rfl (gS rfl g0)))))))))) rfl) rfl rfl ?_
                            refine p_gskip (j := 2) (t := 67) (by exact rfl) (by exact rfl) (by exact rfl) (et (gS rfl (gS rfl (gS rfl (gS rfl (gS rfl (gS rfl (gS rfl (gS rfl (gS rfl (gS rfl (gS rfl g0))))))))))) rfl) rfl rfl ?_
                            refine p_gskip (j := 2) (t := 67) (by exact rfl) (by exact rfl) (by exact rfl) (et (gS rfl (gS rfl (gS rfl (gS rfl (gS rfl (gS rfl (gS rfl (gS rfl (gS rfl (gS rfl (gS rfl (gS rfl g0)))))))))))) rfl) rfl rfl ?_
                            refine p_gskip (j := 2) (t := 67) (by exact rfl) (by exact rfl) (by exact rfl) (et (gS rfl (gS rfl (gS rfl (gS rfl (gS rfl (gS rfl (gS rfl (gS rfl (gS rfl (gS rfl (gS rfl (gS rfl (gS rfl g0))))))))))))) rfl) rfl rfl ?_
                            refine p_gskip (j := 2) (t := 67) (by exact rfl) (by exact rfl) (by exact rfl) (et (gS rfl (gS rfl (gS rfl (gS rfl (gS rfl (gS rfl (gS rfl (gS rfl (gS rfl (gS rfl (gS rfl (gS rfl (gS rfl (gS rfl g0)))))))))))))) rfl) rfl rfl ?_
                            refine p_gskip (j := 2) (t := 67) (by exact rfl) (by exact rfl) (by exact rfl) (et (gS rfl (gS rfl (gS rfl (gS rfl (gS rfl (gS rfl (gS rfl (gS rfl (gS rfl (gS rfl (gS rfl (gS rfl (gS rfl (gS rfl (gS rfl g0))))))))))))))) rfl) rfl rfl ?_
                            refine p_gskip (j := 2) (t := 67) (by exact rfl) (by exact rfl) (by exact rfl) (et (gS rfl (gS rfl (gS rfl (gS rfl (gS rfl (gS rfl (gS rfl (gS rfl (gS rfl (gS rfl (gS rfl (gS rfl (gS rfl (gS rfl (gS rfl (gS rfl g0)))))))))))))))) rfl) rfl rfl ?_
                            refine p_gskip (j := 2) (t := 67) (by exact rfl) (by exact rfl) (by exact rfl) (et (gS rfl (gS rfl (gS rfl (gS rfl (gS rfl (gS rfl (gS rfl (gS rfl (gS rfl (gS rfl (gS rfl (gS rfl (gS rfl (gS rfl (gS rfl (gS rfl (gS rfl g0))))))))))))))))) rfl) rfl rfl ?_
                            refine p_gskip (j := 2) (t := 67) (by exact rfl) (by exact rfl) (by exact rfl) (et (gS rfl (gS rfl (gS rfl (gS rfl (gS rfl (gS rfl (gS rfl (gS rfl (gS rfl (gS rfl (gS rfl (gS rfl (gS rfl (gS rfl (gS rfl (gS rfl (gS rfl (gS rfl g0)))))))))))))))))) rfl) rfl rfl ?_
                            refine p_gskip (j := 2) (t := 67) (by exact rfl) (by exact rfl) (by exact rfl) (et (gS rfl (gS rfl (gS rfl (gS rfl (gS rfl (gS rfl (gS rfl (gS rfl (gS rfl (gS rfl (gS rfl (gS rfl (gS rfl (gS rfl (gS rfl (gS rfl (gS rfl (gS rfl (gS rfl g0))))))))))))))))))) rfl) rfl rfl ?_
                            refine p_step (by exact rfl) (y_pickF (et (gS rfl (gS rfl (gS rfl (gS rfl (gS rfl (gS rfl (gS rfl (gS rfl (gS rfl (gS rfl (gS rfl (gS rfl (gS rfl (gS rfl (gS rfl (gS rfl (gS rfl (gS rfl (gS rfl (gS rfl g0)))))))))))))))))))) rfl) rfl) ?_
                            refine p_nil ?_
                            refine fK4 0 51 52 88 (gS rfl (gS rfl (gS rfl (gS rfl (gS rfl (gS rfl (gS rfl (gS rfl (gS rfl (gS rfl (gS rfl (gS rfl (gS rfl (gS rfl (gS rfl (gS rfl (gS rfl (gS rfl (gS rfl (gS rfl (gS rfl (gS rfl (gS rfl (gS rfl (gS rfl (gS rfl (gS rfl (gS rfl g0)))))))))))))))))))))))))))) (gS rfl (gS rfl (gS rfl (gS rfl (gS rfl (gS rfl (gS rfl (gS rfl (gS rfl (gS rfl (gS rfl (gS rfl (gS rfl (gS rfl (gS rfl (gS rfl (gS rfl (gS rfl (gS rfl (gS rfl (gS rfl (gS rfl (gS rfl (gS rfl (gS rfl (gS rfl (gS rfl g0))))))))))))))))))))))))))) (gS rfl (gS rfl (gS rfl (gS rfl (gS rfl (gS rfl (gS rfl (gS rfl (gS rfl (gS rfl (gS rfl (gS rfl (gS rfl (gS rfl (gS rfl (gS rfl (gS rfl (gS rfl (gS rfl (gS rfl (gS rfl (gS rfl (gS rfl (gS rfl (gS rfl (gS rfl g0)))))))))))))))))))))))))) g0 (fun g => ?_)
                            exact hJ24 _ _ ⟨g, _, _, rfl, (by first | (rw [decide_eq_true_iff]; exact ⟨fun h9 => ⟨hj0, fun _ => by omega⟩, fun h9 => by have := h9.2 (by omega); omega⟩) | (simp only [Bool.false_eq_true, false_iff]; exact fun h9 => hj0 h9.1)), V24⟩))
                  · skip
                    
                    have hje : j = A.slots.length := by have := of_decide_eq_false cB3; omega
                    subst hje
                    have hall : AOk A := ⟨hne, hcs.1, hcs.2, hso⟩
                    refine c_exit ?_
                    refine hQ12 _ _ _ (in_exit ?_)
                    refine hK10 _ _ ?_
                    refine fg0 (fun g => ?_)
                    refine c_seq (fun K29 hK29 => ?_)
                    exact (by
                      refine c_region ?_
                      refine l_step y_assignC ?_
                      refine l_nil ?_
                      refine hK29 _ _ ?_
                      refine c_ret ?_
                      repeat with_reducible refine then_ret ?_
                      refine ret1 rfl (res_tmp (et g0 rfl)) ?_
                      first | exact ⟨false, rfl, ⟨fun h9 => (by cases h9), fun h9 => absurd h9 hn⟩, U⟩ | exact ⟨true, rfl, ⟨fun _ => hall, fun _ => rfl⟩, U⟩)))
        have V7 : Go (fun k => False) W3 Hk3 W3 Hk3 := Go.refl hF
        refine c_region ?_
        refine l_step (y_moveV (et g0 rfl)) ?_
        refine l_step (y_nil (et g0 rfl)) ?_
        refine l_step (y_fld fld_113_3 (et g0 rfl)) ?_
        refine l_step (y_load1 one_38 (et g0 rfl) (at1 (oa_c1 hR oaC_cod (by omega)))) ?_
        refine l_step (y_len Hvaa.underlying38 (et g0 rfl)) ?_
        refine l_step (y_gtr (et g0 rfl) rfl) ?_
        refine l_step (y_moveV (et g0 rfl)) ?_
        refine gsplitL (i := 39) g0 (fun q30 => ?_) (fun q30 => ?_)
        · skip
          have e5 : ¬ A.code.length ≤ 256 := by have := of_decide_eq_true q30; omega
          refine l_gskip (j := 6) (t := 39) (by exact rfl) (by exact rfl) (et g0 rfl) (by decide) (by decide) ?_
          refine l_gskip (j := 6) (t := 39) (by exact rfl) (by exact rfl) (et (gS rfl g0) rfl) (by decide) (by decide) ?_
          refine l_gskip (j := 6) (t := 39) (by exact rfl) (by exact rfl) (et (gS rfl (gS rfl g0)) rfl) (by decide) (by decide) ?_
          refine l_gskip (j := 6) (t := 39) (by exact rfl) (by exact rfl) (et (gS rfl (gS rfl (gS rfl g0))) rfl) (by decide) (by decide) ?_
          refine l_gskip (j := 6) (t := 39) (by exact rfl) (by exact rfl) (et (gS rfl (gS rfl (gS rfl (gS rfl g0)))) rfl) (by decide) (by decide) ?_
          refine l_gskip (j := 6) (t := 39) (by exact rfl) (by exact rfl) (et (gS rfl (gS rfl (gS rfl (gS rfl (gS rfl g0))))) rfl) (by decide) (by decide) ?_
          refine l_step (y_pickT (et (gS rfl (gS rfl (gS rfl (gS rfl (gS rfl (gS rfl g0)))))) rfl) rfl) ?_
          refine l_nil ?_
          refine fK2 0 46 (gS rfl (gS rfl (gS rfl (gS rfl (gS rfl (gS rfl (gS rfl (gS rfl (gS rfl (gS rfl (gS rfl (gS rfl (gS rfl (gS rfl (gS rfl g0))))))))))))))) g0 (fun g => ?_)
          exact hJ7 _ _ ⟨g, _, _, rfl, (by first | (simp only [Bool.false_eq_true, false_iff]; omega) | (simp only [true_iff]; omega) | (rw [decide_eq_true_iff]; omega)), V7⟩
        · skip
          have e5 : A.code.length ≤ 256 := by have := of_decide_eq_false q30; omega
          refine l_gstep (j := 6) (t := 39) (by exact rfl) (by exact rfl) (et g0 rfl) (by decide) (y_moveV (et (gS rfl (gS rfl (gS rfl (gS rfl (gS rfl (gS rfl (gS rfl (gS rfl g0)))))))) rfl)) ?_
          refine l_gstep (j := 6) (t := 39) (by exact rfl) (by exact rfl) (et (gS rfl g0) rfl) (by decide) (y_nil (et g0 rfl)) ?_
          refine l_gstep (j := 6) (t := 39) (by exact rfl) (by exact rfl) (et (gS rfl (gS rfl g0)) rfl) (by decide) (y_fld fld_113_4 (et g0 rfl)) ?_
          refine l_gstep (j := 6) (t := 39) (by exact rfl) (by exact rfl) (et (gS rfl (gS rfl (gS rfl g0))) rfl) (by decide) (y_load1 one_111 (et g0 rfl) (at1 (oa_c1 hR oaC_sto (by omega)))) ?_
          refine l_gstep (j := 6) (t := 39) (by exact rfl) (by exact rfl) (et (gS rfl (gS rfl (gS rfl (gS rfl g0)))) rfl) (by decide) (y_len Hvaa.underlying111 (et g0 rfl)) ?_
          refine l_gstep (j := 6) (t := 39) (by exact rfl) (by exact rfl) (et (gS rfl (gS rfl (gS rfl (gS rfl (gS rfl g0))))) rfl) (by decide) (y_gtr (et g0 rfl) rfl) ?_
          refine l_step (y_pickF (et (gS rfl (gS rfl (gS rfl (gS rfl (gS rfl (gS rfl g0)))))) rfl) (et g0 rfl)) ?_
          refine l_nil ?_
          refine fK2 0 46 (gS rfl (gS rfl (gS rfl (gS rfl (gS rfl (gS rfl (gS rfl (gS rfl (gS rfl (gS rfl (gS rfl (gS rfl (gS rfl (gS rfl (gS rfl g0))))))))))))))) g0 (fun g => ?_)
          exact hJ7 _ _ ⟨g, _, _, rfl, (by first | (simp only [Bool.false_eq_true, false_iff]; omega) | (simp only [true_iff]; omega) | (rw [decide_eq_true_iff]; omega)), V7⟩
    have V3 : Go (fun k => False) w H w H := Go.refl hF
    refine c_region ?_
    refine l_step (y_moveV (et g0 rfl)) ?_
    refine l_step (y_nil (et g0 rfl)) ?_
    refine l_step (y_fld fld_113_1 (et g0 rfl)) ?_
    refine l_step (y_load1 one_26 (et g0 rfl) (at1 (oa_c1 hR oaC_non (by omega)))) ?_
    refine l_step (y_eql (et g0 rfl) rfl) ?_
    refine l_step (y_moveV (et g0 rfl)) ?_
    refine gsplitL (i := 9) g0 (fun q31 => ?_) (fun q31 => ?_)
    · skip
      have e1 : A.nonce = 0 := by have := of_decide_eq_true q31; omega
      refine l_gstep (j := 5) (t := 9) (by exact rfl) (by exact rfl) (et g0 rfl) (by decide) (y_moveV (et (gS rfl (gS rfl (gS rfl (gS rfl (gS rfl (gS rfl (gS rfl g0))))))) rfl)) ?_
      refine l_gstep (j := 5) (t := 9) (by exact rfl) (by exact rfl) (et (gS rfl g0) rfl) (by decide) (y_nil (et g0 rfl)) ?_
      refine l_gstep (j := 5) (t := 9) (by exact rfl) (by exact rfl) (et (gS rfl (gS rfl g0)) rfl) (by decide) (y_fld fld_113_3 (et g0 rfl)) ?_
      refine l_gstep (j := 5) (t := 9) (by exact rfl) (by exact rfl) (et (gS rfl (gS rfl (gS rfl g0))) rfl) (by decide) (y_load1 one_38 (et g0 rfl) (at1 (oa_c1 hR oaC_cod (by omega)))) ?_
      refine l_gstep (j := 5) (t := 9) (by exact rfl) (by exact rfl) (et (gS rfl (gS rfl (gS rfl (gS rfl g0)))) rfl) (by decide) (y_len Hvaa.underlying38 (et g0 rfl)) ?_
      refine l_gstep (j := 5) (t := 9) (by exact rfl) (by exact rfl) (et (gS rfl (gS rfl (gS rfl (gS rfl (gS rfl g0))))) rfl) (by decide) (y_eql (et g0 rfl) rfl) ?_
      refine l_step (y_pickT (et (gS rfl (gS rfl (gS rfl (gS rfl (gS rfl (gS rfl g0)))))) rfl) (et g0 rfl)) ?_
      refine l_step (y_moveV (et g0 rfl)) ?_
      refine gsplitL (i := 17) g0 (fun q32 => ?_) (fun q32 => ?_)
      · skip
        have e2 : A.code.length = 0 := by have := of_decide_eq_true q32; omega
        refine l_gstep (j := 13) (t := 17) (by exact rfl) (by exact rfl) (et g0 rfl) (by decide) (y_moveV (et (gS rfl (gS rfl (gS rfl (gS rfl (gS rfl (gS rfl (gS rfl (gS rfl (gS rfl (gS rfl (gS rfl (gS rfl (gS rfl (gS rfl (gS rfl (gS rfl g0)))))))))))))))) rfl)) ?_
        refine l_gstep (j := 13) (t := 17) (by exact rfl) (by exact rfl) (et (gS rfl g0) rfl) (by decide) (y_nil (et g0 rfl)) ?_
        refine l_gstep (j := 13) (t := 17) (by exact rfl) (by exact rfl) (et (gS rfl (gS rfl g0)) rfl) (by decide) (y_fld fld_113_2 (et g0 rfl)) ?_
        refine l_gstep (j := 13) (t := 17) (by exact rfl) (by exact rfl) (et (gS rfl (gS rfl (gS rfl g0))) rfl) (by decide) (y_loadR agg_28 sz_28 (et g0 rfl) (by rw [length_bL, length_be]) (at1R (oa_row hR (by omega)))) ?_
        refine l_gstep (j := 13) (t := 17) (by exact rfl) (by exact rfl) (et (gS rfl (gS rfl (gS rfl (gS rfl g0)))) rfl) (by decide) (y_bld bN bld28_z) ?_
        refine l_gstep (j := 13) (t := 17) (by exact rfl) (by exact rfl) (et (gS rfl (gS rfl (gS rfl (gS rfl (gS rfl g0))))) rfl) (by decide) (y_eqlH hbl (by decide) (et (gS rfl g0) rfl) (et g0 rfl)) ?_
        refine l_gstep (j := 13) (t := 17) (by exact rfl) (by exact rfl) (et (gS rfl (gS rfl (gS rfl (gS rfl (gS rfl (gS rfl g0)))))) rfl) (by decide) (y_moveV (et g0 rfl)) ?_
        refine gsplitL (i := 24) g0 (fun q33 => ?_) (fun q33 => ?_)
        · skip
          have e3 : A.bal = 0 := of_decide_eq_true q33
          refine l_gskip (j := 20) (t := 24) (by exact rfl) (by exact rfl) (et g0 rfl) (by decide) (by decide) ?_
          refine l_gskip (j := 20) (t := 24) (by exact rfl) (by exact rfl) (et (gS rfl g0) rfl) (by decide) (by decide) ?_
          refine l_gskip (j := 20) (t := 24) (by exact rfl) (by exact rfl) (et (gS rfl (gS rfl g0)) rfl) (by decide) (by decide) ?_
          refine l_gskip (j := 20) (t := 24) (by exact rfl) (by exact rfl) (et (gS rfl (gS rfl (gS rfl g0))) rfl) (by decide) (by decide) ?_
          refine l_gskip (j := 20) (t := 24) (by exact rfl) (by exact rfl) (et (gS rfl (gS rfl (gS rfl (gS rfl g0)))) rfl) (by decide) (by decide) ?_
          refine l_gskip (j := 20) (t := 24) (by exact rfl) (by exact rfl) (et (gS rfl (gS rfl (gS rfl (gS rfl (gS rfl g0))))) rfl) (by decide) (by decide) ?_
          refine l_gstep (j := 13) (t := 17) (by exact rfl) (by exact rfl) (et (gS rfl (gS rfl (gS rfl (gS rfl (gS rfl (gS rfl (gS rfl (gS rfl (gS rfl (gS rfl (gS rfl (gS rfl (gS rfl (gS rfl g0)))))))))))))) rfl) (by decide) (y_pickT (et (gS rfl (gS rfl (gS rfl (gS rfl (gS rfl (gS rfl g0)))))) rfl) rfl) ?_
          refine l_step (y_pickT (et (gS rfl (gS rfl (gS rfl (gS rfl (gS rfl (gS rfl (gS rfl (gS rfl (gS rfl (gS rfl (gS rfl (gS rfl (gS rfl (gS rfl (gS rfl g0))))))))))))))) rfl) (et g0 rfl)) ?_
          refine l_nil ?_
          refine fK2 0 32 (gS rfl (gS rfl (gS rfl (gS rfl (gS rfl (gS rfl (gS rfl (gS rfl (gS rfl (gS rfl (gS rfl (gS rfl (gS rfl (gS rfl (gS rfl (gS rfl (gS rfl (gS rfl (gS rfl (gS rfl (gS rfl (gS rfl (gS rfl (gS rfl (gS rfl (gS rfl (gS rfl (gS rfl (gS rfl (gS rfl (gS rfl (gS rfl g0)))))))))))))))))))))))))))))))) g0 (fun g => ?_)
          exact hJ3 _ _ ⟨g, _, _, rfl, (by first | (simp only [Bool.false_eq_true, false_iff]; omega) | (simp only [true_iff]; omega) | (rw [decide_eq_true_iff]; omega)), V3⟩
        · skip
          have e3 : ¬ A.bal = 0 := of_decide_eq_false q33
          refine l_gstep (j := 20) (t := 24) (by exact rfl) (by exact rfl) (et g0 rfl) (by decide) (y_moveV (et (gS rfl (gS rfl (gS rfl (gS rfl (gS rfl (gS rfl (gS rfl (gS rfl (gS rfl (gS rfl (gS rfl (gS rfl (gS rfl (gS rfl (gS rfl (gS rfl (gS rfl (gS rfl (gS rfl (gS rfl (gS rfl (gS rfl (gS rfl (gS rfl g0)))))))))))))))))))))))) rfl)) ?_
          refine l_gstep (j := 20) (t := 24) (by exact rfl) (by exact rfl) (et (gS rfl g0) rfl) (by decide) (y_nil (et g0 rfl)) ?_
          refine l_gstep (j := 20) (t := 24) (by exact rfl) (by exact rfl) (et (gS rfl (gS rfl g0)) rfl) (by decide) (y_fld fld_113_4 (et g0 rfl)) ?_
          refine l_gstep (j := 20) (t := 24) (by exact rfl) (by exact rfl) (et (gS rfl (gS rfl (gS rfl g0))) rfl) (by decide) (y_load1 one_111 (et g0 rfl) (at1 (oa_c1 hR oaC_sto (by omega)))) ?_
          refine l_gstep (j := 20) (t := 24) (by exact rfl) (by exact rfl) (et (gS rfl (gS rfl (gS rfl (gS rfl g0)))) rfl) (by decide) (y_len Hvaa.underlying111 (et g0 rfl)) ?_
          refine l_gstep (j := 20) (t := 24) (by exact rfl) (by exact rfl) (et (gS rfl (gS rfl (gS rfl (gS rfl (gS rfl g0))))) rfl) (by decide) (y_gtr (et g0 rfl) rfl) ?_
          refine l_gstep (j := 13) (t := 17) (by exact rfl) (by exact rfl) (et (gS rfl (gS rfl (gS rfl (gS rfl (gS rfl (gS rfl (gS rfl (gS rfl (gS rfl (gS rfl (gS rfl (gS rfl (gS rfl (gS rfl g0)))))))))))))) rfl) (by decide) (y_pickF (et (gS rfl (gS rfl (gS rfl (gS rfl (gS rfl (gS rfl g0)))))) rfl) (et g0 rfl)) ?_
          refine l_step (y_pickT (et (gS rfl (gS rfl (gS rfl (gS rfl (gS rfl (gS rfl (gS rfl (gS rfl (gS rfl (gS rfl (gS rfl (gS rfl (gS rfl (gS rfl (gS rfl g0))))))))))))))) rfl) (et g0 rfl)) ?_
          refine l_nil ?_
          refine fK2 0 32 (gS rfl (gS rfl (gS rfl (gS rfl (gS rfl (gS rfl (gS rfl (gS rfl (gS rfl (gS rfl (gS rfl (gS rfl (gS rfl (gS rfl (gS rfl (gS rfl (gS rfl (gS rfl (gS rfl (gS rfl (gS rfl (gS rfl (gS rfl (gS rfl (gS rfl (gS rfl (gS rfl (gS rfl (gS rfl (gS rfl (gS rfl (gS rfl g0)))))))))))))))))))))))))))))))) g0 (fun g => ?_)
          exact hJ3 _ _ ⟨g, _, _, rfl, (by first | (simp only [Bool.false_eq_true, false_iff]; omega) | (simp only [true_iff]; omega) | (rw [decide_eq_true_iff]; omega)), V3⟩
      · skip
        have e2 : ¬ A.code.length = 0 := by have := of_decide_eq_false q32; omega
        refine l_gskip (j := 13) (t := 17) (by exact rfl) (by exact rfl) (et g0 rfl) (by decide) (by decide) ?_
        refine l_gskip (j := 13) (t := 17) (by exact rfl) (by exact rfl) (et (gS rfl g0) rfl) (by decide) (by decide) ?_
        refine l_gskip (j := 13) (t := 17) (by exact rfl) (by exact rfl) (et (gS rfl (gS rfl g0)) rfl) (by decide) (by decide) ?_
        refine l_gskip (j := 13) (t := 17) (by exact rfl) (by exact rfl) (et (gS rfl (gS rfl (gS rfl g0))) rfl) (by decide) (by decide) ?_
        refine l_gskip (j := 13) (t := 17) (by exact rfl) (by exact rfl) (et (gS rfl (gS rfl (gS rfl (gS rfl g0)))) rfl) (by decide) (by decide) ?_
        refine l_gskip (j := 13) (t := 17) (by exact rfl) (by exact rfl) (et (gS rfl (gS rfl (gS rfl (gS rfl (gS rfl g0))))) rfl) (by decide) (by decide) ?_
        refine l_gskip (j := 13) (t := 17) (by exact rfl) (by exact rfl) (et (gS rfl (gS rfl (gS rfl (gS rfl (gS rfl (gS rfl g0)))))) rfl) (by decide) (by decide) ?_
        refine l_uskip (j := 20) (t := 24) (by exact rfl) (by exact rfl) (et g0 rfl) rfl ?_
        refine l_uskip (j := 20) (t := 24) (by exact rfl) (by exact rfl) (et (gS rfl g0) rfl) rfl ?_
        refine l_uskip (j := 20) (t := 24) (by exact rfl) (by exact rfl) (et (gS rfl (gS rfl g0)) rfl) rfl ?_
        refine l_uskip (j := 20) (t := 24) (by exact rfl) (by exact rfl) (et (gS rfl (gS rfl (gS rfl g0))) rfl) rfl ?_
        refine l_uskip (j := 20) (t := 24) (by exact rfl) (by exact rfl) (et (gS rfl (gS rfl (gS rfl (gS rfl g0)))) rfl) rfl ?_
        refine l_uskip (j := 20) (t := 24) (by exact rfl) (by exact rfl) (et (gS rfl (gS rfl (gS rfl (gS rfl (gS rfl g0))))) rfl) rfl ?_
        refine l_gskip (j := 13) (t := 17) (by exact rfl) (by exact rfl) (et (gS rfl (gS rfl (gS rfl (gS rfl (gS rfl (gS rfl (gS rfl (gS rfl (gS rfl (gS rfl (gS rfl (gS rfl (gS rfl g0))))))))))))) rfl) (by decide) (by decide) ?_
        refine l_step (y_pickF (et (gS rfl (gS rfl (gS rfl (gS rfl (gS rfl (gS rfl (gS rfl (gS rfl (gS rfl (gS rfl (gS rfl (gS rfl (gS rfl (gS rfl g0)))))))))))))) rfl) rfl) ?_
        refine l_nil ?_
        refine fK2 0 32 (gS rfl (gS rfl (gS rfl (gS rfl (gS rfl (gS rfl (gS rfl (gS rfl (gS rfl (gS rfl (gS rfl (gS rfl (gS rfl (gS rfl (gS rfl (gS rfl (gS rfl (gS rfl (gS rfl (gS rfl (gS rfl (gS rfl (gS rfl (gS rfl (gS rfl (gS rfl (gS rfl (gS rfl (gS rfl (gS rfl (gS rfl g0))))))))))))))))))))))))))))))) g0 (fun g => ?_)
        exact hJ3 _ _ ⟨g, _, _, rfl, (by first | (simp only [Bool.false_eq_true, false_iff]; omega) | (simp only [true_iff]; omega) | (rw [decide_eq_true_iff]; omega)), V3⟩
    · skip
      have e1 : ¬ A.nonce = 0 := by have := of_decide_eq_false q31; omega
      refine l_gskip (j := 5) (t := 9) (by exact rfl) (by exact rfl) (et g0 rfl) (by decide) (by decide) ?_
      refine l_gskip (j := 5) (t := 9) (by exact rfl) (by exact rfl) (et (gS rfl g0) rfl) (by decide) (by decide) ?_
      refine l_gskip (j := 5) (t := 9) (by exact rfl) (by exact rfl) (et (gS rfl (gS rfl g0)) rfl) (by decide) (by decide) ?_
      refine l_gskip (j := 5) (t := 9) (by exact rfl) (by exact rfl) (et (gS rfl (gS rfl (gS rfl g0))) rfl) (by decide) (by decide) ?_
      refine l_gskip (j := 5) (t := 9) (by exact rfl) (by exact rfl) (et (gS rfl (gS rfl (gS rfl (gS rfl g0)))) rfl) (by decide) (by decide) ?_
      refine l_gskip (j := 5) (t := 9) (by exact rfl) (by exact rfl) (et (gS rfl (gS rfl (gS rfl (gS rfl (gS rfl g0))))) rfl) (by decide) (by decide) ?_
      refine l_step (y_pickF (et (gS rfl (gS rfl (gS rfl (gS rfl (gS rfl (gS rfl g0)))))) rfl) rfl) ?_
      refine l_step (y_moveV (et g0 rfl)) ?_
      refine l_gskip (j := 13) (t := 17) (by exact rfl) (by exact rfl) (et g0 rfl) (by decide) (by decide) ?_
      refine l_gskip (j := 13) (t := 17) (by exact rfl) (by exact rfl) (et (gS rfl g0) rfl) (by decide) (by decide) ?_
      refine l_gskip (j := 13) (t := 17) (by exact rfl) (by exact rfl) (et (gS rfl (gS rfl g0)) rfl) (by decide) (by decide) ?_
      refine l_gskip (j := 13) (t := 17) (by exact rfl) (by exact rfl) (et (gS rfl (gS rfl (gS rfl g0))) rfl) (by decide) (by decide) ?_
      refine l_gskip (j := 13) (t := 17) (by exact rfl) (by exact rfl) (et (gS rfl (gS rfl (gS rfl (gS rfl g0)))) rfl) (by decide) (by decide) ?_
      refine l_gskip (j := 13) (t := 17) (by exact rfl) (by exact rfl) (et (gS rfl (gS rfl (gS rfl (gS rfl (gS rfl g0))))) rfl) (by decide) (by decide) ?_
      refine l_gskip (j := 13) (t := 17) (by exact rfl) (by exact rfl) (et (gS rfl (gS rfl (gS rfl (gS rfl (gS rfl (gS rfl g0)))))) rfl) (by decide) (by decide) ?_
      refine l_uskip (j := 20) (t := 24) (by exact rfl) (by exact rfl) (et g0 rfl) rfl ?_
      refine l_uskip (j := 20) (t := 24) (by exact rfl) (by exact rfl) (et (gS rfl g0) rfl) rfl ?_
      refine l_uskip (j := 20) (t := 24) (by exact rfl) (by exact rfl) (et (gS rfl (gS rfl g0)) rfl) rfl ?_
      refine l_uskip (j := 20) (t := 24) (by exact rfl) (by exact rfl) (et (gS rfl (gS rfl (gS rfl g0))) rfl) rfl ?_
      refine l_uskip (j := 20) (t := 24) (by exact rfl) (by exact rfl) (et (gS rfl (gS rfl (gS rfl (gS rfl g0)))) rfl) rfl ?_
      refine l_uskip (j := 20) (t := 24) (by exact rfl) (by exact rfl) (et (gS rfl (gS rfl (gS rfl (gS rfl (gS rfl g0))))) rfl) rfl ?_
      refine l_gskip (j := 13) (t := 17) (by exact rfl) (by exact rfl) (et (gS rfl (gS rfl (gS rfl (gS rfl (gS rfl (gS rfl (gS rfl (gS rfl (gS rfl (gS rfl (gS rfl (gS rfl (gS rfl g0))))))))))))) rfl) (by decide) (by decide) ?_
      refine l_step (y_pickF (et (gS rfl (gS rfl (gS rfl (gS rfl (gS rfl (gS rfl (gS rfl (gS rfl (gS rfl (gS rfl (gS rfl (gS rfl (gS rfl (gS rfl g0)))))))))))))) rfl) rfl) ?_
      refine l_nil ?_
      refine fK2 0 32 (gS rfl (gS rfl (gS rfl (gS rfl (gS rfl (gS rfl (gS rfl (gS rfl (gS rfl (gS rfl (gS rfl (gS rfl (gS rfl (gS rfl (gS rfl (gS rfl (gS rfl (gS rfl (gS rfl (gS rfl (gS rfl (gS rfl (gS rfl (gS rfl (gS rfl (gS rfl (gS rfl (gS rfl (gS rfl (gS rfl g0)))))))))))))))))))))))))))))) g0 (fun g => ?_)
      exact hJ3 _ _ ⟨g, _, _, rfl, (by first | (simp only [Bool.false_eq_true, false_iff]; omega) | (simp only [true_iff]; omega) | (rw [decide_eq_true_iff]; omega)), V3⟩)
structure WOk (l : List YAcct) : Prop where
  len : l.length ≤ 8
  acct : ∀ A ∈ l, AOk A
  rise : ∀ i, (hi : i < l.length) → 0 < i → (l[i - 1]'(by omega)).addr < l[i].addr
  sum : sumB l < W256
structure WPre (l : List YAcct) (n : Nat) : Prop where
  acct : ∀ i, (hi : i < l.length) → i < n → AOk l[i]
  rise : ∀ i, (hi : i < l.length) → i < n → 0 < i → (l[i - 1]'(by omega)).addr < l[i].addr
  sum : sumB (l.take n) < W256
theorem sum_snoc (l : List YAcct) (A : YAcct) : sumB (l ++ [A]) = sumB l + A.bal := by simp [sumB]
theorem sum_take {l : List YAcct} {i : Nat} (h : i < l.length) : sumB (l.take (i + 1)) = sumB (l.take i) + l[i].bal := by
  rw [← List.take_append_getElem h, sum_snoc]
theorem sum_app (l m : List YAcct) : sumB (l ++ m) = sumB l + sumB m := by simp [sumB]
theorem sum_tk {l : List YAcct} (i : Nat) : sumB (l.take i) ≤ sumB l := by
  have := sum_app (l.take i) (l.drop i)
  rw [List.take_append_drop] at this
  omega
theorem sum_z {w : World} {b : Nat} (l : List YAcct) (k : Blk w b (Value.agg ((List.replicate 32 (Value.int .u8 0) : List Value)).toArray).cells) : Blk w b (bL (be 32 (sumB (l.take 0)))).toArray := by
  have e : sumB (l.take 0) = 0 := by simp [sumB]
  rw [e]
  exact k
theorem wpre_zero (l : List YAcct) : WPre l 0 := ⟨fun _ _ h => absurd h (Nat.not_lt_zero _), fun _ _ h => absurd h (Nat.not_lt_zero _), by show (0 : Nat) < _; decide⟩
theorem wpre_next {l : List YAcct} {i : Nat} (h : WPre l i) (hi : i < l.length) (h1 : AOk l[i]) (h2 : 0 < i → (l[i - 1]'(by omega)).addr < l[i].addr) (h3 : sumB (l.take i) + l[i].bal < W256) : WPre l (i + 1) := by
  refine ⟨fun j hj hn => ?_, fun j hj hn => ?_, by rw [sum_take hi]; exact h3⟩
  · rcases Nat.lt_or_ge j i with h9 | h9
    · exact h.acct j hj h9
    · obtain rfl : j = i := by omega
      exact h1
  · rcases Nat.lt_or_ge j i with h9 | h9
    · exact h.rise j hj h9
    · obtain rfl : j = i := by omega
      exact h2
theorem wpre_all {l : List YAcct} (h : WPre l l.length) (h8 : l.length ≤ 8) : WOk l := by
  refine ⟨h8, fun A hA => ?_, fun i hi => h.rise i hi hi, by have := h.sum; rwa [List.take_length] at this⟩
  obtain ⟨i, hi, e⟩ := List.mem_iff_getElem.1 hA
  rw [← e]
  exact h.acct i hi hi
theorem bool_be20 {a b : Nat} (ha : a < A160) (hb : b < A160) : Value.bool (decide (ofBE (be 20 b) ≤ ofBE (be 20 a))) = Value.bool (decide (b ≤ a)) := by rw [ofBE_addr ha, ofBE_addr hb]
theorem oa_adr {A : YAcct} {vc vs : Value} {w : World} {b o q : Nat} (h : Row w b o (oaC A vc vs)) (e : q = o) : Row w b q (bL (be 20 A.addr)) := fun i x hx => by
  rw [e]
  refine h i x ?_
  have := oaC_adr (A := A) (vc := vc) (vs := vs) i x hx
  rw [List.getElem?_toArray, Nat.zero_add] at this
  exact this
theorem oa_balR {A : YAcct} {vc vs : Value} {C : Array Value} {o : Nat} (h : RowIn C o (oaC A vc vs)) : RowIn C (o + 21) (bL (be 32 A.bal)) := fun i x hx => by
  rw [Nat.add_assoc]
  refine h (21 + i) x ?_
  have := oaC_bal (A := A) (vc := vc) (vs := vs) i x hx
  rw [List.getElem?_toArray] at this
  exact this
theorem obs_WorldOK {w : World} {H : Store} (hF : Fz w H) {l : List YAcct} {wa : Option Addr} {wc : Nat} (hW : LV P_oacct 55 H (.slice wa l.length wc) l) (hlm : l.length < 9223372036854775808) :
    Ret 30 [(.slice wa l.length wc)] w (fun v w' => ∃ t, v = .bool t ∧ (t = true ↔ WOk l) ∧ Up w w') := by
  refine enter (n := 45) Hvaa.func30 rfl rfl (Nat.le_of_ble_eq_true rfl) ?_
  have U := Up.refl w
  have G : Go (No) w H w H := Go.refl hF
  have hL0 : Le H H := Le.refl H
  refine c_seq (fun K1 hK1 => ?_)
  exact (by
    refine c_region ?_
    refine l_step y_assignC ?_
    refine l_nil ?_
    refine hK1 _ _ ?_
    refine fg1 0 (gS rfl g0) (fun g => ?_)
    refine c_seq (fun K2 hK2 => ?_)
    refine c_seq (fun K3 hK3 => ?_)
    exact (by
      refine c_region ?_
      refine l_step (y_moveV (et g0 rfl)) ?_
      refine l_step (y_len Hvaa.underlying23 (et g0 rfl)) ?_
      refine l_step (y_gtr (et g0 rfl) rfl) ?_
      refine l_nil ?_
      refine hK3 _ _ ?_
      refine fg2 0 7 (gS rfl (gS rfl (gS rfl g0))) g0 (fun g => ?_)
      refine c_cond (et g0 rfl) (fun cB1 => ?_) (fun cB1 => ?_)
      · skip
        
        have hn : ¬ WOk l := fun h9 => by have := of_decide_eq_true cB1; have := h9.len; omega
        refine c_seq (fun K5 hK5 => ?_)
        exact (by
          refine c_region ?_
          refine l_step y_assignC ?_
          refine l_nil ?_
          refine hK5 _ _ ?_
          refine fg1 2 g0 (fun g => ?_)
          refine c_ret ?_
          repeat with_reducible refine then_ret ?_
          refine ret1 rfl (res_tmp (et g0 rfl)) ?_
          first | exact ⟨false, rfl, ⟨fun h9 => (by cases h9), fun h9 => absurd h9 hn⟩, U⟩ | exact ⟨true, rfl, ⟨fun _ => hall, fun _ => rfl⟩, U⟩)
      · skip
        
        have h8 : l.length ≤ 8 := by have := of_decide_eq_false cB1; omega
        refine c_skip ?_
        refine hK2 _ _ ?_
        refine fg1 0 (gS rfl g0) (fun g => ?_)
        refine c_seq (fun K6 hK6 => ?_)
        exact (by
          refine c_region ?_
          refine l_eff (e_alloc zr_28) (fun v7 w7 h7 => ?_)
          obtain ⟨b7, rfl, n7⟩ := h7
          have f7 : w.heap.size ≤ b7 := Nat.le_trans U.size n7.fresh
          have nb7 := hF.nb n7.fresh
          replace G := G.tr (Go.ofUp hF n7.up)
          replace hF := hF.up n7.up
          replace U := U.tr n7.up
          have k7 := n7.blk
          replace k7 := sum_z l k7
          refine l_nil ?_
          refine hK6 _ _ ?_
          refine c_seq (fun K8 hK8 => ?_)
          refine c_seq (fun K9 hK9 => ?_)
          exact (by
            refine c_region ?_
            refine l_step (y_moveV (et (gS rfl g0) rfl)) ?_
            refine l_step (y_len Hvaa.underlying23 (et g0 rfl)) ?_
            refine l_step y_moveC ?_
            refine l_nil ?_
            refine hK9 _ _ ?_
            refine fg4 0 3 9 10 (gS rfl (gS rfl (gS rfl (gS rfl g0)))) (gS rfl (gS rfl (gS rfl g0))) (gS rfl g0) g0 (fun g => ?_)
            refine c_block (fun Q10 hQ10 => ?_)
            refine fg4 0 3 9 10 (gS rfl (gS rfl (gS rfl g0))) (gS rfl (gS rfl g0)) (gS rfl g0) g0 (fun g => ?_)
            refine c_loop (fun k_ s_ W11 => ∃ (g : Nat → Value) (Hk11 : Store) (i : Nat), s_ = (upd (upd (upd (upd g 0 (.slice wa l.length wc)) 3 (.pointer (some ⟨b7, 0, none⟩))) 9 (.int .i64 (l.length : Nat))) 10 (.int .i64 (i : Nat))) ∧ l.length - i = k_ ∧ (i ≤ l.length) ∧ (WPre l i) ∧ Blk W11 b7 ((bL (be 32 (sumB (l.take i)))).toArray) ∧ Go (fun k => k = b7) w7 H W11 Hk11) (l.length - (0)) ?_ ?_
            · exact ⟨g, _, 0, rfl, rfl, Nat.zero_le _, wpre_zero _, k7, Go.refl hF⟩
            · skip
              intro k_ s_ W11 hI K11 hK11
              obtain ⟨g, Hk11, i, rfl, rfl, hi, hpr, nk7, V11⟩ := hI
              have hle11 := V11.le
              replace nb7 := V11.nb nb7 k7.lt
              replace hL0 := hL0.trans hle11
              replace G := G.trans V11 (by intro b hb; first | exact hb.elim | omega | (simp at hb ⊢; omega))
              replace hF := V11.fz
              replace k7 := nk7
              replace U := U.cc V11.ch (by intro b hb; first | exact hb.elim | omega | (simp at hb ⊢; omega))
              refine c_seq (fun K12 hK12 => ?_)
              exact (by
                refine c_region ?_
                refine l_step (y_lss (et g0 rfl) (et (gS rfl g0) rfl)) ?_
                refine l_nil ?_
                refine hK12 _ _ ?_
                refine c_seq (fun K13 hK13 => ?_)
                refine c_cond (et g0 rfl) (fun cB2 => ?_) (fun cB2 => ?_)
                · skip
                  
                  have hil : i < l.length := by have := of_decide_eq_true cB2; omega
                  obtain ⟨bq, oq, Cq, rq, hwa, hBq, hRq, hrl, vc, vs, hrq, hadr, hcod, hslo, hnon, hbal⟩ := (hW.mono hL0).rowH (i := i) hil
                  rw [hrq] at hRq hrl
                  obtain ⟨ca, cc, rfl, _⟩ := hcod.sv.val
                  obtain ⟨sa, sc, rfl, _⟩ := hslo.val
                  refine c_skip ?_
                  refine hK13 _ _ ?_
                  refine fg4 0 3 9 10 (gS rfl (gS rfl (gS rfl (gS rfl g0)))) (gS rfl (gS rfl (gS rfl g0))) (gS rfl (gS rfl g0)) (gS rfl g0) (fun g => ?_)
                  refine c_seq (fun K15 hK15 => ?_)
                  refine c_block (fun Q16 hQ16 => ?_)
                  refine c_seq (fun K17 hK17 => ?_)
                  exact (by
                    refine c_region ?_
                    refine l_step (y_moveV (et g0 rfl)) ?_
                    refine l_step (y_assignV (et g0 rfl)) ?_
                    refine l_nil ?_
                    refine hK17 _ _ ?_
                    refine fg5 0 3 9 10 4 (gS rfl (gS rfl (gS rfl (gS rfl (gS rfl g0))))) (gS rfl (gS rfl (gS rfl (gS rfl g0)))) (gS rfl (gS rfl (gS rfl g0))) (gS rfl (gS rfl g0)) g0 (fun g => ?_)
                    refine c_seq (fun K18 hK18 => ?_)
                    refine c_seq (fun K19 hK19 => ?_)
                    have hJ19 : ∀ (s_ : Nat → Value) (W19 : World), (∃ (g : Nat → Value) (Hk19 : Store) (tb7 : Bool), s_ = (upd (upd (upd (upd (upd (upd g 0 (.slice wa l.length wc)) 3 (.pointer (some ⟨b7, 0, none⟩))) 4 (.int .i64 (i : Nat))) 9 (.int .i64 (l.length : Nat))) 10 (.int .i64 (i : Nat))) 30 (.bool tb7)) ∧ (tb7 = true ↔ (0 < i ∧ ∀ hq : i - 1 < l.length, ¬ l[i - 1].addr < l[i].addr)) ∧ Go (fun k => False) W11 Hk11 W19 Hk19) → K19 (mk 45 s_) W19 := by
                      intro s_ W19 hI
                      obtain ⟨g, Hk19, tb7, rfl, hb7, V19⟩ := hI
                      have hle19 := V19.le
                      replace nb7 := V19.nb nb7 k7.lt
                      replace hBq := hBq.mono hle19
                      replace hslo := hslo.mono hle19
                      replace hL0 := hL0.trans hle19
                      replace G := G.trans V19 (by intro b hb; first | exact hb.elim | omega | (simp at hb ⊢; omega))
                      replace V11 := V11.trans V19 (by intro b hb; first | exact hb.elim | omega | (simp at hb ⊢; omega))
                      replace hF := V19.fz
                      replace k7 := k7.ch V19.ch (by exact fun h => h)
                      replace U := U.cc V19.ch (by intro b hb; first | exact hb.elim | omega | (simp at hb ⊢; omega))
                      refine hK19 _ _ ?_
                      refine c_cond (et g0 rfl) (fun cB3 => ?_) (fun cB3 => ?_)
                      · skip
                        
                        have hn : ¬ WOk l := fun h9 => by have h8 := hb7.1 cB3; exact h8.2 (by omega) (h9.rise i hil h8.1)
                        refine c_seq (fun K21 hK21 => ?_)
                        exact (by
                          refine c_region ?_
                          refine l_step y_assignC ?_
                          refine l_nil ?_
                          refine hK21 _ _ ?_
                          refine fg1 2 g0 (fun g => ?_)
                          refine c_ret ?_
                          refine hQ16 _ _ _ (in_ret ?_)
                          refine hQ10 _ _ _ (in_ret ?_)
                          repeat with_reducible refine then_ret ?_
                          refine ret1 rfl (res_tmp (et g0 rfl)) ?_
                          first | exact ⟨false, rfl, ⟨fun h9 => (by cases h9), fun h9 => absurd h9 hn⟩, U⟩ | exact ⟨true, rfl, ⟨fun _ => hall, fun _ => rfl⟩, U⟩)
                      · skip
                        
                        have hri : 0 < i → (l[i - 1]'(by omega)).addr < l[i].addr := fun h9 => Classical.byContradiction fun h8 => by have := hb7.2 ⟨h9, fun _ => h8⟩; rw [cB3] at this; cases this
                        have hrow3 := hBq.row hF hRq
                        refine c_skip ?_
                        refine hK18 _ _ ?_
                        refine fg5 0 3 4 9 10 (gS rfl (gS rfl (gS rfl (gS rfl (gS rfl g0))))) (gS rfl (gS rfl (gS rfl (gS rfl g0)))) (gS rfl (gS rfl (gS rfl g0))) (gS rfl (gS rfl g0)) (gS rfl g0) (fun g => ?_)
                        refine c_seq (fun K22 hK22 => ?_)
                        exact (by
                          refine c_region ?_
                          refine l_step (y_moveV (et (gS rfl (gS rfl (gS rfl (gS rfl g0)))) rfl)) ?_
                          refine l_step (y_moveV (et (gS rfl (gS rfl (gS rfl g0))) rfl)) ?_
                          refine l_step (y_idxSa hwa Hvaa.underlying23 sz_113 (et (gS rfl g0) rfl) (et g0 rfl) ?_) ?_
                          omega
                          refine l_eff (e_callV cal_85 (aC (et g0 rfl) aN) (obs_accountOK hF hrow3 hbal hslo)) (fun v23 w23 h23 => ?_)
                          obtain ⟨t9, rfl, ht9, u23⟩ := h23
                          replace G := G.tr (Go.ofUp hF u23)
                          replace V11 := V11.tr (Go.ofUp hF u23)
                          replace hF := hF.up u23
                          replace k7 := k7.up u23
                          replace U := U.tr u23
                          refine l_step (y_not (et g0 rfl)) ?_
                          refine l_step (y_moveV (et g0 rfl)) ?_
                          refine gsplitL (i := 36) g0 (fun q24 => ?_) (fun q24 => ?_)
                          · skip
                            have hn : ¬ WOk l := fun h9 => by have h8 := ht9.2 (h9.acct _ (List.getElem_mem hil)); rw [h8] at q24; cases q24
                            refine l_gskip (j := 5) (t := 36) (by exact rfl) (by exact rfl) (et g0 rfl) (by decide) (by decide) ?_
                            refine l_gskip (j := 5) (t := 36) (by exact rfl) (by exact rfl) (et (gS rfl g0) rfl) (by decide) (by decide) ?_
                            refine l_gskip (j := 5) (t := 36) (by exact rfl) (by exact rfl) (et (gS rfl (gS rfl g0)) rfl) (by decide) (by decide) ?_
                            refine l_gskip (j := 5) (t := 36) (by exact rfl) (by exact rfl) (et (gS rfl (gS rfl (gS rfl g0))) rfl) (by decide) (by decide) ?_
                            refine l_gskip (j := 5) (t := 36) (by exact rfl) (by exact rfl) (et (gS rfl (gS rfl (gS rfl (gS rfl g0)))) rfl) (by decide) (by decide) ?_
                            refine l_gskip (j := 5) (t := 36) (by exact rfl) (by exact rfl) (et (gS rfl (gS rfl (gS rfl (gS rfl (gS rfl g0))))) rfl) (by decide) (by decide) ?_
                            refine l_step (y_pickT (et (gS rfl (gS rfl (gS rfl (gS rfl (gS rfl (gS rfl g0)))))) rfl) rfl) ?_
                            refine l_nil ?_
                            refine hK22 _ _ ?_
                            refine fg5 0 3 9 10 43 (gS rfl (gS rfl (gS rfl (gS rfl (gS rfl (gS rfl (gS rfl (gS rfl (gS rfl (gS rfl (gS rfl (gS rfl (gS rfl (gS rfl (gS rfl (gS rfl (gS rfl (gS rfl g0)))))))))))))))))) (gS rfl (gS rfl (gS rfl (gS rfl (gS rfl (gS rfl (gS rfl (gS rfl (gS rfl (gS rfl (gS rfl (gS rfl (gS rfl (gS rfl (gS rfl (gS rfl (gS rfl g0))))))))))))))))) (gS rfl (gS rfl (gS rfl (gS rfl (gS rfl (gS rfl (gS rfl (gS rfl (gS rfl (gS rfl (gS rfl (gS rfl (gS rfl (gS rfl (gS rfl g0))))))))))))))) (gS rfl (gS rfl (gS rfl (gS rfl (gS rfl (gS rfl (gS rfl (gS rfl (gS rfl (gS rfl (gS rfl (gS rfl (gS rfl (gS rfl g0)))))))))))))) g0 (fun g => ?_)
                            refine c_true (et g0 rfl) rfl ?_
                            refine c_seq (fun K26 hK26 => ?_)
                            exact (by
                              refine c_region ?_
                              refine l_step y_assignC ?_
                              refine l_nil ?_
                              refine hK26 _ _ ?_
                              refine fg1 2 g0 (fun g => ?_)
                              refine c_ret ?_
                              refine hQ16 _ _ _ (in_ret ?_)
                              refine hQ10 _ _ _ (in_ret ?_)
                              repeat with_reducible refine then_ret ?_
                              refine ret1 rfl (res_tmp (et g0 rfl)) ?_
                              first | exact ⟨false, rfl, ⟨fun h9 => (by cases h9), fun h9 => absurd h9 hn⟩, U⟩ | exact ⟨true, rfl, ⟨fun _ => hall, fun _ => rfl⟩, U⟩)
                          · skip
                            have hac : AOk l[i] := ht9.1 (by simpa using q24)
                            refine l_gstep (j := 5) (t := 36) (by exact rfl) (by exact rfl) (et g0 rfl) (by decide) (y_moveV (et (gS rfl (gS rfl (gS rfl (gS rfl (gS rfl (gS rfl (gS rfl (gS rfl (gS rfl (gS rfl (gS rfl g0))))))))))) rfl)) ?_
                            refine l_gstep (j := 5) (t := 36) (by exact rfl) (by exact rfl) (et (gS rfl g0) rfl) (by decide) (y_moveV (et (gS rfl (gS rfl (gS rfl (gS rfl (gS rfl (gS rfl (gS rfl (gS rfl (gS rfl (gS rfl g0)))))))))) rfl)) ?_
                            refine l_gstep (j := 5) (t := 36) (by exact rfl) (by exact rfl) (et (gS rfl (gS rfl g0)) rfl) (by decide) (y_idxSa hwa Hvaa.underlying23 sz_113 (et (gS rfl g0) rfl) (et g0 rfl) ?_) ?_
                            omega
                            refine l_gstep (j := 5) (t := 36) (by exact rfl) (by exact rfl) (et (gS rfl (gS rfl (gS rfl g0))) rfl) (by decide) (y_fld fld_113_2 (et g0 rfl)) ?_
                            have hnb9 : bq ≠ b7 := fun e => nb7 (e ▸ ⟨_, hBq.eq⟩)
                            refine l_geff (j := 5) (t := 36) (by exact rfl) (by exact rfl) (et (gS rfl (gS rfl (gS rfl (gS rfl g0)))) rfl) rfl (e_callV cal_86 (aC (et (gS rfl (gS rfl (gS rfl (gS rfl (gS rfl (gS rfl (gS rfl (gS rfl (gS rfl (gS rfl (gS rfl (gS rfl (gS rfl (gS rfl g0)))))))))))))) rfl) (aC (et g0 rfl) aN)) (obs_addTo k7 (hF.blk _ _ hBq.eq) (oa_balR hRq) hnb9 hpr.sum hbal)) (fun v27 w27 h27 => ?_)
                            obtain ⟨rfl, kk27, c27⟩ := h27
                            rw [← sum_take hil] at kk27
                            replace G := G.chs c27 (by intro b hb; first | omega | exact .inl hb | (simp at hb ⊢; omega)) (by intro q hq; first | (subst hq; assumption) | (simp only at hq; first | (subst hq; assumption) | (rcases hq with rfl | rfl <;> assumption)))
                            replace V11 := V11.chs c27 (by intro b hb; first | omega | exact .inl hb | (simp at hb ⊢; omega)) (by intro q hq; first | (subst hq; assumption) | (simp only at hq; first | (subst hq; assumption) | (rcases hq with rfl | rfl <;> assumption)))
                            replace hF := G.fz
                            replace k7 := kk27
                            replace U := U.cc c27 (by intro b hb; first | exact hb ▸ f7 | omega)
                            refine l_gstep (j := 5) (t := 36) (by exact rfl) (by exact rfl) (et (gS rfl (gS rfl (gS rfl (gS rfl (gS rfl g0))))) rfl) (by decide) (y_not (et g0 rfl)) ?_
                            refine l_step (y_pickF (et (gS rfl (gS rfl (gS rfl (gS rfl (gS rfl (gS rfl g0)))))) rfl) (et g0 rfl)) ?_
                            refine l_nil ?_
                            refine hK22 _ _ ?_
                            refine fg5 0 3 9 10 43 (gS rfl (gS rfl (gS rfl (gS rfl (gS rfl (gS rfl (gS rfl (gS rfl (gS rfl (gS rfl (gS rfl (gS rfl (gS rfl (gS rfl (gS rfl (gS rfl (gS rfl (gS rfl g0)))))))))))))))))) (gS rfl (gS rfl (gS rfl (gS rfl (gS rfl (gS rfl (gS rfl (gS rfl (gS rfl (gS rfl (gS rfl (gS rfl (gS rfl (gS rfl (gS rfl (gS rfl (gS rfl g0))))))))))))))))) (gS rfl (gS rfl (gS rfl (gS rfl (gS rfl (gS rfl (gS rfl (gS rfl (gS rfl (gS rfl (gS rfl (gS rfl (gS rfl (gS rfl (gS rfl g0))))))))))))))) (gS rfl (gS rfl (gS rfl (gS rfl (gS rfl (gS rfl (gS rfl (gS rfl (gS rfl (gS rfl (gS rfl (gS rfl (gS rfl (gS rfl g0)))))))))))))) g0 (fun g => ?_)
                            refine c_cond (et g0 rfl) (fun cB4 => ?_) (fun cB4 => ?_)
                            · skip
                              
                              have hsm : ¬ sumB (l.take i) + l[i].bal < W256 := by simpa using cB4
                              have hn : ¬ WOk l := fun h9 => by have h7 := sum_tk (l := l) (i + 1); have h6 := h9.sum; rw [sum_take hil] at h7; omega
                              refine c_seq (fun K29 hK29 => ?_)
                              exact (by
                                refine c_region ?_
                                refine l_step y_assignC ?_
                                refine l_nil ?_
                                refine hK29 _ _ ?_
                                refine fg1 2 g0 (fun g => ?_)
                                refine c_ret ?_
                                refine hQ16 _ _ _ (in_ret ?_)
                                refine hQ10 _ _ _ (in_ret ?_)
                                repeat with_reducible refine then_ret ?_
                                refine ret1 rfl (res_tmp (et g0 rfl)) ?_
                                first | exact ⟨false, rfl, ⟨fun h9 => (by cases h9), fun h9 => absurd h9 hn⟩, U⟩ | exact ⟨true, rfl, ⟨fun _ => hall, fun _ => rfl⟩, U⟩)
                            · skip
                              
                              have hsm : sumB (l.take i) + l[i].bal < W256 := by simpa using cB4
                              refine c_skip ?_
                              refine hQ16 _ _ _ (in_normal ?_)
                              refine hK15 _ _ ?_
                              refine fg4 0 3 9 10 (gS rfl (gS rfl (gS rfl (gS rfl g0)))) (gS rfl (gS rfl (gS rfl g0))) (gS rfl (gS rfl g0)) (gS rfl g0) (fun g => ?_)
                              refine c_region ?_
                              refine l_step (y_add (et g0 rfl) rfl (addIN (y := 1) ?_)) ?_
                              omega
                              refine l_step (y_moveV (et g0 rfl)) ?_
                              refine l_nil ?_
                              refine fK4 0 3 9 10 (gS rfl (gS rfl (gS rfl (gS rfl (gS rfl g0))))) (gS rfl (gS rfl (gS rfl (gS rfl g0)))) (gS rfl (gS rfl (gS rfl g0))) g0 (fun g => ?_)
                              exact hK11 (l.length - ((i + 1))) _ _ (by omega) ⟨g, _, (i + 1), rfl, rfl, by omega, wpre_next hpr hil hac hri hsm, k7, V11⟩)
                    have V19 : Go (fun k => False) W11 Hk11 W11 Hk11 := Go.refl hF
                    refine c_draw Up 18 [(0, true), (1, true), (2, true), (3, true), (4, true), (5, true), (6, true), (7, true), (8, true), (9, true), (10, true), (11, true), (12, true), (13, true), (14, true), (15, true), (16, true), (17, true)] (by kernel_rfl) (fun w30 hu => ⟨Up.refl _, ?_⟩)
                    replace G := G.tr (Go.ofUp hF hu)
                    replace V11 := V11.tr (Go.ofUp hF hu)
                    replace V19 := V19.tr (Go.ofUp hF hu)
                    replace hF := hF.up hu
                    replace k7 := k7.up hu
                    replace U := U.tr hu
                    have SU := Up.refl w30
                    refine p_step (by exact rfl) (y_moveV (et g0 rfl)) ?_
                    refine p_step (by exact rfl) (y_gtr (et g0 rfl) rfl) ?_
                    refine p_step (by exact rfl) (y_moveV (et g0 rfl)) ?_
                    refine gsplitP (i := 15) g0 (fun q31 => ?_) (fun q31 => ?_)
                    · skip
                      have hi0 : 0 < i := by have := of_decide_eq_true q31; omega
                      obtain ⟨bp, op, Cp_, rp, hwa2, hBp, hRp, hrlp, vcp, vsp, hrp, hadp, _⟩ := (hW.mono hL0).rowH (i := i - 1) (by omega)
                      rw [hrp] at hRp hrlp
                      have hrow1 := oa_adr (hBp.row hF hRp) rfl
                      have hrow2 := oa_adr (hBq.row hF hRq) rfl
                      refine p_gstep (j := 2) (t := 15) (by exact rfl) (by exact rfl) (by exact rfl) (et g0 rfl) rfl (y_moveV (et (gS rfl (gS rfl (gS rfl (gS rfl (gS rfl (gS rfl (gS rfl (gS rfl g0)))))))) rfl)) ?_
                      refine p_gstep (j := 2) (t := 15) (by exact rfl) (by exact rfl) (by exact rfl) (et (gS rfl g0) rfl) rfl (y_moveV (et (gS rfl (gS rfl (gS rfl (gS rfl (gS rfl g0))))) rfl)) ?_
                      refine p_gstep (j := 2) (t := 15) (by exact rfl) (by exact rfl) (by exact rfl) (et (gS rfl (gS rfl g0)) rfl) rfl (y_sub (et g0 rfl) rfl (subIN (y := 1) ?_ ?_)) ?_
                      omega
                      omega
                      refine p_gstep (j := 2) (t := 15) (by exact rfl) (by exact rfl) (by exact rfl) (et (gS rfl (gS rfl (gS rfl g0))) rfl) rfl (y_idxSa hwa2 Hvaa.underlying23 sz_113 (et (gS rfl (gS rfl g0)) rfl) (et g0 rfl) ?_) ?_
                      omega
                      refine p_gstep (j := 2) (t := 15) (by exact rfl) (by exact rfl) (by exact rfl) (et (gS rfl (gS rfl (gS rfl (gS rfl g0)))) rfl) rfl (y_fld fld_113_0 (et g0 rfl)) ?_
                      refine p_gstep (j := 2) (t := 15) (by exact rfl) (by exact rfl) (by exact rfl) (et (gS rfl (gS rfl (gS rfl (gS rfl (gS rfl g0))))) rfl) rfl (y_slA000 Hvaa.underlying25 sz_5 (et g0 rfl) ) ?_
                      refine p_gstep (j := 2) (t := 15) (by exact rfl) (by exact rfl) (by exact rfl) (et (gS rfl (gS rfl (gS rfl (gS rfl (gS rfl (gS rfl g0)))))) rfl) rfl (y_str Hvaa.underlying38 Hvaa.underlying9 (et g0 rfl) (atSW (wv_row20 hrow1))) ?_
                      refine p_gstep (j := 2) (t := 15) (by exact rfl) (by exact rfl) (by exact rfl) (et (gS rfl (gS rfl (gS rfl (gS rfl (gS rfl (gS rfl (gS rfl g0))))))) rfl) rfl (y_moveV (et (gS rfl (gS rfl (gS rfl (gS rfl (gS rfl (gS rfl (gS rfl (gS rfl (gS rfl (gS rfl (gS rfl (gS rfl (gS rfl (gS rfl (gS rfl g0))))))))))))))) rfl)) ?_
                      refine p_gstep (j := 2) (t := 15) (by exact rfl) (by exact rfl) (by exact rfl) (et (gS rfl (gS rfl (gS rfl (gS rfl (gS rfl (gS rfl (gS rfl (gS rfl g0)))))))) rfl) rfl (y_moveV (et (gS rfl (gS rfl (gS rfl (gS rfl (gS rfl (gS rfl (gS rfl (gS rfl (gS rfl (gS rfl (gS rfl (gS rfl g0)))))))))))) rfl)) ?_
                      refine p_gstep (j := 2) (t := 15) (by exact rfl) (by exact rfl) (by exact rfl) (et (gS rfl (gS rfl (gS rfl (gS rfl (gS rfl (gS rfl (gS rfl (gS rfl (gS rfl g0))))))))) rfl) rfl (y_idxSa hwa Hvaa.underlying23 sz_113 (et (gS rfl g0) rfl) (et g0 rfl) ?_) ?_
                      omega
                      refine p_gstep (j := 2) (t := 15) (by exact rfl) (by exact rfl) (by exact rfl) (et (gS rfl (gS rfl (gS rfl (gS rfl (gS rfl (gS rfl (gS rfl (gS rfl (gS rfl (gS rfl g0)))))))))) rfl) rfl (y_fld fld_113_0 (et g0 rfl)) ?_
                      refine p_gstep (j := 2) (t := 15) (by exact rfl) (by exact rfl) (by exact rfl) (et (gS rfl (gS rfl (gS rfl (gS rfl (gS rfl (gS rfl (gS rfl (gS rfl (gS rfl (gS rfl (gS rfl g0))))))))))) rfl) rfl (y_slA000 Hvaa.underlying25 sz_5 (et g0 rfl) ) ?_
                      refine p_gstep (j := 2) (t := 15) (by exact rfl) (by exact rfl) (by exact rfl) (et (gS rfl (gS rfl (gS rfl (gS rfl (gS rfl (gS rfl (gS rfl (gS rfl (gS rfl (gS rfl (gS rfl (gS rfl g0)))))))))))) rfl) rfl (y_str Hvaa.underlying38 Hvaa.underlying9 (et g0 rfl) (atSW (wv_row20 hrow2))) ?_
                      refine p_gstep (j := 2) (t := 15) (by exact rfl) (by exact rfl) (by exact rfl) (et (gS rfl (gS rfl (gS rfl (gS rfl (gS rfl (gS rfl (gS rfl (gS rfl (gS rfl (gS rfl (gS rfl (gS rfl (gS rfl g0))))))))))))) rfl) rfl ((y_sGeq Hvaa.underlying9 (be_lt 20 _) (be_lt 20 _) (by rw [length_be, length_be]) (et (gS rfl (gS rfl (gS rfl (gS rfl (gS rfl (gS rfl g0)))))) rfl) (et g0 rfl)).to (bool_be20 hadp hadr)) ?_
                      refine p_step (by exact rfl) (y_pickT (et (gS rfl (gS rfl (gS rfl (gS rfl (gS rfl (gS rfl (gS rfl (gS rfl (gS rfl (gS rfl (gS rfl (gS rfl (gS rfl (gS rfl g0)))))))))))))) rfl) (et g0 rfl)) ?_
                      refine p_nil ?_
                      refine fK6 0 3 4 9 10 30 (gS rfl (gS rfl (gS rfl (gS rfl (gS rfl (gS rfl (gS rfl (gS rfl (gS rfl (gS rfl (gS rfl (gS rfl (gS rfl (gS rfl (gS rfl (gS rfl (gS rfl (gS rfl (gS rfl (gS rfl (gS rfl (gS rfl (gS rfl g0))))))))))))))))))))))) (gS rfl (gS rfl (gS rfl (gS rfl (gS rfl (gS rfl (gS rfl (gS rfl (gS rfl (gS rfl (gS rfl (gS rfl (gS rfl (gS rfl (gS rfl (gS rfl (gS rfl (gS rfl (gS rfl (gS rfl (gS rfl (gS rfl g0)))))))))))))))))))))) (gS rfl (gS rfl (gS rfl (gS rfl (gS rfl (gS rfl (gS rfl (gS rfl (gS rfl (gS rfl (gS rfl (gS rfl (gS rfl (gS rfl (gS rfl (gS rfl (gS rfl (gS rfl (gS rfl g0))))))))))))))))))) (gS rfl (gS rfl (gS rfl (gS rfl (gS rfl (gS rfl (gS rfl (gS rfl (gS rfl (gS rfl (gS rfl (gS rfl (gS rfl (gS rfl (gS rfl (gS rfl (gS rfl (gS rfl (gS rfl (gS rfl (gS rfl g0))))))))))))))))))))) (gS rfl (gS rfl (gS rfl (gS rfl (gS rfl (gS rfl (gS rfl (gS rfl (gS rfl (gS rfl (gS rfl (gS rfl (gS rfl (gS rfl (gS rfl (gS rfl (gS rfl (gS rfl (gS rfl (gS rfl g0)))))))))))))))))))) g0 (fun g => ?_)
                      exact hJ19 _ _ ⟨g, _, _, rfl, (by first | (rw [decide_eq_true_iff]; exact ⟨fun h9 => ⟨hi0, fun _ => by omega⟩, fun h9 => by have := h9.2 (by omega); omega⟩) | (simp only [Bool.false_eq_true, false_iff]; exact fun h9 => hi0 h9.1)), V19⟩
                    · skip
                      have hi0 : ¬ 0 < i := by have := of_decide_eq_false q31; omega
                      refine p_gskip (j := 2) (t := 15) (by exact rfl) (by exact rfl) (by exact rfl) (et g0 rfl) rfl rfl ?_
                      refine p_gskip (j := 2) (t := 15) (by exact rfl) (by exact rfl) (by exact rfl) (et (gS rfl g0) rfl) rfl rfl ?_
                      refine p_gskip (j := 2) (t := 15) (by exact rfl) (by exact rfl) (by exact rfl) (et (gS rfl (gS rfl g0)) rfl) rfl rfl ?_
                      refine p_gskip (j := 2) (t := 15) (by exact rfl) (by exact rfl) (by exact rfl) (et (gS rfl (gS rfl (gS rfl g0))) rfl) rfl rfl ?_
                      refine p_gskip (j := 2) (t := 15) (by exact rfl) (by exact rfl) (by exact rfl) (et (gS rfl (gS rfl (gS rfl (gS rfl g0)))) rfl) rfl rfl ?_
                      refine p_gskip (j := 2) (t := 15) (by exact rfl) (by exact rfl) (by exact rfl) (et (gS rfl (gS rfl (gS rfl (gS rfl (gS rfl g0))))) rfl) rfl rfl ?_
                      refine p_gskip (j := 2) (t := 15) (by exact rfl) (by exact rfl) (by exact rfl) (et (gS rfl (gS rfl (gS rfl (gS rfl (gS rfl (gS rfl g0)))))) rfl) rfl rfl ?_
                      refine p_gskip (j := 2) (t := 15) (by exact rfl) (by exact rfl) (by exact rfl) (et (gS rfl (gS rfl (gS rfl (gS rfl (gS rfl (gS rfl (gS rfl g0))))))) rfl) rfl rfl ?_
                      refine p_gskip (j := 2) (t := 15) (by exact rfl) (by exact rfl) (by exact rfl) (et (gS rfl (gS rfl (gS rfl (gS rfl (gS rfl (gS rfl (gS rfl (gS rfl g0)))))))) rfl) rfl rfl ?_
                      refine p_gskip (j := 2) (t := 15) (by exact rfl) (by exact rfl) (by exact rfl) (et (gS rfl (gS rfl (gS rfl (gS rfl (gS rfl (gS rfl (gS rfl (gS rfl (gS rfl g0))))))))) rfl) rfl rfl ?_
                      refine p_gskip (j := 2) (t := 15) (by exact rfl) (by exact rfl) (by exact rfl) (et (gS rfl (gS rfl (gS rfl (gS rfl (gS rfl (gS rfl (gS rfl (gS rfl (gS rfl (gS rfl g0)))))))))) rfl) rfl rfl ?_
                      refine p_gskip (j := 2) (t := 15) (by exact rfl) (by exact rfl) (by exact rfl) (et (gS rfl (gS rfl (gS rfl (gS rfl (gS rfl (gS rfl (gS rfl (gS rfl (gS rfl (gS rfl (gS rfl g0))))))))))) rfl) rfl rfl ?_
                      refine p_gskip (j := 2) (t := 15) (by exact rfl) (by exact rfl) (by exact rfl) (et (gS rfl (gS rfl (gS rfl (gS rfl (gS rfl (gS rfl (gS rfl (gS rfl (gS rfl (gS rfl (gS rfl (gS rfl g0)))))))))))) rfl) rfl rfl ?_
                      refine p_gskip (j := 2) (t := 15) (by exact rfl) (by exact rfl) (by exact rfl) (et (gS rfl (gS rfl (gS rfl (gS rfl (gS rfl (gS rfl (gS rfl (gS rfl (gS rfl (gS rfl (gS rfl (gS rfl (gS rfl g0))))))))))))) rfl) rfl rfl ?_
                      refine p_step (by exact rfl) (y_pickF (et (gS rfl (gS rfl (gS rfl (gS rfl (gS rfl (gS rfl (gS rfl (gS rfl (gS rfl (gS rfl (gS rfl (gS rfl (gS rfl (gS rfl g0)))))))))))))) rfl) rfl) ?_
                      refine p_nil ?_
                      refine fK6 0 3 4 9 10 30 (gS rfl (gS rfl (gS rfl (gS rfl (gS rfl (gS rfl (gS rfl (gS rfl (gS rfl (gS rfl (gS rfl (gS rfl (gS rfl (gS rfl (gS rfl (gS rfl (gS rfl (gS rfl (gS rfl (gS rfl (gS rfl (gS rfl (gS rfl g0))))))))))))))))))))))) (gS rfl (gS rfl (gS rfl (gS rfl (gS rfl (gS rfl (gS rfl (gS rfl (gS rfl (gS rfl (gS rfl (gS rfl (gS rfl (gS rfl (gS rfl (gS rfl (gS rfl (gS rfl (gS rfl (gS rfl (gS rfl (gS rfl g0)))))))))))))))))))))) (gS rfl (gS rfl (gS rfl (gS rfl (gS rfl (gS rfl (gS rfl (gS rfl (gS rfl (gS rfl (gS rfl (gS rfl (gS rfl (gS rfl (gS rfl (gS rfl (gS rfl (gS rfl (gS rfl g0))))))))))))))))))) (gS rfl (gS rfl (gS rfl (gS rfl (gS rfl (gS rfl (gS rfl (gS rfl (gS rfl (gS rfl (gS rfl (gS rfl (gS rfl (gS rfl (gS rfl (gS rfl (gS rfl (gS rfl (gS rfl (gS rfl (gS rfl g0))))))))))))))))))))) (gS rfl (gS rfl (gS rfl (gS rfl (gS rfl (gS rfl (gS rfl (gS rfl (gS rfl (gS rfl (gS rfl (gS rfl (gS rfl (gS rfl (gS rfl (gS rfl (gS rfl (gS rfl (gS rfl (gS rfl g0)))))))))))))))))))) g0 (fun g => ?_)
                      exact hJ19 _ _ ⟨g, _, _, rfl, (by first | (rw [decide_eq_true_iff]; exact ⟨fun h9 => ⟨hi0, fun _ => by omega⟩, fun h9 => by have := h9.2 (by omega); omega⟩) | (simp only [Bool.false_eq_true, false_iff]; exact fun h9 => hi0 h9.1)), V19⟩)
                · skip
                  
                  have hie : i = l.length := by have := of_decide_eq_false cB2; omega
                  subst hie
                  have hall := wpre_all hpr h8
                  refine c_exit ?_
                  refine hQ10 _ _ _ (in_exit ?_)
                  refine hK8 _ _ ?_
                  refine fg0 (fun g => ?_)
                  refine c_seq (fun K32 hK32 => ?_)
                  exact (by
                    refine c_region ?_
                    refine l_step y_assignC ?_
                    refine l_nil ?_
                    refine hK32 _ _ ?_
                    refine c_ret ?_
                    repeat with_reducible refine then_ret ?_
                    refine ret1 rfl (res_tmp (et g0 rfl)) ?_
                    first | exact ⟨false, rfl, ⟨fun h9 => (by cases h9), fun h9 => absurd h9 hn⟩, U⟩ | exact ⟨true, rfl, ⟨fun _ => hall, fun _ => rfl⟩, U⟩))))))
end Go.Proofs.YgvaawGreat
