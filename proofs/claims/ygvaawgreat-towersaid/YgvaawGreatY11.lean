import Derived.Test.YgvaawGreatApp3
set_option maxRecDepth 100000
set_option maxHeartbeats 4000000
set_option linter.unusedSimpArgs false
set_option linter.unusedVariables false
namespace Go.Proofs.YgvaawGreat
open Go
theorem lay_condS {y : Nat × Nat} {k : Nat} : ((y.1 == k) || decide (k < y.1)) = decide (k ≤ y.1) := by
  rw [Bool.eq_iff_iff]; simp; omega
theorem two_len (x y : Value) : [x, y].length = 2 := rfl
theorem slot_cells {H : Store} {vk vv : Value} {k v : Nat} (hk : NV H vk k) (hv : NV H vv v) (h1 : k < W256) (h2 : v < W256) : P_slot H [vk, vv] (k, v) := ⟨vk, vv, rfl, hk, hv, h1, h2⟩
theorem acct_split {H : Store} {c : List Value} {A : YAcct} (h : P_acct H c A) : ∃ vn vb vc vs, c = bL (be 20 A.addr) ++ [vn, vb, vc, vs] ∧ LV P_slot 2 H vs A.slots ∧ ∀ H2 v2 l, Le H H2 → LV P_slot 2 H2 v2 l → P_acct H2 (bL (be 20 A.addr) ++ [vn, vb, vc, v2]) (setSlots A l) := by
  obtain ⟨vn, vb, vc, vs, hc0, hA0, hn0, hb0, hcd0, hS0, hb1, hb2, hb3⟩ := h
  refine ⟨vn, vb, vc, vs, hc0, hS0, fun H2 v2 l hl hv => ⟨vn, vb, vc, v2, rfl, hA0, hn0.mono hl, hb0.mono hl, hcd0.mono hl, hv, hb1, hb2, hb3⟩⟩
theorem set23 {a : Nat} {x y z t u : Value} : spl (bL (be 20 a) ++ [x, y, z, t]).toArray 23 [u] = (bL (be 20 a) ++ [x, y, z, u]).toArray := by
  have h := spl_mid (bL (be 20 a) ++ [x, y, z]) t [] u 23 (by rw [List.length_append, length_bL, length_be]; rfl)
  simpa using h
theorem yp_store (bs o sc0 a : Nat) (sa0 : Option Addr) (cs : Array Value) (accts : List YAcct) (w : World) (H : Store) (hF : Fz w H) (kS : Blk w bs cs) (nbS : ¬ H.has bs) (hva : cs[o]? = some (.slice sa0 accts.length sc0)) (hL : LV P_acct 24 H (.slice sa0 accts.length sc0) accts) (ha : a < A160) (hn : accts.length < 2147483648) (hns : (acctAt accts a).slots.length < 2147483648) {vk vv : Value} {key val : Nat} (hK : NV H vk key) (hkb : key < 256 ^ 32) (hV : NV H vv val) (hvb : val < 256 ^ 32) :
    Ret 349 [.pointer (some ⟨bs, o, none⟩), aV a, vk, vv] w (fun v w' => v = .tuple #[] ∧ ∃ v' H', Go (fun k => k = bs) w H w' H' ∧ LV P_acct 24 H' v' (putA accts (setSlots (acctAt accts a) (putS (acctAt accts a).slots key val))) ∧ Blk w' bs (cs.setIfInBounds (o + 0) v')) := by
  have hF0 := hF
  have lS := kS.lt
  refine enter (n := 62) Hvaa.func349 rfl rfl (Nat.le_of_ble_eq_true rfl) ?_
  have U : Ch (fun k => k = bs) w w := Ch.refl _ w
  refine c_seq (fun K1 hK1 => ?_)
  refine c_region ?_
  refine l_eff (e_boxV (et (gS rfl g0) rfl)) (fun v2 w2 h2 => ?_)
  obtain ⟨b2, rfl, n2⟩ := h2
  have f2 : w.heap.size ≤ b2 := Nat.le_trans U.size n2.fresh
  replace hF := hF.up n2.up
  replace kS := kS.up n2.up
  replace U := U.tr n2.up
  have k2 := n2.blk
  replace k2 : Blk w2 b2 (bL (be 20 a)).toArray := k2
  refine l_nil ?_
  refine hK1 _ _ ?_
  refine fg4 3 2 0 5 (gS rfl (gS rfl (gS rfl (gS rfl g0)))) (gS rfl (gS rfl (gS rfl g0))) (gS rfl g0) g0 (fun g => ?_)
  refine c_seq (fun K3 hK3 => ?_)
  refine c_region ?_
  refine l_step (y_moveV (et (gS rfl g0) rfl)) ?_
  refine l_step (y_loadB agg_25 sz_25 (et (gS rfl g0) rfl) (by first | (simp only [Value.cells, hV, aV, bV, wV, wL, List.size_toArray, length_bL, length_uL, length_be, size_spl, List.length_cons, List.length_nil, List.length_replicate, Nat.zero_add, Nat.reduceAdd, Nat.reduceLeDiff, Nat.le_refl]; done) | rfl) (at1B k2)) ?_
  refine l_eff (e_callV cal_43 (aC (et (gS rfl g0) rfl) (aC (et g0 rfl) aN)) (yp_account bs o sc0 a sa0 cs accts _ H hF kS hva hL ha (by omega))) (fun v4 w4 h4 => ?_)
  obtain ⟨c0, rfl, hP0, u4⟩ := h4
  replace k2 := k2.up u4
  replace hF := hF.up u4
  replace kS := kS.up u4
  replace U := U.tr u4
  have h24 := acct_len hP0
  have hc1 := acct_one hP0
  obtain ⟨vn, vb, vc, vs, hc0, hS0, hback⟩ := acct_split hP0
  obtain ⟨sa, sc, hvs, hsn, hsc⟩ := hS0.val
  obtain ⟨A0, hA0⟩ : ∃ A0, A0 = acctAt accts a := ⟨_, rfl⟩
  rw [← hA0] at hP0 hc0 hS0 hvs hsn hback
  obtain ⟨xs, hxs⟩ : ∃ xs, xs = A0.slots := ⟨_, rfl⟩
  rw [← hxs] at hS0 hvs hsn
  rw [hvs] at hS0
  have hnx : xs.length < 2147483648 := by rw [hxs, hA0]; exact hns
  refine l_eff (e_alloc zr_107) (fun v5 w5 h5 => ?_)
  obtain ⟨b5, rfl, n5⟩ := h5
  have d2_5 : b2 < b5 := Nat.lt_of_lt_of_le k2.lt n5.fresh
  have f5 : w.heap.size ≤ b5 := Nat.le_trans U.size n5.fresh
  replace k2 := k2.up n5.up
  replace hF := hF.up n5.up
  replace kS := kS.up n5.up
  replace U := U.tr n5.up
  have k5 := n5.blk
  refine l_effN (e_store sz_107 (et g0 rfl) (cellsV (et (gS rfl g0) rfl) rfl) h24 (by exact hc1) k5 (by exact Nat.le_of_ble_eq_true rfl)) (fun v6 w6 h6 => ?_)
  obtain ⟨rfl, x6⟩ := h6
  replace k2 := k2.ch x6.ch (by omega)
  replace hF := hF.ch x6.ch (by first | omega | (first | omega | (intro q hq e; have := hF0.lt hq; omega) | (intro q hq e; exact hOo.ne (by have := hF0.lt hq; omega) e) | (intro q hq e; exact nbS (e ▸ hq)) | (intro q hq e; exact nb8 (e ▸ hq))))
  replace kS := kS.ch x6.ch (by first | omega | (first | omega | exact hOo.ne (by omega)))
  replace k5 := x6.blk.full (by rw [h24]; rfl)
  replace U := U.st x6 (.inr f5)
  rw [hc0, hvs] at k5
  refine l_nil ?_
  refine hK3 _ _ ?_
  refine fg4 3 2 0 8 (gS rfl (gS rfl (gS rfl (gS rfl (gS rfl (gS rfl (gS rfl g0))))))) (gS rfl (gS rfl (gS rfl (gS rfl (gS rfl (gS rfl g0)))))) (gS rfl (gS rfl (gS rfl (gS rfl (gS rfl g0))))) g0 (fun g => ?_)
  refine c_seq (fun K7 hK7 => ?_)
  refine c_region ?_
  refine l_step y_assignC ?_
  refine l_nil ?_
  refine hK7 _ _ ?_
  refine c_seq (fun K8 hK8 => ?_)
  refine c_region ?_
  refine l_step (y_moveV (et (gS rfl (gS rfl (gS rfl (gS rfl g0)))) rfl)) ?_
  refine l_eff (e_callV cal_79 (aC (et g0 rfl) aN) (yp_isZero hF hV (bd_sm hvb (by decide)))) (fun v9 w9 h9 => ?_)
  obtain ⟨rfl, u9⟩ := h9
  replace k2 := k2.up u9
  replace k5 := k5.up u9
  replace hF := hF.up u9
  replace kS := kS.up u9
  replace U := U.tr u9
  refine l_step (y_assignV (et g0 rfl)) ?_
  refine l_nil ?_
  refine hK8 _ _ ?_
  refine fg6 3 2 0 8 9 10 (gS rfl (gS rfl (gS rfl (gS rfl (gS rfl (gS rfl (gS rfl g0))))))) (gS rfl (gS rfl (gS rfl (gS rfl (gS rfl (gS rfl g0)))))) (gS rfl (gS rfl (gS rfl (gS rfl (gS rfl g0))))) (gS rfl (gS rfl (gS rfl (gS rfl g0)))) (gS rfl (gS rfl (gS rfl g0))) g0 (fun g => ?_)
  refine c_seq (fun K10 hK10 => ?_)
  refine c_seq (fun K11 hK11 => ?_)
  refine c_region ?_
  refine l_step (y_fld fld_107_4 (et (gS rfl (gS rfl g0)) rfl)) ?_
  refine l_step (y_load1 one_105 (et g0 rfl) (at1 (k5.cell ((app20 (i := 3) rfl).trans rfl)))) ?_
  refine l_step (y_len Hvaa.underlying105 (et g0 rfl)) ?_
  refine l_step y_moveC ?_
  refine l_nil ?_
  refine hK11 _ _ ?_
  refine fg9 3 2 0 8 9 10 20 21 22 (gS rfl (gS rfl (gS rfl (gS rfl (gS rfl (gS rfl (gS rfl (gS rfl (gS rfl g0))))))))) (gS rfl (gS rfl (gS rfl (gS rfl (gS rfl (gS rfl (gS rfl (gS rfl g0)))))))) (gS rfl (gS rfl (gS rfl (gS rfl (gS rfl (gS rfl (gS rfl g0))))))) (gS rfl (gS rfl (gS rfl (gS rfl (gS rfl (gS rfl g0)))))) (gS rfl (gS rfl (gS rfl (gS rfl (gS rfl g0))))) (gS rfl (gS rfl (gS rfl (gS rfl g0)))) (gS rfl (gS rfl g0)) (gS rfl g0) g0 (fun g => ?_)
  refine c_block (fun Q12 hQ12 => ?_)
  refine fg9 0 2 3 8 9 10 20 21 22 (gS rfl (gS rfl (gS rfl (gS rfl (gS rfl (gS rfl g0)))))) (gS rfl (gS rfl (gS rfl (gS rfl (gS rfl (gS rfl (gS rfl g0))))))) (gS rfl (gS rfl (gS rfl (gS rfl (gS rfl (gS rfl (gS rfl (gS rfl g0)))))))) (gS rfl (gS rfl (gS rfl (gS rfl (gS rfl g0))))) (gS rfl (gS rfl (gS rfl (gS rfl g0)))) (gS rfl (gS rfl (gS rfl g0))) (gS rfl (gS rfl g0)) (gS rfl g0) g0 (fun g => ?_)
  obtain ⟨base, hbs⟩ : ∃ base, base = w9.heap.size := ⟨_, rfl⟩
  have hbw : w.heap.size ≤ base := by rw [hbs]; exact U.size
  have hb8 : b5 < base := by rw [hbs]; exact k5.lt
  have hb5 : b2 < base := by rw [hbs]; exact k2.lt
  have hbS : bs < base := by omega
  refine c_loop (fun k_ s_ W13 => ∃ (g : Nat → Value) (ov : Value) (lb : Bool) (O : List (Nat × Nat)) (i : Nat), s_ = (upd (upd (upd (upd (upd (upd (upd (upd (upd g 0 (.pointer (some ⟨bs, o, none⟩))) 2 vk) 3 vv) 8 (.pointer (some ⟨b5, 0, none⟩))) 9 ov) 10 (.bool lb)) 20 (.slice sa xs.length sc)) 21 (.int .i64 (xs.length : Nat))) 22 (.int .i64 (i : Nat))) ∧ xs.length - i = k_ ∧ (i ≤ xs.length) ∧ (GL P_slot H base 115 2 W13.heap.size W13 ov O) ∧ (O.length ≤ i + lb.toNat) ∧ (O ++ putP (fun y => y.1 == key) (fun y => decide (key < y.1)) (if lb then none else some (key, val)) (xs.drop i) = putS xs key val) ∧ Ch (fun k => base ≤ k) w9 W13) (xs.length - (0)) ?_ ?_
  · exact ⟨g, (.slice none 0 0), _, ([] : List (Nat × Nat)), 0, rfl, rfl, Nat.zero_le _, GL.nil, by simp, rfl, Ch.refl _ _⟩
  · skip
    intro k_ s_ W13 hI K13 hK13
    obtain ⟨g, ov, lb, O, i, rfl, rfl, hi, hO, hOl, hfin, V13⟩ := hI
    replace k2 := k2.ch V13 (by omega)
    replace k5 := k5.ch V13 (by omega)
    replace hF := hF.ch V13 (by first | omega | (intro q hq e; have := hF0.lt hq; omega) | (intro q hq e; exact hOo.ne (by have := hF0.lt hq; omega) e) | (intro q hq e; exact nbS (e ▸ hq)) | (intro q hq e; exact nb8 (e ▸ hq)))
    replace kS := kS.ch V13 (by first | omega | exact hOo.ne (by omega))
    replace U := U.cc V13 (by intro b hb; first | exact hb.elim | omega | (simp at hb ⊢; omega))
    have hlbn := Bool.toNat_le lb
    have hbW : base ≤ W13.heap.size := by rw [hbs]; exact V13.size
    refine c_seq (fun K14 hK14 => ?_)
    refine c_region ?_
    refine l_step (y_lss (et g0 rfl) (et (gS rfl g0) rfl)) ?_
    refine l_nil ?_
    refine hK14 _ _ ?_
    refine c_seq (fun K15 hK15 => ?_)
    refine c_cond (et g0 rfl) (fun cB1 => ?_) (fun cB1 => ?_)
    · skip
      simp only [decide_eq_true_eq, decide_eq_false_iff_not, Int.not_lt, Int.not_le, Bool.not_eq_true', Bool.not_eq_false', Bool.not_eq_eq_eq_not, Bool.not_true, Bool.not_false] at cB1
      refine c_skip ?_
      refine hK15 _ _ ?_
      refine fg9 0 2 3 8 9 10 20 21 22 (gS rfl (gS rfl (gS rfl (gS rfl (gS rfl (gS rfl (gS rfl (gS rfl (gS rfl g0))))))))) (gS rfl (gS rfl (gS rfl (gS rfl (gS rfl (gS rfl (gS rfl (gS rfl g0)))))))) (gS rfl (gS rfl (gS rfl (gS rfl (gS rfl (gS rfl (gS rfl g0))))))) (gS rfl (gS rfl (gS rfl (gS rfl (gS rfl (gS rfl g0)))))) (gS rfl (gS rfl (gS rfl (gS rfl (gS rfl g0))))) (gS rfl (gS rfl (gS rfl (gS rfl g0)))) (gS rfl (gS rfl (gS rfl g0))) (gS rfl (gS rfl g0)) (gS rfl g0) (fun g => ?_)
      refine c_seq (fun K17 hK17 => ?_)
      refine c_block (fun Q18 hQ18 => ?_)
      refine c_seq (fun K19 hK19 => ?_)
      refine c_region ?_
      obtain ⟨bq, oq, r, ha0, hrow, hrl, vk1, vv1, hr1, hk1, hv1, hkl, hvl⟩ := hS0.row hF (i := i) (by omega)
      rw [hr1] at hrow hrl
      have hP : P_slot H [vk1, vv1] xs[i] := ⟨vk1, vv1, rfl, hk1, hv1, hkl, hvl⟩
      have hPo := one_two hk1.one1 hv1.one1
      rw [List.drop_eq_getElem_cons (show i < xs.length by omega)] at hfin
      refine l_step (y_idxSa ha0 Hvaa.underlying105 sz_115 (et (gS rfl (gS rfl g0)) rfl) (et g0 rfl) ?_) ?_
      omega
      refine l_step (y_loadR agg_115 sz_115 (et g0 rfl) rfl (at1R hrow)) ?_
      refine l_eff (e_alloc zr_115) (fun v20 w20 h20 => ?_)
      obtain ⟨b20, rfl, n20⟩ := h20
      have d2_20 : b2 < b20 := Nat.lt_of_lt_of_le k2.lt n20.fresh
      have d5_20 : b5 < b20 := Nat.lt_of_lt_of_le k5.lt n20.fresh
      have f20 : w.heap.size ≤ b20 := Nat.le_trans U.size n20.fresh
      have fV13_20 := Nat.le_trans V13.size n20.fresh
      replace k2 := k2.up n20.up
      replace k5 := k5.up n20.up
      replace hF := hF.up n20.up
      replace kS := kS.up n20.up
      replace hO := hO.up n20.up
      replace U := U.tr n20.up
      replace V13 := V13.tr n20.up
      have k20 := n20.blk
      have hb12 := n20.fresh
      refine l_effN (e_store sz_115 (et g0 rfl) (cellsV (et (gS rfl g0) rfl) rfl) rfl (by exact hPo) k20 (by exact Nat.le_of_ble_eq_true rfl)) (fun v21 w21 h21 => ?_)
      obtain ⟨rfl, x21⟩ := h21
      replace k2 := k2.ch x21.ch (by omega)
      replace k5 := k5.ch x21.ch (by omega)
      replace hF := hF.ch x21.ch (by first | omega | (first | omega | (intro q hq e; have := hF0.lt hq; omega) | (intro q hq e; exact hOo.ne (by have := hF0.lt hq; omega) e) | (intro q hq e; exact nbS (e ▸ hq)) | (intro q hq e; exact nb8 (e ▸ hq))))
      replace kS := kS.ch x21.ch (by first | omega | (first | omega | exact hOo.ne (by omega)))
      replace k20 := x21.blk.full rfl
      replace hO := hO.wr x21 (by first | omega | (right; omega))
      replace U := U.st x21 (.inr f20)
      replace V13 := V13.st x21 (by omega)
      refine l_nil ?_
      refine hK19 _ _ ?_
      refine fg10 0 2 3 8 9 10 20 21 22 12 (gS rfl (gS rfl (gS rfl (gS rfl (gS rfl (gS rfl (gS rfl (gS rfl (gS rfl (gS rfl (gS rfl g0))))))))))) (gS rfl (gS rfl (gS rfl (gS rfl (gS rfl (gS rfl (gS rfl (gS rfl (gS rfl (gS rfl g0)))))))))) (gS rfl (gS rfl (gS rfl (gS rfl (gS rfl (gS rfl (gS rfl (gS rfl (gS rfl g0))))))))) (gS rfl (gS rfl (gS rfl (gS rfl (gS rfl (gS rfl (gS rfl (gS rfl g0)))))))) (gS rfl (gS rfl (gS rfl (gS rfl (gS rfl (gS rfl (gS rfl g0))))))) (gS rfl (gS rfl (gS rfl (gS rfl (gS rfl (gS rfl g0)))))) (gS rfl (gS rfl (gS rfl (gS rfl (gS rfl g0))))) (gS rfl (gS rfl (gS rfl (gS rfl g0)))) (gS rfl (gS rfl (gS rfl g0))) g0 (fun g => ?_)
      refine c_seq (fun K22 hK22 => ?_)
      refine c_region ?_
      refine l_step (y_fld fld_115_0 (et g0 rfl)) ?_
      refine l_step (y_load1 one_95 (et g0 rfl) (at1 (k20.cell rfl))) ?_
      refine l_step (y_moveV (et (gS rfl (gS rfl (gS rfl (gS rfl (gS rfl (gS rfl (gS rfl (gS rfl (gS rfl (gS rfl g0)))))))))) rfl)) ?_
      refine l_eff (e_callV cal_121 (aC (et (gS rfl g0) rfl) (aC (et g0 rfl) aN)) (nat_cmp hF hk1 hK (smW hkl) (bd_sm hkb (by decide)))) (fun v23 w23 h23 => ?_)
      obtain ⟨rfl, u23⟩ := h23
      replace k2 := k2.up u23
      replace k5 := k5.up u23
      replace k20 := k20.up u23
      replace hF := hF.up u23
      replace kS := kS.up u23
      replace hO := hO.up u23
      replace U := U.tr u23
      replace V13 := V13.tr u23
      refine l_step (y_assignV (et g0 rfl)) ?_
      refine l_nil ?_
      refine hK22 _ _ ?_
      refine fg11 0 2 3 8 9 10 20 21 22 12 13 (gS rfl (gS rfl (gS rfl (gS rfl (gS rfl (gS rfl (gS rfl (gS rfl (gS rfl (gS rfl (gS rfl (gS rfl (gS rfl (gS rfl g0)))))))))))))) (gS rfl (gS rfl (gS rfl (gS rfl (gS rfl (gS rfl (gS rfl (gS rfl (gS rfl (gS rfl (gS rfl (gS rfl (gS rfl g0))))))))))))) (gS rfl (gS rfl (gS rfl (gS rfl (gS rfl (gS rfl (gS rfl (gS rfl (gS rfl (gS rfl (gS rfl (gS rfl g0)))))))))))) (gS rfl (gS rfl (gS rfl (gS rfl (gS rfl (gS rfl (gS rfl (gS rfl (gS rfl (gS rfl (gS rfl g0))))))))))) (gS rfl (gS rfl (gS rfl (gS rfl (gS rfl (gS rfl (gS rfl (gS rfl (gS rfl (gS rfl g0)))))))))) (gS rfl (gS rfl (gS rfl (gS rfl (gS rfl (gS rfl (gS rfl (gS rfl (gS rfl g0))))))))) (gS rfl (gS rfl (gS rfl (gS rfl (gS rfl (gS rfl (gS rfl (gS rfl g0)))))))) (gS rfl (gS rfl (gS rfl (gS rfl (gS rfl (gS rfl (gS rfl g0))))))) (gS rfl (gS rfl (gS rfl (gS rfl (gS rfl (gS rfl g0)))))) (gS rfl (gS rfl (gS rfl (gS rfl (gS rfl g0))))) g0 (fun g => ?_)
      refine c_seq (fun K24 hK24 => ?_)
      refine c_seq (fun K25 hK25 => ?_)
      refine c_region ?_
      refine l_step (y_moveV (et (gS rfl (gS rfl (gS rfl (gS rfl (gS rfl g0))))) rfl)) ?_
      refine l_step (y_not (et g0 rfl)) ?_
      refine l_step (y_moveV (et g0 rfl)) ?_
      refine gsplitL (i := 32) g0 (fun q26 => ?_) (fun q26 => ?_)
      · skip
        have hlb : lb = false := by simpa using q26
        refine l_gstep (j := 2) (t := 32) (by exact rfl) (by exact rfl) (et g0 rfl) (by decide) (y_moveV (et (gS rfl (gS rfl (gS rfl (gS rfl g0)))) rfl)) ?_
        refine l_gstep (j := 2) (t := 32) (by exact rfl) (by exact rfl) (et (gS rfl g0) rfl) (by decide) ((y_geq (et g0 rfl) rfl).to (congrArg Value.bool (cmp_ge0 xs[i].1 key))) ?_
        refine l_step (y_pickT (et (gS rfl (gS rfl g0)) rfl) (et g0 rfl)) ?_
        refine l_nil ?_
        refine hK25 _ _ ?_
        refine fg12 0 2 3 8 9 10 20 21 22 12 13 35 (gS rfl (gS rfl (gS rfl (gS rfl (gS rfl (gS rfl (gS rfl (gS rfl (gS rfl (gS rfl (gS rfl (gS rfl (gS rfl (gS rfl (gS rfl (gS rfl (gS rfl g0))))))))))))))))) (gS rfl (gS rfl (gS rfl (gS rfl (gS rfl (gS rfl (gS rfl (gS rfl (gS rfl (gS rfl (gS rfl (gS rfl (gS rfl (gS rfl (gS rfl (gS rfl g0)))))))))))))))) (gS rfl (gS rfl (gS rfl (gS rfl (gS rfl (gS rfl (gS rfl (gS rfl (gS rfl (gS rfl (gS rfl (gS rfl (gS rfl (gS rfl (gS rfl g0))))))))))))))) (gS rfl (gS rfl (gS rfl (gS rfl (gS rfl (gS rfl (gS rfl (gS rfl (gS rfl (gS rfl (gS rfl (gS rfl (gS rfl (gS rfl g0)))))))))))))) (gS rfl (gS rfl (gS rfl (gS rfl (gS rfl (gS rfl (gS rfl (gS rfl (gS rfl (gS rfl (gS rfl (gS rfl (gS rfl g0))))))))))))) (gS rfl (gS rfl (gS rfl (gS rfl (gS rfl (gS rfl (gS rfl (gS rfl (gS rfl (gS rfl (gS rfl (gS rfl g0)))))))))))) (gS rfl (gS rfl (gS rfl (gS rfl (gS rfl (gS rfl (gS rfl (gS rfl (gS rfl (gS rfl (gS rfl g0))))))))))) (gS rfl (gS rfl (gS rfl (gS rfl (gS rfl (gS rfl (gS rfl (gS rfl (gS rfl (gS rfl g0)))))))))) (gS rfl (gS rfl (gS rfl (gS rfl (gS rfl (gS rfl (gS rfl (gS rfl (gS rfl g0))))))))) (gS rfl (gS rfl (gS rfl (gS rfl (gS rfl (gS rfl (gS rfl (gS rfl g0)))))))) (gS rfl (gS rfl (gS rfl (gS rfl (gS rfl (gS rfl (gS rfl g0))))))) g0 (fun g => ?_)
        refine c_cond (et g0 rfl) (fun cB2 => ?_) (fun cB2 => ?_)
        · skip
          
          have hcd : decide (key ≤ xs[i].1) = true := cB2
          refine c_seq (fun K28 hK28 => ?_)
          refine c_region ?_
          refine l_step (y_moveV (et (gS rfl (gS rfl (gS rfl (gS rfl (gS rfl (gS rfl (gS rfl g0))))))) rfl)) ?_
          refine l_step (y_moveV (et (gS rfl (gS rfl (gS rfl (gS rfl (gS rfl (gS rfl (gS rfl (gS rfl (gS rfl (gS rfl (gS rfl g0))))))))))) rfl)) ?_
          refine l_step (y_moveV (et (gS rfl (gS rfl (gS rfl (gS rfl (gS rfl (gS rfl (gS rfl (gS rfl (gS rfl (gS rfl (gS rfl g0))))))))))) rfl)) ?_
          have hb29 : ∀ w, (Instr.build 115 ([(0, vk), (1, vv)] : List (Nat × Value)).toArray).run Hvaa.prog w = .ok (.agg ([([vk]), ([vv])] : List (List Value)).flatten.toArray) w := bld_run zr_115 plc_115 (fill_flat (off := 0) (k := 1) (f := [.slice none 0 0]) (c := [vk]) (v := vk) rfl (cells_one hK.one1) (by first | (simp [length_bL, length_be, length_uL]; done) | rfl) (by first | rfl | (simp [length_bL, length_be, length_uL]; done)) rfl (by first | (simp [length_bL, length_be, length_uL]; done) | rfl) (fill_flat (off := 1) (k := 1) (f := [.slice none 0 0]) (c := [vv]) (v := vv) rfl (cells_one hV.one1) (by first | (simp [length_bL, length_be, length_uL]; done) | rfl) (by first | rfl | (simp [length_bL, length_be, length_uL]; done)) rfl (by first | (simp [length_bL, length_be, length_uL]; done) | rfl) (fill_nil _ _)))
          refine l_step ((y_bld (bC (et (gS rfl g0) rfl) (bC (et g0 rfl) bN)) hb29).to (congrArg (fun l : List Value => Value.agg l.toArray) (show _ = [vk, vv] by simp))) ?_
          refine l_eff (e_slice1 Hvaa.underlying105 sz_115 zr_115 rfl (by decide) (et g0 rfl) (by rw [show (Value.agg ([vk, vv]).toArray).cells = ([vk, vv]).toArray from rfl, List.size_toArray, two_len])) (fun v30 w30 h30 => ?_)
          obtain ⟨b30, rfl, n30⟩ := h30
          replace k2 := k2.up n30.up
          replace k5 := k5.up n30.up
          replace k20 := k20.up n30.up
          replace hF := hF.up n30.up
          replace kS := kS.up n30.up
          replace hO := hO.up n30.up
          replace U := U.tr n30.up
          replace V13 := V13.tr n30.up
          have kq30 : Blk w30 b30 ([vk, vv]).toArray := n30.blk
          have hbz : base ≤ w30.heap.size := by have := k20.lt; omega
          refine l_eff (e_appL Hvaa.underlying105 sz_115 zr_115 by_115 rfl (by decide) (et (gS rfl (gS rfl (gS rfl (gS rfl g0)))) rfl) hO (et g0 rfl) rfl kq30 (one_two hK.one1 hV.one1) (slot_cells hK hV (W_bd hkb) (W_bd hvb)) (by decide) (by first | omega | (simp; omega)) hbz) (fun v31 w31 h31 => ?_)
          obtain ⟨hO31, c31, hown31⟩ := h31
          have hOo := hO
          have nO12 := hown31 _ k20.lt (hO.ne (by omega))
          replace k2 := k2.ch c31 (by first | omega | exact hOo.ne (by omega) | assumption | (intro q hq; exact hOo.ne (by have := hF0.lt hq; omega)))
          replace k5 := k5.ch c31 (by first | omega | exact hOo.ne (by omega) | assumption | (intro q hq; exact hOo.ne (by have := hF0.lt hq; omega)))
          replace k20 := k20.ch c31 (by first | omega | exact hOo.ne (by omega) | assumption | (intro q hq; exact hOo.ne (by have := hF0.lt hq; omega)))
          replace hF := hF.ch c31 (by first | omega | (intro q hq e; have := hF0.lt hq; omega) | (intro q hq e; exact hOo.ne (by have := hF0.lt hq; omega) e) | (intro q hq e; exact nbS (e ▸ hq)) | (intro q hq e; exact nb8 (e ▸ hq)))
          replace kS := kS.ch c31 (by first | omega | exact hOo.ne (by omega))
          replace hO := hO31
          replace V13 := V13.cc c31 (by intro b hb; first | omega | (simp at hb ⊢; omega) | (have := hOo.lim b hb.symm; omega))
          replace U := U.cc c31 (by intro b hb; first | (have := hOo.lim b hb.symm; omega) | omega | exact .inl hb | exact .inr (hb ▸ U))
          refine l_step (y_assignV (et g0 rfl)) ?_
          refine l_nil ?_
          refine hK28 _ _ ?_
          refine fg10 0 2 3 8 9 20 21 22 12 13 (gS rfl (gS rfl (gS rfl (gS rfl (gS rfl (gS rfl (gS rfl (gS rfl (gS rfl (gS rfl (gS rfl (gS rfl (gS rfl (gS rfl (gS rfl (gS rfl (gS rfl (gS rfl g0)))))))))))))))))) (gS rfl (gS rfl (gS rfl (gS rfl (gS rfl (gS rfl (gS rfl (gS rfl (gS rfl (gS rfl (gS rfl (gS rfl (gS rfl (gS rfl (gS rfl (gS rfl (gS rfl g0))))))))))))))))) (gS rfl (gS rfl (gS rfl (gS rfl (gS rfl (gS rfl (gS rfl (gS rfl (gS rfl (gS rfl (gS rfl (gS rfl (gS rfl (gS rfl (gS rfl (gS rfl g0)))))))))))))))) (gS rfl (gS rfl (gS rfl (gS rfl (gS rfl (gS rfl (gS rfl (gS rfl (gS rfl (gS rfl (gS rfl (gS rfl (gS rfl (gS rfl (gS rfl g0))))))))))))))) g0 (gS rfl (gS rfl (gS rfl (gS rfl (gS rfl (gS rfl (gS rfl (gS rfl (gS rfl (gS rfl (gS rfl (gS rfl g0)))))))))))) (gS rfl (gS rfl (gS rfl (gS rfl (gS rfl (gS rfl (gS rfl (gS rfl (gS rfl (gS rfl (gS rfl g0))))))))))) (gS rfl (gS rfl (gS rfl (gS rfl (gS rfl (gS rfl (gS rfl (gS rfl (gS rfl (gS rfl g0)))))))))) (gS rfl (gS rfl (gS rfl (gS rfl (gS rfl (gS rfl (gS rfl (gS rfl (gS rfl g0))))))))) (gS rfl (gS rfl (gS rfl (gS rfl (gS rfl (gS rfl (gS rfl (gS rfl g0)))))))) (fun g => ?_)
          refine c_region ?_
          refine l_step y_assignC ?_
          refine l_nil ?_
          refine hK24 _ _ ?_
          refine c_seq (fun K32 hK32 => ?_)
          refine c_region ?_
          refine l_step (y_moveV (et (gS rfl g0) rfl)) ?_
          refine l_step (y_neq (et g0 rfl) rfl) ?_
          refine l_nil ?_
          refine hK32 _ _ ?_
          refine fg11 0 2 3 8 9 20 21 22 12 10 43 (gS rfl (gS rfl (gS rfl (gS rfl (gS rfl (gS rfl (gS rfl (gS rfl (gS rfl (gS rfl (gS rfl (gS rfl g0)))))))))))) (gS rfl (gS rfl (gS rfl (gS rfl (gS rfl (gS rfl (gS rfl (gS rfl (gS rfl (gS rfl (gS rfl g0))))))))))) (gS rfl (gS rfl (gS rfl (gS rfl (gS rfl (gS rfl (gS rfl (gS rfl (gS rfl (gS rfl g0)))))))))) (gS rfl (gS rfl (gS rfl (gS rfl (gS rfl (gS rfl (gS rfl (gS rfl (gS rfl g0))))))))) (gS rfl (gS rfl (gS rfl (gS rfl (gS rfl (gS rfl (gS rfl (gS rfl g0)))))))) (gS rfl (gS rfl (gS rfl (gS rfl (gS rfl (gS rfl (gS rfl g0))))))) (gS rfl (gS rfl (gS rfl (gS rfl (gS rfl (gS rfl g0)))))) (gS rfl (gS rfl (gS rfl (gS rfl (gS rfl g0))))) (gS rfl (gS rfl (gS rfl (gS rfl g0)))) (gS rfl (gS rfl g0)) g0 (fun g => ?_)
          refine c_cond (et g0 rfl) (fun cB3 => ?_) (fun cB3 => ?_)
          · skip
            
            have hsm : (xs[i].1 == key) = false := by
              have h9 : cmpN xs[i].1 key ≠ 0 := of_decide_eq_true cB3
              simp only [beq_eq_false_iff_ne]
              intro e
              exact absurd (cmp_eq e) h9
            refine c_region ?_
            refine l_step (y_moveV (et (gS rfl (gS rfl (gS rfl (gS rfl (gS rfl (gS rfl g0)))))) rfl)) ?_
            refine l_step (y_loadB agg_115 sz_115 (et (gS rfl (gS rfl (gS rfl g0))) rfl) rfl (at1B k20)) ?_
            refine l_eff (e_slice1 Hvaa.underlying105 sz_115 zr_115 rfl (by decide) (et g0 rfl) (by rw [show (Value.agg ([vk1, vv1]).toArray).cells = ([vk1, vv1]).toArray from rfl, List.size_toArray, two_len])) (fun v34 w34 h34 => ?_)
            obtain ⟨b34, rfl, n34⟩ := h34
            replace k2 := k2.up n34.up
            replace k5 := k5.up n34.up
            replace k20 := k20.up n34.up
            replace hF := hF.up n34.up
            replace kS := kS.up n34.up
            replace hO := hO.up n34.up
            replace U := U.tr n34.up
            replace V13 := V13.tr n34.up
            have kq34 : Blk w34 b34 ([vk1, vv1]).toArray := n34.blk
            have hbz : base ≤ w34.heap.size := by have := k20.lt; omega
            refine l_eff (e_appL Hvaa.underlying105 sz_115 zr_115 by_115 rfl (by decide) (et (gS rfl (gS rfl g0)) rfl) hO (et g0 rfl) rfl kq34 hPo hP (by decide) (by first | omega | (simp; omega)) hbz) (fun v35 w35 h35 => ?_)
            obtain ⟨hO35, c35, hown35⟩ := h35
            have hOo := hO
            replace k2 := k2.ch c35 (by first | omega | exact hOo.ne (by omega) | assumption | (intro q hq; exact hOo.ne (by have := hF0.lt hq; omega)))
            replace k5 := k5.ch c35 (by first | omega | exact hOo.ne (by omega) | assumption | (intro q hq; exact hOo.ne (by have := hF0.lt hq; omega)))
            replace k20 := k20.ch c35 (by first | omega | exact hOo.ne (by omega) | assumption | (intro q hq; exact hOo.ne (by have := hF0.lt hq; omega)))
            replace hF := hF.ch c35 (by first | omega | (intro q hq e; have := hF0.lt hq; omega) | (intro q hq e; exact hOo.ne (by have := hF0.lt hq; omega) e) | (intro q hq e; exact nbS (e ▸ hq)) | (intro q hq e; exact nb8 (e ▸ hq)))
            replace kS := kS.ch c35 (by first | omega | exact hOo.ne (by omega))
            replace hO := hO35
            replace V13 := V13.cc c35 (by intro b hb; first | omega | (simp at hb ⊢; omega) | (have := hOo.lim b hb.symm; omega))
            replace U := U.cc c35 (by intro b hb; first | (have := hOo.lim b hb.symm; omega) | omega | exact .inl hb | exact .inr (hb ▸ U))
            refine l_step (y_assignV (et g0 rfl)) ?_
            refine l_nil ?_
            refine hQ18 _ _ _ (in_normal ?_)
            refine hK17 _ _ ?_
            refine fg9 0 2 3 8 9 20 21 22 10 (gS rfl (gS rfl (gS rfl (gS rfl (gS rfl (gS rfl (gS rfl (gS rfl (gS rfl (gS rfl (gS rfl (gS rfl (gS rfl (gS rfl (gS rfl g0))))))))))))))) (gS rfl (gS rfl (gS rfl (gS rfl (gS rfl (gS rfl (gS rfl (gS rfl (gS rfl (gS rfl (gS rfl (gS rfl (gS rfl (gS rfl g0)))))))))))))) (gS rfl (gS rfl (gS rfl (gS rfl (gS rfl (gS rfl (gS rfl (gS rfl (gS rfl (gS rfl (gS rfl (gS rfl (gS rfl g0))))))))))))) (gS rfl (gS rfl (gS rfl (gS rfl (gS rfl (gS rfl (gS rfl (gS rfl (gS rfl (gS rfl (gS rfl (gS rfl g0)))))))))))) g0 (gS rfl (gS rfl (gS rfl (gS rfl (gS rfl (gS rfl (gS rfl (gS rfl (gS rfl (gS rfl g0)))))))))) (gS rfl (gS rfl (gS rfl (gS rfl (gS rfl (gS rfl (gS rfl (gS rfl (gS rfl g0))))))))) (gS rfl (gS rfl (gS rfl (gS rfl (gS rfl (gS rfl (gS rfl (gS rfl g0)))))))) (gS rfl (gS rfl (gS rfl (gS rfl (gS rfl (gS rfl g0)))))) (fun g => ?_)
            refine c_region ?_
            refine l_step (y_add (et (gS rfl g0) rfl) rfl (addIN (y := 1) ?_)) ?_
            omega
            refine l_step (y_moveV (et g0 rfl)) ?_
            refine l_nil ?_
            refine fK9 0 2 3 8 9 10 20 21 22 (gS rfl (gS rfl (gS rfl (gS rfl (gS rfl (gS rfl (gS rfl (gS rfl (gS rfl (gS rfl g0)))))))))) (gS rfl (gS rfl (gS rfl (gS rfl (gS rfl (gS rfl (gS rfl (gS rfl (gS rfl g0))))))))) (gS rfl (gS rfl (gS rfl (gS rfl (gS rfl (gS rfl (gS rfl (gS rfl g0)))))))) (gS rfl (gS rfl (gS rfl (gS rfl (gS rfl (gS rfl (gS rfl g0))))))) (gS rfl (gS rfl (gS rfl (gS rfl (gS rfl (gS rfl g0)))))) (gS rfl (gS rfl g0)) (gS rfl (gS rfl (gS rfl (gS rfl (gS rfl g0))))) (gS rfl (gS rfl (gS rfl (gS rfl g0)))) g0 (fun g => ?_)
            exact hK13 (xs.length - ((i + 1))) _ _ (by omega) ⟨g, _, true, (O ++ [(key, val)] ++ [xs[i]]), (i + 1), rfl, rfl, by omega, hO, by rw [hlb] at hOl; simp at hOl ⊢; omega, put_keep (put_lay (by rw [hlb] at hfin; exact hfin) (by rw [lay_condS]; exact hcd)) hsm, V13⟩
          · skip
            
            have hsm : (xs[i].1 == key) = true := by
              have h9 : cmpN xs[i].1 key = 0 := Decidable.not_not.1 (of_decide_eq_false cB3)
              have h8 := cmp_eq0 xs[i].1 key
              rw [decide_eq_true h9] at h8
              simpa using h8.symm
            refine c_skip ?_
            refine hQ18 _ _ _ (in_normal ?_)
            refine hK17 _ _ ?_
            refine fg9 0 2 3 8 9 20 21 22 10 (gS rfl (gS rfl (gS rfl (gS rfl (gS rfl (gS rfl (gS rfl (gS rfl (gS rfl (gS rfl g0)))))))))) (gS rfl (gS rfl (gS rfl (gS rfl (gS rfl (gS rfl (gS rfl (gS rfl (gS rfl g0))))))))) (gS rfl (gS rfl (gS rfl (gS rfl (gS rfl (gS rfl (gS rfl (gS rfl g0)))))))) (gS rfl (gS rfl (gS rfl (gS rfl (gS rfl (gS rfl (gS rfl g0))))))) (gS rfl (gS rfl (gS rfl (gS rfl (gS rfl (gS rfl g0)))))) (gS rfl (gS rfl (gS rfl (gS rfl (gS rfl g0))))) (gS rfl (gS rfl (gS rfl (gS rfl g0)))) (gS rfl (gS rfl (gS rfl g0))) (gS rfl g0) (fun g => ?_)
            refine c_region ?_
            refine l_step (y_add (et (gS rfl g0) rfl) rfl (addIN (y := 1) ?_)) ?_
            omega
            refine l_step (y_moveV (et g0 rfl)) ?_
            refine l_nil ?_
            refine fK9 0 2 3 8 9 10 20 21 22 (gS rfl (gS rfl (gS rfl (gS rfl (gS rfl (gS rfl (gS rfl (gS rfl (gS rfl (gS rfl g0)))))))))) (gS rfl (gS rfl (gS rfl (gS rfl (gS rfl (gS rfl (gS rfl (gS rfl (gS rfl g0))))))))) (gS rfl (gS rfl (gS rfl (gS rfl (gS rfl (gS rfl (gS rfl (gS rfl g0)))))))) (gS rfl (gS rfl (gS rfl (gS rfl (gS rfl (gS rfl (gS rfl g0))))))) (gS rfl (gS rfl (gS rfl (gS rfl (gS rfl (gS rfl g0)))))) (gS rfl (gS rfl g0)) (gS rfl (gS rfl (gS rfl (gS rfl (gS rfl g0))))) (gS rfl (gS rfl (gS rfl (gS rfl g0)))) g0 (fun g => ?_)
            exact hK13 (xs.length - ((i + 1))) _ _ (by omega) ⟨g, _, true, (O ++ [(key, val)]), (i + 1), rfl, rfl, by omega, hO, by rw [hlb] at hOl; simp at hOl ⊢; omega, put_same (put_lay (by rw [hlb] at hfin; exact hfin) (by rw [lay_condS]; exact hcd)) hsm, V13⟩
        · skip
          
          have hcd : decide (key ≤ xs[i].1) = false := cB2
          have hlb0 : lb = true ∨ ((xs[i].1 == key) || decide (key < xs[i].1)) = false := .inr (by rw [lay_condS]; exact hcd)
          refine c_skip ?_
          refine hK24 _ _ ?_
          refine fg11 0 2 3 8 9 10 20 21 22 12 13 (gS rfl (gS rfl (gS rfl (gS rfl (gS rfl (gS rfl (gS rfl (gS rfl (gS rfl (gS rfl (gS rfl g0))))))))))) (gS rfl (gS rfl (gS rfl (gS rfl (gS rfl (gS rfl (gS rfl (gS rfl (gS rfl (gS rfl g0)))))))))) (gS rfl (gS rfl (gS rfl (gS rfl (gS rfl (gS rfl (gS rfl (gS rfl (gS rfl g0))))))))) (gS rfl (gS rfl (gS rfl (gS rfl (gS rfl (gS rfl (gS rfl (gS rfl g0)))))))) (gS rfl (gS rfl (gS rfl (gS rfl (gS rfl (gS rfl (gS rfl g0))))))) (gS rfl (gS rfl (gS rfl (gS rfl (gS rfl (gS rfl g0)))))) (gS rfl (gS rfl (gS rfl (gS rfl (gS rfl g0))))) (gS rfl (gS rfl (gS rfl (gS rfl g0)))) (gS rfl (gS rfl (gS rfl g0))) (gS rfl (gS rfl g0)) (gS rfl g0) (fun g => ?_)
          refine c_seq (fun K36 hK36 => ?_)
          refine c_region ?_
          refine l_step (y_moveV (et g0 rfl)) ?_
          refine l_step (y_neq (et g0 rfl) rfl) ?_
          refine l_nil ?_
          refine hK36 _ _ ?_
          refine fg11 0 2 3 8 9 10 20 21 22 12 43 (gS rfl (gS rfl (gS rfl (gS rfl (gS rfl (gS rfl (gS rfl (gS rfl (gS rfl (gS rfl (gS rfl (gS rfl g0)))))))))))) (gS rfl (gS rfl (gS rfl (gS rfl (gS rfl (gS rfl (gS rfl (gS rfl (gS rfl (gS rfl (gS rfl g0))))))))))) (gS rfl (gS rfl (gS rfl (gS rfl (gS rfl (gS rfl (gS rfl (gS rfl (gS rfl (gS rfl g0)))))))))) (gS rfl (gS rfl (gS rfl (gS rfl (gS rfl (gS rfl (gS rfl (gS rfl (gS rfl g0))))))))) (gS rfl (gS rfl (gS rfl (gS rfl (gS rfl (gS rfl (gS rfl (gS rfl g0)))))))) (gS rfl (gS rfl (gS rfl (gS rfl (gS rfl (gS rfl (gS rfl g0))))))) (gS rfl (gS rfl (gS rfl (gS rfl (gS rfl (gS rfl g0)))))) (gS rfl (gS rfl (gS rfl (gS rfl (gS rfl g0))))) (gS rfl (gS rfl (gS rfl (gS rfl g0)))) (gS rfl (gS rfl (gS rfl g0))) g0 (fun g => ?_)
          refine c_cond (et g0 rfl) (fun cB3 => ?_) (fun cB3 => ?_)
          · skip
            
            have hsm : (xs[i].1 == key) = false := by
              have h9 : cmpN xs[i].1 key ≠ 0 := of_decide_eq_true cB3
              simp only [beq_eq_false_iff_ne]
              intro e
              exact absurd (cmp_eq e) h9
            refine c_region ?_
            refine l_step (y_moveV (et (gS rfl (gS rfl (gS rfl (gS rfl (gS rfl (gS rfl g0)))))) rfl)) ?_
            refine l_step (y_loadB agg_115 sz_115 (et (gS rfl (gS rfl g0)) rfl) rfl (at1B k20)) ?_
            refine l_eff (e_slice1 Hvaa.underlying105 sz_115 zr_115 rfl (by decide) (et g0 rfl) (by rw [show (Value.agg ([vk1, vv1]).toArray).cells = ([vk1, vv1]).toArray from rfl, List.size_toArray, two_len])) (fun v38 w38 h38 => ?_)
            obtain ⟨b38, rfl, n38⟩ := h38
            replace k2 := k2.up n38.up
            replace k5 := k5.up n38.up
            replace k20 := k20.up n38.up
            replace hF := hF.up n38.up
            replace kS := kS.up n38.up
            replace hO := hO.up n38.up
            replace U := U.tr n38.up
            replace V13 := V13.tr n38.up
            have kq38 : Blk w38 b38 ([vk1, vv1]).toArray := n38.blk
            have hbz : base ≤ w38.heap.size := by have := k20.lt; omega
            refine l_eff (e_appL Hvaa.underlying105 sz_115 zr_115 by_115 rfl (by decide) (et (gS rfl (gS rfl g0)) rfl) hO (et g0 rfl) rfl kq38 hPo hP (by decide) (by first | omega | (simp; omega)) hbz) (fun v39 w39 h39 => ?_)
            obtain ⟨hO39, c39, hown39⟩ := h39
            have hOo := hO
            replace k2 := k2.ch c39 (by first | omega | exact hOo.ne (by omega) | assumption | (intro q hq; exact hOo.ne (by have := hF0.lt hq; omega)))
            replace k5 := k5.ch c39 (by first | omega | exact hOo.ne (by omega) | assumption | (intro q hq; exact hOo.ne (by have := hF0.lt hq; omega)))
            replace k20 := k20.ch c39 (by first | omega | exact hOo.ne (by omega) | assumption | (intro q hq; exact hOo.ne (by have := hF0.lt hq; omega)))
            replace hF := hF.ch c39 (by first | omega | (intro q hq e; have := hF0.lt hq; omega) | (intro q hq e; exact hOo.ne (by have := hF0.lt hq; omega) e) | (intro q hq e; exact nbS (e ▸ hq)) | (intro q hq e; exact nb8 (e ▸ hq)))
            replace kS := kS.ch c39 (by first | omega | exact hOo.ne (by omega))
            replace hO := hO39
            replace V13 := V13.cc c39 (by intro b hb; first | omega | (simp at hb ⊢; omega) | (have := hOo.lim b hb.symm; omega))
            replace U := U.cc c39 (by intro b hb; first | (have := hOo.lim b hb.symm; omega) | omega | exact .inl hb | exact .inr (hb ▸ U))
            refine l_step (y_assignV (et g0 rfl)) ?_
            refine l_nil ?_
            refine hQ18 _ _ _ (in_normal ?_)
            refine hK17 _ _ ?_
            refine fg9 0 2 3 8 9 10 20 21 22 (gS rfl (gS rfl (gS rfl (gS rfl (gS rfl (gS rfl (gS rfl (gS rfl (gS rfl (gS rfl (gS rfl (gS rfl (gS rfl (gS rfl (gS rfl g0))))))))))))))) (gS rfl (gS rfl (gS rfl (gS rfl (gS rfl (gS rfl (gS rfl (gS rfl (gS rfl (gS rfl (gS rfl (gS rfl (gS rfl (gS rfl g0)))))))))))))) (gS rfl (gS rfl (gS rfl (gS rfl (gS rfl (gS rfl (gS rfl (gS rfl (gS rfl (gS rfl (gS rfl (gS rfl (gS rfl g0))))))))))))) (gS rfl (gS rfl (gS rfl (gS rfl (gS rfl (gS rfl (gS rfl (gS rfl (gS rfl (gS rfl (gS rfl (gS rfl g0)))))))))))) g0 (gS rfl (gS rfl (gS rfl (gS rfl (gS rfl (gS rfl (gS rfl (gS rfl (gS rfl (gS rfl g0)))))))))) (gS rfl (gS rfl (gS rfl (gS rfl (gS rfl (gS rfl (gS rfl (gS rfl (gS rfl g0))))))))) (gS rfl (gS rfl (gS rfl (gS rfl (gS rfl (gS rfl (gS rfl (gS rfl g0)))))))) (gS rfl (gS rfl (gS rfl (gS rfl (gS rfl (gS rfl (gS rfl g0))))))) (fun g => ?_)
            refine c_region ?_
            refine l_step (y_add (et g0 rfl) rfl (addIN (y := 1) ?_)) ?_
            omega
            refine l_step (y_moveV (et g0 rfl)) ?_
            refine l_nil ?_
            refine fK9 0 2 3 8 9 10 20 21 22 (gS rfl (gS rfl (gS rfl (gS rfl (gS rfl (gS rfl (gS rfl (gS rfl (gS rfl (gS rfl g0)))))))))) (gS rfl (gS rfl (gS rfl (gS rfl (gS rfl (gS rfl (gS rfl (gS rfl (gS rfl g0))))))))) (gS rfl (gS rfl (gS rfl (gS rfl (gS rfl (gS rfl (gS rfl (gS rfl g0)))))))) (gS rfl (gS rfl (gS rfl (gS rfl (gS rfl (gS rfl (gS rfl g0))))))) (gS rfl (gS rfl (gS rfl (gS rfl (gS rfl (gS rfl g0)))))) (gS rfl (gS rfl (gS rfl (gS rfl (gS rfl g0))))) (gS rfl (gS rfl (gS rfl (gS rfl g0)))) (gS rfl (gS rfl (gS rfl g0))) g0 (fun g => ?_)
            exact hK13 (xs.length - ((i + 1))) _ _ (by omega) ⟨g, _, lb, (O ++ [xs[i]]), (i + 1), rfl, rfl, by omega, hO, by simp; omega, pass_step hfin hlb0 hsm, V13⟩
          · skip
            
            have hsm : (xs[i].1 == key) = true := by
              have h9 : cmpN xs[i].1 key = 0 := Decidable.not_not.1 (of_decide_eq_false cB3)
              have h8 := cmp_eq0 xs[i].1 key
              rw [decide_eq_true h9] at h8
              simpa using h8.symm
            have hlb1 : lb = true := by
              rcases hlb0 with h | h
              · exact h
              · rw [hsm] at h; cases h
            refine c_skip ?_
            refine hQ18 _ _ _ (in_normal ?_)
            refine hK17 _ _ ?_
            refine fg9 0 2 3 8 9 10 20 21 22 (gS rfl (gS rfl (gS rfl (gS rfl (gS rfl (gS rfl (gS rfl (gS rfl (gS rfl (gS rfl g0)))))))))) (gS rfl (gS rfl (gS rfl (gS rfl (gS rfl (gS rfl (gS rfl (gS rfl (gS rfl g0))))))))) (gS rfl (gS rfl (gS rfl (gS rfl (gS rfl (gS rfl (gS rfl (gS rfl g0)))))))) (gS rfl (gS rfl (gS rfl (gS rfl (gS rfl (gS rfl (gS rfl g0))))))) (gS rfl (gS rfl (gS rfl (gS rfl (gS rfl (gS rfl g0)))))) (gS rfl (gS rfl (gS rfl (gS rfl (gS rfl g0))))) (gS rfl (gS rfl (gS rfl (gS rfl g0)))) (gS rfl (gS rfl (gS rfl g0))) (gS rfl (gS rfl g0)) (fun g => ?_)
            refine c_region ?_
            refine l_step (y_add (et g0 rfl) rfl (addIN (y := 1) ?_)) ?_
            omega
            refine l_step (y_moveV (et g0 rfl)) ?_
            refine l_nil ?_
            refine fK9 0 2 3 8 9 10 20 21 22 (gS rfl (gS rfl (gS rfl (gS rfl (gS rfl (gS rfl (gS rfl (gS rfl (gS rfl (gS rfl g0)))))))))) (gS rfl (gS rfl (gS rfl (gS rfl (gS rfl (gS rfl (gS rfl (gS rfl (gS rfl g0))))))))) (gS rfl (gS rfl (gS rfl (gS rfl (gS rfl (gS rfl (gS rfl (gS rfl g0)))))))) (gS rfl (gS rfl (gS rfl (gS rfl (gS rfl (gS rfl (gS rfl g0))))))) (gS rfl (gS rfl (gS rfl (gS rfl (gS rfl (gS rfl g0)))))) (gS rfl (gS rfl (gS rfl (gS rfl (gS rfl g0))))) (gS rfl (gS rfl (gS rfl (gS rfl g0)))) (gS rfl (gS rfl (gS rfl g0))) g0 (fun g => ?_)
            exact hK13 (xs.length - ((i + 1))) _ _ (by omega) ⟨g, _, lb, O, (i + 1), rfl, rfl, by omega, hO.mono (by have := k20.lt; omega), by omega, skip_step hfin hlb1 hsm, V13⟩
      · skip
        have hlb : lb = true := by simpa using q26
        have hlb0 : lb = true ∨ ((xs[i].1 == key) || decide (key < xs[i].1)) = false := .inl hlb
        have hlb1 : lb = true := hlb
        refine l_gskip (j := 2) (t := 32) (by exact rfl) (by exact rfl) (et g0 rfl) (by decide) (by decide) ?_
        refine l_gskip (j := 2) (t := 32) (by exact rfl) (by exact rfl) (et (gS rfl g0) rfl) (by decide) (by decide) ?_
        refine l_step (y_pickF (et (gS rfl (gS rfl g0)) rfl) rfl) ?_
        refine l_nil ?_
        refine hK25 _ _ ?_
        refine fg12 0 2 3 8 9 10 20 21 22 12 13 35 (gS rfl (gS rfl (gS rfl (gS rfl (gS rfl (gS rfl (gS rfl (gS rfl (gS rfl (gS rfl (gS rfl (gS rfl (gS rfl (gS rfl (gS rfl (gS rfl (gS rfl g0))))))))))))))))) (gS rfl (gS rfl (gS rfl (gS rfl (gS rfl (gS rfl (gS rfl (gS rfl (gS rfl (gS rfl (gS rfl (gS rfl (gS rfl (gS rfl (gS rfl (gS rfl g0)))))))))))))))) (gS rfl (gS rfl (gS rfl (gS rfl (gS rfl (gS rfl (gS rfl (gS rfl (gS rfl (gS rfl (gS rfl (gS rfl (gS rfl (gS rfl (gS rfl g0))))))))))))))) (gS rfl (gS rfl (gS rfl (gS rfl (gS rfl (gS rfl (gS rfl (gS rfl (gS rfl (gS rfl (gS rfl (gS rfl (gS rfl (gS rfl g0)))))))))))))) (gS rfl (gS rfl (gS rfl (gS rfl (gS rfl (gS rfl (gS rfl (gS rfl (gS rfl (gS rfl (gS rfl (gS rfl (gS rfl g0))))))))))))) (gS rfl (gS rfl (gS rfl (gS rfl (gS rfl (gS rfl (gS rfl (gS rfl (gS rfl (gS rfl (gS rfl (gS rfl g0)))))))))))) (gS rfl (gS rfl (gS rfl (gS rfl (gS rfl (gS rfl (gS rfl (gS rfl (gS rfl (gS rfl (gS rfl g0))))))))))) (gS rfl (gS rfl (gS rfl (gS rfl (gS rfl (gS rfl (gS rfl (gS rfl (gS rfl (gS rfl g0)))))))))) (gS rfl (gS rfl (gS rfl (gS rfl (gS rfl (gS rfl (gS rfl (gS rfl (gS rfl g0))))))))) (gS rfl (gS rfl (gS rfl (gS rfl (gS rfl (gS rfl (gS rfl (gS rfl g0)))))))) (gS rfl (gS rfl (gS rfl (gS rfl (gS rfl (gS rfl (gS rfl g0))))))) g0 (fun g => ?_)
        refine c_false (et g0 rfl) rfl ?_
        refine c_skip ?_
        refine hK24 _ _ ?_
        refine fg11 0 2 3 8 9 10 20 21 22 12 13 (gS rfl (gS rfl (gS rfl (gS rfl (gS rfl (gS rfl (gS rfl (gS rfl (gS rfl (gS rfl (gS rfl g0))))))))))) (gS rfl (gS rfl (gS rfl (gS rfl (gS rfl (gS rfl (gS rfl (gS rfl (gS rfl (gS rfl g0)))))))))) (gS rfl (gS rfl (gS rfl (gS rfl (gS rfl (gS rfl (gS rfl (gS rfl (gS rfl g0))))))))) (gS rfl (gS rfl (gS rfl (gS rfl (gS rfl (gS rfl (gS rfl (gS rfl g0)))))))) (gS rfl (gS rfl (gS rfl (gS rfl (gS rfl (gS rfl (gS rfl g0))))))) (gS rfl (gS rfl (gS rfl (gS rfl (gS rfl (gS rfl g0)))))) (gS rfl (gS rfl (gS rfl (gS rfl (gS rfl g0))))) (gS rfl (gS rfl (gS rfl (gS rfl g0)))) (gS rfl (gS rfl (gS rfl g0))) (gS rfl (gS rfl g0)) (gS rfl g0) (fun g => ?_)
        refine c_seq (fun K41 hK41 => ?_)
        refine c_region ?_
        refine l_step (y_moveV (et g0 rfl)) ?_
        refine l_step (y_neq (et g0 rfl) rfl) ?_
        refine l_nil ?_
        refine hK41 _ _ ?_
        refine fg11 0 2 3 8 9 10 20 21 22 12 43 (gS rfl (gS rfl (gS rfl (gS rfl (gS rfl (gS rfl (gS rfl (gS rfl (gS rfl (gS rfl (gS rfl (gS rfl g0)))))))))))) (gS rfl (gS rfl (gS rfl (gS rfl (gS rfl (gS rfl (gS rfl (gS rfl (gS rfl (gS rfl (gS rfl g0))))))))))) (gS rfl (gS rfl (gS rfl (gS rfl (gS rfl (gS rfl (gS rfl (gS rfl (gS rfl (gS rfl g0)))))))))) (gS rfl (gS rfl (gS rfl (gS rfl (gS rfl (gS rfl (gS rfl (gS rfl (gS rfl g0))))))))) (gS rfl (gS rfl (gS rfl (gS rfl (gS rfl (gS rfl (gS rfl (gS rfl g0)))))))) (gS rfl (gS rfl (gS rfl (gS rfl (gS rfl (gS rfl (gS rfl g0))))))) (gS rfl (gS rfl (gS rfl (gS rfl (gS rfl (gS rfl g0)))))) (gS rfl (gS rfl (gS rfl (gS rfl (gS rfl g0))))) (gS rfl (gS rfl (gS rfl (gS rfl g0)))) (gS rfl (gS rfl (gS rfl g0))) g0 (fun g => ?_)
        refine c_cond (et g0 rfl) (fun cB3 => ?_) (fun cB3 => ?_)
        · skip
          
          have hsm : (xs[i].1 == key) = false := by
            have h9 : cmpN xs[i].1 key ≠ 0 := of_decide_eq_true cB3
            simp only [beq_eq_false_iff_ne]
            intro e
            exact absurd (cmp_eq e) h9
          refine c_region ?_
          refine l_step (y_moveV (et (gS rfl (gS rfl (gS rfl (gS rfl (gS rfl (gS rfl g0)))))) rfl)) ?_
          refine l_step (y_loadB agg_115 sz_115 (et (gS rfl (gS rfl g0)) rfl) rfl (at1B k20)) ?_
          refine l_eff (e_slice1 Hvaa.underlying105 sz_115 zr_115 rfl (by decide) (et g0 rfl) (by rw [show (Value.agg ([vk1, vv1]).toArray).cells = ([vk1, vv1]).toArray from rfl, List.size_toArray, two_len])) (fun v43 w43 h43 => ?_)
          obtain ⟨b43, rfl, n43⟩ := h43
          replace k2 := k2.up n43.up
          replace k5 := k5.up n43.up
          replace k20 := k20.up n43.up
          replace hF := hF.up n43.up
          replace kS := kS.up n43.up
          replace hO := hO.up n43.up
          replace U := U.tr n43.up
          replace V13 := V13.tr n43.up
          have kq43 : Blk w43 b43 ([vk1, vv1]).toArray := n43.blk
          have hbz : base ≤ w43.heap.size := by have := k20.lt; omega
          refine l_eff (e_appL Hvaa.underlying105 sz_115 zr_115 by_115 rfl (by decide) (et (gS rfl (gS rfl g0)) rfl) hO (et g0 rfl) rfl kq43 hPo hP (by decide) (by first | omega | (simp; omega)) hbz) (fun v44 w44 h44 => ?_)
          obtain ⟨hO44, c44, hown44⟩ := h44
          have hOo := hO
          replace k2 := k2.ch c44 (by first | omega | exact hOo.ne (by omega) | assumption | (intro q hq; exact hOo.ne (by have := hF0.lt hq; omega)))
          replace k5 := k5.ch c44 (by first | omega | exact hOo.ne (by omega) | assumption | (intro q hq; exact hOo.ne (by have := hF0.lt hq; omega)))
          replace k20 := k20.ch c44 (by first | omega | exact hOo.ne (by omega) | assumption | (intro q hq; exact hOo.ne (by have := hF0.lt hq; omega)))
          replace hF := hF.ch c44 (by first | omega | (intro q hq e; have := hF0.lt hq; omega) | (intro q hq e; exact hOo.ne (by have := hF0.lt hq; omega) e) | (intro q hq e; exact nbS (e ▸ hq)) | (intro q hq e; exact nb8 (e ▸ hq)))
          replace kS := kS.ch c44 (by first | omega | exact hOo.ne (by omega))
          replace hO := hO44
          replace V13 := V13.cc c44 (by intro b hb; first | omega | (simp at hb ⊢; omega) | (have := hOo.lim b hb.symm; omega))
          replace U := U.cc c44 (by intro b hb; first | (have := hOo.lim b hb.symm; omega) | omega | exact .inl hb | exact .inr (hb ▸ U))
          refine l_step (y_assignV (et g0 rfl)) ?_
          refine l_nil ?_
          refine hQ18 _ _ _ (in_normal ?_)
          refine hK17 _ _ ?_
          refine fg9 0 2 3 8 9 10 20 21 22 (gS rfl (gS rfl (gS rfl (gS rfl (gS rfl (gS rfl (gS rfl (gS rfl (gS rfl (gS rfl (gS rfl (gS rfl (gS rfl (gS rfl (gS rfl g0))))))))))))))) (gS rfl (gS rfl (gS rfl (gS rfl (gS rfl (gS rfl (gS rfl (gS rfl (gS rfl (gS rfl (gS rfl (gS rfl (gS rfl (gS rfl g0)))))))))))))) (gS rfl (gS rfl (gS rfl (gS rfl (gS rfl (gS rfl (gS rfl (gS rfl (gS rfl (gS rfl (gS rfl (gS rfl (gS rfl g0))))))))))))) (gS rfl (gS rfl (gS rfl (gS rfl (gS rfl (gS rfl (gS rfl (gS rfl (gS rfl (gS rfl (gS rfl (gS rfl g0)))))))))))) g0 (gS rfl (gS rfl (gS rfl (gS rfl (gS rfl (gS rfl (gS rfl (gS rfl (gS rfl (gS rfl g0)))))))))) (gS rfl (gS rfl (gS rfl (gS rfl (gS rfl (gS rfl (gS rfl (gS rfl (gS rfl g0))))))))) (gS rfl (gS rfl (gS rfl (gS rfl (gS rfl (gS rfl (gS rfl (gS rfl g0)))))))) (gS rfl (gS rfl (gS rfl (gS rfl (gS rfl (gS rfl (gS rfl g0))))))) (fun g => ?_)
          refine c_region ?_
          refine l_step (y_add (et g0 rfl) rfl (addIN (y := 1) ?_)) ?_
          omega
          refine l_step (y_moveV (et g0 rfl)) ?_
          refine l_nil ?_
          refine fK9 0 2 3 8 9 10 20 21 22 (gS rfl (gS rfl (gS rfl (gS rfl (gS rfl (gS rfl (gS rfl (gS rfl (gS rfl (gS rfl g0)))))))))) (gS rfl (gS rfl (gS rfl (gS rfl (gS rfl (gS rfl (gS rfl (gS rfl (gS rfl g0))))))))) (gS rfl (gS rfl (gS rfl (gS rfl (gS rfl (gS rfl (gS rfl (gS rfl g0)))))))) (gS rfl (gS rfl (gS rfl (gS rfl (gS rfl (gS rfl (gS rfl g0))))))) (gS rfl (gS rfl (gS rfl (gS rfl (gS rfl (gS rfl g0)))))) (gS rfl (gS rfl (gS rfl (gS rfl (gS rfl g0))))) (gS rfl (gS rfl (gS rfl (gS rfl g0)))) (gS rfl (gS rfl (gS rfl g0))) g0 (fun g => ?_)
          exact hK13 (xs.length - ((i + 1))) _ _ (by omega) ⟨g, _, lb, (O ++ [xs[i]]), (i + 1), rfl, rfl, by omega, hO, by simp; omega, pass_step hfin hlb0 hsm, V13⟩
        · skip
          
          have hsm : (xs[i].1 == key) = true := by
            have h9 : cmpN xs[i].1 key = 0 := Decidable.not_not.1 (of_decide_eq_false cB3)
            have h8 := cmp_eq0 xs[i].1 key
            rw [decide_eq_true h9] at h8
            simpa using h8.symm
          have hlb1 : lb = true := by
            rcases hlb0 with h | h
            · exact h
            · rw [hsm] at h; cases h
          refine c_skip ?_
          refine hQ18 _ _ _ (in_normal ?_)
          refine hK17 _ _ ?_
          refine fg9 0 2 3 8 9 10 20 21 22 (gS rfl (gS rfl (gS rfl (gS rfl (gS rfl (gS rfl (gS rfl (gS rfl (gS rfl (gS rfl g0)))))))))) (gS rfl (gS rfl (gS rfl (gS rfl (gS rfl (gS rfl (gS rfl (gS rfl (gS rfl g0))))))))) (gS rfl (gS rfl (gS rfl (gS rfl (gS rfl (gS rfl (gS rfl (gS rfl g0)))))))) (gS rfl (gS rfl (gS rfl (gS rfl (gS rfl (gS rfl (gS rfl g0))))))) (gS rfl (gS rfl (gS rfl (gS rfl (gS rfl (gS rfl g0)))))) (gS rfl (gS rfl (gS rfl (gS rfl (gS rfl g0))))) (gS rfl (gS rfl (gS rfl (gS rfl g0)))) (gS rfl (gS rfl (gS rfl g0))) (gS rfl (gS rfl g0)) (fun g => ?_)
          refine c_region ?_
          refine l_step (y_add (et g0 rfl) rfl (addIN (y := 1) ?_)) ?_
          omega
          refine l_step (y_moveV (et g0 rfl)) ?_
          refine l_nil ?_
          refine fK9 0 2 3 8 9 10 20 21 22 (gS rfl (gS rfl (gS rfl (gS rfl (gS rfl (gS rfl (gS rfl (gS rfl (gS rfl (gS rfl g0)))))))))) (gS rfl (gS rfl (gS rfl (gS rfl (gS rfl (gS rfl (gS rfl (gS rfl (gS rfl g0))))))))) (gS rfl (gS rfl (gS rfl (gS rfl (gS rfl (gS rfl (gS rfl (gS rfl g0)))))))) (gS rfl (gS rfl (gS rfl (gS rfl (gS rfl (gS rfl (gS rfl g0))))))) (gS rfl (gS rfl (gS rfl (gS rfl (gS rfl (gS rfl g0)))))) (gS rfl (gS rfl (gS rfl (gS rfl (gS rfl g0))))) (gS rfl (gS rfl (gS rfl (gS rfl g0)))) (gS rfl (gS rfl (gS rfl g0))) g0 (fun g => ?_)
          exact hK13 (xs.length - ((i + 1))) _ _ (by omega) ⟨g, _, lb, O, (i + 1), rfl, rfl, by omega, hO.mono (by have := k20.lt; omega), by omega, skip_step hfin hlb1 hsm, V13⟩
    · skip
      simp only [decide_eq_true_eq, decide_eq_false_iff_not, Int.not_lt, Int.not_le, Bool.not_eq_true', Bool.not_eq_false', Bool.not_eq_eq_eq_not, Bool.not_true, Bool.not_false] at cB1
      refine c_exit ?_
      refine hQ12 _ _ _ (in_exit ?_)
      refine hK10 _ _ ?_
      refine fg6 0 2 3 8 9 10 (gS rfl (gS rfl (gS rfl (gS rfl (gS rfl (gS rfl (gS rfl (gS rfl (gS rfl g0))))))))) (gS rfl (gS rfl (gS rfl (gS rfl (gS rfl (gS rfl (gS rfl (gS rfl g0)))))))) (gS rfl (gS rfl (gS rfl (gS rfl (gS rfl (gS rfl (gS rfl g0))))))) (gS rfl (gS rfl (gS rfl (gS rfl (gS rfl (gS rfl g0)))))) (gS rfl (gS rfl (gS rfl (gS rfl (gS rfl g0))))) (gS rfl (gS rfl (gS rfl (gS rfl g0)))) (fun g => ?_)
      refine c_seq (fun K45 hK45 => ?_)
      refine c_seq (fun K46 hK46 => ?_)
      refine c_region ?_
      refine l_step (y_moveV (et g0 rfl)) ?_
      refine l_step (y_not (et g0 rfl)) ?_
      refine l_nil ?_
      refine hK46 _ _ ?_
      refine fg6 0 2 3 8 9 50 (gS rfl (gS rfl (gS rfl (gS rfl (gS rfl (gS rfl (gS rfl g0))))))) (gS rfl (gS rfl (gS rfl (gS rfl (gS rfl (gS rfl g0)))))) (gS rfl (gS rfl (gS rfl (gS rfl (gS rfl g0))))) (gS rfl (gS rfl (gS rfl (gS rfl g0)))) (gS rfl (gS rfl (gS rfl g0))) g0 (fun g => ?_)
      refine c_cond (et g0 rfl) (fun cB4 => ?_) (fun cB4 => ?_)
      · skip
        
        refine c_region ?_
        refine l_step (y_moveV (et (gS rfl g0) rfl)) ?_
        refine l_step (y_moveV (et (gS rfl (gS rfl (gS rfl (gS rfl (gS rfl g0))))) rfl)) ?_
        refine l_step (y_moveV (et (gS rfl (gS rfl (gS rfl (gS rfl (gS rfl g0))))) rfl)) ?_
        have hb48 : ∀ w, (Instr.build 115 ([(0, vk), (1, vv)] : List (Nat × Value)).toArray).run Hvaa.prog w = .ok (.agg ([([vk]), ([vv])] : List (List Value)).flatten.toArray) w := bld_run zr_115 plc_115 (fill_flat (off := 0) (k := 1) (f := [.slice none 0 0]) (c := [vk]) (v := vk) rfl (cells_one hK.one1) (by first | (simp [length_bL, length_be, length_uL]; done) | rfl) (by first | rfl | (simp [length_bL, length_be, length_uL]; done)) rfl (by first | (simp [length_bL, length_be, length_uL]; done) | rfl) (fill_flat (off := 1) (k := 1) (f := [.slice none 0 0]) (c := [vv]) (v := vv) rfl (cells_one hV.one1) (by first | (simp [length_bL, length_be, length_uL]; done) | rfl) (by first | rfl | (simp [length_bL, length_be, length_uL]; done)) rfl (by first | (simp [length_bL, length_be, length_uL]; done) | rfl) (fill_nil _ _)))
        refine l_step ((y_bld (bC (et (gS rfl g0) rfl) (bC (et g0 rfl) bN)) hb48).to (congrArg (fun l : List Value => Value.agg l.toArray) (show _ = [vk, vv] by simp))) ?_
        refine l_eff (e_slice1 Hvaa.underlying105 sz_115 zr_115 rfl (by decide) (et g0 rfl) (by rw [show (Value.agg ([vk, vv]).toArray).cells = ([vk, vv]).toArray from rfl, List.size_toArray, two_len])) (fun v49 w49 h49 => ?_)
        obtain ⟨b49, rfl, n49⟩ := h49
        replace k2 := k2.up n49.up
        replace k5 := k5.up n49.up
        replace hF := hF.up n49.up
        replace kS := kS.up n49.up
        replace hO := hO.up n49.up
        replace U := U.tr n49.up
        have kq49 : Blk w49 b49 ([vk, vv]).toArray := n49.blk
        have hbz : base ≤ w49.heap.size := Nat.le_trans hbW n49.up.size
        refine l_eff (e_appL Hvaa.underlying105 sz_115 zr_115 by_115 rfl (by decide) (et (gS rfl (gS rfl (gS rfl (gS rfl g0)))) rfl) hO (et g0 rfl) rfl kq49 (one_two hK.one1 hV.one1) (slot_cells hK hV (W_bd hkb) (W_bd hvb)) (by decide) (by first | omega | (simp; omega)) hbz) (fun v50 w50 h50 => ?_)
        obtain ⟨hO50, c50, hown50⟩ := h50
        have hOo := hO
        replace k2 := k2.ch c50 (by first | omega | exact hOo.ne (by omega) | assumption | (intro q hq; exact hOo.ne (by have := hF0.lt hq; omega)))
        replace k5 := k5.ch c50 (by first | omega | exact hOo.ne (by omega) | assumption | (intro q hq; exact hOo.ne (by have := hF0.lt hq; omega)))
        replace hF := hF.ch c50 (by first | omega | (intro q hq e; have := hF0.lt hq; omega) | (intro q hq e; exact hOo.ne (by have := hF0.lt hq; omega) e) | (intro q hq e; exact nbS (e ▸ hq)) | (intro q hq e; exact nb8 (e ▸ hq)))
        replace kS := kS.ch c50 (by first | omega | exact hOo.ne (by omega))
        replace hO := hO50
        replace U := U.cc c50 (by intro b hb; first | (have := hOo.lim b hb.symm; omega) | omega | exact .inl hb | exact .inr (hb ▸ U))
        refine l_step (y_assignV (et g0 rfl)) ?_
        refine l_nil ?_
        refine hK45 _ _ ?_
        refine fg3 0 8 9 (gS rfl (gS rfl (gS rfl (gS rfl (gS rfl (gS rfl (gS rfl (gS rfl (gS rfl (gS rfl (gS rfl (gS rfl g0)))))))))))) (gS rfl (gS rfl (gS rfl (gS rfl (gS rfl (gS rfl (gS rfl (gS rfl (gS rfl g0))))))))) g0 (fun g => ?_)
        refine c_seq (fun K51 hK51 => ?_)
        refine c_region ?_
        refine l_step (y_moveV (et g0 rfl)) ?_
        refine l_step (y_fld fld_107_4 (et (gS rfl (gS rfl g0)) rfl)) ?_
        have hD : xs.drop i = [] := List.drop_of_length_le (by omega)
        rw [hD] at hfin
        obtain ⟨H2, g2, l2, lv, hq2⟩ := hO.keep' mono_slot (⟨U, hF, Le.refl _, fun _ h => .inl h⟩ : Go (fun k => k = bs) w H _ H) (Le.refl _) hbw
        have nb8 : ¬ H2.has b5 := fun h => by
          rcases hq2 _ h with h | h
          · have := hF0.lt h; omega
          · exact hO.ne (.inl hb8) h
        have nbS2 : ¬ H2.has bs := fun h => by
          rcases hq2 _ h with h | h
          · exact nbS h
          · exact hO.ne (.inl hbS) h
        have hone := hO.one1
        obtain ⟨l9, lv2, e9⟩ : ∃ l9, LV P_slot 2 H2 _ l9 ∧ l9 = putS xs key val := ⟨_, lv, by
          rw [← hfin]
          first
            | (have hlb : lb = false := by simpa using cB4
               subst hlb
               rfl)
            | (have hlb : lb = true := by simpa using cB4
               subst hlb
               simp [putP])⟩
        rw [e9] at lv2
        replace hF := g2.fz
        have hP2 := hback H2 _ _ l2 lv2
        refine l_effN (e_store sz_105 (et g0 rfl) (cellsV (et (gS rfl g0) rfl) (cells_one hone)) rfl (by exact one_sgl hone) k5 (by (rw [List.size_toArray, List.length_append, length_bL, length_be]; exact Nat.le_refl _))) (fun v52 w52 h52 => ?_)
        obtain ⟨rfl, x52⟩ := h52
        replace k2 := k2.ch x52.ch (by omega)
        replace hF := hF.ch x52.ch (by first | omega | (first | omega | (intro q hq e; have := hF0.lt hq; omega) | (intro q hq e; exact hOo.ne (by have := hF0.lt hq; omega) e) | (intro q hq e; exact nbS (e ▸ hq)) | (intro q hq e; exact nb8 (e ▸ hq))))
        replace kS := kS.ch x52.ch (by first | omega | (first | omega | exact hOo.ne (by omega)))
        replace k5 := x52.blk
        replace hO := hO.wr x52 (by first | omega | (right; omega))
        replace U := U.st x52 (.inr f5)
        have e23 : (20 : Nat) + 3 = 23 := rfl
        rw [show (0 + 23 : Nat) = 23 from rfl, set23] at k5
        have hl2 := acct_len hP2
        refine l_nil ?_
        refine hK51 _ _ ?_
        refine fg2 0 8 (gS rfl (gS rfl (gS rfl (gS rfl g0)))) (gS rfl (gS rfl (gS rfl g0))) (fun g => ?_)
        refine c_region ?_
        refine l_step (y_moveV (et (gS rfl g0) rfl)) ?_
        refine l_step (y_loadB agg_107 sz_107 (et (gS rfl g0) rfl) (by rw [List.size_toArray, hl2]) (at1B k5)) ?_
        obtain ⟨Gf, hGf⟩ : ∃ x : Go (fun k => k = bs) w H w52 H2, True := ⟨⟨U, hF, g2.le, g2.new⟩, trivial⟩
        obtain ⟨hL2, hTT⟩ : ∃ x : LV P_acct 24 H2 (.slice sa0 accts.length sc0) accts, True := ⟨hL.mono' mono_acct g2.le, trivial⟩
        refine l_eff (e_callV cal_127 (aC (et (gS rfl g0) rfl) (aC (et g0 rfl) aN)) (yp_put bs o sc0 sa0 cs accts _ _ _ H2 hF kS nbS2 hva hL2 hP2 hn)) (fun v53 w53 h53 => ?_)
        obtain ⟨rfl, v2, H3, g53, lv3, kS2⟩ := h53
        replace k2 := k2.ch g53.ch (by omega)
        replace k5 := k5.ch g53.ch (by omega)
        replace hO := hO.ch g53.ch (by omega)
        replace kS := kS2
        replace hF := g53.fz
        replace U := U.cc g53.ch (by intro b hb; first | omega | exact .inl hb | exact .inr (hb ▸ U))
        refine l_nil ?_
        refine end0 rfl ?_
        exact ⟨rfl, v2, H3, Gf.trans g53 (fun b hb => .inl hb), by rw [← hA0, ← hxs]; exact lv3, kS⟩
      · skip
        
        refine c_skip ?_
        refine hK45 _ _ ?_
        refine fg3 0 8 9 (gS rfl (gS rfl (gS rfl (gS rfl (gS rfl g0))))) (gS rfl (gS rfl g0)) (gS rfl g0) (fun g => ?_)
        refine c_seq (fun K54 hK54 => ?_)
        refine c_region ?_
        refine l_step (y_moveV (et g0 rfl)) ?_
        refine l_step (y_fld fld_107_4 (et (gS rfl (gS rfl g0)) rfl)) ?_
        have hD : xs.drop i = [] := List.drop_of_length_le (by omega)
        rw [hD] at hfin
        obtain ⟨H2, g2, l2, lv, hq2⟩ := hO.keep' mono_slot (⟨U, hF, Le.refl _, fun _ h => .inl h⟩ : Go (fun k => k = bs) w H _ H) (Le.refl _) hbw
        have nb8 : ¬ H2.has b5 := fun h => by
          rcases hq2 _ h with h | h
          · have := hF0.lt h; omega
          · exact hO.ne (.inl hb8) h
        have nbS2 : ¬ H2.has bs := fun h => by
          rcases hq2 _ h with h | h
          · exact nbS h
          · exact hO.ne (.inl hbS) h
        have hone := hO.one1
        obtain ⟨l9, lv2, e9⟩ : ∃ l9, LV P_slot 2 H2 _ l9 ∧ l9 = putS xs key val := ⟨_, lv, by
          rw [← hfin]
          first
            | (have hlb : lb = false := by simpa using cB4
               subst hlb
               rfl)
            | (have hlb : lb = true := by simpa using cB4
               subst hlb
               simp [putP])⟩
        rw [e9] at lv2
        replace hF := g2.fz
        have hP2 := hback H2 _ _ l2 lv2
        refine l_effN (e_store sz_105 (et g0 rfl) (cellsV (et (gS rfl g0) rfl) (cells_one hone)) rfl (by exact one_sgl hone) k5 (by (rw [List.size_toArray, List.length_append, length_bL, length_be]; exact Nat.le_refl _))) (fun v55 w55 h55 => ?_)
        obtain ⟨rfl, x55⟩ := h55
        replace k2 := k2.ch x55.ch (by omega)
        replace hF := hF.ch x55.ch (by first | omega | (first | omega | (intro q hq e; have := hF0.lt hq; omega) | (intro q hq e; exact hOo.ne (by have := hF0.lt hq; omega) e) | (intro q hq e; exact nbS (e ▸ hq)) | (intro q hq e; exact nb8 (e ▸ hq))))
        replace kS := kS.ch x55.ch (by first | omega | (first | omega | exact hOo.ne (by omega)))
        replace k5 := x55.blk
        replace hO := hO.wr x55 (by first | omega | (right; omega))
        replace U := U.st x55 (.inr f5)
        have e23 : (20 : Nat) + 3 = 23 := rfl
        rw [show (0 + 23 : Nat) = 23 from rfl, set23] at k5
        have hl2 := acct_len hP2
        refine l_nil ?_
        refine hK54 _ _ ?_
        refine fg2 0 8 (gS rfl (gS rfl (gS rfl (gS rfl g0)))) (gS rfl (gS rfl (gS rfl g0))) (fun g => ?_)
        refine c_region ?_
        refine l_step (y_moveV (et (gS rfl g0) rfl)) ?_
        refine l_step (y_loadB agg_107 sz_107 (et (gS rfl g0) rfl) (by rw [List.size_toArray, hl2]) (at1B k5)) ?_
        obtain ⟨Gf, hGf⟩ : ∃ x : Go (fun k => k = bs) w H w55 H2, True := ⟨⟨U, hF, g2.le, g2.new⟩, trivial⟩
        obtain ⟨hL2, hTT⟩ : ∃ x : LV P_acct 24 H2 (.slice sa0 accts.length sc0) accts, True := ⟨hL.mono' mono_acct g2.le, trivial⟩
        refine l_eff (e_callV cal_127 (aC (et (gS rfl g0) rfl) (aC (et g0 rfl) aN)) (yp_put bs o sc0 sa0 cs accts _ _ _ H2 hF kS nbS2 hva hL2 hP2 hn)) (fun v56 w56 h56 => ?_)
        obtain ⟨rfl, v2, H3, g56, lv3, kS2⟩ := h56
        replace k2 := k2.ch g56.ch (by omega)
        replace k5 := k5.ch g56.ch (by omega)
        replace hO := hO.ch g56.ch (by omega)
        replace kS := kS2
        replace hF := g56.fz
        replace U := U.cc g56.ch (by intro b hb; first | omega | exact .inl hb | exact .inr (hb ▸ U))
        refine l_nil ?_
        refine end0 rfl ?_
        exact ⟨rfl, v2, H3, Gf.trans g56 (fun b hb => .inl hb), by rw [← hA0, ← hxs]; exact lv3, kS⟩
end Go.Proofs.YgvaawGreat
