import Derived.Test.YgvaawGreatY12
set_option maxRecDepth 100000
set_option maxHeartbeats 4000000
set_option linter.unusedSimpArgs false
set_option linter.unusedVariables false
namespace Go.Proofs.YgvaawGreat
open Go
def saT (a key : Nat) (y : Nat × Nat × Nat) : Bool := decide (y.1 = a) && decide (y.2.1 = key)
def ltT (a key : Nat) (y : Nat × Nat × Nat) : Bool := decide (a < y.1) || (decide (a = y.1) && decide (key < y.2.1))
def putT (l : List (Nat × Nat × Nat)) (a key val : Nat) : List (Nat × Nat × Nat) := putP (saT a key) (ltT a key) (if decide (val = 0) then none else some (a, key, val)) l
theorem tri_cells {H : Store} {vk vv : Value} {a k v : Nat} (hk : NV H vk k) (hv : NV H vv v) (h1 : a < A160) (h2 : k < W256) (h3 : v < W256) : P_tri H (bL (be 20 a) ++ [vk, vv]) (a, k, v) := ⟨vk, vv, rfl, hk, hv, h1, h2, h3⟩
theorem yp_tstore (bs o sc a : Nat) (sa : Option Addr) (cs : Array Value) (xs : List (Nat × Nat × Nat)) (w : World) (H : Store) (hF : Fz w H) (kS : Blk w bs cs) (nbS : ¬ H.has bs) (hva : cs[o + 5]? = some (.slice sa xs.length sc)) (hS0 : LV P_tri 22 H (.slice sa xs.length sc) xs) (ha : a < A160) (hn : xs.length < 2147483648) {vk vv : Value} {key val : Nat} (hK : NV H vk key) (hkb : key < 256 ^ 32) (hV : NV H vv val) (hvb : val < 256 ^ 32) :
    Ret 236 [.pointer (some ⟨bs, o, none⟩), aV a, vk, vv] w (fun v w' => v = .tuple #[] ∧ ∃ v' H', Go (fun k => k = bs) w H w' H' ∧ LV P_tri 22 H' v' (putT xs a key val) ∧ Blk w' bs (cs.setIfInBounds (o + 5) v')) := by
  have hF0 := hF
  have lS := kS.lt
  refine enter (n := 86) Hvaa.func236 rfl rfl (Nat.le_of_ble_eq_true rfl) ?_
  have U : Ch (fun k => k = bs) w w := Ch.refl _ w
  refine c_seq (fun K1 hK1 => ?_)
  refine c_region ?_
  refine l_eff (e_boxV (et (gS rfl g0) rfl)) (fun v2 w2 h2 => ?_)
  obtain ⟨b2, rfl, n2⟩ := h2
  have f2 : w.heap.size ≤ b2 := Nat.le_trans U.size n2.fresh
  replace hF := hF.up n2.up
  replace kS := kS.up n2.up
  replace U := U.tr n2.up
  have k2 := n2.blk
  replace k2 : Blk w2 b2 (bL (be 20 a)).toArray := k2
  refine l_nil ?_
  refine hK1 _ _ ?_
  refine fg4 3 2 0 5 (gS rfl (gS rfl (gS rfl (gS rfl g0)))) (gS rfl (gS rfl (gS rfl g0))) (gS rfl g0) g0 (fun g => ?_)
  refine c_seq (fun K3 hK3 => ?_)
  refine c_region ?_
  refine l_step y_assignC ?_
  refine l_nil ?_
  refine hK3 _ _ ?_
  refine c_seq (fun K4 hK4 => ?_)
  refine c_region ?_
  refine l_step (y_moveV (et (gS rfl (gS rfl (gS rfl (gS rfl g0)))) rfl)) ?_
  refine l_eff (e_callV cal_79 (aC (et g0 rfl) aN) (yp_isZero hF hV (bd_sm hvb (by decide)))) (fun v5 w5 h5 => ?_)
  obtain ⟨rfl, u5⟩ := h5
  replace k2 := k2.up u5
  replace hF := hF.up u5
  replace kS := kS.up u5
  replace U := U.tr u5
  refine l_step (y_assignV (et g0 rfl)) ?_
  refine l_nil ?_
  refine hK4 _ _ ?_
  refine fg6 3 2 0 5 8 9 (gS rfl (gS rfl (gS rfl (gS rfl (gS rfl (gS rfl (gS rfl g0))))))) (gS rfl (gS rfl (gS rfl (gS rfl (gS rfl (gS rfl g0)))))) (gS rfl (gS rfl (gS rfl (gS rfl (gS rfl g0))))) (gS rfl (gS rfl (gS rfl (gS rfl g0)))) (gS rfl (gS rfl (gS rfl g0))) g0 (fun g => ?_)
  refine c_seq (fun K6 hK6 => ?_)
  refine c_seq (fun K7 hK7 => ?_)
  refine c_region ?_
  refine l_step (y_moveV (et (gS rfl (gS rfl (gS rfl g0))) rfl)) ?_
  refine l_step (y_nil (et g0 rfl)) ?_
  refine l_step (y_fld fld_98_5 (et g0 rfl)) ?_
  refine l_step (y_load1 one_96 (et g0 rfl) (at1 (kS.cell hva))) ?_
  refine l_step (y_len Hvaa.underlying96 (et g0 rfl)) ?_
  refine l_step y_moveC ?_
  refine l_nil ?_
  refine hK7 _ _ ?_
  refine fg9 3 2 0 5 8 9 18 19 20 (gS rfl (gS rfl (gS rfl (gS rfl (gS rfl (gS rfl (gS rfl (gS rfl (gS rfl (gS rfl (gS rfl g0))))))))))) (gS rfl (gS rfl (gS rfl (gS rfl (gS rfl (gS rfl (gS rfl (gS rfl (gS rfl (gS rfl g0)))))))))) (gS rfl (gS rfl (gS rfl (gS rfl (gS rfl (gS rfl (gS rfl (gS rfl (gS rfl g0))))))))) (gS rfl (gS rfl (gS rfl (gS rfl (gS rfl (gS rfl (gS rfl (gS rfl g0)))))))) (gS rfl (gS rfl (gS rfl (gS rfl (gS rfl (gS rfl (gS rfl g0))))))) (gS rfl (gS rfl (gS rfl (gS rfl (gS rfl (gS rfl g0)))))) (gS rfl (gS rfl g0)) (gS rfl g0) g0 (fun g => ?_)
  refine c_block (fun Q8 hQ8 => ?_)
  refine fg9 0 2 3 5 8 9 18 19 20 (gS rfl (gS rfl (gS rfl (gS rfl (gS rfl (gS rfl g0)))))) (gS rfl (gS rfl (gS rfl (gS rfl (gS rfl (gS rfl (gS rfl g0))))))) (gS rfl (gS rfl (gS rfl (gS rfl (gS rfl (gS rfl (gS rfl (gS rfl g0)))))))) (gS rfl (gS rfl (gS rfl (gS rfl (gS rfl g0))))) (gS rfl (gS rfl (gS rfl (gS rfl g0)))) (gS rfl (gS rfl (gS rfl g0))) (gS rfl (gS rfl g0)) (gS rfl g0) g0 (fun g => ?_)
  obtain ⟨base, hbs⟩ : ∃ base, base = w5.heap.size := ⟨_, rfl⟩
  have hbw : w.heap.size ≤ base := by rw [hbs]; exact U.size
  have hb5 : b2 < base := by rw [hbs]; exact k2.lt
  have hbS : bs < base := by omega
  refine c_loop (fun k_ s_ W9 => ∃ (g : Nat → Value) (ov : Value) (lb : Bool) (O : List (Nat × Nat × Nat)) (i : Nat), s_ = (upd (upd (upd (upd (upd (upd (upd (upd (upd g 0 (.pointer (some ⟨bs, o, none⟩))) 2 vk) 3 vv) 5 (.pointer (some ⟨b2, 0, none⟩))) 8 ov) 9 (.bool lb)) 18 (.slice sa xs.length sc)) 19 (.int .i64 (xs.length : Nat))) 20 (.int .i64 (i : Nat))) ∧ xs.length - i = k_ ∧ (i ≤ xs.length) ∧ (GL P_tri H base 295 22 W9.heap.size W9 ov O) ∧ (O.length ≤ i + lb.toNat) ∧ (O ++ putP (saT a key) (ltT a key) (if lb then none else some (a, key, val)) (xs.drop i) = putT xs a key val) ∧ Ch (fun k => base ≤ k) w5 W9) (xs.length - (0)) ?_ ?_
  · exact ⟨g, (.slice none 0 0), _, ([] : List (Nat × Nat × Nat)), 0, rfl, rfl, Nat.zero_le _, GL.nil, by simp, rfl, Ch.refl _ _⟩
  · skip
    intro k_ s_ W9 hI K9 hK9
    obtain ⟨g, ov, lb, O, i, rfl, rfl, hi, hO, hOl, hfin, V9⟩ := hI
    replace k2 := k2.ch V9 (by omega)
    replace hF := hF.ch V9 (by first | omega | (intro q hq e; have := hF0.lt hq; omega) | (intro q hq e; exact hOo.ne (by have := hF0.lt hq; omega) e) | (intro q hq e; exact nbS (e ▸ hq)))
    replace kS := kS.ch V9 (by first | omega | exact hOo.ne (by omega))
    replace U := U.cc V9 (by intro b hb; first | exact hb.elim | omega | (simp at hb ⊢; omega))
    have hlbn := Bool.toNat_le lb
    have hbW : base ≤ W9.heap.size := by rw [hbs]; exact V9.size
    refine c_seq (fun K10 hK10 => ?_)
    refine c_region ?_
    refine l_step (y_lss (et g0 rfl) (et (gS rfl g0) rfl)) ?_
    refine l_nil ?_
    refine hK10 _ _ ?_
    refine c_seq (fun K11 hK11 => ?_)
    refine c_cond (et g0 rfl) (fun cB1 => ?_) (fun cB1 => ?_)
    · skip
      simp only [decide_eq_true_eq, decide_eq_false_iff_not, Int.not_lt, Int.not_le, Bool.not_eq_true', Bool.not_eq_false', Bool.not_eq_eq_eq_not, Bool.not_true, Bool.not_false] at cB1
      refine c_skip ?_
      refine hK11 _ _ ?_
      refine fg9 0 2 3 5 8 9 18 19 20 (gS rfl (gS rfl (gS rfl (gS rfl (gS rfl (gS rfl (gS rfl (gS rfl (gS rfl g0))))))))) (gS rfl (gS rfl (gS rfl (gS rfl (gS rfl (gS rfl (gS rfl (gS rfl g0)))))))) (gS rfl (gS rfl (gS rfl (gS rfl (gS rfl (gS rfl (gS rfl g0))))))) (gS rfl (gS rfl (gS rfl (gS rfl (gS rfl (gS rfl g0)))))) (gS rfl (gS rfl (gS rfl (gS rfl (gS rfl g0))))) (gS rfl (gS rfl (gS rfl (gS rfl g0)))) (gS rfl (gS rfl (gS rfl g0))) (gS rfl (gS rfl g0)) (gS rfl g0) (fun g => ?_)
      refine c_seq (fun K13 hK13 => ?_)
      refine c_block (fun Q14 hQ14 => ?_)
      refine c_seq (fun K15 hK15 => ?_)
      refine c_region ?_
      obtain ⟨bq, oq, r, ha0, hrow, hrl, vk1, vv1, hr1, hk1, hv1, hal, hkl, hvl⟩ := hS0.row hF (i := i) (by omega)
      rw [hr1] at hrow hrl
      have hP : P_tri H (bL (be 20 xs[i].1) ++ [vk1, vv1]) xs[i] := ⟨vk1, vv1, rfl, hk1, hv1, hal, hkl, hvl⟩
      have hPo := one_app (a := xs[i].1) (one_two hk1.one1 hv1.one1)
      rw [List.drop_eq_getElem_cons (show i < xs.length by omega)] at hfin
      refine l_step (y_idxSa ha0 Hvaa.underlying96 sz_295 (et (gS rfl (gS rfl g0)) rfl) (et g0 rfl) ?_) ?_
      omega
      refine l_step (y_loadR agg_295 sz_295 (et g0 rfl) len22 (at1R hrow)) ?_
      refine l_eff (e_alloc zr_295) (fun v16 w16 h16 => ?_)
      obtain ⟨b16, rfl, n16⟩ := h16
      have d2_16 : b2 < b16 := Nat.lt_of_lt_of_le k2.lt n16.fresh
      have f16 : w.heap.size ≤ b16 := Nat.le_trans U.size n16.fresh
      have fV9_16 := Nat.le_trans V9.size n16.fresh
      replace k2 := k2.up n16.up
      replace hF := hF.up n16.up
      replace kS := kS.up n16.up
      replace hO := hO.up n16.up
      replace U := U.tr n16.up
      replace V9 := V9.tr n16.up
      have k16 := n16.blk
      have hb11 := n16.fresh
      refine l_effN (e_store sz_295 (et g0 rfl) (cellsV (et (gS rfl g0) rfl) rfl) len22 (by exact hPo) k16 (by exact Nat.le_of_ble_eq_true rfl)) (fun v17 w17 h17 => ?_)
      obtain ⟨rfl, x17⟩ := h17
      replace k2 := k2.ch x17.ch (by omega)
      replace hF := hF.ch x17.ch (by first | omega | (first | omega | (intro q hq e; have := hF0.lt hq; omega) | (intro q hq e; exact hOo.ne (by have := hF0.lt hq; omega) e) | (intro q hq e; exact nbS (e ▸ hq))))
      replace kS := kS.ch x17.ch (by first | omega | (first | omega | exact hOo.ne (by omega)))
      replace k16 := x17.blk.full (by rw [len22]; rfl)
      replace hO := hO.wr x17 (by first | omega | (right; omega))
      replace U := U.st x17 (.inr f16)
      replace V9 := V9.st x17 (by omega)
      refine l_nil ?_
      refine hK15 _ _ ?_
      refine fg10 0 2 3 5 8 9 18 19 20 11 (gS rfl (gS rfl (gS rfl (gS rfl (gS rfl (gS rfl (gS rfl (gS rfl (gS rfl (gS rfl (gS rfl g0))))))))))) (gS rfl (gS rfl (gS rfl (gS rfl (gS rfl (gS rfl (gS rfl (gS rfl (gS rfl (gS rfl g0)))))))))) (gS rfl (gS rfl (gS rfl (gS rfl (gS rfl (gS rfl (gS rfl (gS rfl (gS rfl g0))))))))) (gS rfl (gS rfl (gS rfl (gS rfl (gS rfl (gS rfl (gS rfl (gS rfl g0)))))))) (gS rfl (gS rfl (gS rfl (gS rfl (gS rfl (gS rfl (gS rfl g0))))))) (gS rfl (gS rfl (gS rfl (gS rfl (gS rfl (gS rfl g0)))))) (gS rfl (gS rfl (gS rfl (gS rfl (gS rfl g0))))) (gS rfl (gS rfl (gS rfl (gS rfl g0)))) (gS rfl (gS rfl (gS rfl g0))) g0 (fun g => ?_)
      refine c_seq (fun K18 hK18 => ?_)
      refine c_region ?_
      refine l_step (y_fld fld_295_0 (et g0 rfl)) ?_
      refine l_step (y_loadR agg_25 sz_25 (et g0 rfl) (by rw [length_bL, length_be]) (at1R (k16.row addr_row))) ?_
      refine l_step (y_loadB agg_25 sz_25 (et (gS rfl (gS rfl (gS rfl (gS rfl (gS rfl (gS rfl (gS rfl (gS rfl g0)))))))) rfl) (by first | (simp only [Value.cells, hV, aV, bV, wV, wL, List.size_toArray, length_bL, length_uL, length_be, size_spl, List.length_cons, List.length_nil, List.length_replicate, Nat.zero_add, Nat.reduceAdd, Nat.reduceLeDiff, Nat.le_refl]; done) | rfl) (at1B k2)) ?_
      refine l_step (y_eqlAddr hal ha (et (gS rfl g0) rfl) (et g0 rfl)) ?_
      refine l_step (y_moveV (et g0 rfl)) ?_
      refine gsplitL (i := 28) g0 (fun q19 => ?_) (fun q19 => ?_)
      · skip
        have hA : xs[i].1 = a := of_decide_eq_true q19
        refine l_gstep (j := 4) (t := 28) (by exact rfl) (by exact rfl) (et g0 rfl) (by decide) (y_fld fld_295_1 (et (gS rfl (gS rfl (gS rfl (gS rfl (gS rfl (gS rfl g0)))))) rfl)) ?_
        refine l_gstep (j := 4) (t := 28) (by exact rfl) (by exact rfl) (et (gS rfl g0) rfl) (by decide) (y_load1 one_95 (et g0 rfl) (at1 (k16.cell ((app20 (i := 0) rfl).trans rfl)))) ?_
        refine l_gstep (j := 4) (t := 28) (by exact rfl) (by exact rfl) (et (gS rfl (gS rfl g0)) rfl) (by decide) (y_moveV (et (gS rfl (gS rfl (gS rfl (gS rfl (gS rfl (gS rfl (gS rfl (gS rfl (gS rfl (gS rfl (gS rfl (gS rfl (gS rfl (gS rfl (gS rfl (gS rfl g0)))))))))))))))) rfl)) ?_
        refine l_geff (j := 4) (t := 28) (by exact rfl) (by exact rfl) (et (gS rfl (gS rfl (gS rfl g0))) rfl) rfl (e_callV cal_121 (aC (et (gS rfl g0) rfl) (aC (et g0 rfl) aN)) (nat_cmp hF hk1 hK (smW hkl) (bd_sm hkb (by decide)))) (fun v20 w20 h20 => ?_)
        obtain ⟨rfl, u20⟩ := h20
        replace k2 := k2.up u20
        replace k16 := k16.up u20
        replace hF := hF.up u20
        replace kS := kS.up u20
        replace hO := hO.up u20
        replace U := U.tr u20
        replace V9 := V9.tr u20
        refine l_gstep (j := 4) (t := 28) (by exact rfl) (by exact rfl) (et (gS rfl (gS rfl (gS rfl (gS rfl g0)))) rfl) (by decide) ((y_eql (et g0 rfl) rfl).to (congrArg Value.bool (cmp_eq0 xs[i].2.1 key))) ?_
        refine l_step (y_pickT (et (gS rfl (gS rfl (gS rfl (gS rfl (gS rfl g0))))) rfl) (et g0 rfl)) ?_
        refine l_step (y_assignV (et g0 rfl)) ?_
        refine l_nil ?_
        refine hK18 _ _ ?_
        refine fg11 0 2 3 5 8 9 18 19 20 11 12 (gS rfl (gS rfl (gS rfl (gS rfl (gS rfl (gS rfl (gS rfl (gS rfl (gS rfl (gS rfl (gS rfl (gS rfl (gS rfl (gS rfl (gS rfl (gS rfl (gS rfl (gS rfl (gS rfl (gS rfl (gS rfl (gS rfl g0)))))))))))))))))))))) (gS rfl (gS rfl (gS rfl (gS rfl (gS rfl (gS rfl (gS rfl (gS rfl (gS rfl (gS rfl (gS rfl (gS rfl (gS rfl (gS rfl (gS rfl (gS rfl (gS rfl (gS rfl (gS rfl (gS rfl (gS rfl g0))))))))))))))))))))) (gS rfl (gS rfl (gS rfl (gS rfl (gS rfl (gS rfl (gS rfl (gS rfl (gS rfl (gS rfl (gS rfl (gS rfl (gS rfl (gS rfl (gS rfl (gS rfl (gS rfl (gS rfl (gS rfl (gS rfl g0)))))))))))))))))))) (gS rfl (gS rfl (gS rfl (gS rfl (gS rfl (gS rfl (gS rfl (gS rfl (gS rfl (gS rfl (gS rfl (gS rfl (gS rfl (gS rfl (gS rfl (gS rfl (gS rfl (gS rfl (gS rfl g0))))))))))))))))))) (gS rfl (gS rfl (gS rfl (gS rfl (gS rfl (gS rfl (gS rfl (gS rfl (gS rfl (gS rfl (gS rfl (gS rfl (gS rfl (gS rfl (gS rfl (gS rfl (gS rfl (gS rfl g0)))))))))))))))))) (gS rfl (gS rfl (gS rfl (gS rfl (gS rfl (gS rfl (gS rfl (gS rfl (gS rfl (gS rfl (gS rfl (gS rfl (gS rfl (gS rfl (gS rfl (gS rfl (gS rfl g0))))))))))))))))) (gS rfl (gS rfl (gS rfl (gS rfl (gS rfl (gS rfl (gS rfl (gS rfl (gS rfl (gS rfl (gS rfl (gS rfl (gS rfl (gS rfl (gS rfl (gS rfl g0)))))))))))))))) (gS rfl (gS rfl (gS rfl (gS rfl (gS rfl (gS rfl (gS rfl (gS rfl (gS rfl (gS rfl (gS rfl (gS rfl (gS rfl (gS rfl (gS rfl g0))))))))))))))) (gS rfl (gS rfl (gS rfl (gS rfl (gS rfl (gS rfl (gS rfl (gS rfl (gS rfl (gS rfl (gS rfl (gS rfl (gS rfl (gS rfl g0)))))))))))))) (gS rfl (gS rfl (gS rfl (gS rfl (gS rfl (gS rfl (gS rfl (gS rfl (gS rfl (gS rfl (gS rfl (gS rfl (gS rfl g0))))))))))))) g0 (fun g => ?_)
        refine c_seq (fun K21 hK21 => ?_)
        refine c_seq (fun K22 hK22 => ?_)
        refine c_region ?_
        refine l_step (y_moveV (et (gS rfl (gS rfl (gS rfl (gS rfl (gS rfl g0))))) rfl)) ?_
        refine l_step (y_not (et g0 rfl)) ?_
        refine l_step (y_moveV (et g0 rfl)) ?_
        refine gsplitL (i := 37) g0 (fun q23 => ?_) (fun q23 => ?_)
        · skip
          have hlb : lb = false := by simpa using q23
          refine l_gstep (j := 2) (t := 37) (by exact rfl) (by exact rfl) (et g0 rfl) (by decide) (y_moveV (et (gS rfl (gS rfl (gS rfl (gS rfl g0)))) rfl)) ?_
          refine l_gstep (j := 2) (t := 37) (by exact rfl) (by exact rfl) (et (gS rfl g0) rfl) (by decide) (y_moveV (et g0 rfl)) ?_
          refine gsplitL (i := 39) g0 (fun q24 => ?_) (fun q24 => ?_)
          · skip
            have h39 := q24
            have hcd : (saT a key xs[i] || ltT a key xs[i]) = true := by unfold saT; rw [decide_eq_true hA, h39]; rfl
            refine l_gskip (j := 4) (t := 39) (by exact rfl) (by exact rfl) (et g0 rfl) (by decide) (by decide) ?_
            refine l_gskip (j := 4) (t := 39) (by exact rfl) (by exact rfl) (et (gS rfl g0) rfl) (by decide) (by decide) ?_
            refine l_gskip (j := 4) (t := 39) (by exact rfl) (by exact rfl) (et (gS rfl (gS rfl g0)) rfl) (by decide) (by decide) ?_
            refine l_gskip (j := 4) (t := 39) (by exact rfl) (by exact rfl) (et (gS rfl (gS rfl (gS rfl g0))) rfl) (by decide) (by decide) ?_
            refine l_gstep (j := 2) (t := 37) (by exact rfl) (by exact rfl) (et (gS rfl (gS rfl (gS rfl (gS rfl (gS rfl (gS rfl (gS rfl g0))))))) rfl) (by decide) (y_pickT (et (gS rfl (gS rfl (gS rfl (gS rfl g0)))) rfl) rfl) ?_
            refine l_gstep (j := 2) (t := 37) (by exact rfl) (by exact rfl) (et (gS rfl (gS rfl (gS rfl (gS rfl (gS rfl (gS rfl (gS rfl (gS rfl g0)))))))) rfl) (by decide) (y_moveV (et g0 rfl)) ?_
            refine l_gskip (j := 10) (t := 45) (by exact rfl) (by exact rfl) (et g0 rfl) (by decide) (by decide) ?_
            refine l_gskip (j := 10) (t := 45) (by exact rfl) (by exact rfl) (et (gS rfl g0) rfl) (by decide) (by decide) ?_
            refine l_gskip (j := 10) (t := 45) (by exact rfl) (by exact rfl) (et (gS rfl (gS rfl g0)) rfl) (by decide) (by decide) ?_
            refine l_gskip (j := 10) (t := 45) (by exact rfl) (by exact rfl) (et (gS rfl (gS rfl (gS rfl g0))) rfl) (by decide) (by decide) ?_
            refine l_gskip (j := 10) (t := 45) (by exact rfl) (by exact rfl) (et (gS rfl (gS rfl (gS rfl (gS rfl g0)))) rfl) (by decide) (by decide) ?_
            refine l_uskip (j := 15) (t := 50) (by exact rfl) (by exact rfl) (et g0 rfl) rfl ?_
            refine l_uskip (j := 15) (t := 50) (by exact rfl) (by exact rfl) (et (gS rfl g0) rfl) rfl ?_
            refine l_uskip (j := 15) (t := 50) (by exact rfl) (by exact rfl) (et (gS rfl (gS rfl g0)) rfl) rfl ?_
            refine l_uskip (j := 15) (t := 50) (by exact rfl) (by exact rfl) (et (gS rfl (gS rfl (gS rfl g0))) rfl) rfl ?_
            refine l_uskip (j := 15) (t := 50) (by exact rfl) (by exact rfl) (et (gS rfl (gS rfl (gS rfl (gS rfl g0)))) rfl) rfl ?_
            refine l_gskip (j := 10) (t := 45) (by exact rfl) (by exact rfl) (et (gS rfl (gS rfl (gS rfl (gS rfl (gS rfl (gS rfl (gS rfl (gS rfl (gS rfl (gS rfl g0)))))))))) rfl) (by decide) (by decide) ?_
            refine l_gstep (j := 2) (t := 37) (by exact rfl) (by exact rfl) (et (gS rfl (gS rfl (gS rfl (gS rfl (gS rfl (gS rfl (gS rfl (gS rfl (gS rfl (gS rfl (gS rfl (gS rfl (gS rfl (gS rfl (gS rfl (gS rfl (gS rfl (gS rfl (gS rfl (gS rfl g0)))))))))))))))))))) rfl) (by decide) (y_pickT (et (gS rfl (gS rfl (gS rfl (gS rfl (gS rfl (gS rfl (gS rfl (gS rfl (gS rfl (gS rfl (gS rfl g0))))))))))) rfl) rfl) ?_
            refine l_step (y_pickT (et (gS rfl (gS rfl (gS rfl (gS rfl (gS rfl (gS rfl (gS rfl (gS rfl (gS rfl (gS rfl (gS rfl (gS rfl (gS rfl (gS rfl (gS rfl (gS rfl (gS rfl (gS rfl (gS rfl (gS rfl (gS rfl g0))))))))))))))))))))) rfl) (et g0 rfl)) ?_
            refine l_nil ?_
            refine hK22 _ _ ?_
            refine fg12 0 2 3 5 8 9 18 19 20 11 12 58 (gS rfl (gS rfl (gS rfl (gS rfl (gS rfl (gS rfl (gS rfl (gS rfl (gS rfl (gS rfl (gS rfl (gS rfl (gS rfl (gS rfl (gS rfl (gS rfl (gS rfl (gS rfl (gS rfl (gS rfl (gS rfl (gS rfl (gS rfl (gS rfl (gS rfl (gS rfl (gS rfl (gS rfl (gS rfl (gS rfl (gS rfl (gS rfl (gS rfl (gS rfl (gS rfl (gS rfl g0)))))))))))))))))))))))))))))))))))) (gS rfl (gS rfl (gS rfl (gS rfl (gS rfl (gS rfl (gS rfl (gS rfl (gS rfl (gS rfl (gS rfl (gS rfl (gS rfl (gS rfl (gS rfl (gS rfl (gS rfl (gS rfl (gS rfl (gS rfl (gS rfl (gS rfl (gS rfl (gS rfl (gS rfl (gS rfl (gS rfl (gS rfl (gS rfl (gS rfl (gS rfl (gS rfl (gS rfl (gS rfl (gS rfl g0))))))))))))))))))))))))))))))))))) (gS rfl (gS rfl (gS rfl (gS rfl (gS rfl (gS rfl (gS rfl (gS rfl (gS rfl (gS rfl (gS rfl (gS rfl (gS rfl (gS rfl (gS rfl (gS rfl (gS rfl (gS rfl (gS rfl (gS rfl (gS rfl (gS rfl (gS rfl (gS rfl (gS rfl (gS rfl (gS rfl (gS rfl (gS rfl (gS rfl (gS rfl (gS rfl (gS rfl (gS rfl g0)))))))))))))))))))))))))))))))))) (gS rfl (gS rfl (gS rfl (gS rfl (gS rfl (gS rfl (gS rfl (gS rfl (gS rfl (gS rfl (gS rfl (gS rfl (gS rfl (gS rfl (gS rfl (gS rfl (gS rfl (gS rfl (gS rfl (gS rfl (gS rfl (gS rfl (gS rfl (gS rfl (gS rfl (gS rfl (gS rfl (gS rfl (gS rfl (gS rfl (gS rfl (gS rfl (gS rfl g0))))))))))))))))))))))))))))))))) (gS rfl (gS rfl (gS rfl (gS rfl (gS rfl (gS rfl (gS rfl (gS rfl (gS rfl (gS rfl (gS rfl (gS rfl (gS rfl (gS rfl (gS rfl (gS rfl (gS rfl (gS rfl (gS rfl (gS rfl (gS rfl (gS rfl (gS rfl (gS rfl (gS rfl (gS rfl (gS rfl (gS rfl (gS rfl (gS rfl (gS rfl (gS rfl g0)))))))))))))))))))))))))))))))) (gS rfl (gS rfl (gS rfl (gS rfl (gS rfl (gS rfl (gS rfl (gS rfl (gS rfl (gS rfl (gS rfl (gS rfl (gS rfl (gS rfl (gS rfl (gS rfl (gS rfl (gS rfl (gS rfl (gS rfl (gS rfl (gS rfl (gS rfl (gS rfl (gS rfl (gS rfl (gS rfl (gS rfl (gS rfl (gS rfl (gS rfl g0))))))))))))))))))))))))))))))) (gS rfl (gS rfl (gS rfl (gS rfl (gS rfl (gS rfl (gS rfl (gS rfl (gS rfl (gS rfl (gS rfl (gS rfl (gS rfl (gS rfl (gS rfl (gS rfl (gS rfl (gS rfl (gS rfl (gS rfl (gS rfl (gS rfl (gS rfl (gS rfl (gS rfl (gS rfl (gS rfl (gS rfl (gS rfl (gS rfl g0)))))))))))))))))))))))))))))) (gS rfl (gS rfl (gS rfl (gS rfl (gS rfl (gS rfl (gS rfl (gS rfl (gS rfl (gS rfl (gS rfl (gS rfl (gS rfl (gS rfl (gS rfl (gS rfl (gS rfl (gS rfl (gS rfl (gS rfl (gS rfl (gS rfl (gS rfl (gS rfl (gS rfl (gS rfl (gS rfl (gS rfl (gS rfl g0))))))))))))))))))))))))))))) (gS rfl (gS rfl (gS rfl (gS rfl (gS rfl (gS rfl (gS rfl (gS rfl (gS rfl (gS rfl (gS rfl (gS rfl (gS rfl (gS rfl (gS rfl (gS rfl (gS rfl (gS rfl (gS rfl (gS rfl (gS rfl (gS rfl (gS rfl (gS rfl (gS rfl (gS rfl (gS rfl (gS rfl g0)))))))))))))))))))))))))))) (gS rfl (gS rfl (gS rfl (gS rfl (gS rfl (gS rfl (gS rfl (gS rfl (gS rfl (gS rfl (gS rfl (gS rfl (gS rfl (gS rfl (gS rfl (gS rfl (gS rfl (gS rfl (gS rfl (gS rfl (gS rfl (gS rfl (gS rfl (gS rfl (gS rfl (gS rfl (gS rfl g0))))))))))))))))))))))))))) (gS rfl (gS rfl (gS rfl (gS rfl (gS rfl (gS rfl (gS rfl (gS rfl (gS rfl (gS rfl (gS rfl (gS rfl (gS rfl (gS rfl (gS rfl (gS rfl (gS rfl (gS rfl (gS rfl (gS rfl (gS rfl (gS rfl (gS rfl (gS rfl (gS rfl (gS rfl g0)))))))))))))))))))))))))) g0 (fun g => ?_)
            refine c_true (et g0 rfl) rfl ?_
            refine c_seq (fun K26 hK26 => ?_)
            refine c_region ?_
            refine l_step (y_moveV (et (gS rfl (gS rfl (gS rfl (gS rfl (gS rfl (gS rfl (gS rfl g0))))))) rfl)) ?_
            refine l_step (y_loadB agg_25 sz_25 (et (gS rfl (gS rfl (gS rfl (gS rfl (gS rfl (gS rfl (gS rfl (gS rfl (gS rfl g0))))))))) rfl) (by first | (simp only [Value.cells, hV, aV, bV, wV, wL, List.size_toArray, length_bL, length_uL, length_be, size_spl, List.length_cons, List.length_nil, List.length_replicate, Nat.zero_add, Nat.reduceAdd, Nat.reduceLeDiff, Nat.le_refl]; done) | rfl) (at1B k2)) ?_
            refine l_step (y_moveV (et (gS rfl (gS rfl (gS rfl (gS rfl (gS rfl (gS rfl (gS rfl (gS rfl (gS rfl (gS rfl (gS rfl (gS rfl g0)))))))))))) rfl)) ?_
            refine l_step (y_moveV (et (gS rfl (gS rfl (gS rfl (gS rfl (gS rfl (gS rfl (gS rfl (gS rfl (gS rfl (gS rfl (gS rfl (gS rfl g0)))))))))))) rfl)) ?_
            have hb27 : ∀ w, (Instr.build 295 ([(0, (Value.agg (bL (be 20 a)).toArray)), (1, vk), (2, vv)] : List (Nat × Value)).toArray).run Hvaa.prog w = .ok (.agg ([(bL (be 20 a)), ([vk]), ([vv])] : List (List Value)).flatten.toArray) w := bld_run zr_295 plc_295 (fill_flat (off := 0) (k := 20) (f := (List.replicate 20 (.int .u8 0))) (c := bL (be 20 a)) (v := (Value.agg (bL (be 20 a)).toArray)) rfl rfl (by first | (simp [length_bL, length_be, length_uL]; done) | rfl) (by first | rfl | (simp [length_bL, length_be, length_uL]; done)) rfl (by first | (simp [length_bL, length_be, length_uL]; done) | rfl) (fill_flat (off := 20) (k := 1) (f := [.slice none 0 0]) (c := [vk]) (v := vk) rfl (cells_one hK.one1) (by first | (simp [length_bL, length_be, length_uL]; done) | rfl) (by first | (simp [length_bL, length_be, length_uL]; done) | rfl) rfl (by first | (simp [length_bL, length_be, length_uL]; done) | rfl) (fill_flat (off := 21) (k := 1) (f := [.slice none 0 0]) (c := [vv]) (v := vv) rfl (cells_one hV.one1) (by first | (simp [length_bL, length_be, length_uL]; done) | rfl) (by first | (simp [length_bL, length_be, length_uL]; done) | rfl) rfl (by first | (simp [length_bL, length_be, length_uL]; done) | rfl) (fill_nil _ _))))
            refine l_step ((y_bld (bC (et (gS rfl (gS rfl g0)) rfl) (bC (et (gS rfl g0) rfl) (bC (et g0 rfl) bN))) hb27).to (congrArg (fun l : List Value => Value.agg l.toArray) (show _ = bL (be 20 a) ++ [vk, vv] by simp))) ?_
            refine l_eff (e_slice1 Hvaa.underlying96 sz_295 zr_295 rfl (by decide) (et g0 rfl) (by rw [show (Value.agg ((bL (be 20 a) ++ [vk, vv])).toArray).cells = ((bL (be 20 a) ++ [vk, vv])).toArray from rfl, List.size_toArray, len22])) (fun v28 w28 h28 => ?_)
            obtain ⟨b28, rfl, n28⟩ := h28
            replace k2 := k2.up n28.up
            replace k16 := k16.up n28.up
            replace hF := hF.up n28.up
            replace kS := kS.up n28.up
            replace hO := hO.up n28.up
            replace U := U.tr n28.up
            replace V9 := V9.tr n28.up
            have kq28 : Blk w28 b28 ((bL (be 20 a) ++ [vk, vv])).toArray := n28.blk
            have hbz : base ≤ w28.heap.size := by have := k16.lt; omega
            refine l_eff (e_appL Hvaa.underlying96 sz_295 zr_295 by_295 rfl (by decide) (et (gS rfl (gS rfl (gS rfl (gS rfl (gS rfl g0))))) rfl) hO (et g0 rfl) len22 kq28 (one_app (one_two hK.one1 hV.one1)) (tri_cells hK hV ha (W_bd hkb) (W_bd hvb)) (by decide) (by first | omega | (simp; omega)) hbz) (fun v29 w29 h29 => ?_)
            obtain ⟨hO29, c29, hown29⟩ := h29
            have hOo := hO
            have nO11 := hown29 _ k16.lt (hO.ne (by omega))
            replace k2 := k2.ch c29 (by first | omega | exact hOo.ne (by omega) | assumption | (intro q hq; exact hOo.ne (by have := hF0.lt hq; omega)))
            replace k16 := k16.ch c29 (by first | omega | exact hOo.ne (by omega) | assumption | (intro q hq; exact hOo.ne (by have := hF0.lt hq; omega)))
            replace hF := hF.ch c29 (by first | omega | (intro q hq e; have := hF0.lt hq; omega) | (intro q hq e; exact hOo.ne (by have := hF0.lt hq; omega) e) | (intro q hq e; exact nbS (e ▸ hq)))
            replace kS := kS.ch c29 (by first | omega | exact hOo.ne (by omega))
            replace hO := hO29
            replace V9 := V9.cc c29 (by intro b hb; first | omega | (simp at hb ⊢; omega) | (have := hOo.lim b hb.symm; omega))
            replace U := U.cc c29 (by intro b hb; first | (have := hOo.lim b hb.symm; omega) | omega | exact .inl hb | exact .inr (hb ▸ U))
            refine l_step (y_assignV (et g0 rfl)) ?_
            refine l_nil ?_
            refine hK26 _ _ ?_
            refine fg10 0 2 3 5 8 18 19 20 11 12 (gS rfl (gS rfl (gS rfl (gS rfl (gS rfl (gS rfl (gS rfl (gS rfl (gS rfl (gS rfl (gS rfl (gS rfl (gS rfl (gS rfl (gS rfl (gS rfl (gS rfl (gS rfl (gS rfl g0))))))))))))))))))) (gS rfl (gS rfl (gS rfl (gS rfl (gS rfl (gS rfl (gS rfl (gS rfl (gS rfl (gS rfl (gS rfl (gS rfl (gS rfl (gS rfl (gS rfl (gS rfl (gS rfl (gS rfl g0)))))))))))))))))) (gS rfl (gS rfl (gS rfl (gS rfl (gS rfl (gS rfl (gS rfl (gS rfl (gS rfl (gS rfl (gS rfl (gS rfl (gS rfl (gS rfl (gS rfl (gS rfl (gS rfl g0))))))))))))))))) (gS rfl (gS rfl (gS rfl (gS rfl (gS rfl (gS rfl (gS rfl (gS rfl (gS rfl (gS rfl (gS rfl (gS rfl (gS rfl (gS rfl (gS rfl (gS rfl g0)))))))))))))))) g0 (gS rfl (gS rfl (gS rfl (gS rfl (gS rfl (gS rfl (gS rfl (gS rfl (gS rfl (gS rfl (gS rfl (gS rfl (gS rfl g0))))))))))))) (gS rfl (gS rfl (gS rfl (gS rfl (gS rfl (gS rfl (gS rfl (gS rfl (gS rfl (gS rfl (gS rfl (gS rfl g0)))))))))))) (gS rfl (gS rfl (gS rfl (gS rfl (gS rfl (gS rfl (gS rfl (gS rfl (gS rfl (gS rfl (gS rfl g0))))))))))) (gS rfl (gS rfl (gS rfl (gS rfl (gS rfl (gS rfl (gS rfl (gS rfl (gS rfl (gS rfl g0)))))))))) (gS rfl (gS rfl (gS rfl (gS rfl (gS rfl (gS rfl (gS rfl (gS rfl (gS rfl g0))))))))) (fun g => ?_)
            refine c_region ?_
            refine l_step y_assignC ?_
            refine l_nil ?_
            refine hK21 _ _ ?_
            refine c_seq (fun K30 hK30 => ?_)
            refine c_region ?_
            refine l_step (y_moveV (et (gS rfl g0) rfl)) ?_
            refine l_step (y_not (et g0 rfl)) ?_
            refine l_nil ?_
            refine hK30 _ _ ?_
            refine fg11 0 2 3 5 8 18 19 20 11 9 67 (gS rfl (gS rfl (gS rfl (gS rfl (gS rfl (gS rfl (gS rfl (gS rfl (gS rfl (gS rfl (gS rfl (gS rfl g0)))))))))))) (gS rfl (gS rfl (gS rfl (gS rfl (gS rfl (gS rfl (gS rfl (gS rfl (gS rfl (gS rfl (gS rfl g0))))))))))) (gS rfl (gS rfl (gS rfl (gS rfl (gS rfl (gS rfl (gS rfl (gS rfl (gS rfl (gS rfl g0)))))))))) (gS rfl (gS rfl (gS rfl (gS rfl (gS rfl (gS rfl (gS rfl (gS rfl (gS rfl g0))))))))) (gS rfl (gS rfl (gS rfl (gS rfl (gS rfl (gS rfl (gS rfl (gS rfl g0)))))))) (gS rfl (gS rfl (gS rfl (gS rfl (gS rfl (gS rfl (gS rfl g0))))))) (gS rfl (gS rfl (gS rfl (gS rfl (gS rfl (gS rfl g0)))))) (gS rfl (gS rfl (gS rfl (gS rfl (gS rfl g0))))) (gS rfl (gS rfl (gS rfl (gS rfl g0)))) (gS rfl (gS rfl g0)) g0 (fun g => ?_)
            refine c_cond (et g0 rfl) (fun cB3 => ?_) (fun cB3 => ?_)
            · skip
              
              exact absurd cB3 (by rw [h39]; decide)
            · skip
              
              have hsm : saT a key xs[i] = true := by unfold saT; rw [decide_eq_true hA]; simpa using cB3
              refine c_skip ?_
              refine hQ14 _ _ _ (in_normal ?_)
              refine hK13 _ _ ?_
              refine fg9 0 2 3 5 8 18 19 20 9 (gS rfl (gS rfl (gS rfl (gS rfl (gS rfl (gS rfl (gS rfl (gS rfl (gS rfl (gS rfl g0)))))))))) (gS rfl (gS rfl (gS rfl (gS rfl (gS rfl (gS rfl (gS rfl (gS rfl (gS rfl g0))))))))) (gS rfl (gS rfl (gS rfl (gS rfl (gS rfl (gS rfl (gS rfl (gS rfl g0)))))))) (gS rfl (gS rfl (gS rfl (gS rfl (gS rfl (gS rfl (gS rfl g0))))))) (gS rfl (gS rfl (gS rfl (gS rfl (gS rfl (gS rfl g0)))))) (gS rfl (gS rfl (gS rfl (gS rfl (gS rfl g0))))) (gS rfl (gS rfl (gS rfl (gS rfl g0)))) (gS rfl (gS rfl (gS rfl g0))) (gS rfl g0) (fun g => ?_)
              refine c_region ?_
              refine l_step (y_add (et (gS rfl g0) rfl) rfl (addIN (y := 1) ?_)) ?_
              omega
              refine l_step (y_moveV (et g0 rfl)) ?_
              refine l_nil ?_
              refine fK9 0 2 3 5 8 9 18 19 20 (gS rfl (gS rfl (gS rfl (gS rfl (gS rfl (gS rfl (gS rfl (gS rfl (gS rfl (gS rfl g0)))))))))) (gS rfl (gS rfl (gS rfl (gS rfl (gS rfl (gS rfl (gS rfl (gS rfl (gS rfl g0))))))))) (gS rfl (gS rfl (gS rfl (gS rfl (gS rfl (gS rfl (gS rfl (gS rfl g0)))))))) (gS rfl (gS rfl (gS rfl (gS rfl (gS rfl (gS rfl (gS rfl g0))))))) (gS rfl (gS rfl (gS rfl (gS rfl (gS rfl (gS rfl g0)))))) (gS rfl (gS rfl g0)) (gS rfl (gS rfl (gS rfl (gS rfl (gS rfl g0))))) (gS rfl (gS rfl (gS rfl (gS rfl g0)))) g0 (fun g => ?_)
              exact hK9 (xs.length - ((i + 1))) _ _ (by omega) ⟨g, _, true, (O ++ [(a, key, val)]), (i + 1), rfl, rfl, by omega, hO, by rw [hlb] at hOl; simp at hOl ⊢; omega, put_same (put_lay (by rw [hlb] at hfin; exact hfin) hcd) hsm, V9⟩
          · skip
            have h39 := q24
            refine l_gstep (j := 4) (t := 39) (by exact rfl) (by exact rfl) (et g0 rfl) (by decide) (y_loadB agg_25 sz_25 (et (gS rfl (gS rfl (gS rfl (gS rfl (gS rfl (gS rfl (gS rfl (gS rfl (gS rfl (gS rfl (gS rfl (gS rfl (gS rfl (gS rfl g0)))))))))))))) rfl) (by first | (simp only [Value.cells, hV, aV, bV, wV, wL, List.size_toArray, length_bL, length_uL, length_be, size_spl, List.length_cons, List.length_nil, List.length_replicate, Nat.zero_add, Nat.reduceAdd, Nat.reduceLeDiff, Nat.le_refl]; done) | rfl) (at1B k2)) ?_
            refine l_gstep (j := 4) (t := 39) (by exact rfl) (by exact rfl) (et (gS rfl g0) rfl) (by decide) (y_fld fld_295_0 (et (gS rfl (gS rfl (gS rfl (gS rfl (gS rfl (gS rfl (gS rfl (gS rfl (gS rfl g0))))))))) rfl)) ?_
            refine l_gstep (j := 4) (t := 39) (by exact rfl) (by exact rfl) (et (gS rfl (gS rfl g0)) rfl) (by decide) (y_loadR agg_25 sz_25 (et g0 rfl) (by rw [length_bL, length_be]) (at1R (k16.row addr_row))) ?_
            refine l_geff (j := 4) (t := 39) (by exact rfl) (by exact rfl) (et (gS rfl (gS rfl (gS rfl g0))) rfl) rfl (e_callV cal_130 (aC (et (gS rfl (gS rfl g0)) rfl) (aC (et g0 rfl) aN)) (yp_before a xs[i].1 _ ha hal)) (fun v32 w32 h32 => ?_)
            obtain ⟨rfl, u32⟩ := h32
            replace k2 := k2.up u32
            replace k16 := k16.up u32
            replace hF := hF.up u32
            replace kS := kS.up u32
            replace hO := hO.up u32
            replace U := U.tr u32
            replace V9 := V9.tr u32
            refine l_gstep (j := 2) (t := 37) (by exact rfl) (by exact rfl) (et (gS rfl (gS rfl (gS rfl (gS rfl (gS rfl (gS rfl (gS rfl g0))))))) rfl) (by decide) (y_pickF (et (gS rfl (gS rfl (gS rfl (gS rfl g0)))) rfl) (et g0 rfl)) ?_
            refine l_gstep (j := 2) (t := 37) (by exact rfl) (by exact rfl) (et (gS rfl (gS rfl (gS rfl (gS rfl (gS rfl (gS rfl (gS rfl (gS rfl g0)))))))) rfl) (by decide) (y_moveV (et g0 rfl)) ?_
            refine gsplitL (i := 45) g0 (fun q33 => ?_) (fun q33 => ?_)
            · skip
              have h45 := q33
              have hcd : (saT a key xs[i] || ltT a key xs[i]) = true := by unfold ltT; rw [h45]; simp
              exact absurd (of_decide_eq_true q33) (by omega)
            · skip
              have h45 := q33
              refine l_gstep (j := 10) (t := 45) (by exact rfl) (by exact rfl) (et g0 rfl) (by decide) (y_loadB agg_25 sz_25 (et (gS rfl (gS rfl (gS rfl (gS rfl (gS rfl (gS rfl (gS rfl (gS rfl (gS rfl (gS rfl (gS rfl (gS rfl (gS rfl (gS rfl (gS rfl (gS rfl (gS rfl (gS rfl (gS rfl (gS rfl (gS rfl g0))))))))))))))))))))) rfl) (by first | (simp only [Value.cells, hV, aV, bV, wV, wL, List.size_toArray, length_bL, length_uL, length_be, size_spl, List.length_cons, List.length_nil, List.length_replicate, Nat.zero_add, Nat.reduceAdd, Nat.reduceLeDiff, Nat.le_refl]; done) | rfl) (at1B k2)) ?_
              refine l_gstep (j := 10) (t := 45) (by exact rfl) (by exact rfl) (et (gS rfl g0) rfl) (by decide) (y_fld fld_295_0 (et (gS rfl (gS rfl (gS rfl (gS rfl (gS rfl (gS rfl (gS rfl (gS rfl (gS rfl (gS rfl (gS rfl (gS rfl (gS rfl (gS rfl (gS rfl (gS rfl g0)))))))))))))))) rfl)) ?_
              refine l_gstep (j := 10) (t := 45) (by exact rfl) (by exact rfl) (et (gS rfl (gS rfl g0)) rfl) (by decide) (y_loadR agg_25 sz_25 (et g0 rfl) (by rw [length_bL, length_be]) (at1R (k16.row addr_row))) ?_
              refine l_gstep (j := 10) (t := 45) (by exact rfl) (by exact rfl) (et (gS rfl (gS rfl (gS rfl g0))) rfl) (by decide) (y_eqlAddr ha hal (et (gS rfl (gS rfl g0)) rfl) (et g0 rfl)) ?_
              refine l_gstep (j := 10) (t := 45) (by exact rfl) (by exact rfl) (et (gS rfl (gS rfl (gS rfl (gS rfl g0)))) rfl) (by decide) (y_moveV (et g0 rfl)) ?_
              refine gsplitL (i := 50) g0 (fun q34 => ?_) (fun q34 => ?_)
              · skip
                have h50 := q34
                refine l_gstep (j := 15) (t := 50) (by exact rfl) (by exact rfl) (et g0 rfl) (by decide) (y_moveV (et (gS rfl (gS rfl (gS rfl (gS rfl (gS rfl (gS rfl (gS rfl (gS rfl (gS rfl (gS rfl (gS rfl (gS rfl (gS rfl (gS rfl (gS rfl (gS rfl (gS rfl (gS rfl (gS rfl (gS rfl (gS rfl (gS rfl (gS rfl (gS rfl (gS rfl (gS rfl (gS rfl (gS rfl (gS rfl g0))))))))))))))))))))))))))))) rfl)) ?_
                refine l_gstep (j := 15) (t := 50) (by exact rfl) (by exact rfl) (et (gS rfl g0) rfl) (by decide) (y_fld fld_295_1 (et (gS rfl (gS rfl (gS rfl (gS rfl (gS rfl (gS rfl (gS rfl (gS rfl (gS rfl (gS rfl (gS rfl (gS rfl (gS rfl (gS rfl (gS rfl (gS rfl (gS rfl (gS rfl (gS rfl (gS rfl (gS rfl (gS rfl g0)))))))))))))))))))))) rfl)) ?_
                refine l_gstep (j := 15) (t := 50) (by exact rfl) (by exact rfl) (et (gS rfl (gS rfl g0)) rfl) (by decide) (y_load1 one_95 (et g0 rfl) (at1 (k16.cell ((app20 (i := 0) rfl).trans rfl)))) ?_
                refine l_geff (j := 15) (t := 50) (by exact rfl) (by exact rfl) (et (gS rfl (gS rfl (gS rfl g0))) rfl) rfl (e_callV cal_121 (aC (et (gS rfl (gS rfl g0)) rfl) (aC (et g0 rfl) aN)) (nat_cmp hF hK hk1 (bd_sm hkb (by decide)) (smW hkl))) (fun v35 w35 h35 => ?_)
                obtain ⟨rfl, u35⟩ := h35
                replace k2 := k2.up u35
                replace k16 := k16.up u35
                replace hF := hF.up u35
                replace kS := kS.up u35
                replace hO := hO.up u35
                replace U := U.tr u35
                replace V9 := V9.tr u35
                refine l_gstep (j := 15) (t := 50) (by exact rfl) (by exact rfl) (et (gS rfl (gS rfl (gS rfl (gS rfl g0)))) rfl) (by decide) ((y_lss (et g0 rfl) rfl).to (congrArg Value.bool (cmp_lt0 key xs[i].2.1))) ?_
                refine l_gstep (j := 10) (t := 45) (by exact rfl) (by exact rfl) (et (gS rfl (gS rfl (gS rfl (gS rfl (gS rfl (gS rfl (gS rfl (gS rfl (gS rfl (gS rfl (gS rfl g0))))))))))) rfl) (by decide) (y_pickT (et (gS rfl (gS rfl (gS rfl (gS rfl (gS rfl g0))))) rfl) (et g0 rfl)) ?_
                refine l_gstep (j := 2) (t := 37) (by exact rfl) (by exact rfl) (et (gS rfl (gS rfl (gS rfl (gS rfl (gS rfl (gS rfl (gS rfl (gS rfl (gS rfl (gS rfl (gS rfl (gS rfl (gS rfl (gS rfl (gS rfl (gS rfl (gS rfl (gS rfl (gS rfl (gS rfl (gS rfl (gS rfl g0)))))))))))))))))))))) rfl) (by decide) (y_pickF (et (gS rfl (gS rfl (gS rfl (gS rfl (gS rfl (gS rfl (gS rfl (gS rfl (gS rfl (gS rfl (gS rfl (gS rfl g0)))))))))))) rfl) (et g0 rfl)) ?_
                refine l_step (y_pickT (et (gS rfl (gS rfl (gS rfl (gS rfl (gS rfl (gS rfl (gS rfl (gS rfl (gS rfl (gS rfl (gS rfl (gS rfl (gS rfl (gS rfl (gS rfl (gS rfl (gS rfl (gS rfl (gS rfl (gS rfl (gS rfl (gS rfl (gS rfl g0))))))))))))))))))))))) rfl) (et g0 rfl)) ?_
                refine l_nil ?_
                refine hK22 _ _ ?_
                refine fg12 0 2 3 5 8 9 18 19 20 11 12 58 (gS rfl (gS rfl (gS rfl (gS rfl (gS rfl (gS rfl (gS rfl (gS rfl (gS rfl (gS rfl (gS rfl (gS rfl (gS rfl (gS rfl (gS rfl (gS rfl (gS rfl (gS rfl (gS rfl (gS rfl (gS rfl (gS rfl (gS rfl (gS rfl (gS rfl (gS rfl (gS rfl (gS rfl (gS rfl (gS rfl (gS rfl (gS rfl (gS rfl (gS rfl (gS rfl (gS rfl (gS rfl (gS rfl g0)))))))))))))))))))))))))))))))))))))) (gS rfl (gS rfl (gS rfl (gS rfl (gS rfl (gS rfl (gS rfl (gS rfl (gS rfl (gS rfl (gS rfl (gS rfl (gS rfl (gS rfl (gS rfl (gS rfl (gS rfl (gS rfl (gS rfl (gS rfl (gS rfl (gS rfl (gS rfl (gS rfl (gS rfl (gS rfl (gS rfl (gS rfl (gS rfl (gS rfl (gS rfl (gS rfl (gS rfl (gS rfl (gS rfl (gS rfl (gS rfl g0))))))))))))))))))))))))))))))))))))) (gS rfl (gS rfl (gS rfl (gS rfl (gS rfl (gS rfl (gS rfl (gS rfl (gS rfl (gS rfl (gS rfl (gS rfl (gS rfl (gS rfl (gS rfl (gS rfl (gS rfl (gS rfl (gS rfl (gS rfl (gS rfl (gS rfl (gS rfl (gS rfl (gS rfl (gS rfl (gS rfl (gS rfl (gS rfl (gS rfl (gS rfl (gS rfl (gS rfl (gS rfl (gS rfl (gS rfl g0)))))))))))))))))))))))))))))))))))) (gS rfl (gS rfl (gS rfl (gS rfl (gS rfl (gS rfl (gS rfl (gS rfl (gS rfl (gS rfl (gS rfl (gS rfl (gS rfl (gS rfl (gS rfl (gS rfl (gS rfl (gS rfl (gS rfl (gS rfl (gS rfl (gS rfl (gS rfl (gS rfl (gS rfl (gS rfl (gS rfl (gS rfl (gS rfl (gS rfl (gS rfl (gS rfl (gS rfl (gS rfl (gS rfl g0))))))))))))))))))))))))))))))))))) (gS rfl (gS rfl (gS rfl (gS rfl (gS rfl (gS rfl (gS rfl (gS rfl (gS rfl (gS rfl (gS rfl (gS rfl (gS rfl (gS rfl (gS rfl (gS rfl (gS rfl (gS rfl (gS rfl (gS rfl (gS rfl (gS rfl (gS rfl (gS rfl (gS rfl (gS rfl (gS rfl (gS rfl (gS rfl (gS rfl (gS rfl (gS rfl (gS rfl (gS rfl g0)))))))))))))))))))))))))))))))))) (gS rfl (gS rfl (gS rfl (gS rfl (gS rfl (gS rfl (gS rfl (gS rfl (gS rfl (gS rfl (gS rfl (gS rfl (gS rfl (gS rfl (gS rfl (gS rfl (gS rfl (gS rfl (gS rfl (gS rfl (gS rfl (gS rfl (gS rfl (gS rfl (gS rfl (gS rfl (gS rfl (gS rfl (gS rfl (gS rfl (gS rfl (gS rfl (gS rfl g0))))))))))))))))))))))))))))))))) (gS rfl (gS rfl (gS rfl (gS rfl (gS rfl (gS rfl (gS rfl (gS rfl (gS rfl (gS rfl (gS rfl (gS rfl (gS rfl (gS rfl (gS rfl (gS rfl (gS rfl (gS rfl (gS rfl (gS rfl (gS rfl (gS rfl (gS rfl (gS rfl (gS rfl (gS rfl (gS rfl (gS rfl (gS rfl (gS rfl (gS rfl (gS rfl g0)))))))))))))))))))))))))))))))) (gS rfl (gS rfl (gS rfl (gS rfl (gS rfl (gS rfl (gS rfl (gS rfl (gS rfl (gS rfl (gS rfl (gS rfl (gS rfl (gS rfl (gS rfl (gS rfl (gS rfl (gS rfl (gS rfl (gS rfl (gS rfl (gS rfl (gS rfl (gS rfl (gS rfl (gS rfl (gS rfl (gS rfl (gS rfl (gS rfl (gS rfl g0))))))))))))))))))))))))))))))) (gS rfl (gS rfl (gS rfl (gS rfl (gS rfl (gS rfl (gS rfl (gS rfl (gS rfl (gS rfl (gS rfl (gS rfl (gS rfl (gS rfl (gS rfl (gS rfl (gS rfl (gS rfl (gS rfl (gS rfl (gS rfl (gS rfl (gS rfl (gS rfl (gS rfl (gS rfl (gS rfl (gS rfl (gS rfl (gS rfl g0)))))))))))))))))))))))))))))) (gS rfl (gS rfl (gS rfl (gS rfl (gS rfl (gS rfl (gS rfl (gS rfl (gS rfl (gS rfl (gS rfl (gS rfl (gS rfl (gS rfl (gS rfl (gS rfl (gS rfl (gS rfl (gS rfl (gS rfl (gS rfl (gS rfl (gS rfl (gS rfl (gS rfl (gS rfl (gS rfl (gS rfl (gS rfl g0))))))))))))))))))))))))))))) (gS rfl (gS rfl (gS rfl (gS rfl (gS rfl (gS rfl (gS rfl (gS rfl (gS rfl (gS rfl (gS rfl (gS rfl (gS rfl (gS rfl (gS rfl (gS rfl (gS rfl (gS rfl (gS rfl (gS rfl (gS rfl (gS rfl (gS rfl (gS rfl (gS rfl (gS rfl (gS rfl (gS rfl g0)))))))))))))))))))))))))))) g0 (fun g => ?_)
                refine c_cond (et g0 rfl) (fun cB2 => ?_) (fun cB2 => ?_)
                · skip
                  
                  have hcd : (saT a key xs[i] || ltT a key xs[i]) = true := by unfold saT ltT; rw [h45, h50, cB2, decide_eq_true hA, h39]; rfl
                  refine c_seq (fun K37 hK37 => ?_)
                  refine c_region ?_
                  refine l_step (y_moveV (et (gS rfl (gS rfl (gS rfl (gS rfl (gS rfl (gS rfl (gS rfl g0))))))) rfl)) ?_
                  refine l_step (y_loadB agg_25 sz_25 (et (gS rfl (gS rfl (gS rfl (gS rfl (gS rfl (gS rfl (gS rfl (gS rfl (gS rfl g0))))))))) rfl) (by first | (simp only [Value.cells, hV, aV, bV, wV, wL, List.size_toArray, length_bL, length_uL, length_be, size_spl, List.length_cons, List.length_nil, List.length_replicate, Nat.zero_add, Nat.reduceAdd, Nat.reduceLeDiff, Nat.le_refl]; done) | rfl) (at1B k2)) ?_
                  refine l_step (y_moveV (et (gS rfl (gS rfl (gS rfl (gS rfl (gS rfl (gS rfl (gS rfl (gS rfl (gS rfl (gS rfl (gS rfl (gS rfl g0)))))))))))) rfl)) ?_
                  refine l_step (y_moveV (et (gS rfl (gS rfl (gS rfl (gS rfl (gS rfl (gS rfl (gS rfl (gS rfl (gS rfl (gS rfl (gS rfl (gS rfl g0)))))))))))) rfl)) ?_
                  have hb38 : ∀ w, (Instr.build 295 ([(0, (Value.agg (bL (be 20 a)).toArray)), (1, vk), (2, vv)] : List (Nat × Value)).toArray).run Hvaa.prog w = .ok (.agg ([(bL (be 20 a)), ([vk]), ([vv])] : List (List Value)).flatten.toArray) w := bld_run zr_295 plc_295 (fill_flat (off := 0) (k := 20) (f := (List.replicate 20 (.int .u8 0))) (c := bL (be 20 a)) (v := (Value.agg (bL (be 20 a)).toArray)) rfl rfl (by first | (simp [length_bL, length_be, length_uL]; done) | rfl) (by first | rfl | (simp [length_bL, length_be, length_uL]; done)) rfl (by first | (simp [length_bL, length_be, length_uL]; done) | rfl) (fill_flat (off := 20) (k := 1) (f := [.slice none 0 0]) (c := [vk]) (v := vk) rfl (cells_one hK.one1) (by first | (simp [length_bL, length_be, length_uL]; done) | rfl) (by first | (simp [length_bL, length_be, length_uL]; done) | rfl) rfl (by first | (simp [length_bL, length_be, length_uL]; done) | rfl) (fill_flat (off := 21) (k := 1) (f := [.slice none 0 0]) (c := [vv]) (v := vv) rfl (cells_one hV.one1) (by first | (simp [length_bL, length_be, length_uL]; done) | rfl) (by first | (simp [length_bL, length_be, length_uL]; done) | rfl) rfl (by first | (simp [length_bL, length_be, length_uL]; done) | rfl) (fill_nil _ _))))
                  refine l_step ((y_bld (bC (et (gS rfl (gS rfl g0)) rfl) (bC (et (gS rfl g0) rfl) (bC (et g0 rfl) bN))) hb38).to (congrArg (fun l : List Value => Value.agg l.toArray) (show _ = bL (be 20 a) ++ [vk, vv] by simp))) ?_
                  refine l_eff (e_slice1 Hvaa.underlying96 sz_295 zr_295 rfl (by decide) (et g0 rfl) (by rw [show (Value.agg ((bL (be 20 a) ++ [vk, vv])).toArray).cells = ((bL (be 20 a) ++ [vk, vv])).toArray from rfl, List.size_toArray, len22])) (fun v39 w39 h39 => ?_)
                  obtain ⟨b39, rfl, n39⟩ := h39
                  replace k2 := k2.up n39.up
                  replace k16 := k16.up n39.up
                  replace hF := hF.up n39.up
                  replace kS := kS.up n39.up
                  replace hO := hO.up n39.up
                  replace U := U.tr n39.up
                  replace V9 := V9.tr n39.up
                  have kq39 : Blk w39 b39 ((bL (be 20 a) ++ [vk, vv])).toArray := n39.blk
                  have hbz : base ≤ w39.heap.size := by have := k16.lt; omega
                  refine l_eff (e_appL Hvaa.underlying96 sz_295 zr_295 by_295 rfl (by decide) (et (gS rfl (gS rfl (gS rfl (gS rfl (gS rfl g0))))) rfl) hO (et g0 rfl) len22 kq39 (one_app (one_two hK.one1 hV.one1)) (tri_cells hK hV ha (W_bd hkb) (W_bd hvb)) (by decide) (by first | omega | (simp; omega)) hbz) (fun v40 w40 h40 => ?_)
                  obtain ⟨hO40, c40, hown40⟩ := h40
                  have hOo := hO
                  have nO11 := hown40 _ k16.lt (hO.ne (by omega))
                  replace k2 := k2.ch c40 (by first | omega | exact hOo.ne (by omega) | assumption | (intro q hq; exact hOo.ne (by have := hF0.lt hq; omega)))
                  replace k16 := k16.ch c40 (by first | omega | exact hOo.ne (by omega) | assumption | (intro q hq; exact hOo.ne (by have := hF0.lt hq; omega)))
                  replace hF := hF.ch c40 (by first | omega | (intro q hq e; have := hF0.lt hq; omega) | (intro q hq e; exact hOo.ne (by have := hF0.lt hq; omega) e) | (intro q hq e; exact nbS (e ▸ hq)))
                  replace kS := kS.ch c40 (by first | omega | exact hOo.ne (by omega))
                  replace hO := hO40
                  replace V9 := V9.cc c40 (by intro b hb; first | omega | (simp at hb ⊢; omega) | (have := hOo.lim b hb.symm; omega))
                  replace U := U.cc c40 (by intro b hb; first | (have := hOo.lim b hb.symm; omega) | omega | exact .inl hb | exact .inr (hb ▸ U))
                  refine l_step (y_assignV (et g0 rfl)) ?_
                  refine l_nil ?_
                  refine hK37 _ _ ?_
                  refine fg10 0 2 3 5 8 18 19 20 11 12 (gS rfl (gS rfl (gS rfl (gS rfl (gS rfl (gS rfl (gS rfl (gS rfl (gS rfl (gS rfl (gS rfl (gS rfl (gS rfl (gS rfl (gS rfl (gS rfl (gS rfl (gS rfl (gS rfl g0))))))))))))))))))) (gS rfl (gS rfl (gS rfl (gS rfl (gS rfl (gS rfl (gS rfl (gS rfl (gS rfl (gS rfl (gS rfl (gS rfl (gS rfl (gS rfl (gS rfl (gS rfl (gS rfl (gS rfl g0)))))))))))))))))) (gS rfl (gS rfl (gS rfl (gS rfl (gS rfl (gS rfl (gS rfl (gS rfl (gS rfl (gS rfl (gS rfl (gS rfl (gS rfl (gS rfl (gS rfl (gS rfl (gS rfl g0))))))))))))))))) (gS rfl (gS rfl (gS rfl (gS rfl (gS rfl (gS rfl (gS rfl (gS rfl (gS rfl (gS rfl (gS rfl (gS rfl (gS rfl (gS rfl (gS rfl (gS rfl g0)))))))))))))))) g0 (gS rfl (gS rfl (gS rfl (gS rfl (gS rfl (gS rfl (gS rfl (gS rfl (gS rfl (gS rfl (gS rfl (gS rfl (gS rfl g0))))))))))))) (gS rfl (gS rfl (gS rfl (gS rfl (gS rfl (gS rfl (gS rfl (gS rfl (gS rfl (gS rfl (gS rfl (gS rfl g0)))))))))))) (gS rfl (gS rfl (gS rfl (gS rfl (gS rfl (gS rfl (gS rfl (gS rfl (gS rfl (gS rfl (gS rfl g0))))))))))) (gS rfl (gS rfl (gS rfl (gS rfl (gS rfl (gS rfl (gS rfl (gS rfl (gS rfl (gS rfl g0)))))))))) (gS rfl (gS rfl (gS rfl (gS rfl (gS rfl (gS rfl (gS rfl (gS rfl (gS rfl g0))))))))) (fun g => ?_)
                  refine c_region ?_
                  refine l_step y_assignC ?_
                  refine l_nil ?_
                  refine hK21 _ _ ?_
                  refine c_seq (fun K41 hK41 => ?_)
                  refine c_region ?_
                  refine l_step (y_moveV (et (gS rfl g0) rfl)) ?_
                  refine l_step (y_not (et g0 rfl)) ?_
                  refine l_nil ?_
                  refine hK41 _ _ ?_
                  refine fg11 0 2 3 5 8 18 19 20 11 9 67 (gS rfl (gS rfl (gS rfl (gS rfl (gS rfl (gS rfl (gS rfl (gS rfl (gS rfl (gS rfl (gS rfl (gS rfl g0)))))))))))) (gS rfl (gS rfl (gS rfl (gS rfl (gS rfl (gS rfl (gS rfl (gS rfl (gS rfl (gS rfl (gS rfl g0))))))))))) (gS rfl (gS rfl (gS rfl (gS rfl (gS rfl (gS rfl (gS rfl (gS rfl (gS rfl (gS rfl g0)))))))))) (gS rfl (gS rfl (gS rfl (gS rfl (gS rfl (gS rfl (gS rfl (gS rfl (gS rfl g0))))))))) (gS rfl (gS rfl (gS rfl (gS rfl (gS rfl (gS rfl (gS rfl (gS rfl g0)))))))) (gS rfl (gS rfl (gS rfl (gS rfl (gS rfl (gS rfl (gS rfl g0))))))) (gS rfl (gS rfl (gS rfl (gS rfl (gS rfl (gS rfl g0)))))) (gS rfl (gS rfl (gS rfl (gS rfl (gS rfl g0))))) (gS rfl (gS rfl (gS rfl (gS rfl g0)))) (gS rfl (gS rfl g0)) g0 (fun g => ?_)
                  refine c_cond (et g0 rfl) (fun cB3 => ?_) (fun cB3 => ?_)
                  · skip
                    
                    have hsm : saT a key xs[i] = false := by unfold saT; rw [decide_eq_true hA]; simpa using cB3
                    refine c_region ?_
                    refine l_step (y_moveV (et (gS rfl (gS rfl (gS rfl (gS rfl (gS rfl (gS rfl g0)))))) rfl)) ?_
                    refine l_step (y_loadB agg_295 sz_295 (et (gS rfl (gS rfl (gS rfl g0))) rfl) (by rw [List.size_toArray, len22]) (at1B k16)) ?_
                    refine l_eff (e_slice1 Hvaa.underlying96 sz_295 zr_295 rfl (by decide) (et g0 rfl) (by rw [show (Value.agg ((bL (be 20 xs[i].1) ++ [vk1, vv1])).toArray).cells = ((bL (be 20 xs[i].1) ++ [vk1, vv1])).toArray from rfl, List.size_toArray, len22])) (fun v43 w43 h43 => ?_)
                    obtain ⟨b43, rfl, n43⟩ := h43
                    replace k2 := k2.up n43.up
                    replace k16 := k16.up n43.up
                    replace hF := hF.up n43.up
                    replace kS := kS.up n43.up
                    replace hO := hO.up n43.up
                    replace U := U.tr n43.up
                    replace V9 := V9.tr n43.up
                    have kq43 : Blk w43 b43 ((bL (be 20 xs[i].1) ++ [vk1, vv1])).toArray := n43.blk
                    have hbz : base ≤ w43.heap.size := by have := k16.lt; omega
                    refine l_eff (e_appL Hvaa.underlying96 sz_295 zr_295 by_295 rfl (by decide) (et (gS rfl (gS rfl g0)) rfl) hO (et g0 rfl) len22 kq43 hPo hP (by decide) (by first | omega | (simp; omega)) hbz) (fun v44 w44 h44 => ?_)
                    obtain ⟨hO44, c44, hown44⟩ := h44
                    have hOo := hO
                    replace k2 := k2.ch c44 (by first | omega | exact hOo.ne (by omega) | assumption | (intro q hq; exact hOo.ne (by have := hF0.lt hq; omega)))
                    replace k16 := k16.ch c44 (by first | omega | exact hOo.ne (by omega) | assumption | (intro q hq; exact hOo.ne (by have := hF0.lt hq; omega)))
                    replace hF := hF.ch c44 (by first | omega | (intro q hq e; have := hF0.lt hq; omega) | (intro q hq e; exact hOo.ne (by have := hF0.lt hq; omega) e) | (intro q hq e; exact nbS (e ▸ hq)))
                    replace kS := kS.ch c44 (by first | omega | exact hOo.ne (by omega))
                    replace hO := hO44
                    replace V9 := V9.cc c44 (by intro b hb; first | omega | (simp at hb ⊢; omega) | (have := hOo.lim b hb.symm; omega))
                    replace U := U.cc c44 (by intro b hb; first | (have := hOo.lim b hb.symm; omega) | omega | exact .inl hb | exact .inr (hb ▸ U))
                    refine l_step (y_assignV (et g0 rfl)) ?_
                    refine l_nil ?_
                    refine hQ14 _ _ _ (in_normal ?_)
                    refine hK13 _ _ ?_
                    refine fg9 0 2 3 5 8 18 19 20 9 (gS rfl (gS rfl (gS rfl (gS rfl (gS rfl (gS rfl (gS rfl (gS rfl (gS rfl (gS rfl (gS rfl (gS rfl (gS rfl (gS rfl (gS rfl g0))))))))))))))) (gS rfl (gS rfl (gS rfl (gS rfl (gS rfl (gS rfl (gS rfl (gS rfl (gS rfl (gS rfl (gS rfl (gS rfl (gS rfl (gS rfl g0)))))))))))))) (gS rfl (gS rfl (gS rfl (gS rfl (gS rfl (gS rfl (gS rfl (gS rfl (gS rfl (gS rfl (gS rfl (gS rfl (gS rfl g0))))))))))))) (gS rfl (gS rfl (gS rfl (gS rfl (gS rfl (gS rfl (gS rfl (gS rfl (gS rfl (gS rfl (gS rfl (gS rfl g0)))))))))))) g0 (gS rfl (gS rfl (gS rfl (gS rfl (gS rfl (gS rfl (gS rfl (gS rfl (gS rfl (gS rfl g0)))))))))) (gS rfl (gS rfl (gS rfl (gS rfl (gS rfl (gS rfl (gS rfl (gS rfl (gS rfl g0))))))))) (gS rfl (gS rfl (gS rfl (gS rfl (gS rfl (gS rfl (gS rfl (gS rfl g0)))))))) (gS rfl (gS rfl (gS rfl (gS rfl (gS rfl (gS rfl g0)))))) (fun g => ?_)
                    refine c_region ?_
                    refine l_step (y_add (et (gS rfl g0) rfl) rfl (addIN (y := 1) ?_)) ?_
                    omega
                    refine l_step (y_moveV (et g0 rfl)) ?_
                    refine l_nil ?_
                    refine fK9 0 2 3 5 8 9 18 19 20 (gS rfl (gS rfl (gS rfl (gS rfl (gS rfl (gS rfl (gS rfl (gS rfl (gS rfl (gS rfl g0)))))))))) (gS rfl (gS rfl (gS rfl (gS rfl (gS rfl (gS rfl (gS rfl (gS rfl (gS rfl g0))))))))) (gS rfl (gS rfl (gS rfl (gS rfl (gS rfl (gS rfl (gS rfl (gS rfl g0)))))))) (gS rfl (gS rfl (gS rfl (gS rfl (gS rfl (gS rfl (gS rfl g0))))))) (gS rfl (gS rfl (gS rfl (gS rfl (gS rfl (gS rfl g0)))))) (gS rfl (gS rfl g0)) (gS rfl (gS rfl (gS rfl (gS rfl (gS rfl g0))))) (gS rfl (gS rfl (gS rfl (gS rfl g0)))) g0 (fun g => ?_)
                    exact hK9 (xs.length - ((i + 1))) _ _ (by omega) ⟨g, _, true, (O ++ [(a, key, val)] ++ [xs[i]]), (i + 1), rfl, rfl, by omega, hO, by rw [hlb] at hOl; simp at hOl ⊢; omega, put_keep (put_lay (by rw [hlb] at hfin; exact hfin) hcd) hsm, V9⟩
                  · skip
                    
                    exact absurd cB3 (by rw [h39]; decide)
                · skip
                  
                  have hcd : (saT a key xs[i] || ltT a key xs[i]) = false := by unfold saT ltT; rw [h45, h50, cB2, decide_eq_true hA, h39]; rfl
                  refine c_skip ?_
                  refine hK21 _ _ ?_
                  refine fg11 0 2 3 5 8 9 18 19 20 11 12 (gS rfl (gS rfl (gS rfl (gS rfl (gS rfl (gS rfl (gS rfl (gS rfl (gS rfl (gS rfl (gS rfl g0))))))))))) (gS rfl (gS rfl (gS rfl (gS rfl (gS rfl (gS rfl (gS rfl (gS rfl (gS rfl (gS rfl g0)))))))))) (gS rfl (gS rfl (gS rfl (gS rfl (gS rfl (gS rfl (gS rfl (gS rfl (gS rfl g0))))))))) (gS rfl (gS rfl (gS rfl (gS rfl (gS rfl (gS rfl (gS rfl (gS rfl g0)))))))) (gS rfl (gS rfl (gS rfl (gS rfl (gS rfl (gS rfl (gS rfl g0))))))) (gS rfl (gS rfl (gS rfl (gS rfl (gS rfl (gS rfl g0)))))) (gS rfl (gS rfl (gS rfl (gS rfl (gS rfl g0))))) (gS rfl (gS rfl (gS rfl (gS rfl g0)))) (gS rfl (gS rfl (gS rfl g0))) (gS rfl (gS rfl g0)) (gS rfl g0) (fun g => ?_)
                  refine c_seq (fun K45 hK45 => ?_)
                  refine c_region ?_
                  refine l_step (y_moveV (et g0 rfl)) ?_
                  refine l_step (y_not (et g0 rfl)) ?_
                  refine l_nil ?_
                  refine hK45 _ _ ?_
                  refine fg11 0 2 3 5 8 9 18 19 20 11 67 (gS rfl (gS rfl (gS rfl (gS rfl (gS rfl (gS rfl (gS rfl (gS rfl (gS rfl (gS rfl (gS rfl (gS rfl g0)))))))))))) (gS rfl (gS rfl (gS rfl (gS rfl (gS rfl (gS rfl (gS rfl (gS rfl (gS rfl (gS rfl (gS rfl g0))))))))))) (gS rfl (gS rfl (gS rfl (gS rfl (gS rfl (gS rfl (gS rfl (gS rfl (gS rfl (gS rfl g0)))))))))) (gS rfl (gS rfl (gS rfl (gS rfl (gS rfl (gS rfl (gS rfl (gS rfl (gS rfl g0))))))))) (gS rfl (gS rfl (gS rfl (gS rfl (gS rfl (gS rfl (gS rfl (gS rfl g0)))))))) (gS rfl (gS rfl (gS rfl (gS rfl (gS rfl (gS rfl (gS rfl g0))))))) (gS rfl (gS rfl (gS rfl (gS rfl (gS rfl (gS rfl g0)))))) (gS rfl (gS rfl (gS rfl (gS rfl (gS rfl g0))))) (gS rfl (gS rfl (gS rfl (gS rfl g0)))) (gS rfl (gS rfl (gS rfl g0))) g0 (fun g => ?_)
                  refine c_cond (et g0 rfl) (fun cB3 => ?_) (fun cB3 => ?_)
                  · skip
                    
                    have hsm : saT a key xs[i] = false := by unfold saT; rw [decide_eq_true hA]; simpa using cB3
                    refine c_region ?_
                    refine l_step (y_moveV (et (gS rfl (gS rfl (gS rfl (gS rfl (gS rfl (gS rfl g0)))))) rfl)) ?_
                    refine l_step (y_loadB agg_295 sz_295 (et (gS rfl (gS rfl g0)) rfl) (by rw [List.size_toArray, len22]) (at1B k16)) ?_
                    refine l_eff (e_slice1 Hvaa.underlying96 sz_295 zr_295 rfl (by decide) (et g0 rfl) (by rw [show (Value.agg ((bL (be 20 xs[i].1) ++ [vk1, vv1])).toArray).cells = ((bL (be 20 xs[i].1) ++ [vk1, vv1])).toArray from rfl, List.size_toArray, len22])) (fun v47 w47 h47 => ?_)
                    obtain ⟨b47, rfl, n47⟩ := h47
                    replace k2 := k2.up n47.up
                    replace k16 := k16.up n47.up
                    replace hF := hF.up n47.up
                    replace kS := kS.up n47.up
                    replace hO := hO.up n47.up
                    replace U := U.tr n47.up
                    replace V9 := V9.tr n47.up
                    have kq47 : Blk w47 b47 ((bL (be 20 xs[i].1) ++ [vk1, vv1])).toArray := n47.blk
                    have hbz : base ≤ w47.heap.size := by have := k16.lt; omega
                    refine l_eff (e_appL Hvaa.underlying96 sz_295 zr_295 by_295 rfl (by decide) (et (gS rfl (gS rfl g0)) rfl) hO (et g0 rfl) len22 kq47 hPo hP (by decide) (by first | omega | (simp; omega)) hbz) (fun v48 w48 h48 => ?_)
                    obtain ⟨hO48, c48, hown48⟩ := h48
                    have hOo := hO
                    replace k2 := k2.ch c48 (by first | omega | exact hOo.ne (by omega) | assumption | (intro q hq; exact hOo.ne (by have := hF0.lt hq; omega)))
                    replace k16 := k16.ch c48 (by first | omega | exact hOo.ne (by omega) | assumption | (intro q hq; exact hOo.ne (by have := hF0.lt hq; omega)))
                    replace hF := hF.ch c48 (by first | omega | (intro q hq e; have := hF0.lt hq; omega) | (intro q hq e; exact hOo.ne (by have := hF0.lt hq; omega) e) | (intro q hq e; exact nbS (e ▸ hq)))
                    replace kS := kS.ch c48 (by first | omega | exact hOo.ne (by omega))
                    replace hO := hO48
                    replace V9 := V9.cc c48 (by intro b hb; first | omega | (simp at hb ⊢; omega) | (have := hOo.lim b hb.symm; omega))
                    replace U := U.cc c48 (by intro b hb; first | (have := hOo.lim b hb.symm; omega) | omega | exact .inl hb | exact .inr (hb ▸ U))
                    refine l_step (y_assignV (et g0 rfl)) ?_
                    refine l_nil ?_
                    refine hQ14 _ _ _ (in_normal ?_)
                    refine hK13 _ _ ?_
                    refine fg9 0 2 3 5 8 9 18 19 20 (gS rfl (gS rfl (gS rfl (gS rfl (gS rfl (gS rfl (gS rfl (gS rfl (gS rfl (gS rfl (gS rfl (gS rfl (gS rfl (gS rfl (gS rfl g0))))))))))))))) (gS rfl (gS rfl (gS rfl (gS rfl (gS rfl (gS rfl (gS rfl (gS rfl (gS rfl (gS rfl (gS rfl (gS rfl (gS rfl (gS rfl g0)))))))))))))) (gS rfl (gS rfl (gS rfl (gS rfl (gS rfl (gS rfl (gS rfl (gS rfl (gS rfl (gS rfl (gS rfl (gS rfl (gS rfl g0))))))))))))) (gS rfl (gS rfl (gS rfl (gS rfl (gS rfl (gS rfl (gS rfl (gS rfl (gS rfl (gS rfl (gS rfl (gS rfl g0)))))))))))) g0 (gS rfl (gS rfl (gS rfl (gS rfl (gS rfl (gS rfl (gS rfl (gS rfl (gS rfl (gS rfl g0)))))))))) (gS rfl (gS rfl (gS rfl (gS rfl (gS rfl (gS rfl (gS rfl (gS rfl (gS rfl g0))))))))) (gS rfl (gS rfl (gS rfl (gS rfl (gS rfl (gS rfl (gS rfl (gS rfl g0)))))))) (gS rfl (gS rfl (gS rfl (gS rfl (gS rfl (gS rfl (gS rfl g0))))))) (fun g => ?_)
                    refine c_region ?_
                    refine l_step (y_add (et g0 rfl) rfl (addIN (y := 1) ?_)) ?_
                    omega
                    refine l_step (y_moveV (et g0 rfl)) ?_
                    refine l_nil ?_
                    refine fK9 0 2 3 5 8 9 18 19 20 (gS rfl (gS rfl (gS rfl (gS rfl (gS rfl (gS rfl (gS rfl (gS rfl (gS rfl (gS rfl g0)))))))))) (gS rfl (gS rfl (gS rfl (gS rfl (gS rfl (gS rfl (gS rfl (gS rfl (gS rfl g0))))))))) (gS rfl (gS rfl (gS rfl (gS rfl (gS rfl (gS rfl (gS rfl (gS rfl g0)))))))) (gS rfl (gS rfl (gS rfl (gS rfl (gS rfl (gS rfl (gS rfl g0))))))) (gS rfl (gS rfl (gS rfl (gS rfl (gS rfl (gS rfl g0)))))) (gS rfl (gS rfl (gS rfl (gS rfl (gS rfl g0))))) (gS rfl (gS rfl (gS rfl (gS rfl g0)))) (gS rfl (gS rfl (gS rfl g0))) g0 (fun g => ?_)
                    exact hK9 (xs.length - ((i + 1))) _ _ (by omega) ⟨g, _, lb, (O ++ [xs[i]]), (i + 1), rfl, rfl, by omega, hO, by simp; omega, pass_step hfin (by first | exact .inl hlb | exact .inr hcd) hsm, V9⟩
                  · skip
                    
                    exact absurd cB3 (by rw [h39]; decide)
              · skip
                exact absurd hA.symm (of_decide_eq_false q34)
        · skip
          have hlb : lb = true := by simpa using q23
          refine l_gskip (j := 2) (t := 37) (by exact rfl) (by exact rfl) (et g0 rfl) (by decide) (by decide) ?_
          refine l_gskip (j := 2) (t := 37) (by exact rfl) (by exact rfl) (et (gS rfl g0) rfl) (by decide) (by decide) ?_
          refine l_uskip (j := 4) (t := 39) (by exact rfl) (by exact rfl) (et g0 rfl) rfl ?_
          refine l_uskip (j := 4) (t := 39) (by exact rfl) (by exact rfl) (et (gS rfl g0) rfl) rfl ?_
          refine l_uskip (j := 4) (t := 39) (by exact rfl) (by exact rfl) (et (gS rfl (gS rfl g0)) rfl) rfl ?_
          refine l_uskip (j := 4) (t := 39) (by exact rfl) (by exact rfl) (et (gS rfl (gS rfl (gS rfl g0))) rfl) rfl ?_
          refine l_gskip (j := 2) (t := 37) (by exact rfl) (by exact rfl) (et (gS rfl (gS rfl (gS rfl (gS rfl (gS rfl (gS rfl g0)))))) rfl) (by decide) (by decide) ?_
          refine l_gskip (j := 2) (t := 37) (by exact rfl) (by exact rfl) (et (gS rfl (gS rfl (gS rfl (gS rfl (gS rfl (gS rfl (gS rfl g0))))))) rfl) (by decide) (by decide) ?_
          refine l_uskip (j := 10) (t := 45) (by exact rfl) (by exact rfl) (et g0 rfl) rfl ?_
          refine l_uskip (j := 10) (t := 45) (by exact rfl) (by exact rfl) (et (gS rfl g0) rfl) rfl ?_
          refine l_uskip (j := 10) (t := 45) (by exact rfl) (by exact rfl) (et (gS rfl (gS rfl g0)) rfl) rfl ?_
          refine l_uskip (j := 10) (t := 45) (by exact rfl) (by exact rfl) (et (gS rfl (gS rfl (gS rfl g0))) rfl) rfl ?_
          refine l_uskip (j := 10) (t := 45) (by exact rfl) (by exact rfl) (et (gS rfl (gS rfl (gS rfl (gS rfl g0)))) rfl) rfl ?_
          refine l_uskip (j := 15) (t := 50) (by exact rfl) (by exact rfl) (et g0 rfl) rfl ?_
          refine l_uskip (j := 15) (t := 50) (by exact rfl) (by exact rfl) (et (gS rfl g0) rfl) rfl ?_
          refine l_uskip (j := 15) (t := 50) (by exact rfl) (by exact rfl) (et (gS rfl (gS rfl g0)) rfl) rfl ?_
          refine l_uskip (j := 15) (t := 50) (by exact rfl) (by exact rfl) (et (gS rfl (gS rfl (gS rfl g0))) rfl) rfl ?_
          refine l_uskip (j := 15) (t := 50) (by exact rfl) (by exact rfl) (et (gS rfl (gS rfl (gS rfl (gS rfl g0)))) rfl) rfl ?_
          refine l_uskip (j := 10) (t := 45) (by exact rfl) (by exact rfl) (et (gS rfl (gS rfl (gS rfl (gS rfl (gS rfl (gS rfl (gS rfl (gS rfl (gS rfl (gS rfl g0)))))))))) rfl) rfl ?_
          refine l_gskip (j := 2) (t := 37) (by exact rfl) (by exact rfl) (et (gS rfl (gS rfl (gS rfl (gS rfl (gS rfl (gS rfl (gS rfl (gS rfl (gS rfl (gS rfl (gS rfl (gS rfl (gS rfl (gS rfl (gS rfl (gS rfl (gS rfl (gS rfl (gS rfl g0))))))))))))))))))) rfl) (by decide) (by decide) ?_
          refine l_step (y_pickF (et (gS rfl (gS rfl (gS rfl (gS rfl (gS rfl (gS rfl (gS rfl (gS rfl (gS rfl (gS rfl (gS rfl (gS rfl (gS rfl (gS rfl (gS rfl (gS rfl (gS rfl (gS rfl (gS rfl (gS rfl g0)))))))))))))))))))) rfl) rfl) ?_
          refine l_nil ?_
          refine hK22 _ _ ?_
          refine fg12 0 2 3 5 8 9 18 19 20 11 12 58 (gS rfl (gS rfl (gS rfl (gS rfl (gS rfl (gS rfl (gS rfl (gS rfl (gS rfl (gS rfl (gS rfl (gS rfl (gS rfl (gS rfl (gS rfl (gS rfl (gS rfl (gS rfl (gS rfl (gS rfl (gS rfl (gS rfl (gS rfl (gS rfl (gS rfl (gS rfl (gS rfl (gS rfl (gS rfl (gS rfl (gS rfl (gS rfl (gS rfl (gS rfl (gS rfl g0))))))))))))))))))))))))))))))))))) (gS rfl (gS rfl (gS rfl (gS rfl (gS rfl (gS rfl (gS rfl (gS rfl (gS rfl (gS rfl (gS rfl (gS rfl (gS rfl (gS rfl (gS rfl (gS rfl (gS rfl (gS rfl (gS rfl (gS rfl (gS rfl (gS rfl (gS rfl (gS rfl (gS rfl (gS rfl (gS rfl (gS rfl (gS rfl (gS rfl (gS rfl (gS rfl (gS rfl (gS rfl g0)))))))))))))))))))))))))))))))))) (gS rfl (gS rfl (gS rfl (gS rfl (gS rfl (gS rfl (gS rfl (gS rfl (gS rfl (gS rfl (gS rfl (gS rfl (gS rfl (gS rfl (gS rfl (gS rfl (gS rfl (gS rfl (gS rfl (gS rfl (gS rfl (gS rfl (gS rfl (gS rfl (gS rfl (gS rfl (gS rfl (gS rfl (gS rfl (gS rfl (gS rfl (gS rfl (gS rfl g0))))))))))))))))))))))))))))))))) (gS rfl (gS rfl (gS rfl (gS rfl (gS rfl (gS rfl (gS rfl (gS rfl (gS rfl (gS rfl (gS rfl (gS rfl (gS rfl (gS rfl (gS rfl (gS rfl (gS rfl (gS rfl (gS rfl (gS rfl (gS rfl (gS rfl (gS rfl (gS rfl (gS rfl (gS rfl (gS rfl (gS rfl (gS rfl (gS rfl (gS rfl (gS rfl g0)))))))))))))))))))))))))))))))) (gS rfl (gS rfl (gS rfl (gS rfl (gS rfl (gS rfl (gS rfl (gS rfl (gS rfl (gS rfl (gS rfl (gS rfl (gS rfl (gS rfl (gS rfl (gS rfl (gS rfl (gS rfl (gS rfl (gS rfl (gS rfl (gS rfl (gS rfl (gS rfl (gS rfl (gS rfl (gS rfl (gS rfl (gS rfl (gS rfl (gS rfl g0))))))))))))))))))))))))))))))) (gS rfl (gS rfl (gS rfl (gS rfl (gS rfl (gS rfl (gS rfl (gS rfl (gS rfl (gS rfl (gS rfl (gS rfl (gS rfl (gS rfl (gS rfl (gS rfl (gS rfl (gS rfl (gS rfl (gS rfl (gS rfl (gS rfl (gS rfl (gS rfl (gS rfl (gS rfl (gS rfl (gS rfl (gS rfl (gS rfl g0)))))))))))))))))))))))))))))) (gS rfl (gS rfl (gS rfl (gS rfl (gS rfl (gS rfl (gS rfl (gS rfl (gS rfl (gS rfl (gS rfl (gS rfl (gS rfl (gS rfl (gS rfl (gS rfl (gS rfl (gS rfl (gS rfl (gS rfl (gS rfl (gS rfl (gS rfl (gS rfl (gS rfl (gS rfl (gS rfl (gS rfl (gS rfl g0))))))))))))))))))))))))))))) (gS rfl (gS rfl (gS rfl (gS rfl (gS rfl (gS rfl (gS rfl (gS rfl (gS rfl (gS rfl (gS rfl (gS rfl (gS rfl (gS rfl (gS rfl (gS rfl (gS rfl (gS rfl (gS rfl (gS rfl (gS rfl (gS rfl (gS rfl (gS rfl (gS rfl (gS rfl (gS rfl (gS rfl g0)))))))))))))))))))))))))))) (gS rfl (gS rfl (gS rfl (gS rfl (gS rfl (gS rfl (gS rfl (gS rfl (gS rfl (gS rfl (gS rfl (gS rfl (gS rfl (gS rfl (gS rfl (gS rfl (gS rfl (gS rfl (gS rfl (gS rfl (gS rfl (gS rfl (gS rfl (gS rfl (gS rfl (gS rfl (gS rfl g0))))))))))))))))))))))))))) (gS rfl (gS rfl (gS rfl (gS rfl (gS rfl (gS rfl (gS rfl (gS rfl (gS rfl (gS rfl (gS rfl (gS rfl (gS rfl (gS rfl (gS rfl (gS rfl (gS rfl (gS rfl (gS rfl (gS rfl (gS rfl (gS rfl (gS rfl (gS rfl (gS rfl (gS rfl g0)))))))))))))))))))))))))) (gS rfl (gS rfl (gS rfl (gS rfl (gS rfl (gS rfl (gS rfl (gS rfl (gS rfl (gS rfl (gS rfl (gS rfl (gS rfl (gS rfl (gS rfl (gS rfl (gS rfl (gS rfl (gS rfl (gS rfl (gS rfl (gS rfl (gS rfl (gS rfl (gS rfl g0))))))))))))))))))))))))) g0 (fun g => ?_)
          refine c_false (et g0 rfl) rfl ?_
          refine c_skip ?_
          refine hK21 _ _ ?_
          refine fg11 0 2 3 5 8 9 18 19 20 11 12 (gS rfl (gS rfl (gS rfl (gS rfl (gS rfl (gS rfl (gS rfl (gS rfl (gS rfl (gS rfl (gS rfl g0))))))))))) (gS rfl (gS rfl (gS rfl (gS rfl (gS rfl (gS rfl (gS rfl (gS rfl (gS rfl (gS rfl g0)))))))))) (gS rfl (gS rfl (gS rfl (gS rfl (gS rfl (gS rfl (gS rfl (gS rfl (gS rfl g0))))))))) (gS rfl (gS rfl (gS rfl (gS rfl (gS rfl (gS rfl (gS rfl (gS rfl g0)))))))) (gS rfl (gS rfl (gS rfl (gS rfl (gS rfl (gS rfl (gS rfl g0))))))) (gS rfl (gS rfl (gS rfl (gS rfl (gS rfl (gS rfl g0)))))) (gS rfl (gS rfl (gS rfl (gS rfl (gS rfl g0))))) (gS rfl (gS rfl (gS rfl (gS rfl g0)))) (gS rfl (gS rfl (gS rfl g0))) (gS rfl (gS rfl g0)) (gS rfl g0) (fun g => ?_)
          refine c_seq (fun K50 hK50 => ?_)
          refine c_region ?_
          refine l_step (y_moveV (et g0 rfl)) ?_
          refine l_step (y_not (et g0 rfl)) ?_
          refine l_nil ?_
          refine hK50 _ _ ?_
          refine fg11 0 2 3 5 8 9 18 19 20 11 67 (gS rfl (gS rfl (gS rfl (gS rfl (gS rfl (gS rfl (gS rfl (gS rfl (gS rfl (gS rfl (gS rfl (gS rfl g0)))))))))))) (gS rfl (gS rfl (gS rfl (gS rfl (gS rfl (gS rfl (gS rfl (gS rfl (gS rfl (gS rfl (gS rfl g0))))))))))) (gS rfl (gS rfl (gS rfl (gS rfl (gS rfl (gS rfl (gS rfl (gS rfl (gS rfl (gS rfl g0)))))))))) (gS rfl (gS rfl (gS rfl (gS rfl (gS rfl (gS rfl (gS rfl (gS rfl (gS rfl g0))))))))) (gS rfl (gS rfl (gS rfl (gS rfl (gS rfl (gS rfl (gS rfl (gS rfl g0)))))))) (gS rfl (gS rfl (gS rfl (gS rfl (gS rfl (gS rfl (gS rfl g0))))))) (gS rfl (gS rfl (gS rfl (gS rfl (gS rfl (gS rfl g0)))))) (gS rfl (gS rfl (gS rfl (gS rfl (gS rfl g0))))) (gS rfl (gS rfl (gS rfl (gS rfl g0)))) (gS rfl (gS rfl (gS rfl g0))) g0 (fun g => ?_)
          refine c_cond (et g0 rfl) (fun cB3 => ?_) (fun cB3 => ?_)
          · skip
            
            have hsm : saT a key xs[i] = false := by unfold saT; rw [decide_eq_true hA]; simpa using cB3
            refine c_region ?_
            refine l_step (y_moveV (et (gS rfl (gS rfl (gS rfl (gS rfl (gS rfl (gS rfl g0)))))) rfl)) ?_
            refine l_step (y_loadB agg_295 sz_295 (et (gS rfl (gS rfl g0)) rfl) (by rw [List.size_toArray, len22]) (at1B k16)) ?_
            refine l_eff (e_slice1 Hvaa.underlying96 sz_295 zr_295 rfl (by decide) (et g0 rfl) (by rw [show (Value.agg ((bL (be 20 xs[i].1) ++ [vk1, vv1])).toArray).cells = ((bL (be 20 xs[i].1) ++ [vk1, vv1])).toArray from rfl, List.size_toArray, len22])) (fun v52 w52 h52 => ?_)
            obtain ⟨b52, rfl, n52⟩ := h52
            replace k2 := k2.up n52.up
            replace k16 := k16.up n52.up
            replace hF := hF.up n52.up
            replace kS := kS.up n52.up
            replace hO := hO.up n52.up
            replace U := U.tr n52.up
            replace V9 := V9.tr n52.up
            have kq52 : Blk w52 b52 ((bL (be 20 xs[i].1) ++ [vk1, vv1])).toArray := n52.blk
            have hbz : base ≤ w52.heap.size := by have := k16.lt; omega
            refine l_eff (e_appL Hvaa.underlying96 sz_295 zr_295 by_295 rfl (by decide) (et (gS rfl (gS rfl g0)) rfl) hO (et g0 rfl) len22 kq52 hPo hP (by decide) (by first | omega | (simp; omega)) hbz) (fun v53 w53 h53 => ?_)
            obtain ⟨hO53, c53, hown53⟩ := h53
            have hOo := hO
            replace k2 := k2.ch c53 (by first | omega | exact hOo.ne (by omega) | assumption | (intro q hq; exact hOo.ne (by have := hF0.lt hq; omega)))
            replace k16 := k16.ch c53 (by first | omega | exact hOo.ne (by omega) | assumption | (intro q hq; exact hOo.ne (by have := hF0.lt hq; omega)))
            replace hF := hF.ch c53 (by first | omega | (intro q hq e; have := hF0.lt hq; omega) | (intro q hq e; exact hOo.ne (by have := hF0.lt hq; omega) e) | (intro q hq e; exact nbS (e ▸ hq)))
            replace kS := kS.ch c53 (by first | omega | exact hOo.ne (by omega))
            replace hO := hO53
            replace V9 := V9.cc c53 (by intro b hb; first | omega | (simp at hb ⊢; omega) | (have := hOo.lim b hb.symm; omega))
            replace U := U.cc c53 (by intro b hb; first | (have := hOo.lim b hb.symm; omega) | omega | exact .inl hb | exact .inr (hb ▸ U))
            refine l_step (y_assignV (et g0 rfl)) ?_
            refine l_nil ?_
            refine hQ14 _ _ _ (in_normal ?_)
            refine hK13 _ _ ?_
            refine fg9 0 2 3 5 8 9 18 19 20 (gS rfl (gS rfl (gS rfl (gS rfl (gS rfl (gS rfl (gS rfl (gS rfl (gS rfl (gS rfl (gS rfl (gS rfl (gS rfl (gS rfl (gS rfl g0))))))))))))))) (gS rfl (gS rfl (gS rfl (gS rfl (gS rfl (gS rfl (gS rfl (gS rfl (gS rfl (gS rfl (gS rfl (gS rfl (gS rfl (gS rfl g0)))))))))))))) (gS rfl (gS rfl (gS rfl (gS rfl (gS rfl (gS rfl (gS rfl (gS rfl (gS rfl (gS rfl (gS rfl (gS rfl (gS rfl g0))))))))))))) (gS rfl (gS rfl (gS rfl (gS rfl (gS rfl (gS rfl (gS rfl (gS rfl (gS rfl (gS rfl (gS rfl (gS rfl g0)))))))))))) g0 (gS rfl (gS rfl (gS rfl (gS rfl (gS rfl (gS rfl (gS rfl (gS rfl (gS rfl (gS rfl g0)))))))))) (gS rfl (gS rfl (gS rfl (gS rfl (gS rfl (gS rfl (gS rfl (gS rfl (gS rfl g0))))))))) (gS rfl (gS rfl (gS rfl (gS rfl (gS rfl (gS rfl (gS rfl (gS rfl g0)))))))) (gS rfl (gS rfl (gS rfl (gS rfl (gS rfl (gS rfl (gS rfl g0))))))) (fun g => ?_)
            refine c_region ?_
            refine l_step (y_add (et g0 rfl) rfl (addIN (y := 1) ?_)) ?_
            omega
            refine l_step (y_moveV (et g0 rfl)) ?_
            refine l_nil ?_
            refine fK9 0 2 3 5 8 9 18 19 20 (gS rfl (gS rfl (gS rfl (gS rfl (gS rfl (gS rfl (gS rfl (gS rfl (gS rfl (gS rfl g0)))))))))) (gS rfl (gS rfl (gS rfl (gS rfl (gS rfl (gS rfl (gS rfl (gS rfl (gS rfl g0))))))))) (gS rfl (gS rfl (gS rfl (gS rfl (gS rfl (gS rfl (gS rfl (gS rfl g0)))))))) (gS rfl (gS rfl (gS rfl (gS rfl (gS rfl (gS rfl (gS rfl g0))))))) (gS rfl (gS rfl (gS rfl (gS rfl (gS rfl (gS rfl g0)))))) (gS rfl (gS rfl (gS rfl (gS rfl (gS rfl g0))))) (gS rfl (gS rfl (gS rfl (gS rfl g0)))) (gS rfl (gS rfl (gS rfl g0))) g0 (fun g => ?_)
            exact hK9 (xs.length - ((i + 1))) _ _ (by omega) ⟨g, _, lb, (O ++ [xs[i]]), (i + 1), rfl, rfl, by omega, hO, by simp; omega, pass_step hfin (by first | exact .inl hlb | exact .inr hcd) hsm, V9⟩
          · skip
            
            have hsm : saT a key xs[i] = true := by unfold saT; rw [decide_eq_true hA]; simpa using cB3
            refine c_skip ?_
            refine hQ14 _ _ _ (in_normal ?_)
            refine hK13 _ _ ?_
            refine fg9 0 2 3 5 8 9 18 19 20 (gS rfl (gS rfl (gS rfl (gS rfl (gS rfl (gS rfl (gS rfl (gS rfl (gS rfl (gS rfl g0)))))))))) (gS rfl (gS rfl (gS rfl (gS rfl (gS rfl (gS rfl (gS rfl (gS rfl (gS rfl g0))))))))) (gS rfl (gS rfl (gS rfl (gS rfl (gS rfl (gS rfl (gS rfl (gS rfl g0)))))))) (gS rfl (gS rfl (gS rfl (gS rfl (gS rfl (gS rfl (gS rfl g0))))))) (gS rfl (gS rfl (gS rfl (gS rfl (gS rfl (gS rfl g0)))))) (gS rfl (gS rfl (gS rfl (gS rfl (gS rfl g0))))) (gS rfl (gS rfl (gS rfl (gS rfl g0)))) (gS rfl (gS rfl (gS rfl g0))) (gS rfl (gS rfl g0)) (fun g => ?_)
            refine c_region ?_
            refine l_step (y_add (et g0 rfl) rfl (addIN (y := 1) ?_)) ?_
            omega
            refine l_step (y_moveV (et g0 rfl)) ?_
            refine l_nil ?_
            refine fK9 0 2 3 5 8 9 18 19 20 (gS rfl (gS rfl (gS rfl (gS rfl (gS rfl (gS rfl (gS rfl (gS rfl (gS rfl (gS rfl g0)))))))))) (gS rfl (gS rfl (gS rfl (gS rfl (gS rfl (gS rfl (gS rfl (gS rfl (gS rfl g0))))))))) (gS rfl (gS rfl (gS rfl (gS rfl (gS rfl (gS rfl (gS rfl (gS rfl g0)))))))) (gS rfl (gS rfl (gS rfl (gS rfl (gS rfl (gS rfl (gS rfl g0))))))) (gS rfl (gS rfl (gS rfl (gS rfl (gS rfl (gS rfl g0)))))) (gS rfl (gS rfl (gS rfl (gS rfl (gS rfl g0))))) (gS rfl (gS rfl (gS rfl (gS rfl g0)))) (gS rfl (gS rfl (gS rfl g0))) g0 (fun g => ?_)
            exact hK9 (xs.length - ((i + 1))) _ _ (by omega) ⟨g, _, lb, O, (i + 1), rfl, rfl, by omega, hO.mono (by have := k16.lt; omega), by omega, skip_step hfin hlb hsm, V9⟩
      · skip
        have h28 := q19
        have hA : xs[i].1 ≠ a := of_decide_eq_false q19
        have hsm : saT a key xs[i] = false := by unfold saT; rw [h28]; rfl
        refine l_gskip (j := 4) (t := 28) (by exact rfl) (by exact rfl) (et g0 rfl) (by decide) (by decide) ?_
        refine l_gskip (j := 4) (t := 28) (by exact rfl) (by exact rfl) (et (gS rfl g0) rfl) (by decide) (by decide) ?_
        refine l_gskip (j := 4) (t := 28) (by exact rfl) (by exact rfl) (et (gS rfl (gS rfl g0)) rfl) (by decide) (by decide) ?_
        refine l_gskip (j := 4) (t := 28) (by exact rfl) (by exact rfl) (et (gS rfl (gS rfl (gS rfl g0))) rfl) (by decide) (by decide) ?_
        refine l_gskip (j := 4) (t := 28) (by exact rfl) (by exact rfl) (et (gS rfl (gS rfl (gS rfl (gS rfl g0)))) rfl) (by decide) (by decide) ?_
        refine l_step (y_pickF (et (gS rfl (gS rfl (gS rfl (gS rfl (gS rfl g0))))) rfl) rfl) ?_
        refine l_step (y_assignV (et g0 rfl)) ?_
        refine l_nil ?_
        refine hK18 _ _ ?_
        refine fg11 0 2 3 5 8 9 18 19 20 11 12 (gS rfl (gS rfl (gS rfl (gS rfl (gS rfl (gS rfl (gS rfl (gS rfl (gS rfl (gS rfl (gS rfl (gS rfl (gS rfl (gS rfl (gS rfl (gS rfl (gS rfl (gS rfl (gS rfl (gS rfl (gS rfl (gS rfl g0)))))))))))))))))))))) (gS rfl (gS rfl (gS rfl (gS rfl (gS rfl (gS rfl (gS rfl (gS rfl (gS rfl (gS rfl (gS rfl (gS rfl (gS rfl (gS rfl (gS rfl (gS rfl (gS rfl (gS rfl (gS rfl (gS rfl (gS rfl g0))))))))))))))))))))) (gS rfl (gS rfl (gS rfl (gS rfl (gS rfl (gS rfl (gS rfl (gS rfl (gS rfl (gS rfl (gS rfl (gS rfl (gS rfl (gS rfl (gS rfl (gS rfl (gS rfl (gS rfl (gS rfl (gS rfl g0)))))))))))))))))))) (gS rfl (gS rfl (gS rfl (gS rfl (gS rfl (gS rfl (gS rfl (gS rfl (gS rfl (gS rfl (gS rfl (gS rfl (gS rfl (gS rfl (gS rfl (gS rfl (gS rfl (gS rfl (gS rfl g0))))))))))))))))))) (gS rfl (gS rfl (gS rfl (gS rfl (gS rfl (gS rfl (gS rfl (gS rfl (gS rfl (gS rfl (gS rfl (gS rfl (gS rfl (gS rfl (gS rfl (gS rfl (gS rfl (gS rfl g0)))))))))))))))))) (gS rfl (gS rfl (gS rfl (gS rfl (gS rfl (gS rfl (gS rfl (gS rfl (gS rfl (gS rfl (gS rfl (gS rfl (gS rfl (gS rfl (gS rfl (gS rfl (gS rfl g0))))))))))))))))) (gS rfl (gS rfl (gS rfl (gS rfl (gS rfl (gS rfl (gS rfl (gS rfl (gS rfl (gS rfl (gS rfl (gS rfl (gS rfl (gS rfl (gS rfl (gS rfl g0)))))))))))))))) (gS rfl (gS rfl (gS rfl (gS rfl (gS rfl (gS rfl (gS rfl (gS rfl (gS rfl (gS rfl (gS rfl (gS rfl (gS rfl (gS rfl (gS rfl g0))))))))))))))) (gS rfl (gS rfl (gS rfl (gS rfl (gS rfl (gS rfl (gS rfl (gS rfl (gS rfl (gS rfl (gS rfl (gS rfl (gS rfl (gS rfl g0)))))))))))))) (gS rfl (gS rfl (gS rfl (gS rfl (gS rfl (gS rfl (gS rfl (gS rfl (gS rfl (gS rfl (gS rfl (gS rfl (gS rfl g0))))))))))))) g0 (fun g => ?_)
        refine c_seq (fun K54 hK54 => ?_)
        refine c_seq (fun K55 hK55 => ?_)
        refine c_region ?_
        refine l_step (y_moveV (et (gS rfl (gS rfl (gS rfl (gS rfl (gS rfl g0))))) rfl)) ?_
        refine l_step (y_not (et g0 rfl)) ?_
        refine l_step (y_moveV (et g0 rfl)) ?_
        refine gsplitL (i := 37) g0 (fun q56 => ?_) (fun q56 => ?_)
        · skip
          have hlb : lb = false := by simpa using q56
          refine l_gstep (j := 2) (t := 37) (by exact rfl) (by exact rfl) (et g0 rfl) (by decide) (y_moveV (et (gS rfl (gS rfl (gS rfl (gS rfl g0)))) rfl)) ?_
          refine l_gstep (j := 2) (t := 37) (by exact rfl) (by exact rfl) (et (gS rfl g0) rfl) (by decide) (y_moveV (et g0 rfl)) ?_
          refine l_gstep (j := 4) (t := 39) (by exact rfl) (by exact rfl) (et g0 rfl) (by decide) (y_loadB agg_25 sz_25 (et (gS rfl (gS rfl (gS rfl (gS rfl (gS rfl (gS rfl (gS rfl (gS rfl (gS rfl (gS rfl (gS rfl (gS rfl (gS rfl g0))))))))))))) rfl) (by first | (simp only [Value.cells, hV, aV, bV, wV, wL, List.size_toArray, length_bL, length_uL, length_be, size_spl, List.length_cons, List.length_nil, List.length_replicate, Nat.zero_add, Nat.reduceAdd, Nat.reduceLeDiff, Nat.le_refl]; done) | rfl) (at1B k2)) ?_
          refine l_gstep (j := 4) (t := 39) (by exact rfl) (by exact rfl) (et (gS rfl g0) rfl) (by decide) (y_fld fld_295_0 (et (gS rfl (gS rfl (gS rfl (gS rfl (gS rfl (gS rfl (gS rfl (gS rfl g0)))))))) rfl)) ?_
          refine l_gstep (j := 4) (t := 39) (by exact rfl) (by exact rfl) (et (gS rfl (gS rfl g0)) rfl) (by decide) (y_loadR agg_25 sz_25 (et g0 rfl) (by rw [length_bL, length_be]) (at1R (k16.row addr_row))) ?_
          refine l_geff (j := 4) (t := 39) (by exact rfl) (by exact rfl) (et (gS rfl (gS rfl (gS rfl g0))) rfl) rfl (e_callV cal_130 (aC (et (gS rfl (gS rfl g0)) rfl) (aC (et g0 rfl) aN)) (yp_before a xs[i].1 _ ha hal)) (fun v57 w57 h57 => ?_)
          obtain ⟨rfl, u57⟩ := h57
          replace k2 := k2.up u57
          replace k16 := k16.up u57
          replace hF := hF.up u57
          replace kS := kS.up u57
          replace hO := hO.up u57
          replace U := U.tr u57
          replace V9 := V9.tr u57
          refine l_gstep (j := 2) (t := 37) (by exact rfl) (by exact rfl) (et (gS rfl (gS rfl (gS rfl (gS rfl (gS rfl (gS rfl g0)))))) rfl) (by decide) (y_pickF (et (gS rfl (gS rfl (gS rfl (gS rfl g0)))) rfl) (et g0 rfl)) ?_
          refine l_gstep (j := 2) (t := 37) (by exact rfl) (by exact rfl) (et (gS rfl (gS rfl (gS rfl (gS rfl (gS rfl (gS rfl (gS rfl g0))))))) rfl) (by decide) (y_moveV (et g0 rfl)) ?_
          refine gsplitL (i := 45) g0 (fun q58 => ?_) (fun q58 => ?_)
          · skip
            have h45 := q58
            have hcd : (saT a key xs[i] || ltT a key xs[i]) = true := by unfold ltT; rw [h45]; simp
            refine l_gskip (j := 10) (t := 45) (by exact rfl) (by exact rfl) (et g0 rfl) (by decide) (by decide) ?_
            refine l_gskip (j := 10) (t := 45) (by exact rfl) (by exact rfl) (et (gS rfl g0) rfl) (by decide) (by decide) ?_
            refine l_gskip (j := 10) (t := 45) (by exact rfl) (by exact rfl) (et (gS rfl (gS rfl g0)) rfl) (by decide) (by decide) ?_
            refine l_gskip (j := 10) (t := 45) (by exact rfl) (by exact rfl) (et (gS rfl (gS rfl (gS rfl g0))) rfl) (by decide) (by decide) ?_
            refine l_gskip (j := 10) (t := 45) (by exact rfl) (by exact rfl) (et (gS rfl (gS rfl (gS rfl (gS rfl g0)))) rfl) (by decide) (by decide) ?_
            refine l_uskip (j := 15) (t := 50) (by exact rfl) (by exact rfl) (et g0 rfl) rfl ?_
            refine l_uskip (j := 15) (t := 50) (by exact rfl) (by exact rfl) (et (gS rfl g0) rfl) rfl ?_
            refine l_uskip (j := 15) (t := 50) (by exact rfl) (by exact rfl) (et (gS rfl (gS rfl g0)) rfl) rfl ?_
            refine l_uskip (j := 15) (t := 50) (by exact rfl) (by exact rfl) (et (gS rfl (gS rfl (gS rfl g0))) rfl) rfl ?_
            refine l_uskip (j := 15) (t := 50) (by exact rfl) (by exact rfl) (et (gS rfl (gS rfl (gS rfl (gS rfl g0)))) rfl) rfl ?_
            refine l_gskip (j := 10) (t := 45) (by exact rfl) (by exact rfl) (et (gS rfl (gS rfl (gS rfl (gS rfl (gS rfl (gS rfl (gS rfl (gS rfl (gS rfl (gS rfl g0)))))))))) rfl) (by decide) (by decide) ?_
            refine l_gstep (j := 2) (t := 37) (by exact rfl) (by exact rfl) (et (gS rfl (gS rfl (gS rfl (gS rfl (gS rfl (gS rfl (gS rfl (gS rfl (gS rfl (gS rfl (gS rfl (gS rfl (gS rfl (gS rfl (gS rfl (gS rfl (gS rfl (gS rfl (gS rfl (gS rfl g0)))))))))))))))))))) rfl) (by decide) (y_pickT (et (gS rfl (gS rfl (gS rfl (gS rfl (gS rfl (gS rfl (gS rfl (gS rfl (gS rfl (gS rfl (gS rfl g0))))))))))) rfl) rfl) ?_
            refine l_step (y_pickT (et (gS rfl (gS rfl (gS rfl (gS rfl (gS rfl (gS rfl (gS rfl (gS rfl (gS rfl (gS rfl (gS rfl (gS rfl (gS rfl (gS rfl (gS rfl (gS rfl (gS rfl (gS rfl (gS rfl (gS rfl (gS rfl g0))))))))))))))))))))) rfl) (et g0 rfl)) ?_
            refine l_nil ?_
            refine hK55 _ _ ?_
            refine fg12 0 2 3 5 8 9 18 19 20 11 12 58 (gS rfl (gS rfl (gS rfl (gS rfl (gS rfl (gS rfl (gS rfl (gS rfl (gS rfl (gS rfl (gS rfl (gS rfl (gS rfl (gS rfl (gS rfl (gS rfl (gS rfl (gS rfl (gS rfl (gS rfl (gS rfl (gS rfl (gS rfl (gS rfl (gS rfl (gS rfl (gS rfl (gS rfl (gS rfl (gS rfl (gS rfl (gS rfl (gS rfl (gS rfl (gS rfl (gS rfl g0)))))))))))))))))))))))))))))))))))) (gS rfl (gS rfl (gS rfl (gS rfl (gS rfl (gS rfl (gS rfl (gS rfl (gS rfl (gS rfl (gS rfl (gS rfl (gS rfl (gS rfl (gS rfl (gS rfl (gS rfl (gS rfl (gS rfl (gS rfl (gS rfl (gS rfl (gS rfl (gS rfl (gS rfl (gS rfl (gS rfl (gS rfl (gS rfl (gS rfl (gS rfl (gS rfl (gS rfl (gS rfl (gS rfl g0))))))))))))))))))))))))))))))))))) (gS rfl (gS rfl (gS rfl (gS rfl (gS rfl (gS rfl (gS rfl (gS rfl (gS rfl (gS rfl (gS rfl (gS rfl (gS rfl (gS rfl (gS rfl (gS rfl (gS rfl (gS rfl (gS rfl (gS rfl (gS rfl (gS rfl (gS rfl (gS rfl (gS rfl (gS rfl (gS rfl (gS rfl (gS rfl (gS rfl (gS rfl (gS rfl (gS rfl (gS rfl g0)))))))))))))))))))))))))))))))))) (gS rfl (gS rfl (gS rfl (gS rfl (gS rfl (gS rfl (gS rfl (gS rfl (gS rfl (gS rfl (gS rfl (gS rfl (gS rfl (gS rfl (gS rfl (gS rfl (gS rfl (gS rfl (gS rfl (gS rfl (gS rfl (gS rfl (gS rfl (gS rfl (gS rfl (gS rfl (gS rfl (gS rfl (gS rfl (gS rfl (gS rfl (gS rfl (gS rfl g0))))))))))))))))))))))))))))))))) (gS rfl (gS rfl (gS rfl (gS rfl (gS rfl (gS rfl (gS rfl (gS rfl (gS rfl (gS rfl (gS rfl (gS rfl (gS rfl (gS rfl (gS rfl (gS rfl (gS rfl (gS rfl (gS rfl (gS rfl (gS rfl (gS rfl (gS rfl (gS rfl (gS rfl (gS rfl (gS rfl (gS rfl (gS rfl (gS rfl (gS rfl (gS rfl g0)))))))))))))))))))))))))))))))) (gS rfl (gS rfl (gS rfl (gS rfl (gS rfl (gS rfl (gS rfl (gS rfl (gS rfl (gS rfl (gS rfl (gS rfl (gS rfl (gS rfl (gS rfl (gS rfl (gS rfl (gS rfl (gS rfl (gS rfl (gS rfl (gS rfl (gS rfl (gS rfl (gS rfl (gS rfl (gS rfl (gS rfl (gS rfl (gS rfl (gS rfl g0))))))))))))))))))))))))))))))) (gS rfl (gS rfl (gS rfl (gS rfl (gS rfl (gS rfl (gS rfl (gS rfl (gS rfl (gS rfl (gS rfl (gS rfl (gS rfl (gS rfl (gS rfl (gS rfl (gS rfl (gS rfl (gS rfl (gS rfl (gS rfl (gS rfl (gS rfl (gS rfl (gS rfl (gS rfl (gS rfl (gS rfl (gS rfl (gS rfl g0)))))))))))))))))))))))))))))) (gS rfl (gS rfl (gS rfl (gS rfl (gS rfl (gS rfl (gS rfl (gS rfl (gS rfl (gS rfl (gS rfl (gS rfl (gS rfl (gS rfl (gS rfl (gS rfl (gS rfl (gS rfl (gS rfl (gS rfl (gS rfl (gS rfl (gS rfl (gS rfl (gS rfl (gS rfl (gS rfl (gS rfl (gS rfl g0))))))))))))))))))))))))))))) (gS rfl (gS rfl (gS rfl (gS rfl (gS rfl (gS rfl (gS rfl (gS rfl (gS rfl (gS rfl (gS rfl (gS rfl (gS rfl (gS rfl (gS rfl (gS rfl (gS rfl (gS rfl (gS rfl (gS rfl (gS rfl (gS rfl (gS rfl (gS rfl (gS rfl (gS rfl (gS rfl (gS rfl g0)))))))))))))))))))))))))))) (gS rfl (gS rfl (gS rfl (gS rfl (gS rfl (gS rfl (gS rfl (gS rfl (gS rfl (gS rfl (gS rfl (gS rfl (gS rfl (gS rfl (gS rfl (gS rfl (gS rfl (gS rfl (gS rfl (gS rfl (gS rfl (gS rfl (gS rfl (gS rfl (gS rfl (gS rfl (gS rfl g0))))))))))))))))))))))))))) (gS rfl (gS rfl (gS rfl (gS rfl (gS rfl (gS rfl (gS rfl (gS rfl (gS rfl (gS rfl (gS rfl (gS rfl (gS rfl (gS rfl (gS rfl (gS rfl (gS rfl (gS rfl (gS rfl (gS rfl (gS rfl (gS rfl (gS rfl (gS rfl (gS rfl (gS rfl g0)))))))))))))))))))))))))) g0 (fun g => ?_)
            refine c_true (et g0 rfl) rfl ?_
            refine c_seq (fun K60 hK60 => ?_)
            refine c_region ?_
            refine l_step (y_moveV (et (gS rfl (gS rfl (gS rfl (gS rfl (gS rfl (gS rfl (gS rfl g0))))))) rfl)) ?_
            refine l_step (y_loadB agg_25 sz_25 (et (gS rfl (gS rfl (gS rfl (gS rfl (gS rfl (gS rfl (gS rfl (gS rfl (gS rfl g0))))))))) rfl) (by first | (simp only [Value.cells, hV, aV, bV, wV, wL, List.size_toArray, length_bL, length_uL, length_be, size_spl, List.length_cons, List.length_nil, List.length_replicate, Nat.zero_add, Nat.reduceAdd, Nat.reduceLeDiff, Nat.le_refl]; done) | rfl) (at1B k2)) ?_
            refine l_step (y_moveV (et (gS rfl (gS rfl (gS rfl (gS rfl (gS rfl (gS rfl (gS rfl (gS rfl (gS rfl (gS rfl (gS rfl (gS rfl g0)))))))))))) rfl)) ?_
            refine l_step (y_moveV (et (gS rfl (gS rfl (gS rfl (gS rfl (gS rfl (gS rfl (gS rfl (gS rfl (gS rfl (gS rfl (gS rfl (gS rfl g0)))))))))))) rfl)) ?_
            have hb61 : ∀ w, (Instr.build 295 ([(0, (Value.agg (bL (be 20 a)).toArray)), (1, vk), (2, vv)] : List (Nat × Value)).toArray).run Hvaa.prog w = .ok (.agg ([(bL (be 20 a)), ([vk]), ([vv])] : List (List Value)).flatten.toArray) w := bld_run zr_295 plc_295 (fill_flat (off := 0) (k := 20) (f := (List.replicate 20 (.int .u8 0))) (c := bL (be 20 a)) (v := (Value.agg (bL (be 20 a)).toArray)) rfl rfl (by first | (simp [length_bL, length_be, length_uL]; done) | rfl) (by first | rfl | (simp [length_bL, length_be, length_uL]; done)) rfl (by first | (simp [length_bL, length_be, length_uL]; done) | rfl) (fill_flat (off := 20) (k := 1) (f := [.slice none 0 0]) (c := [vk]) (v := vk) rfl (cells_one hK.one1) (by first | (simp [length_bL, length_be, length_uL]; done) | rfl) (by first | (simp [length_bL, length_be, length_uL]; done) | rfl) rfl (by first | (simp [length_bL, length_be, length_uL]; done) | rfl) (fill_flat (off := 21) (k := 1) (f := [.slice none 0 0]) (c := [vv]) (v := vv) rfl (cells_one hV.one1) (by first | (simp [length_bL, length_be, length_uL]; done) | rfl) (by first | (simp [length_bL, length_be, length_uL]; done) | rfl) rfl (by first | (simp [length_bL, length_be, length_uL]; done) | rfl) (fill_nil _ _))))
            refine l_step ((y_bld (bC (et (gS rfl (gS rfl g0)) rfl) (bC (et (gS rfl g0) rfl) (bC (et g0 rfl) bN))) hb61).to (congrArg (fun l : List Value => Value.agg l.toArray) (show _ = bL (be 20 a) ++ [vk, vv] by simp))) ?_
            refine l_eff (e_slice1 Hvaa.underlying96 sz_295 zr_295 rfl (by decide) (et g0 rfl) (by rw [show (Value.agg ((bL (be 20 a) ++ [vk, vv])).toArray).cells = ((bL (be 20 a) ++ [vk, vv])).toArray from rfl, List.size_toArray, len22])) (fun v62 w62 h62 => ?_)
            obtain ⟨b62, rfl, n62⟩ := h62
            replace k2 := k2.up n62.up
            replace k16 := k16.up n62.up
            replace hF := hF.up n62.up
            replace kS := kS.up n62.up
            replace hO := hO.up n62.up
            replace U := U.tr n62.up
            replace V9 := V9.tr n62.up
            have kq62 : Blk w62 b62 ((bL (be 20 a) ++ [vk, vv])).toArray := n62.blk
            have hbz : base ≤ w62.heap.size := by have := k16.lt; omega
            refine l_eff (e_appL Hvaa.underlying96 sz_295 zr_295 by_295 rfl (by decide) (et (gS rfl (gS rfl (gS rfl (gS rfl (gS rfl g0))))) rfl) hO (et g0 rfl) len22 kq62 (one_app (one_two hK.one1 hV.one1)) (tri_cells hK hV ha (W_bd hkb) (W_bd hvb)) (by decide) (by first | omega | (simp; omega)) hbz) (fun v63 w63 h63 => ?_)
            obtain ⟨hO63, c63, hown63⟩ := h63
            have hOo := hO
            have nO11 := hown63 _ k16.lt (hO.ne (by omega))
            replace k2 := k2.ch c63 (by first | omega | exact hOo.ne (by omega) | assumption | (intro q hq; exact hOo.ne (by have := hF0.lt hq; omega)))
            replace k16 := k16.ch c63 (by first | omega | exact hOo.ne (by omega) | assumption | (intro q hq; exact hOo.ne (by have := hF0.lt hq; omega)))
            replace hF := hF.ch c63 (by first | omega | (intro q hq e; have := hF0.lt hq; omega) | (intro q hq e; exact hOo.ne (by have := hF0.lt hq; omega) e) | (intro q hq e; exact nbS (e ▸ hq)))
            replace kS := kS.ch c63 (by first | omega | exact hOo.ne (by omega))
            replace hO := hO63
            replace V9 := V9.cc c63 (by intro b hb; first | omega | (simp at hb ⊢; omega) | (have := hOo.lim b hb.symm; omega))
            replace U := U.cc c63 (by intro b hb; first | (have := hOo.lim b hb.symm; omega) | omega | exact .inl hb | exact .inr (hb ▸ U))
            refine l_step (y_assignV (et g0 rfl)) ?_
            refine l_nil ?_
            refine hK60 _ _ ?_
            refine fg10 0 2 3 5 8 18 19 20 11 12 (gS rfl (gS rfl (gS rfl (gS rfl (gS rfl (gS rfl (gS rfl (gS rfl (gS rfl (gS rfl (gS rfl (gS rfl (gS rfl (gS rfl (gS rfl (gS rfl (gS rfl (gS rfl (gS rfl g0))))))))))))))))))) (gS rfl (gS rfl (gS rfl (gS rfl (gS rfl (gS rfl (gS rfl (gS rfl (gS rfl (gS rfl (gS rfl (gS rfl (gS rfl (gS rfl (gS rfl (gS rfl (gS rfl (gS rfl g0)))))))))))))))))) (gS rfl (gS rfl (gS rfl (gS rfl (gS rfl (gS rfl (gS rfl (gS rfl (gS rfl (gS rfl (gS rfl (gS rfl (gS rfl (gS rfl (gS rfl (gS rfl (gS rfl g0))))))))))))))))) (gS rfl (gS rfl (gS rfl (gS rfl (gS rfl (gS rfl (gS rfl (gS rfl (gS rfl (gS rfl (gS rfl (gS rfl (gS rfl (gS rfl (gS rfl (gS rfl g0)))))))))))))))) g0 (gS rfl (gS rfl (gS rfl (gS rfl (gS rfl (gS rfl (gS rfl (gS rfl (gS rfl (gS rfl (gS rfl (gS rfl (gS rfl g0))))))))))))) (gS rfl (gS rfl (gS rfl (gS rfl (gS rfl (gS rfl (gS rfl (gS rfl (gS rfl (gS rfl (gS rfl (gS rfl g0)))))))))))) (gS rfl (gS rfl (gS rfl (gS rfl (gS rfl (gS rfl (gS rfl (gS rfl (gS rfl (gS rfl (gS rfl g0))))))))))) (gS rfl (gS rfl (gS rfl (gS rfl (gS rfl (gS rfl (gS rfl (gS rfl (gS rfl (gS rfl g0)))))))))) (gS rfl (gS rfl (gS rfl (gS rfl (gS rfl (gS rfl (gS rfl (gS rfl (gS rfl g0))))))))) (fun g => ?_)
            refine c_region ?_
            refine l_step y_assignC ?_
            refine l_nil ?_
            refine hK54 _ _ ?_
            refine c_seq (fun K64 hK64 => ?_)
            refine c_region ?_
            refine l_step (y_moveV (et (gS rfl g0) rfl)) ?_
            refine l_step (y_not (et g0 rfl)) ?_
            refine l_nil ?_
            refine hK64 _ _ ?_
            refine fg11 0 2 3 5 8 18 19 20 11 9 67 (gS rfl (gS rfl (gS rfl (gS rfl (gS rfl (gS rfl (gS rfl (gS rfl (gS rfl (gS rfl (gS rfl (gS rfl g0)))))))))))) (gS rfl (gS rfl (gS rfl (gS rfl (gS rfl (gS rfl (gS rfl (gS rfl (gS rfl (gS rfl (gS rfl g0))))))))))) (gS rfl (gS rfl (gS rfl (gS rfl (gS rfl (gS rfl (gS rfl (gS rfl (gS rfl (gS rfl g0)))))))))) (gS rfl (gS rfl (gS rfl (gS rfl (gS rfl (gS rfl (gS rfl (gS rfl (gS rfl g0))))))))) (gS rfl (gS rfl (gS rfl (gS rfl (gS rfl (gS rfl (gS rfl (gS rfl g0)))))))) (gS rfl (gS rfl (gS rfl (gS rfl (gS rfl (gS rfl (gS rfl g0))))))) (gS rfl (gS rfl (gS rfl (gS rfl (gS rfl (gS rfl g0)))))) (gS rfl (gS rfl (gS rfl (gS rfl (gS rfl g0))))) (gS rfl (gS rfl (gS rfl (gS rfl g0)))) (gS rfl (gS rfl g0)) g0 (fun g => ?_)
            refine c_true (et g0 rfl) rfl ?_
            refine c_region ?_
            refine l_step (y_moveV (et (gS rfl (gS rfl (gS rfl (gS rfl (gS rfl (gS rfl g0)))))) rfl)) ?_
            refine l_step (y_loadB agg_295 sz_295 (et (gS rfl (gS rfl (gS rfl g0))) rfl) (by rw [List.size_toArray, len22]) (at1B k16)) ?_
            refine l_eff (e_slice1 Hvaa.underlying96 sz_295 zr_295 rfl (by decide) (et g0 rfl) (by rw [show (Value.agg ((bL (be 20 xs[i].1) ++ [vk1, vv1])).toArray).cells = ((bL (be 20 xs[i].1) ++ [vk1, vv1])).toArray from rfl, List.size_toArray, len22])) (fun v66 w66 h66 => ?_)
            obtain ⟨b66, rfl, n66⟩ := h66
            replace k2 := k2.up n66.up
            replace k16 := k16.up n66.up
            replace hF := hF.up n66.up
            replace kS := kS.up n66.up
            replace hO := hO.up n66.up
            replace U := U.tr n66.up
            replace V9 := V9.tr n66.up
            have kq66 : Blk w66 b66 ((bL (be 20 xs[i].1) ++ [vk1, vv1])).toArray := n66.blk
            have hbz : base ≤ w66.heap.size := by have := k16.lt; omega
            refine l_eff (e_appL Hvaa.underlying96 sz_295 zr_295 by_295 rfl (by decide) (et (gS rfl (gS rfl g0)) rfl) hO (et g0 rfl) len22 kq66 hPo hP (by decide) (by first | omega | (simp; omega)) hbz) (fun v67 w67 h67 => ?_)
            obtain ⟨hO67, c67, hown67⟩ := h67
            have hOo := hO
            replace k2 := k2.ch c67 (by first | omega | exact hOo.ne (by omega) | assumption | (intro q hq; exact hOo.ne (by have := hF0.lt hq; omega)))
            replace k16 := k16.ch c67 (by first | omega | exact hOo.ne (by omega) | assumption | (intro q hq; exact hOo.ne (by have := hF0.lt hq; omega)))
            replace hF := hF.ch c67 (by first | omega | (intro q hq e; have := hF0.lt hq; omega) | (intro q hq e; exact hOo.ne (by have := hF0.lt hq; omega) e) | (intro q hq e; exact nbS (e ▸ hq)))
            replace kS := kS.ch c67 (by first | omega | exact hOo.ne (by omega))
            replace hO := hO67
            replace V9 := V9.cc c67 (by intro b hb; first | omega | (simp at hb ⊢; omega) | (have := hOo.lim b hb.symm; omega))
            replace U := U.cc c67 (by intro b hb; first | (have := hOo.lim b hb.symm; omega) | omega | exact .inl hb | exact .inr (hb ▸ U))
            refine l_step (y_assignV (et g0 rfl)) ?_
            refine l_nil ?_
            refine hQ14 _ _ _ (in_normal ?_)
            refine hK13 _ _ ?_
            refine fg9 0 2 3 5 8 18 19 20 9 (gS rfl (gS rfl (gS rfl (gS rfl (gS rfl (gS rfl (gS rfl (gS rfl (gS rfl (gS rfl (gS rfl (gS rfl (gS rfl (gS rfl (gS rfl g0))))))))))))))) (gS rfl (gS rfl (gS rfl (gS rfl (gS rfl (gS rfl (gS rfl (gS rfl (gS rfl (gS rfl (gS rfl (gS rfl (gS rfl (gS rfl g0)))))))))))))) (gS rfl (gS rfl (gS rfl (gS rfl (gS rfl (gS rfl (gS rfl (gS rfl (gS rfl (gS rfl (gS rfl (gS rfl (gS rfl g0))))))))))))) (gS rfl (gS rfl (gS rfl (gS rfl (gS rfl (gS rfl (gS rfl (gS rfl (gS rfl (gS rfl (gS rfl (gS rfl g0)))))))))))) g0 (gS rfl (gS rfl (gS rfl (gS rfl (gS rfl (gS rfl (gS rfl (gS rfl (gS rfl (gS rfl g0)))))))))) (gS rfl (gS rfl (gS rfl (gS rfl (gS rfl (gS rfl (gS rfl (gS rfl (gS rfl g0))))))))) (gS rfl (gS rfl (gS rfl (gS rfl (gS rfl (gS rfl (gS rfl (gS rfl g0)))))))) (gS rfl (gS rfl (gS rfl (gS rfl (gS rfl (gS rfl g0)))))) (fun g => ?_)
            refine c_region ?_
            refine l_step (y_add (et (gS rfl g0) rfl) rfl (addIN (y := 1) ?_)) ?_
            omega
            refine l_step (y_moveV (et g0 rfl)) ?_
            refine l_nil ?_
            refine fK9 0 2 3 5 8 9 18 19 20 (gS rfl (gS rfl (gS rfl (gS rfl (gS rfl (gS rfl (gS rfl (gS rfl (gS rfl (gS rfl g0)))))))))) (gS rfl (gS rfl (gS rfl (gS rfl (gS rfl (gS rfl (gS rfl (gS rfl (gS rfl g0))))))))) (gS rfl (gS rfl (gS rfl (gS rfl (gS rfl (gS rfl (gS rfl (gS rfl g0)))))))) (gS rfl (gS rfl (gS rfl (gS rfl (gS rfl (gS rfl (gS rfl g0))))))) (gS rfl (gS rfl (gS rfl (gS rfl (gS rfl (gS rfl g0)))))) (gS rfl (gS rfl g0)) (gS rfl (gS rfl (gS rfl (gS rfl (gS rfl g0))))) (gS rfl (gS rfl (gS rfl (gS rfl g0)))) g0 (fun g => ?_)
            exact hK9 (xs.length - ((i + 1))) _ _ (by omega) ⟨g, _, true, (O ++ [(a, key, val)] ++ [xs[i]]), (i + 1), rfl, rfl, by omega, hO, by rw [hlb] at hOl; simp at hOl ⊢; omega, put_keep (put_lay (by rw [hlb] at hfin; exact hfin) hcd) hsm, V9⟩
          · skip
            have h45 := q58
            refine l_gstep (j := 10) (t := 45) (by exact rfl) (by exact rfl) (et g0 rfl) (by decide) (y_loadB agg_25 sz_25 (et (gS rfl (gS rfl (gS rfl (gS rfl (gS rfl (gS rfl (gS rfl (gS rfl (gS rfl (gS rfl (gS rfl (gS rfl (gS rfl (gS rfl (gS rfl (gS rfl (gS rfl (gS rfl (gS rfl (gS rfl g0)))))))))))))))))))) rfl) (by first | (simp only [Value.cells, hV, aV, bV, wV, wL, List.size_toArray, length_bL, length_uL, length_be, size_spl, List.length_cons, List.length_nil, List.length_replicate, Nat.zero_add, Nat.reduceAdd, Nat.reduceLeDiff, Nat.le_refl]; done) | rfl) (at1B k2)) ?_
            refine l_gstep (j := 10) (t := 45) (by exact rfl) (by exact rfl) (et (gS rfl g0) rfl) (by decide) (y_fld fld_295_0 (et (gS rfl (gS rfl (gS rfl (gS rfl (gS rfl (gS rfl (gS rfl (gS rfl (gS rfl (gS rfl (gS rfl (gS rfl (gS rfl (gS rfl (gS rfl g0))))))))))))))) rfl)) ?_
            refine l_gstep (j := 10) (t := 45) (by exact rfl) (by exact rfl) (et (gS rfl (gS rfl g0)) rfl) (by decide) (y_loadR agg_25 sz_25 (et g0 rfl) (by rw [length_bL, length_be]) (at1R (k16.row addr_row))) ?_
            refine l_gstep (j := 10) (t := 45) (by exact rfl) (by exact rfl) (et (gS rfl (gS rfl (gS rfl g0))) rfl) (by decide) (y_eqlAddr ha hal (et (gS rfl (gS rfl g0)) rfl) (et g0 rfl)) ?_
            refine l_gstep (j := 10) (t := 45) (by exact rfl) (by exact rfl) (et (gS rfl (gS rfl (gS rfl (gS rfl g0)))) rfl) (by decide) (y_moveV (et g0 rfl)) ?_
            refine gsplitL (i := 50) g0 (fun q68 => ?_) (fun q68 => ?_)
            · skip
              have h50 := q68
              exact absurd (of_decide_eq_true q68).symm hA
            · skip
              have h50 := q68
              have hcd : (saT a key xs[i] || ltT a key xs[i]) = false := by unfold saT ltT; rw [h28, h45, h50]; rfl
              refine l_gskip (j := 15) (t := 50) (by exact rfl) (by exact rfl) (et g0 rfl) (by decide) (by decide) ?_
              refine l_gskip (j := 15) (t := 50) (by exact rfl) (by exact rfl) (et (gS rfl g0) rfl) (by decide) (by decide) ?_
              refine l_gskip (j := 15) (t := 50) (by exact rfl) (by exact rfl) (et (gS rfl (gS rfl g0)) rfl) (by decide) (by decide) ?_
              refine l_gskip (j := 15) (t := 50) (by exact rfl) (by exact rfl) (et (gS rfl (gS rfl (gS rfl g0))) rfl) (by decide) (by decide) ?_
              refine l_gskip (j := 15) (t := 50) (by exact rfl) (by exact rfl) (et (gS rfl (gS rfl (gS rfl (gS rfl g0)))) rfl) (by decide) (by decide) ?_
              refine l_gstep (j := 10) (t := 45) (by exact rfl) (by exact rfl) (et (gS rfl (gS rfl (gS rfl (gS rfl (gS rfl (gS rfl (gS rfl (gS rfl (gS rfl (gS rfl (gS rfl g0))))))))))) rfl) (by decide) (y_pickF (et (gS rfl (gS rfl (gS rfl (gS rfl (gS rfl g0))))) rfl) rfl) ?_
              refine l_gstep (j := 2) (t := 37) (by exact rfl) (by exact rfl) (et (gS rfl (gS rfl (gS rfl (gS rfl (gS rfl (gS rfl (gS rfl (gS rfl (gS rfl (gS rfl (gS rfl (gS rfl (gS rfl (gS rfl (gS rfl (gS rfl (gS rfl (gS rfl (gS rfl (gS rfl (gS rfl g0))))))))))))))))))))) rfl) (by decide) (y_pickF (et (gS rfl (gS rfl (gS rfl (gS rfl (gS rfl (gS rfl (gS rfl (gS rfl (gS rfl (gS rfl (gS rfl (gS rfl g0)))))))))))) rfl) (et g0 rfl)) ?_
              refine l_step (y_pickT (et (gS rfl (gS rfl (gS rfl (gS rfl (gS rfl (gS rfl (gS rfl (gS rfl (gS rfl (gS rfl (gS rfl (gS rfl (gS rfl (gS rfl (gS rfl (gS rfl (gS rfl (gS rfl (gS rfl (gS rfl (gS rfl (gS rfl g0)))))))))))))))))))))) rfl) (et g0 rfl)) ?_
              refine l_nil ?_
              refine hK55 _ _ ?_
              refine fg12 0 2 3 5 8 9 18 19 20 11 12 58 (gS rfl (gS rfl (gS rfl (gS rfl (gS rfl (gS rfl (gS rfl (gS rfl (gS rfl (gS rfl (gS rfl (gS rfl (gS rfl (gS rfl (gS rfl (gS rfl (gS rfl (gS rfl (gS rfl (gS rfl (gS rfl (gS rfl (gS rfl (gS rfl (gS rfl (gS rfl (gS rfl (gS rfl (gS rfl (gS rfl (gS rfl (gS rfl (gS rfl (gS rfl (gS rfl (gS rfl (gS rfl g0))))))))))))))))))))))))))))))))))))) (gS rfl (gS rfl (gS rfl (gS rfl (gS rfl (gS rfl (gS rfl (gS rfl (gS rfl (gS rfl (gS rfl (gS rfl (gS rfl (gS rfl (gS rfl (gS rfl (gS rfl (gS rfl (gS rfl (gS rfl (gS rfl (gS rfl (gS rfl (gS rfl (gS rfl (gS rfl (gS rfl (gS rfl (gS rfl (gS rfl (gS rfl (gS rfl (gS rfl (gS rfl (gS rfl (gS rfl g0)))))))))))))))))))))))))))))))))))) (gS rfl (gS rfl (gS rfl (gS rfl (gS rfl (gS rfl (gS rfl (gS rfl (gS rfl (gS rfl (gS rfl (gS rfl (gS rfl (gS rfl (gS rfl (gS rfl (gS rfl (gS rfl (gS rfl (gS rfl (gS rfl (gS rfl (gS rfl (gS rfl (gS rfl (gS rfl (gS rfl (gS rfl (gS rfl (gS rfl (gS rfl (gS rfl (gS rfl (gS rfl (gS rfl g0))))))))))))))))))))))))))))))))))) (gS rfl (gS rfl (gS rfl (gS rfl (gS rfl (gS rfl (gS rfl (gS rfl (gS rfl (gS rfl (gS rfl (gS rfl (gS rfl (gS rfl (gS rfl (gS rfl (gS rfl (gS rfl (gS rfl (gS rfl (gS rfl (gS rfl (gS rfl (gS rfl (gS rfl (gS rfl (gS rfl (gS rfl (gS rfl (gS rfl (gS rfl (gS rfl (gS rfl (gS rfl g0)))))))))))))))))))))))))))))))))) (gS rfl (gS rfl (gS rfl (gS rfl (gS rfl (gS rfl (gS rfl (gS rfl (gS rfl (gS rfl (gS rfl (gS rfl (gS rfl (gS rfl (gS rfl (gS rfl (gS rfl (gS rfl (gS rfl (gS rfl (gS rfl (gS rfl (gS rfl (gS rfl (gS rfl (gS rfl (gS rfl (gS rfl (gS rfl (gS rfl (gS rfl (gS rfl (gS rfl g0))))))))))))))))))))))))))))))))) (gS rfl (gS rfl (gS rfl (gS rfl (gS rfl (gS rfl (gS rfl (gS rfl (gS rfl (gS rfl (gS rfl (gS rfl (gS rfl (gS rfl (gS rfl (gS rfl (gS rfl (gS rfl (gS rfl (gS rfl (gS rfl (gS rfl (gS rfl (gS rfl (gS rfl (gS rfl (gS rfl (gS rfl (gS rfl (gS rfl (gS rfl (gS rfl g0)))))))))))))))))))))))))))))))) (gS rfl (gS rfl (gS rfl (gS rfl (gS rfl (gS rfl (gS rfl (gS rfl (gS rfl (gS rfl (gS rfl (gS rfl (gS rfl (gS rfl (gS rfl (gS rfl (gS rfl (gS rfl (gS rfl (gS rfl (gS rfl (gS rfl (gS rfl (gS rfl (gS rfl (gS rfl (gS rfl (gS rfl (gS rfl (gS rfl (gS rfl g0))))))))))))))))))))))))))))))) (gS rfl (gS rfl (gS rfl (gS rfl (gS rfl (gS rfl (gS rfl (gS rfl (gS rfl (gS rfl (gS rfl (gS rfl (gS rfl (gS rfl (gS rfl (gS rfl (gS rfl (gS rfl (gS rfl (gS rfl (gS rfl (gS rfl (gS rfl (gS rfl (gS rfl (gS rfl (gS rfl (gS rfl (gS rfl (gS rfl g0)))))))))))))))))))))))))))))) (gS rfl (gS rfl (gS rfl (gS rfl (gS rfl (gS rfl (gS rfl (gS rfl (gS rfl (gS rfl (gS rfl (gS rfl (gS rfl (gS rfl (gS rfl (gS rfl (gS rfl (gS rfl (gS rfl (gS rfl (gS rfl (gS rfl (gS rfl (gS rfl (gS rfl (gS rfl (gS rfl (gS rfl (gS rfl g0))))))))))))))))))))))))))))) (gS rfl (gS rfl (gS rfl (gS rfl (gS rfl (gS rfl (gS rfl (gS rfl (gS rfl (gS rfl (gS rfl (gS rfl (gS rfl (gS rfl (gS rfl (gS rfl (gS rfl (gS rfl (gS rfl (gS rfl (gS rfl (gS rfl (gS rfl (gS rfl (gS rfl (gS rfl (gS rfl (gS rfl g0)))))))))))))))))))))))))))) (gS rfl (gS rfl (gS rfl (gS rfl (gS rfl (gS rfl (gS rfl (gS rfl (gS rfl (gS rfl (gS rfl (gS rfl (gS rfl (gS rfl (gS rfl (gS rfl (gS rfl (gS rfl (gS rfl (gS rfl (gS rfl (gS rfl (gS rfl (gS rfl (gS rfl (gS rfl (gS rfl g0))))))))))))))))))))))))))) g0 (fun g => ?_)
              refine c_false (et g0 rfl) rfl ?_
              refine c_skip ?_
              refine hK54 _ _ ?_
              refine fg11 0 2 3 5 8 9 18 19 20 11 12 (gS rfl (gS rfl (gS rfl (gS rfl (gS rfl (gS rfl (gS rfl (gS rfl (gS rfl (gS rfl (gS rfl g0))))))))))) (gS rfl (gS rfl (gS rfl (gS rfl (gS rfl (gS rfl (gS rfl (gS rfl (gS rfl (gS rfl g0)))))))))) (gS rfl (gS rfl (gS rfl (gS rfl (gS rfl (gS rfl (gS rfl (gS rfl (gS rfl g0))))))))) (gS rfl (gS rfl (gS rfl (gS rfl (gS rfl (gS rfl (gS rfl (gS rfl g0)))))))) (gS rfl (gS rfl (gS rfl (gS rfl (gS rfl (gS rfl (gS rfl g0))))))) (gS rfl (gS rfl (gS rfl (gS rfl (gS rfl (gS rfl g0)))))) (gS rfl (gS rfl (gS rfl (gS rfl (gS rfl g0))))) (gS rfl (gS rfl (gS rfl (gS rfl g0)))) (gS rfl (gS rfl (gS rfl g0))) (gS rfl (gS rfl g0)) (gS rfl g0) (fun g => ?_)
              refine c_seq (fun K70 hK70 => ?_)
              refine c_region ?_
              refine l_step (y_moveV (et g0 rfl)) ?_
              refine l_step (y_not (et g0 rfl)) ?_
              refine l_nil ?_
              refine hK70 _ _ ?_
              refine fg11 0 2 3 5 8 9 18 19 20 11 67 (gS rfl (gS rfl (gS rfl (gS rfl (gS rfl (gS rfl (gS rfl (gS rfl (gS rfl (gS rfl (gS rfl (gS rfl g0)))))))))))) (gS rfl (gS rfl (gS rfl (gS rfl (gS rfl (gS rfl (gS rfl (gS rfl (gS rfl (gS rfl (gS rfl g0))))))))))) (gS rfl (gS rfl (gS rfl (gS rfl (gS rfl (gS rfl (gS rfl (gS rfl (gS rfl (gS rfl g0)))))))))) (gS rfl (gS rfl (gS rfl (gS rfl (gS rfl (gS rfl (gS rfl (gS rfl (gS rfl g0))))))))) (gS rfl (gS rfl (gS rfl (gS rfl (gS rfl (gS rfl (gS rfl (gS rfl g0)))))))) (gS rfl (gS rfl (gS rfl (gS rfl (gS rfl (gS rfl (gS rfl g0))))))) (gS rfl (gS rfl (gS rfl (gS rfl (gS rfl (gS rfl g0)))))) (gS rfl (gS rfl (gS rfl (gS rfl (gS rfl g0))))) (gS rfl (gS rfl (gS rfl (gS rfl g0)))) (gS rfl (gS rfl (gS rfl g0))) g0 (fun g => ?_)
              refine c_true (et g0 rfl) rfl ?_
              refine c_region ?_
              refine l_step (y_moveV (et (gS rfl (gS rfl (gS rfl (gS rfl (gS rfl (gS rfl g0)))))) rfl)) ?_
              refine l_step (y_loadB agg_295 sz_295 (et (gS rfl (gS rfl g0)) rfl) (by rw [List.size_toArray, len22]) (at1B k16)) ?_
              refine l_eff (e_slice1 Hvaa.underlying96 sz_295 zr_295 rfl (by decide) (et g0 rfl) (by rw [show (Value.agg ((bL (be 20 xs[i].1) ++ [vk1, vv1])).toArray).cells = ((bL (be 20 xs[i].1) ++ [vk1, vv1])).toArray from rfl, List.size_toArray, len22])) (fun v72 w72 h72 => ?_)
              obtain ⟨b72, rfl, n72⟩ := h72
              replace k2 := k2.up n72.up
              replace k16 := k16.up n72.up
              replace hF := hF.up n72.up
              replace kS := kS.up n72.up
              replace hO := hO.up n72.up
              replace U := U.tr n72.up
              replace V9 := V9.tr n72.up
              have kq72 : Blk w72 b72 ((bL (be 20 xs[i].1) ++ [vk1, vv1])).toArray := n72.blk
              have hbz : base ≤ w72.heap.size := by have := k16.lt; omega
              refine l_eff (e_appL Hvaa.underlying96 sz_295 zr_295 by_295 rfl (by decide) (et (gS rfl (gS rfl g0)) rfl) hO (et g0 rfl) len22 kq72 hPo hP (by decide) (by first | omega | (simp; omega)) hbz) (fun v73 w73 h73 => ?_)
              obtain ⟨hO73, c73, hown73⟩ := h73
              have hOo := hO
              replace k2 := k2.ch c73 (by first | omega | exact hOo.ne (by omega) | assumption | (intro q hq; exact hOo.ne (by have := hF0.lt hq; omega)))
              replace k16 := k16.ch c73 (by first | omega | exact hOo.ne (by omega) | assumption | (intro q hq; exact hOo.ne (by have := hF0.lt hq; omega)))
              replace hF := hF.ch c73 (by first | omega | (intro q hq e; have := hF0.lt hq; omega) | (intro q hq e; exact hOo.ne (by have := hF0.lt hq; omega) e) | (intro q hq e; exact nbS (e ▸ hq)))
              replace kS := kS.ch c73 (by first | omega | exact hOo.ne (by omega))
              replace hO := hO73
              replace V9 := V9.cc c73 (by intro b hb; first | omega | (simp at hb ⊢; omega) | (have := hOo.lim b hb.symm; omega))
              replace U := U.cc c73 (by intro b hb; first | (have := hOo.lim b hb.symm; omega) | omega | exact .inl hb | exact .inr (hb ▸ U))
              refine l_step (y_assignV (et g0 rfl)) ?_
              refine l_nil ?_
              refine hQ14 _ _ _ (in_normal ?_)
              refine hK13 _ _ ?_
              refine fg9 0 2 3 5 8 9 18 19 20 (gS rfl (gS rfl (gS rfl (gS rfl (gS rfl (gS rfl (gS rfl (gS rfl (gS rfl (gS rfl (gS rfl (gS rfl (gS rfl (gS rfl (gS rfl g0))))))))))))))) (gS rfl (gS rfl (gS rfl (gS rfl (gS rfl (gS rfl (gS rfl (gS rfl (gS rfl (gS rfl (gS rfl (gS rfl (gS rfl (gS rfl g0)))))))))))))) (gS rfl (gS rfl (gS rfl (gS rfl (gS rfl (gS rfl (gS rfl (gS rfl (gS rfl (gS rfl (gS rfl (gS rfl (gS rfl g0))))))))))))) (gS rfl (gS rfl (gS rfl (gS rfl (gS rfl (gS rfl (gS rfl (gS rfl (gS rfl (gS rfl (gS rfl (gS rfl g0)))))))))))) g0 (gS rfl (gS rfl (gS rfl (gS rfl (gS rfl (gS rfl (gS rfl (gS rfl (gS rfl (gS rfl g0)))))))))) (gS rfl (gS rfl (gS rfl (gS rfl (gS rfl (gS rfl (gS rfl (gS rfl (gS rfl g0))))))))) (gS rfl (gS rfl (gS rfl (gS rfl (gS rfl (gS rfl (gS rfl (gS rfl g0)))))))) (gS rfl (gS rfl (gS rfl (gS rfl (gS rfl (gS rfl (gS rfl g0))))))) (fun g => ?_)
              refine c_region ?_
              refine l_step (y_add (et g0 rfl) rfl (addIN (y := 1) ?_)) ?_
              omega
              refine l_step (y_moveV (et g0 rfl)) ?_
              refine l_nil ?_
              refine fK9 0 2 3 5 8 9 18 19 20 (gS rfl (gS rfl (gS rfl (gS rfl (gS rfl (gS rfl (gS rfl (gS rfl (gS rfl (gS rfl g0)))))))))) (gS rfl (gS rfl (gS rfl (gS rfl (gS rfl (gS rfl (gS rfl (gS rfl (gS rfl g0))))))))) (gS rfl (gS rfl (gS rfl (gS rfl (gS rfl (gS rfl (gS rfl (gS rfl g0)))))))) (gS rfl (gS rfl (gS rfl (gS rfl (gS rfl (gS rfl (gS rfl g0))))))) (gS rfl (gS rfl (gS rfl (gS rfl (gS rfl (gS rfl g0)))))) (gS rfl (gS rfl (gS rfl (gS rfl (gS rfl g0))))) (gS rfl (gS rfl (gS rfl (gS rfl g0)))) (gS rfl (gS rfl (gS rfl g0))) g0 (fun g => ?_)
              exact hK9 (xs.length - ((i + 1))) _ _ (by omega) ⟨g, _, lb, (O ++ [xs[i]]), (i + 1), rfl, rfl, by omega, hO, by simp; omega, pass_step hfin (by first | exact .inl hlb | exact .inr hcd) hsm, V9⟩
        · skip
          have hlb : lb = true := by simpa using q56
          refine l_gskip (j := 2) (t := 37) (by exact rfl) (by exact rfl) (et g0 rfl) (by decide) (by decide) ?_
          refine l_gskip (j := 2) (t := 37) (by exact rfl) (by exact rfl) (et (gS rfl g0) rfl) (by decide) (by decide) ?_
          refine l_uskip (j := 4) (t := 39) (by exact rfl) (by exact rfl) (et g0 rfl) rfl ?_
          refine l_uskip (j := 4) (t := 39) (by exact rfl) (by exact rfl) (et (gS rfl g0) rfl) rfl ?_
          refine l_uskip (j := 4) (t := 39) (by exact rfl) (by exact rfl) (et (gS rfl (gS rfl g0)) rfl) rfl ?_
          refine l_uskip (j := 4) (t := 39) (by exact rfl) (by exact rfl) (et (gS rfl (gS rfl (gS rfl g0))) rfl) rfl ?_
          refine l_gskip (j := 2) (t := 37) (by exact rfl) (by exact rfl) (et (gS rfl (gS rfl (gS rfl (gS rfl (gS rfl (gS rfl g0)))))) rfl) (by decide) (by decide) ?_
          refine l_gskip (j := 2) (t := 37) (by exact rfl) (by exact rfl) (et (gS rfl (gS rfl (gS rfl (gS rfl (gS rfl (gS rfl (gS rfl g0))))))) rfl) (by decide) (by decide) ?_
          refine l_uskip (j := 10) (t := 45) (by exact rfl) (by exact rfl) (et g0 rfl) rfl ?_
          refine l_uskip (j := 10) (t := 45) (by exact rfl) (by exact rfl) (et (gS rfl g0) rfl) rfl ?_
          refine l_uskip (j := 10) (t := 45) (by exact rfl) (by exact rfl) (et (gS rfl (gS rfl g0)) rfl) rfl ?_
          refine l_uskip (j := 10) (t := 45) (by exact rfl) (by exact rfl) (et (gS rfl (gS rfl (gS rfl g0))) rfl) rfl ?_
          refine l_uskip (j := 10) (t := 45) (by exact rfl) (by exact rfl) (et (gS rfl (gS rfl (gS rfl (gS rfl g0)))) rfl) rfl ?_
          refine l_uskip (j := 15) (t := 50) (by exact rfl) (by exact rfl) (et g0 rfl) rfl ?_
          refine l_uskip (j := 15) (t := 50) (by exact rfl) (by exact rfl) (et (gS rfl g0) rfl) rfl ?_
          refine l_uskip (j := 15) (t := 50) (by exact rfl) (by exact rfl) (et (gS rfl (gS rfl g0)) rfl) rfl ?_
          refine l_uskip (j := 15) (t := 50) (by exact rfl) (by exact rfl) (et (gS rfl (gS rfl (gS rfl g0))) rfl) rfl ?_
          refine l_uskip (j := 15) (t := 50) (by exact rfl) (by exact rfl) (et (gS rfl (gS rfl (gS rfl (gS rfl g0)))) rfl) rfl ?_
          refine l_uskip (j := 10) (t := 45) (by exact rfl) (by exact rfl) (et (gS rfl (gS rfl (gS rfl (gS rfl (gS rfl (gS rfl (gS rfl (gS rfl (gS rfl (gS rfl g0)))))))))) rfl) rfl ?_
          refine l_gskip (j := 2) (t := 37) (by exact rfl) (by exact rfl) (et (gS rfl (gS rfl (gS rfl (gS rfl (gS rfl (gS rfl (gS rfl (gS rfl (gS rfl (gS rfl (gS rfl (gS rfl (gS rfl (gS rfl (gS rfl (gS rfl (gS rfl (gS rfl (gS rfl g0))))))))))))))))))) rfl) (by decide) (by decide) ?_
          refine l_step (y_pickF (et (gS rfl (gS rfl (gS rfl (gS rfl (gS rfl (gS rfl (gS rfl (gS rfl (gS rfl (gS rfl (gS rfl (gS rfl (gS rfl (gS rfl (gS rfl (gS rfl (gS rfl (gS rfl (gS rfl (gS rfl g0)))))))))))))))))))) rfl) rfl) ?_
          refine l_nil ?_
          refine hK55 _ _ ?_
          refine fg12 0 2 3 5 8 9 18 19 20 11 12 58 (gS rfl (gS rfl (gS rfl (gS rfl (gS rfl (gS rfl (gS rfl (gS rfl (gS rfl (gS rfl (gS rfl (gS rfl (gS rfl (gS rfl (gS rfl (gS rfl (gS rfl (gS rfl (gS rfl (gS rfl (gS rfl (gS rfl (gS rfl (gS rfl (gS rfl (gS rfl (gS rfl (gS rfl (gS rfl (gS rfl (gS rfl (gS rfl (gS rfl (gS rfl (gS rfl g0))))))))))))))))))))))))))))))))))) (gS rfl (gS rfl (gS rfl (gS rfl (gS rfl (gS rfl (gS rfl (gS rfl (gS rfl (gS rfl (gS rfl (gS rfl (gS rfl (gS rfl (gS rfl (gS rfl (gS rfl (gS rfl (gS rfl (gS rfl (gS rfl (gS rfl (gS rfl (gS rfl (gS rfl (gS rfl (gS rfl (gS rfl (gS rfl (gS rfl (gS rfl (gS rfl (gS rfl (gS rfl g0)))))))))))))))))))))))))))))))))) (gS rfl (gS rfl (gS rfl (gS rfl (gS rfl (gS rfl (gS rfl (gS rfl (gS rfl (gS rfl (gS rfl (gS rfl (gS rfl (gS rfl (gS rfl (gS rfl (gS rfl (gS rfl (gS rfl (gS rfl (gS rfl (gS rfl (gS rfl (gS rfl (gS rfl (gS rfl (gS rfl (gS rfl (gS rfl (gS rfl (gS rfl (gS rfl (gS rfl g0))))))))))))))))))))))))))))))))) (gS rfl (gS rfl (gS rfl (gS rfl (gS rfl (gS rfl (gS rfl (gS rfl (gS rfl (gS rfl (gS rfl (gS rfl (gS rfl (gS rfl (gS rfl (gS rfl (gS rfl (gS rfl (gS rfl (gS rfl (gS rfl (gS rfl (gS rfl (gS rfl (gS rfl (gS rfl (gS rfl (gS rfl (gS rfl (gS rfl (gS rfl (gS rfl g0)))))))))))))))))))))))))))))))) (gS rfl (gS rfl (gS rfl (gS rfl (gS rfl (gS rfl (gS rfl (gS rfl (gS rfl (gS rfl (gS rfl (gS rfl (gS rfl (gS rfl (gS rfl (gS rfl (gS rfl (gS rfl (gS rfl (gS rfl (gS rfl (gS rfl (gS rfl (gS rfl (gS rfl (gS rfl (gS rfl (gS rfl (gS rfl (gS rfl (gS rfl g0))))))))))))))))))))))))))))))) (gS rfl (gS rfl (gS rfl (gS rfl (gS rfl (gS rfl (gS rfl (gS rfl (gS rfl (gS rfl (gS rfl (gS rfl (gS rfl (gS rfl (gS rfl (gS rfl (gS rfl (gS rfl (gS rfl (gS rfl (gS rfl (gS rfl (gS rfl (gS rfl (gS rfl (gS rfl (gS rfl (gS rfl (gS rfl (gS rfl g0)))))))))))))))))))))))))))))) (gS rfl (gS rfl (gS rfl (gS rfl (gS rfl (gS rfl (gS rfl (gS rfl (gS rfl (gS rfl (gS rfl (gS rfl (gS rfl (gS rfl (gS rfl (gS rfl (gS rfl (gS rfl (gS rfl (gS rfl (gS rfl (gS rfl (gS rfl (gS rfl (gS rfl (gS rfl (gS rfl (gS rfl (gS rfl g0))))))))))))))))))))))))))))) (gS rfl (gS rfl (gS rfl (gS rfl (gS rfl (gS rfl (gS rfl (gS rfl (gS rfl (gS rfl (gS rfl (gS rfl (gS rfl (gS rfl (gS rfl (gS rfl (gS rfl (gS rfl (gS rfl (gS rfl (gS rfl (gS rfl (gS rfl (gS rfl (gS rfl (gS rfl (gS rfl (gS rfl g0)))))))))))))))))))))))))))) (gS rfl (gS rfl (gS rfl (gS rfl (gS rfl (gS rfl (gS rfl (gS rfl (gS rfl (gS rfl (gS rfl (gS rfl (gS rfl (gS rfl (gS rfl (gS rfl (gS rfl (gS rfl (gS rfl (gS rfl (gS rfl (gS rfl (gS rfl (gS rfl (gS rfl (gS rfl (gS rfl g0))))))))))))))))))))))))))) (gS rfl (gS rfl (gS rfl (gS rfl (gS rfl (gS rfl (gS rfl (gS rfl (gS rfl (gS rfl (gS rfl (gS rfl (gS rfl (gS rfl (gS rfl (gS rfl (gS rfl (gS rfl (gS rfl (gS rfl (gS rfl (gS rfl (gS rfl (gS rfl (gS rfl (gS rfl g0)))))))))))))))))))))))))) (gS rfl (gS rfl (gS rfl (gS rfl (gS rfl (gS rfl (gS rfl (gS rfl (gS rfl (gS rfl (gS rfl (gS rfl (gS rfl (gS rfl (gS rfl (gS rfl (gS rfl (gS rfl (gS rfl (gS rfl (gS rfl (gS rfl (gS rfl (gS rfl (gS rfl g0))))))))))))))))))))))))) g0 (fun g => ?_)
          refine c_false (et g0 rfl) rfl ?_
          refine c_skip ?_
          refine hK54 _ _ ?_
          refine fg11 0 2 3 5 8 9 18 19 20 11 12 (gS rfl (gS rfl (gS rfl (gS rfl (gS rfl (gS rfl (gS rfl (gS rfl (gS rfl (gS rfl (gS rfl g0))))))))))) (gS rfl (gS rfl (gS rfl (gS rfl (gS rfl (gS rfl (gS rfl (gS rfl (gS rfl (gS rfl g0)))))))))) (gS rfl (gS rfl (gS rfl (gS rfl (gS rfl (gS rfl (gS rfl (gS rfl (gS rfl g0))))))))) (gS rfl (gS rfl (gS rfl (gS rfl (gS rfl (gS rfl (gS rfl (gS rfl g0)))))))) (gS rfl (gS rfl (gS rfl (gS rfl (gS rfl (gS rfl (gS rfl g0))))))) (gS rfl (gS rfl (gS rfl (gS rfl (gS rfl (gS rfl g0)))))) (gS rfl (gS rfl (gS rfl (gS rfl (gS rfl g0))))) (gS rfl (gS rfl (gS rfl (gS rfl g0)))) (gS rfl (gS rfl (gS rfl g0))) (gS rfl (gS rfl g0)) (gS rfl g0) (fun g => ?_)
          refine c_seq (fun K75 hK75 => ?_)
          refine c_region ?_
          refine l_step (y_moveV (et g0 rfl)) ?_
          refine l_step (y_not (et g0 rfl)) ?_
          refine l_nil ?_
          refine hK75 _ _ ?_
          refine fg11 0 2 3 5 8 9 18 19 20 11 67 (gS rfl (gS rfl (gS rfl (gS rfl (gS rfl (gS rfl (gS rfl (gS rfl (gS rfl (gS rfl (gS rfl (gS rfl g0)))))))))))) (gS rfl (gS rfl (gS rfl (gS rfl (gS rfl (gS rfl (gS rfl (gS rfl (gS rfl (gS rfl (gS rfl g0))))))))))) (gS rfl (gS rfl (gS rfl (gS rfl (gS rfl (gS rfl (gS rfl (gS rfl (gS rfl (gS rfl g0)))))))))) (gS rfl (gS rfl (gS rfl (gS rfl (gS rfl (gS rfl (gS rfl (gS rfl (gS rfl g0))))))))) (gS rfl (gS rfl (gS rfl (gS rfl (gS rfl (gS rfl (gS rfl (gS rfl g0)))))))) (gS rfl (gS rfl (gS rfl (gS rfl (gS rfl (gS rfl (gS rfl g0))))))) (gS rfl (gS rfl (gS rfl (gS rfl (gS rfl (gS rfl g0)))))) (gS rfl (gS rfl (gS rfl (gS rfl (gS rfl g0))))) (gS rfl (gS rfl (gS rfl (gS rfl g0)))) (gS rfl (gS rfl (gS rfl g0))) g0 (fun g => ?_)
          refine c_true (et g0 rfl) rfl ?_
          refine c_region ?_
          refine l_step (y_moveV (et (gS rfl (gS rfl (gS rfl (gS rfl (gS rfl (gS rfl g0)))))) rfl)) ?_
          refine l_step (y_loadB agg_295 sz_295 (et (gS rfl (gS rfl g0)) rfl) (by rw [List.size_toArray, len22]) (at1B k16)) ?_
          refine l_eff (e_slice1 Hvaa.underlying96 sz_295 zr_295 rfl (by decide) (et g0 rfl) (by rw [show (Value.agg ((bL (be 20 xs[i].1) ++ [vk1, vv1])).toArray).cells = ((bL (be 20 xs[i].1) ++ [vk1, vv1])).toArray from rfl, List.size_toArray, len22])) (fun v77 w77 h77 => ?_)
          obtain ⟨b77, rfl, n77⟩ := h77
          replace k2 := k2.up n77.up
          replace k16 := k16.up n77.up
          replace hF := hF.up n77.up
          replace kS := kS.up n77.up
          replace hO := hO.up n77.up
          replace U := U.tr n77.up
          replace V9 := V9.tr n77.up
          have kq77 : Blk w77 b77 ((bL (be 20 xs[i].1) ++ [vk1, vv1])).toArray := n77.blk
          have hbz : base ≤ w77.heap.size := by have := k16.lt; omega
          refine l_eff (e_appL Hvaa.underlying96 sz_295 zr_295 by_295 rfl (by decide) (et (gS rfl (gS rfl g0)) rfl) hO (et g0 rfl) len22 kq77 hPo hP (by decide) (by first | omega | (simp; omega)) hbz) (fun v78 w78 h78 => ?_)
          obtain ⟨hO78, c78, hown78⟩ := h78
          have hOo := hO
          replace k2 := k2.ch c78 (by first | omega | exact hOo.ne (by omega) | assumption | (intro q hq; exact hOo.ne (by have := hF0.lt hq; omega)))
          replace k16 := k16.ch c78 (by first | omega | exact hOo.ne (by omega) | assumption | (intro q hq; exact hOo.ne (by have := hF0.lt hq; omega)))
          replace hF := hF.ch c78 (by first | omega | (intro q hq e; have := hF0.lt hq; omega) | (intro q hq e; exact hOo.ne (by have := hF0.lt hq; omega) e) | (intro q hq e; exact nbS (e ▸ hq)))
          replace kS := kS.ch c78 (by first | omega | exact hOo.ne (by omega))
          replace hO := hO78
          replace V9 := V9.cc c78 (by intro b hb; first | omega | (simp at hb ⊢; omega) | (have := hOo.lim b hb.symm; omega))
          replace U := U.cc c78 (by intro b hb; first | (have := hOo.lim b hb.symm; omega) | omega | exact .inl hb | exact .inr (hb ▸ U))
          refine l_step (y_assignV (et g0 rfl)) ?_
          refine l_nil ?_
          refine hQ14 _ _ _ (in_normal ?_)
          refine hK13 _ _ ?_
          refine fg9 0 2 3 5 8 9 18 19 20 (gS rfl (gS rfl (gS rfl (gS rfl (gS rfl (gS rfl (gS rfl (gS rfl (gS rfl (gS rfl (gS rfl (gS rfl (gS rfl (gS rfl (gS rfl g0))))))))))))))) (gS rfl (gS rfl (gS rfl (gS rfl (gS rfl (gS rfl (gS rfl (gS rfl (gS rfl (gS rfl (gS rfl (gS rfl (gS rfl (gS rfl g0)))))))))))))) (gS rfl (gS rfl (gS rfl (gS rfl (gS rfl (gS rfl (gS rfl (gS rfl (gS rfl (gS rfl (gS rfl (gS rfl (gS rfl g0))))))))))))) (gS rfl (gS rfl (gS rfl (gS rfl (gS rfl (gS rfl (gS rfl (gS rfl (gS rfl (gS rfl (gS rfl (gS rfl g0)))))))))))) g0 (gS rfl (gS rfl (gS rfl (gS rfl (gS rfl (gS rfl (gS rfl (gS rfl (gS rfl (gS rfl g0)))))))))) (gS rfl (gS rfl (gS rfl (gS rfl (gS rfl (gS rfl (gS rfl (gS rfl (gS rfl g0))))))))) (gS rfl (gS rfl (gS rfl (gS rfl (gS rfl (gS rfl (gS rfl (gS rfl g0)))))))) (gS rfl (gS rfl (gS rfl (gS rfl (gS rfl (gS rfl (gS rfl g0))))))) (fun g => ?_)
          refine c_region ?_
          refine l_step (y_add (et g0 rfl) rfl (addIN (y := 1) ?_)) ?_
          omega
          refine l_step (y_moveV (et g0 rfl)) ?_
          refine l_nil ?_
          refine fK9 0 2 3 5 8 9 18 19 20 (gS rfl (gS rfl (gS rfl (gS rfl (gS rfl (gS rfl (gS rfl (gS rfl (gS rfl (gS rfl g0)))))))))) (gS rfl (gS rfl (gS rfl (gS rfl (gS rfl (gS rfl (gS rfl (gS rfl (gS rfl g0))))))))) (gS rfl (gS rfl (gS rfl (gS rfl (gS rfl (gS rfl (gS rfl (gS rfl g0)))))))) (gS rfl (gS rfl (gS rfl (gS rfl (gS rfl (gS rfl (gS rfl g0))))))) (gS rfl (gS rfl (gS rfl (gS rfl (gS rfl (gS rfl g0)))))) (gS rfl (gS rfl (gS rfl (gS rfl (gS rfl g0))))) (gS rfl (gS rfl (gS rfl (gS rfl g0)))) (gS rfl (gS rfl (gS rfl g0))) g0 (fun g => ?_)
          exact hK9 (xs.length - ((i + 1))) _ _ (by omega) ⟨g, _, lb, (O ++ [xs[i]]), (i + 1), rfl, rfl, by omega, hO, by simp; omega, pass_step hfin (by first | exact .inl hlb | exact .inr hcd) hsm, V9⟩
    · skip
      simp only [decide_eq_true_eq, decide_eq_false_iff_not, Int.not_lt, Int.not_le, Bool.not_eq_true', Bool.not_eq_false', Bool.not_eq_eq_eq_not, Bool.not_true, Bool.not_false] at cB1
      refine c_exit ?_
      refine hQ8 _ _ _ (in_exit ?_)
      refine hK6 _ _ ?_
      refine fg6 0 2 3 5 8 9 (gS rfl (gS rfl (gS rfl (gS rfl (gS rfl (gS rfl (gS rfl (gS rfl (gS rfl g0))))))))) (gS rfl (gS rfl (gS rfl (gS rfl (gS rfl (gS rfl (gS rfl (gS rfl g0)))))))) (gS rfl (gS rfl (gS rfl (gS rfl (gS rfl (gS rfl (gS rfl g0))))))) (gS rfl (gS rfl (gS rfl (gS rfl (gS rfl (gS rfl g0)))))) (gS rfl (gS rfl (gS rfl (gS rfl (gS rfl g0))))) (gS rfl (gS rfl (gS rfl (gS rfl g0)))) (fun g => ?_)
      refine c_seq (fun K79 hK79 => ?_)
      refine c_seq (fun K80 hK80 => ?_)
      refine c_region ?_
      refine l_step (y_moveV (et g0 rfl)) ?_
      refine l_step (y_not (et g0 rfl)) ?_
      refine l_nil ?_
      refine hK80 _ _ ?_
      refine fg6 0 2 3 5 8 74 (gS rfl (gS rfl (gS rfl (gS rfl (gS rfl (gS rfl (gS rfl g0))))))) (gS rfl (gS rfl (gS rfl (gS rfl (gS rfl (gS rfl g0)))))) (gS rfl (gS rfl (gS rfl (gS rfl (gS rfl g0))))) (gS rfl (gS rfl (gS rfl (gS rfl g0)))) (gS rfl (gS rfl (gS rfl g0))) g0 (fun g => ?_)
      refine c_cond (et g0 rfl) (fun cB4 => ?_) (fun cB4 => ?_)
      · skip
        
        refine c_region ?_
        refine l_step (y_moveV (et (gS rfl g0) rfl)) ?_
        refine l_step (y_loadB agg_25 sz_25 (et (gS rfl (gS rfl (gS rfl g0))) rfl) (by first | (simp only [Value.cells, hV, aV, bV, wV, wL, List.size_toArray, length_bL, length_uL, length_be, size_spl, List.length_cons, List.length_nil, List.length_replicate, Nat.zero_add, Nat.reduceAdd, Nat.reduceLeDiff, Nat.le_refl]; done) | rfl) (at1B k2)) ?_
        refine l_step (y_moveV (et (gS rfl (gS rfl (gS rfl (gS rfl (gS rfl (gS rfl g0)))))) rfl)) ?_
        refine l_step (y_moveV (et (gS rfl (gS rfl (gS rfl (gS rfl (gS rfl (gS rfl g0)))))) rfl)) ?_
        have hb82 : ∀ w, (Instr.build 295 ([(0, (Value.agg (bL (be 20 a)).toArray)), (1, vk), (2, vv)] : List (Nat × Value)).toArray).run Hvaa.prog w = .ok (.agg ([(bL (be 20 a)), ([vk]), ([vv])] : List (List Value)).flatten.toArray) w := bld_run zr_295 plc_295 (fill_flat (off := 0) (k := 20) (f := (List.replicate 20 (.int .u8 0))) (c := bL (be 20 a)) (v := (Value.agg (bL (be 20 a)).toArray)) rfl rfl (by first | (simp [length_bL, length_be, length_uL]; done) | rfl) (by first | rfl | (simp [length_bL, length_be, length_uL]; done)) rfl (by first | (simp [length_bL, length_be, length_uL]; done) | rfl) (fill_flat (off := 20) (k := 1) (f := [.slice none 0 0]) (c := [vk]) (v := vk) rfl (cells_one hK.one1) (by first | (simp [length_bL, length_be, length_uL]; done) | rfl) (by first | (simp [length_bL, length_be, length_uL]; done) | rfl) rfl (by first | (simp [length_bL, length_be, length_uL]; done) | rfl) (fill_flat (off := 21) (k := 1) (f := [.slice none 0 0]) (c := [vv]) (v := vv) rfl (cells_one hV.one1) (by first | (simp [length_bL, length_be, length_uL]; done) | rfl) (by first | (simp [length_bL, length_be, length_uL]; done) | rfl) rfl (by first | (simp [length_bL, length_be, length_uL]; done) | rfl) (fill_nil _ _))))
        refine l_step ((y_bld (bC (et (gS rfl (gS rfl g0)) rfl) (bC (et (gS rfl g0) rfl) (bC (et g0 rfl) bN))) hb82).to (congrArg (fun l : List Value => Value.agg l.toArray) (show _ = bL (be 20 a) ++ [vk, vv] by simp))) ?_
        refine l_eff (e_slice1 Hvaa.underlying96 sz_295 zr_295 rfl (by decide) (et g0 rfl) (by rw [show (Value.agg ((bL (be 20 a) ++ [vk, vv])).toArray).cells = ((bL (be 20 a) ++ [vk, vv])).toArray from rfl, List.size_toArray, len22])) (fun v83 w83 h83 => ?_)
        obtain ⟨b83, rfl, n83⟩ := h83
        replace k2 := k2.up n83.up
        replace hF := hF.up n83.up
        replace kS := kS.up n83.up
        replace hO := hO.up n83.up
        replace U := U.tr n83.up
        have kq83 : Blk w83 b83 ((bL (be 20 a) ++ [vk, vv])).toArray := n83.blk
        have hbz : base ≤ w83.heap.size := Nat.le_trans hbW n83.up.size
        refine l_eff (e_appL Hvaa.underlying96 sz_295 zr_295 by_295 rfl (by decide) (et (gS rfl (gS rfl (gS rfl (gS rfl (gS rfl g0))))) rfl) hO (et g0 rfl) len22 kq83 (one_app (one_two hK.one1 hV.one1)) (tri_cells hK hV ha (W_bd hkb) (W_bd hvb)) (by decide) (by first | omega | (simp; omega)) hbz) (fun v84 w84 h84 => ?_)
        obtain ⟨hO84, c84, hown84⟩ := h84
        have hOo := hO
        replace k2 := k2.ch c84 (by first | omega | exact hOo.ne (by omega) | assumption | (intro q hq; exact hOo.ne (by have := hF0.lt hq; omega)))
        replace hF := hF.ch c84 (by first | omega | (intro q hq e; have := hF0.lt hq; omega) | (intro q hq e; exact hOo.ne (by have := hF0.lt hq; omega) e) | (intro q hq e; exact nbS (e ▸ hq)))
        replace kS := kS.ch c84 (by first | omega | exact hOo.ne (by omega))
        replace hO := hO84
        replace U := U.cc c84 (by intro b hb; first | (have := hOo.lim b hb.symm; omega) | omega | exact .inl hb | exact .inr (hb ▸ U))
        refine l_step (y_assignV (et g0 rfl)) ?_
        refine l_nil ?_
        refine hK79 _ _ ?_
        refine fg2 0 8 (gS rfl (gS rfl (gS rfl (gS rfl (gS rfl (gS rfl (gS rfl (gS rfl (gS rfl (gS rfl (gS rfl (gS rfl (gS rfl g0))))))))))))) g0 (fun g => ?_)
        refine c_region ?_
        refine l_step (y_moveV (et (gS rfl g0) rfl)) ?_
        refine l_step (y_moveV (et (gS rfl g0) rfl)) ?_
        refine l_step (y_nil (et (gS rfl g0) rfl)) ?_
        refine l_step (y_fld fld_98_5 (et g0 rfl)) ?_
        refine l_effN (e_store sz_96 (et g0 rfl) (cellsV (et (gS rfl (gS rfl g0)) rfl) (cells_one hO.one1)) rfl (by exact one_sgl hO.one1) kS (by (have := (Array.getElem?_eq_some_iff.1 hva).1; omega))) (fun v85 w85 h85 => ?_)
        obtain ⟨rfl, x85⟩ := h85
        replace k2 := k2.ch x85.ch (by omega)
        replace hF := hF.ch x85.ch (by first | omega | (intro q hq e; have := hF0.lt hq; omega) | (intro q hq e; exact hOo.ne (by have := hF0.lt hq; omega) e) | (intro q hq e; exact nbS (e ▸ hq)))
        replace kS := x85.blk
        replace hO := hO.wr x85 (by omega)
        replace U := U.st x85 (.inl (by first | rfl | (simp; done)))
        refine l_nil ?_
        refine end0 rfl ?_
        have hD : xs.drop i = [] := List.drop_of_length_le (by omega)
        rw [hD] at hfin
        obtain ⟨H2, g2, l2, lv⟩ := hO.keep mono_tri (⟨U, hF, Le.refl _, fun _ h => .inl h⟩ : Go (fun k => k = bs) w H _ H) (Le.refl _) hbw
        refine ⟨rfl, _, H2, g2, ?_, kS⟩
        rw [← hfin]
        first | (have hlb : lb = false := by simpa using cB4
                 subst hlb
                 exact lv) | (have hlb : lb = true := by simpa using cB4
                              subst hlb
                              simpa [putP] using lv)
      · skip
        
        refine c_skip ?_
        refine hK79 _ _ ?_
        refine fg2 0 8 (gS rfl (gS rfl (gS rfl (gS rfl (gS rfl g0))))) (gS rfl g0) (fun g => ?_)
        refine c_region ?_
        refine l_step (y_moveV (et (gS rfl g0) rfl)) ?_
        refine l_step (y_moveV (et (gS rfl g0) rfl)) ?_
        refine l_step (y_nil (et (gS rfl g0) rfl)) ?_
        refine l_step (y_fld fld_98_5 (et g0 rfl)) ?_
        refine l_effN (e_store sz_96 (et g0 rfl) (cellsV (et (gS rfl (gS rfl g0)) rfl) (cells_one hO.one1)) rfl (by exact one_sgl hO.one1) kS (by (have := (Array.getElem?_eq_some_iff.1 hva).1; omega))) (fun v86 w86 h86 => ?_)
        obtain ⟨rfl, x86⟩ := h86
        replace k2 := k2.ch x86.ch (by omega)
        replace hF := hF.ch x86.ch (by first | omega | (intro q hq e; have := hF0.lt hq; omega) | (intro q hq e; exact hOo.ne (by have := hF0.lt hq; omega) e) | (intro q hq e; exact nbS (e ▸ hq)))
        replace kS := x86.blk
        replace hO := hO.wr x86 (by omega)
        replace U := U.st x86 (.inl (by first | rfl | (simp; done)))
        refine l_nil ?_
        refine end0 rfl ?_
        have hD : xs.drop i = [] := List.drop_of_length_le (by omega)
        rw [hD] at hfin
        obtain ⟨H2, g2, l2, lv⟩ := hO.keep mono_tri (⟨U, hF, Le.refl _, fun _ h => .inl h⟩ : Go (fun k => k = bs) w H _ H) (Le.refl _) hbw
        refine ⟨rfl, _, H2, g2, ?_, kS⟩
        rw [← hfin]
        first | (have hlb : lb = false := by simpa using cB4
                 subst hlb
                 exact lv) | (have hlb : lb = true := by simpa using cB4
                              subst hlb
                              simpa [putP] using lv)
end Go.Proofs.YgvaawGreat
