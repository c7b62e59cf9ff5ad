import Derived.Test.YgvaawGreatApp
set_option maxRecDepth 100000
set_option maxHeartbeats 4000000
set_option linter.unusedSimpArgs false
set_option linter.unusedVariables false
namespace Go.Proofs.YgvaawGreat
open Go
def aK (a : Nat) : List Value := bL (be 20 a)
theorem aK_len (a : Nat) : (aK a).length = 20 := by rw [aK, length_bL, length_be]
theorem aK_one (a : Nat) : ∀ v ∈ aK a, v.one1 = true := one_bL _
def insA (a : Nat) : List Nat → List Nat
  | [] => [a]
  | x :: l => if a < x then a :: x :: l else x :: insA a l
def withA (l : List Nat) (a : Nat) : List Nat := if a ∈ l then l else insA a l
theorem LV.ofMap {α : Type} {P : Cp α} {k : Nat} {H : Store} {v : Value} {f : α → List Value} {xs : List α} (h : SV H k (xs.map f).length v (xs.map f).flatten) (hk : ∀ x ∈ xs, (f x).length = k) (hP : ∀ x ∈ xs, P H (f x) x) : LV P k H v xs := by
  refine ⟨xs.map f, by simpa using h, by simp, fun i c x hc hx => ?_⟩
  rw [List.getElem?_map, hx] at hc
  cases hc
  exact ⟨hk x (List.mem_of_getElem? hx), hP x (List.mem_of_getElem? hx)⟩
theorem wa_step {lb : Bool} {O D R : List Nat} {a x : Nat} (h : (if lb then O ++ (x :: D) else O ++ insA a (x :: D)) = R) (hx : lb = true ∨ ¬ a < x) : (if lb then (O ++ [x]) ++ D else (O ++ [x]) ++ insA a D) = R := by
  rcases hx with rfl | hx
  · simpa using h
  · cases lb
    · rw [insA, if_neg hx] at h; simpa using h
    · simpa using h
theorem wa_lay {lb : Bool} {O D R : List Nat} {a x : Nat} (h : (if lb then O ++ (x :: D) else O ++ insA a (x :: D)) = R) (hl : lb = false) (hx : a < x) : (if true then (O ++ [a] ++ [x]) ++ D else (O ++ [a] ++ [x]) ++ insA a D) = R := by
  subst hl
  rw [insA, if_pos hx] at h; simpa using h
theorem ins_mem {a y : Nat} : ∀ {l : List Nat}, y ∈ insA a l → y = a ∨ y ∈ l
  | [], h => by simp [insA] at h; exact .inl h
  | x :: l, h => by
    unfold insA at h
    split at h
    · simp at h; rcases h with h | h | h <;> simp [h]
    · simp at h
      rcases h with h | h
      · simp [h]
      · rcases ins_mem h with h | h <;> simp [h]
theorem ins_lt {a x : Nat} {l : List Nat} (h : a < x) : insA a (x :: l) = a :: x :: l := by rw [insA, if_pos h]
theorem ins_ge {a x : Nat} {l : List Nat} (h : ¬ a < x) : insA a (x :: l) = x :: insA a l := by rw [insA, if_neg h]
theorem mem_app {O : List Nat} {a : Nat} (h : ∀ x ∈ O, x < A160) (ha : a < A160) : ∀ x ∈ O ++ [a], x < A160 := by
  intro x hx
  rcases List.mem_append.1 hx with h1 | h1
  · exact h x h1
  · rw [List.mem_singleton.1 h1]; exact ha
theorem yp_withAddr (sa : Option Addr) (sc a : Nat) (xs : List Nat) (w : World) (H : Store) (hF : Fz w H) (hL : LV P_addr 20 H (.slice sa xs.length sc) xs) (ha : a < A160) (hn : xs.length < 2147483648) :
    Ret 128 [.slice sa xs.length sc, aV a] w (fun v w' => ∃ H', Go No w H w' H' ∧ LV P_addr 20 H' v (withA xs a)) := by
  have hF0 := hF
  refine enter (n := 42) Hvaa.func128 rfl rfl (Nat.le_of_ble_eq_true rfl) ?_
  have U := Up.refl w
  refine c_seq (fun K1 hK1 => ?_)
  refine c_region ?_
  refine l_eff (e_boxV (et (gS rfl g0) rfl)) (fun v2 w2 h2 => ?_)
  obtain ⟨b2, rfl, n2⟩ := h2
  have f2 : w.heap.size ≤ b2 := Nat.le_trans U.size n2.fresh
  replace hF := hF.up n2.up
  replace U := U.tr n2.up
  have k2 := n2.blk
  replace k2 : Blk w2 b2 (bL (be 20 a)).toArray := k2
  refine l_step y_assignC ?_
  refine l_nil ?_
  refine hK1 _ _ ?_
  refine fg2 0 3 (gS rfl (gS rfl g0)) (gS rfl g0) (fun g => ?_)
  refine c_seq (fun K3 hK3 => ?_)
  refine c_seq (fun K4 hK4 => ?_)
  refine c_region ?_
  refine l_step (y_moveV (et (gS rfl g0) rfl)) ?_
  refine l_step (y_loadB agg_25 sz_25 (et (gS rfl g0) rfl) (by first | (simp only [Value.cells, hV, aV, bV, wV, wL, List.size_toArray, length_bL, length_uL, length_be, size_spl, List.length_cons, List.length_nil, List.length_replicate, Nat.zero_add, Nat.reduceAdd, Nat.reduceLeDiff, Nat.le_refl]; done) | rfl) (at1B k2)) ?_
  refine l_eff (e_callV cal_148 (aC (et (gS rfl g0) rfl) (aC (et g0 rfl) aN)) (yp_listed sa sc a xs _ H hF hL ha (by omega))) (fun v5 w5 h5 => ?_)
  obtain ⟨rfl, u5⟩ := h5
  replace k2 := k2.up u5
  replace hF := hF.up u5
  replace U := U.tr u5
  refine l_nil ?_
  refine hK4 _ _ ?_
  refine fg3 0 3 11 (gS rfl (gS rfl (gS rfl (gS rfl g0)))) (gS rfl (gS rfl (gS rfl g0))) g0 (fun g => ?_)
  refine c_cond (et g0 rfl) (fun cB1 => ?_) (fun cB1 => ?_)
  · skip
    
    have hin : a ∈ xs := of_decide_eq_true cB1
    refine c_seq (fun K7 hK7 => ?_)
    refine c_region ?_
    refine l_step (y_moveV (et (gS rfl (gS rfl g0)) rfl)) ?_
    refine l_step (y_assignV (et g0 rfl)) ?_
    refine l_nil ?_
    refine hK7 _ _ ?_
    refine fg1 4 g0 (fun g => ?_)
    refine c_ret ?_
    refine ret1 rfl (res_tmp (et g0 rfl)) ?_
    exact ⟨H, Go.ofUp hF0 U, by rw [withA, if_pos hin]; exact hL⟩
  · skip
    
    have hin : ¬ a ∈ xs := of_decide_eq_false cB1
    refine c_skip ?_
    refine hK3 _ _ ?_
    refine fg2 0 3 (gS rfl (gS rfl g0)) (gS rfl g0) (fun g => ?_)
    refine c_seq (fun K8 hK8 => ?_)
    refine c_region ?_
    refine l_step y_assignC ?_
    refine l_nil ?_
    refine hK8 _ _ ?_
    refine c_seq (fun K9 hK9 => ?_)
    refine c_region ?_
    refine l_step y_assignC ?_
    refine l_nil ?_
    refine hK9 _ _ ?_
    refine c_seq (fun K10 hK10 => ?_)
    refine c_seq (fun K11 hK11 => ?_)
    refine c_region ?_
    refine l_step (y_moveV (et (gS rfl (gS rfl (gS rfl g0))) rfl)) ?_
    refine l_step (y_len Hvaa.underlying93 (et g0 rfl)) ?_
    refine l_step y_moveC ?_
    refine l_nil ?_
    refine hK11 _ _ ?_
    refine fg6 3 5 6 13 14 15 (gS rfl (gS rfl (gS rfl (gS rfl (gS rfl g0))))) (gS rfl (gS rfl (gS rfl (gS rfl g0)))) (gS rfl (gS rfl (gS rfl g0))) (gS rfl (gS rfl g0)) (gS rfl g0) g0 (fun g => ?_)
    refine c_block (fun Q12 hQ12 => ?_)
    refine fg6 3 5 6 13 14 15 (gS rfl (gS rfl (gS rfl (gS rfl (gS rfl g0))))) (gS rfl (gS rfl (gS rfl (gS rfl g0)))) (gS rfl (gS rfl (gS rfl g0))) (gS rfl (gS rfl g0)) (gS rfl g0) g0 (fun g => ?_)
    obtain ⟨base, hbs⟩ : ∃ base, base = w5.heap.size := ⟨_, rfl⟩
    have hbw : w.heap.size ≤ base := by rw [hbs]; exact U.size
    have hb3 : b2 < base := by rw [hbs]; exact k2.lt
    refine c_loop (fun k_ s_ W13 => ∃ (g : Nat → Value) (ov : Value) (lb : Bool) (O : List Nat) (i : Nat), s_ = (upd (upd (upd (upd (upd (upd g 3 (.pointer (some ⟨b2, 0, none⟩))) 5 ov) 6 (.bool lb)) 13 (.slice sa xs.length sc)) 14 (.int .i64 (xs.length : Nat))) 15 (.int .i64 (i : Nat))) ∧ xs.length - i = k_ ∧ (i ≤ xs.length) ∧ (Gr base 25 20 W13.heap.size W13 ov (O.map aK)) ∧ (∀ x ∈ O, x < A160) ∧ (O.length = i + lb.toNat) ∧ ((if lb then O ++ xs.drop i else O ++ insA a (xs.drop i)) = insA a xs) ∧ Ch (fun k => base ≤ k) w5 W13) (xs.length - (0)) ?_ ?_
    · exact ⟨g, (.slice none 0 0), false, ([] : List Nat), 0, rfl, rfl, Nat.zero_le _, Gr.nil _ _ _ _ _, by simp, by simp, by simp, Ch.refl _ _⟩
    · skip
      intro k_ s_ W13 hI K13 hK13
      obtain ⟨g, ov, lb, O, i, rfl, rfl, hi, hO, hOb, hOl, hfin, V13⟩ := hI
      replace k2 := k2.ch V13 (by omega)
      replace hF := hF.ch V13 (by first | omega | (intro q hq e; have := hF0.lt hq; omega) | (intro q hq e; exact hOo.ne (by have := hF0.lt hq; omega) e))
      replace U := U.cc V13 (by intro b hb; first | exact hb.elim | omega | (simp at hb ⊢; omega))
      have hlb1 := Bool.toNat_le lb
      have hbW : base ≤ W13.heap.size := by rw [hbs]; exact V13.size
      refine c_seq (fun K14 hK14 => ?_)
      refine c_region ?_
      refine l_step (y_lss (et g0 rfl) (et (gS rfl g0) rfl)) ?_
      refine l_nil ?_
      refine hK14 _ _ ?_
      refine c_seq (fun K15 hK15 => ?_)
      refine c_cond (et g0 rfl) (fun cB2 => ?_) (fun cB2 => ?_)
      · skip
        simp only [decide_eq_true_eq, decide_eq_false_iff_not, Int.not_lt, Int.not_le, Bool.not_eq_true', Bool.not_eq_false', Bool.not_eq_eq_eq_not, Bool.not_true, Bool.not_false] at cB2
        refine c_skip ?_
        refine hK15 _ _ ?_
        refine fg6 3 5 6 13 14 15 (gS rfl (gS rfl (gS rfl (gS rfl (gS rfl (gS rfl g0)))))) (gS rfl (gS rfl (gS rfl (gS rfl (gS rfl g0))))) (gS rfl (gS rfl (gS rfl (gS rfl g0)))) (gS rfl (gS rfl (gS rfl g0))) (gS rfl (gS rfl g0)) (gS rfl g0) (fun g => ?_)
        refine c_seq (fun K17 hK17 => ?_)
        refine c_block (fun Q18 hQ18 => ?_)
        refine c_seq (fun K19 hK19 => ?_)
        refine c_region ?_
        obtain ⟨bq, oq, r, ha0, hrow, hrl, hr1, hr2⟩ := hL.row hF (i := i) (by omega)
        rw [hr1] at hrow hrl
        rw [List.drop_eq_getElem_cons (show i < xs.length by omega)] at hfin
        refine l_step (y_idxSa ha0 Hvaa.underlying93 sz_25 (et (gS rfl (gS rfl g0)) rfl) (et g0 rfl) ?_) ?_
        omega
        refine l_step (y_loadR agg_25 sz_25 (et g0 rfl) hrl (at1R hrow)) ?_
        refine l_eff (e_alloc zr_25) (fun v20 w20 h20 => ?_)
        obtain ⟨b20, rfl, n20⟩ := h20
        have d2_20 : b2 < b20 := Nat.lt_of_lt_of_le k2.lt n20.fresh
        have f20 : w.heap.size ≤ b20 := Nat.le_trans U.size n20.fresh
        have fV13_20 := Nat.le_trans V13.size n20.fresh
        replace k2 := k2.up n20.up
        replace hF := hF.up n20.up
        replace hO := hO.up n20.up
        replace U := U.tr n20.up
        replace V13 := V13.tr n20.up
        have k20 := n20.blk
        have hb8 := n20.fresh
        refine l_effN (e_store sz_25 (et g0 rfl) (cellsV (et (gS rfl g0) rfl) rfl) (by rw [length_bL, length_be]) (by exact one_bL _) k20 (by exact Nat.le_of_ble_eq_true rfl)) (fun v21 w21 h21 => ?_)
        obtain ⟨rfl, x21⟩ := h21
        replace k2 := k2.ch x21.ch (by omega)
        replace hF := hF.ch x21.ch (by first | omega | (first | omega | (intro q hq e; have := hF0.lt hq; omega) | (intro q hq e; exact hOo.ne (by have := hF0.lt hq; omega) e)))
        replace k20 := x21.blk.full (by rw [length_bL, length_be]; rfl)
        replace hO := hO.wr x21 (by first | omega | (right; omega))
        replace U := U.st x21 f20
        replace V13 := V13.st x21 (by omega)
        refine l_nil ?_
        refine hK19 _ _ ?_
        refine fg7 3 5 6 13 14 15 8 (gS rfl (gS rfl (gS rfl (gS rfl (gS rfl (gS rfl (gS rfl (gS rfl g0)))))))) (gS rfl (gS rfl (gS rfl (gS rfl (gS rfl (gS rfl (gS rfl g0))))))) (gS rfl (gS rfl (gS rfl (gS rfl (gS rfl (gS rfl g0)))))) (gS rfl (gS rfl (gS rfl (gS rfl (gS rfl g0))))) (gS rfl (gS rfl (gS rfl (gS rfl g0)))) (gS rfl (gS rfl (gS rfl g0))) g0 (fun g => ?_)
        refine c_seq (fun K22 hK22 => ?_)
        refine c_seq (fun K23 hK23 => ?_)
        refine c_region ?_
        refine l_step (y_moveV (et (gS rfl (gS rfl (gS rfl (gS rfl g0)))) rfl)) ?_
        refine l_step (y_not (et g0 rfl)) ?_
        refine l_step (y_moveV (et g0 rfl)) ?_
        refine gsplitL (i := 21) g0 (fun q24 => ?_) (fun q24 => ?_)
        · skip
          have hlb : lb = false := by simpa using q24
          refine l_gstep (j := 2) (t := 21) (by exact rfl) (by exact rfl) (et g0 rfl) (by decide) (y_loadB agg_25 sz_25 (et (gS rfl (gS rfl (gS rfl (gS rfl (gS rfl (gS rfl (gS rfl (gS rfl (gS rfl (gS rfl g0)))))))))) rfl) (by first | (simp only [Value.cells, hV, aV, bV, wV, wL, List.size_toArray, length_bL, length_uL, length_be, size_spl, List.length_cons, List.length_nil, List.length_replicate, Nat.zero_add, Nat.reduceAdd, Nat.reduceLeDiff, Nat.le_refl]; done) | rfl) (at1B k2)) ?_
          refine l_gstep (j := 2) (t := 21) (by exact rfl) (by exact rfl) (et (gS rfl g0) rfl) (by decide) (y_loadB agg_25 sz_25 (et (gS rfl (gS rfl (gS rfl (gS rfl (gS rfl g0))))) rfl) (by first | (simp only [Value.cells, hV, aV, bV, wV, wL, List.size_toArray, length_bL, length_uL, length_be, size_spl, List.length_cons, List.length_nil, List.length_replicate, Nat.zero_add, Nat.reduceAdd, Nat.reduceLeDiff, Nat.le_refl]; done) | rfl) (at1B k20)) ?_
          refine l_geff (j := 2) (t := 21) (by exact rfl) (by exact rfl) (et (gS rfl (gS rfl g0)) rfl) rfl (e_callV cal_130 (aC (et (gS rfl g0) rfl) (aC (et g0 rfl) aN)) (yp_before a xs[i] _ ha hr2)) (fun v25 w25 h25 => ?_)
          obtain ⟨rfl, u25⟩ := h25
          replace k2 := k2.up u25
          replace k20 := k20.up u25
          replace hF := hF.up u25
          replace hO := hO.up u25
          replace U := U.tr u25
          replace V13 := V13.tr u25
          refine l_step (y_pickT (et (gS rfl (gS rfl (gS rfl g0))) rfl) (et g0 rfl)) ?_
          refine l_nil ?_
          refine hK23 _ _ ?_
          refine fg8 3 5 6 13 14 15 8 25 (gS rfl (gS rfl (gS rfl (gS rfl (gS rfl (gS rfl (gS rfl (gS rfl (gS rfl (gS rfl (gS rfl (gS rfl (gS rfl (gS rfl g0)))))))))))))) (gS rfl (gS rfl (gS rfl (gS rfl (gS rfl (gS rfl (gS rfl (gS rfl (gS rfl (gS rfl (gS rfl (gS rfl (gS rfl g0))))))))))))) (gS rfl (gS rfl (gS rfl (gS rfl (gS rfl (gS rfl (gS rfl (gS rfl (gS rfl (gS rfl (gS rfl (gS rfl g0)))))))))))) (gS rfl (gS rfl (gS rfl (gS rfl (gS rfl (gS rfl (gS rfl (gS rfl (gS rfl (gS rfl (gS rfl g0))))))))))) (gS rfl (gS rfl (gS rfl (gS rfl (gS rfl (gS rfl (gS rfl (gS rfl (gS rfl (gS rfl g0)))))))))) (gS rfl (gS rfl (gS rfl (gS rfl (gS rfl (gS rfl (gS rfl (gS rfl (gS rfl g0))))))))) (gS rfl (gS rfl (gS rfl (gS rfl (gS rfl (gS rfl (gS rfl (gS rfl g0)))))))) g0 (fun g => ?_)
          refine c_cond (et g0 rfl) (fun cB3 => ?_) (fun cB3 => ?_)
          · skip
            
            have hlt : a < xs[i] := of_decide_eq_true cB3
            refine c_seq (fun K27 hK27 => ?_)
            refine c_region ?_
            refine l_step (y_moveV (et (gS rfl (gS rfl (gS rfl (gS rfl (gS rfl (gS rfl g0)))))) rfl)) ?_
            refine l_step (y_loadB agg_25 sz_25 (et (gS rfl (gS rfl (gS rfl (gS rfl (gS rfl (gS rfl (gS rfl (gS rfl g0)))))))) rfl) (by first | (simp only [Value.cells, hV, aV, bV, wV, wL, List.size_toArray, length_bL, length_uL, length_be, size_spl, List.length_cons, List.length_nil, List.length_replicate, Nat.zero_add, Nat.reduceAdd, Nat.reduceLeDiff, Nat.le_refl]; done) | rfl) (at1B k2)) ?_
            refine l_eff (e_slice1 Hvaa.underlying93 sz_25 zr_25 rfl (by decide) (et g0 rfl) (by simp [Value.cells, length_bL, length_be])) (fun v28 w28 h28 => ?_)
            obtain ⟨b28, rfl, n28⟩ := h28
            replace k2 := k2.up n28.up
            replace k20 := k20.up n28.up
            replace hF := hF.up n28.up
            replace hO := hO.up n28.up
            replace U := U.tr n28.up
            replace V13 := V13.tr n28.up
            have kq28 : Blk w28 b28 (aK a).toArray := n28.blk
            have hbz : base ≤ w28.heap.size := by have := k20.lt; omega
            refine l_eff (e_app Hvaa.underlying93 sz_25 zr_25 by_25 rfl (by decide) (et (gS rfl (gS rfl g0)) rfl) hO (et g0 rfl) (aK_len a) kq28 (aK_one a) (by decide) (by simp; omega) hbz) (fun v29 w29 h29 => ?_)
            obtain ⟨hO29, c29, hown29⟩ := h29
            have hOo := hO
            have nO8 := hown29 _ k20.lt (hO.ne (by omega))
            replace k2 := k2.ch c29 (by first | omega | exact hOo.ne (by omega) | assumption | (intro q hq; exact hOo.ne (by have := hF0.lt hq; omega)))
            replace k20 := k20.ch c29 (by first | omega | exact hOo.ne (by omega) | assumption | (intro q hq; exact hOo.ne (by have := hF0.lt hq; omega)))
            replace hF := hF.ch c29 (by first | omega | (intro q hq e; have := hF0.lt hq; omega) | (intro q hq e; exact hOo.ne (by have := hF0.lt hq; omega) e))
            replace hO := hO29
            replace V13 := V13.cc c29 (by intro b hb; first | omega | (simp at hb ⊢; omega) | (have := hOo.lim b hb.symm; omega))
            replace U := U.cc c29 (by intro b hb; first | (have := hOo.lim b hb.symm; omega) | omega | exact .inl hb | exact .inr (hb ▸ U))
            refine l_step (y_assignV (et g0 rfl)) ?_
            refine l_nil ?_
            refine hK27 _ _ ?_
            refine fg6 3 5 13 14 15 8 (gS rfl (gS rfl (gS rfl (gS rfl (gS rfl (gS rfl (gS rfl (gS rfl (gS rfl (gS rfl (gS rfl (gS rfl g0)))))))))))) g0 (gS rfl (gS rfl (gS rfl (gS rfl (gS rfl (gS rfl (gS rfl (gS rfl (gS rfl g0))))))))) (gS rfl (gS rfl (gS rfl (gS rfl (gS rfl (gS rfl (gS rfl (gS rfl g0)))))))) (gS rfl (gS rfl (gS rfl (gS rfl (gS rfl (gS rfl (gS rfl g0))))))) (gS rfl (gS rfl (gS rfl (gS rfl (gS rfl (gS rfl g0)))))) (fun g => ?_)
            refine c_region ?_
            refine l_step y_assignC ?_
            refine l_nil ?_
            refine hK22 _ _ ?_
            refine c_region ?_
            refine l_step (y_moveV (et (gS rfl (gS rfl (gS rfl (gS rfl (gS rfl g0))))) rfl)) ?_
            refine l_step (y_loadB agg_25 sz_25 (et (gS rfl (gS rfl g0)) rfl) (by first | (simp only [Value.cells, hV, aV, bV, wV, wL, List.size_toArray, length_bL, length_uL, length_be, size_spl, List.length_cons, List.length_nil, List.length_replicate, Nat.zero_add, Nat.reduceAdd, Nat.reduceLeDiff, Nat.le_refl]; done) | rfl) (at1B k20)) ?_
            refine l_eff (e_slice1 Hvaa.underlying93 sz_25 zr_25 rfl (by decide) (et g0 rfl) (by simp [Value.cells, length_bL, length_be])) (fun v30 w30 h30 => ?_)
            obtain ⟨b30, rfl, n30⟩ := h30
            replace k2 := k2.up n30.up
            replace k20 := k20.up n30.up
            replace hF := hF.up n30.up
            replace hO := hO.up n30.up
            replace U := U.tr n30.up
            replace V13 := V13.tr n30.up
            have kq30 : Blk w30 b30 (aK xs[i]).toArray := n30.blk
            have hbz : base ≤ w30.heap.size := by have := k20.lt; omega
            refine l_eff (e_app Hvaa.underlying93 sz_25 zr_25 by_25 rfl (by decide) (et (gS rfl (gS rfl g0)) rfl) hO (et g0 rfl) (aK_len xs[i]) kq30 (aK_one xs[i]) (by decide) (by simp; omega) hbz) (fun v31 w31 h31 => ?_)
            obtain ⟨hO31, c31, hown31⟩ := h31
            have hOo := hO
            replace k2 := k2.ch c31 (by first | omega | exact hOo.ne (by omega) | assumption | (intro q hq; exact hOo.ne (by have := hF0.lt hq; omega)))
            replace k20 := k20.ch c31 (by first | omega | exact hOo.ne (by omega) | assumption | (intro q hq; exact hOo.ne (by have := hF0.lt hq; omega)))
            replace hF := hF.ch c31 (by first | omega | (intro q hq e; have := hF0.lt hq; omega) | (intro q hq e; exact hOo.ne (by have := hF0.lt hq; omega) e))
            replace hO := hO31
            replace V13 := V13.cc c31 (by intro b hb; first | omega | (simp at hb ⊢; omega) | (have := hOo.lim b hb.symm; omega))
            replace U := U.cc c31 (by intro b hb; first | (have := hOo.lim b hb.symm; omega) | omega | exact .inl hb | exact .inr (hb ▸ U))
            refine l_step (y_assignV (et g0 rfl)) ?_
            refine l_nil ?_
            refine hQ18 _ _ _ (in_normal ?_)
            refine hK17 _ _ ?_
            refine fg6 3 5 13 14 15 6 (gS rfl (gS rfl (gS rfl (gS rfl (gS rfl (gS rfl (gS rfl (gS rfl (gS rfl (gS rfl (gS rfl g0))))))))))) g0 (gS rfl (gS rfl (gS rfl (gS rfl (gS rfl (gS rfl (gS rfl (gS rfl (gS rfl g0))))))))) (gS rfl (gS rfl (gS rfl (gS rfl (gS rfl (gS rfl (gS rfl (gS rfl g0)))))))) (gS rfl (gS rfl (gS rfl (gS rfl (gS rfl (gS rfl (gS rfl g0))))))) (gS rfl (gS rfl (gS rfl (gS rfl (gS rfl g0))))) (fun g => ?_)
            refine c_region ?_
            refine l_step (y_add (et (gS rfl g0) rfl) rfl (addIN (y := 1) ?_)) ?_
            omega
            refine l_step (y_moveV (et g0 rfl)) ?_
            refine l_nil ?_
            refine fK6 3 5 6 13 14 15 (gS rfl (gS rfl (gS rfl (gS rfl (gS rfl (gS rfl (gS rfl g0))))))) (gS rfl (gS rfl (gS rfl (gS rfl (gS rfl (gS rfl g0)))))) (gS rfl (gS rfl g0)) (gS rfl (gS rfl (gS rfl (gS rfl (gS rfl g0))))) (gS rfl (gS rfl (gS rfl (gS rfl g0)))) g0 (fun g => ?_)
            exact hK13 (xs.length - ((i + 1))) _ _ (by omega) ⟨g, _, true, (O ++ [a] ++ [xs[i]]), (i + 1), rfl, rfl, by omega, by rw [List.map_append, List.map_append]; exact hO, mem_app (mem_app hOb ha) hr2, by subst hlb; simp at hOl ⊢; omega, wa_lay hfin hlb hlt, V13⟩
          · skip
            
            have hlt : ¬ a < xs[i] := of_decide_eq_false cB3
            refine c_skip ?_
            refine hK22 _ _ ?_
            refine fg7 3 5 6 13 14 15 8 (gS rfl (gS rfl (gS rfl (gS rfl (gS rfl (gS rfl (gS rfl g0))))))) (gS rfl (gS rfl (gS rfl (gS rfl (gS rfl (gS rfl g0)))))) (gS rfl (gS rfl (gS rfl (gS rfl (gS rfl g0))))) (gS rfl (gS rfl (gS rfl (gS rfl g0)))) (gS rfl (gS rfl (gS rfl g0))) (gS rfl (gS rfl g0)) (gS rfl g0) (fun g => ?_)
            refine c_region ?_
            refine l_step (y_moveV (et (gS rfl (gS rfl (gS rfl (gS rfl (gS rfl g0))))) rfl)) ?_
            refine l_step (y_loadB agg_25 sz_25 (et (gS rfl g0) rfl) (by first | (simp only [Value.cells, hV, aV, bV, wV, wL, List.size_toArray, length_bL, length_uL, length_be, size_spl, List.length_cons, List.length_nil, List.length_replicate, Nat.zero_add, Nat.reduceAdd, Nat.reduceLeDiff, Nat.le_refl]; done) | rfl) (at1B k20)) ?_
            refine l_eff (e_slice1 Hvaa.underlying93 sz_25 zr_25 rfl (by decide) (et g0 rfl) (by simp [Value.cells, length_bL, length_be])) (fun v32 w32 h32 => ?_)
            obtain ⟨b32, rfl, n32⟩ := h32
            replace k2 := k2.up n32.up
            replace k20 := k20.up n32.up
            replace hF := hF.up n32.up
            replace hO := hO.up n32.up
            replace U := U.tr n32.up
            replace V13 := V13.tr n32.up
            have kq32 : Blk w32 b32 (aK xs[i]).toArray := n32.blk
            have hbz : base ≤ w32.heap.size := by have := k20.lt; omega
            refine l_eff (e_app Hvaa.underlying93 sz_25 zr_25 by_25 rfl (by decide) (et (gS rfl (gS rfl g0)) rfl) hO (et g0 rfl) (aK_len xs[i]) kq32 (aK_one xs[i]) (by decide) (by simp; omega) hbz) (fun v33 w33 h33 => ?_)
            obtain ⟨hO33, c33, hown33⟩ := h33
            have hOo := hO
            replace k2 := k2.ch c33 (by first | omega | exact hOo.ne (by omega) | assumption | (intro q hq; exact hOo.ne (by have := hF0.lt hq; omega)))
            replace k20 := k20.ch c33 (by first | omega | exact hOo.ne (by omega) | assumption | (intro q hq; exact hOo.ne (by have := hF0.lt hq; omega)))
            replace hF := hF.ch c33 (by first | omega | (intro q hq e; have := hF0.lt hq; omega) | (intro q hq e; exact hOo.ne (by have := hF0.lt hq; omega) e))
            replace hO := hO33
            replace V13 := V13.cc c33 (by intro b hb; first | omega | (simp at hb ⊢; omega) | (have := hOo.lim b hb.symm; omega))
            replace U := U.cc c33 (by intro b hb; first | (have := hOo.lim b hb.symm; omega) | omega | exact .inl hb | exact .inr (hb ▸ U))
            refine l_step (y_assignV (et g0 rfl)) ?_
            refine l_nil ?_
            refine hQ18 _ _ _ (in_normal ?_)
            refine hK17 _ _ ?_
            refine fg6 3 5 6 13 14 15 (gS rfl (gS rfl (gS rfl (gS rfl (gS rfl (gS rfl (gS rfl (gS rfl (gS rfl (gS rfl (gS rfl g0))))))))))) g0 (gS rfl (gS rfl (gS rfl (gS rfl (gS rfl (gS rfl (gS rfl (gS rfl (gS rfl g0))))))))) (gS rfl (gS rfl (gS rfl (gS rfl (gS rfl (gS rfl (gS rfl (gS rfl g0)))))))) (gS rfl (gS rfl (gS rfl (gS rfl (gS rfl (gS rfl (gS rfl g0))))))) (gS rfl (gS rfl (gS rfl (gS rfl (gS rfl (gS rfl g0)))))) (fun g => ?_)
            refine c_region ?_
            refine l_step (y_add (et g0 rfl) rfl (addIN (y := 1) ?_)) ?_
            omega
            refine l_step (y_moveV (et g0 rfl)) ?_
            refine l_nil ?_
            refine fK6 3 5 6 13 14 15 (gS rfl (gS rfl (gS rfl (gS rfl (gS rfl (gS rfl (gS rfl g0))))))) (gS rfl (gS rfl (gS rfl (gS rfl (gS rfl (gS rfl g0)))))) (gS rfl (gS rfl (gS rfl (gS rfl (gS rfl g0))))) (gS rfl (gS rfl (gS rfl (gS rfl g0)))) (gS rfl (gS rfl (gS rfl g0))) g0 (fun g => ?_)
            exact hK13 (xs.length - ((i + 1))) _ _ (by omega) ⟨g, _, lb, (O ++ [xs[i]]), (i + 1), rfl, rfl, by omega, by rw [List.map_append]; exact hO, mem_app hOb hr2, by simp; omega, wa_step hfin (by first | exact .inl hlb | exact .inr hlt), V13⟩
        · skip
          have hlb : lb = true := by simpa using q24
          refine l_gskip (j := 2) (t := 21) (by exact rfl) (by exact rfl) (et g0 rfl) (by decide) (by decide) ?_
          refine l_gskip (j := 2) (t := 21) (by exact rfl) (by exact rfl) (et (gS rfl g0) rfl) (by decide) (by decide) ?_
          refine l_gskip (j := 2) (t := 21) (by exact rfl) (by exact rfl) (et (gS rfl (gS rfl g0)) rfl) (by decide) (by decide) ?_
          refine l_step (y_pickF (et (gS rfl (gS rfl (gS rfl g0))) rfl) rfl) ?_
          refine l_nil ?_
          refine hK23 _ _ ?_
          refine fg8 3 5 6 13 14 15 8 25 (gS rfl (gS rfl (gS rfl (gS rfl (gS rfl (gS rfl (gS rfl (gS rfl (gS rfl (gS rfl (gS rfl (gS rfl (gS rfl (gS rfl g0)))))))))))))) (gS rfl (gS rfl (gS rfl (gS rfl (gS rfl (gS rfl (gS rfl (gS rfl (gS rfl (gS rfl (gS rfl (gS rfl (gS rfl g0))))))))))))) (gS rfl (gS rfl (gS rfl (gS rfl (gS rfl (gS rfl (gS rfl (gS rfl (gS rfl (gS rfl (gS rfl (gS rfl g0)))))))))))) (gS rfl (gS rfl (gS rfl (gS rfl (gS rfl (gS rfl (gS rfl (gS rfl (gS rfl (gS rfl (gS rfl g0))))))))))) (gS rfl (gS rfl (gS rfl (gS rfl (gS rfl (gS rfl (gS rfl (gS rfl (gS rfl (gS rfl g0)))))))))) (gS rfl (gS rfl (gS rfl (gS rfl (gS rfl (gS rfl (gS rfl (gS rfl (gS rfl g0))))))))) (gS rfl (gS rfl (gS rfl (gS rfl (gS rfl (gS rfl (gS rfl (gS rfl g0)))))))) g0 (fun g => ?_)
          refine c_false (et g0 rfl) rfl ?_
          refine c_skip ?_
          refine hK22 _ _ ?_
          refine fg7 3 5 6 13 14 15 8 (gS rfl (gS rfl (gS rfl (gS rfl (gS rfl (gS rfl (gS rfl g0))))))) (gS rfl (gS rfl (gS rfl (gS rfl (gS rfl (gS rfl g0)))))) (gS rfl (gS rfl (gS rfl (gS rfl (gS rfl g0))))) (gS rfl (gS rfl (gS rfl (gS rfl g0)))) (gS rfl (gS rfl (gS rfl g0))) (gS rfl (gS rfl g0)) (gS rfl g0) (fun g => ?_)
          refine c_region ?_
          refine l_step (y_moveV (et (gS rfl (gS rfl (gS rfl (gS rfl (gS rfl g0))))) rfl)) ?_
          refine l_step (y_loadB agg_25 sz_25 (et (gS rfl g0) rfl) (by first | (simp only [Value.cells, hV, aV, bV, wV, wL, List.size_toArray, length_bL, length_uL, length_be, size_spl, List.length_cons, List.length_nil, List.length_replicate, Nat.zero_add, Nat.reduceAdd, Nat.reduceLeDiff, Nat.le_refl]; done) | rfl) (at1B k20)) ?_
          refine l_eff (e_slice1 Hvaa.underlying93 sz_25 zr_25 rfl (by decide) (et g0 rfl) (by simp [Value.cells, length_bL, length_be])) (fun v35 w35 h35 => ?_)
          obtain ⟨b35, rfl, n35⟩ := h35
          replace k2 := k2.up n35.up
          replace k20 := k20.up n35.up
          replace hF := hF.up n35.up
          replace hO := hO.up n35.up
          replace U := U.tr n35.up
          replace V13 := V13.tr n35.up
          have kq35 : Blk w35 b35 (aK xs[i]).toArray := n35.blk
          have hbz : base ≤ w35.heap.size := by have := k20.lt; omega
          refine l_eff (e_app Hvaa.underlying93 sz_25 zr_25 by_25 rfl (by decide) (et (gS rfl (gS rfl g0)) rfl) hO (et g0 rfl) (aK_len xs[i]) kq35 (aK_one xs[i]) (by decide) (by simp; omega) hbz) (fun v36 w36 h36 => ?_)
          obtain ⟨hO36, c36, hown36⟩ := h36
          have hOo := hO
          replace k2 := k2.ch c36 (by first | omega | exact hOo.ne (by omega) | assumption | (intro q hq; exact hOo.ne (by have := hF0.lt hq; omega)))
          replace k20 := k20.ch c36 (by first | omega | exact hOo.ne (by omega) | assumption | (intro q hq; exact hOo.ne (by have := hF0.lt hq; omega)))
          replace hF := hF.ch c36 (by first | omega | (intro q hq e; have := hF0.lt hq; omega) | (intro q hq e; exact hOo.ne (by have := hF0.lt hq; omega) e))
          replace hO := hO36
          replace V13 := V13.cc c36 (by intro b hb; first | omega | (simp at hb ⊢; omega) | (have := hOo.lim b hb.symm; omega))
          replace U := U.cc c36 (by intro b hb; first | (have := hOo.lim b hb.symm; omega) | omega | exact .inl hb | exact .inr (hb ▸ U))
          refine l_step (y_assignV (et g0 rfl)) ?_
          refine l_nil ?_
          refine hQ18 _ _ _ (in_normal ?_)
          refine hK17 _ _ ?_
          refine fg6 3 5 6 13 14 15 (gS rfl (gS rfl (gS rfl (gS rfl (gS rfl (gS rfl (gS rfl (gS rfl (gS rfl (gS rfl (gS rfl g0))))))))))) g0 (gS rfl (gS rfl (gS rfl (gS rfl (gS rfl (gS rfl (gS rfl (gS rfl (gS rfl g0))))))))) (gS rfl (gS rfl (gS rfl (gS rfl (gS rfl (gS rfl (gS rfl (gS rfl g0)))))))) (gS rfl (gS rfl (gS rfl (gS rfl (gS rfl (gS rfl (gS rfl g0))))))) (gS rfl (gS rfl (gS rfl (gS rfl (gS rfl (gS rfl g0)))))) (fun g => ?_)
          refine c_region ?_
          refine l_step (y_add (et g0 rfl) rfl (addIN (y := 1) ?_)) ?_
          omega
          refine l_step (y_moveV (et g0 rfl)) ?_
          refine l_nil ?_
          refine fK6 3 5 6 13 14 15 (gS rfl (gS rfl (gS rfl (gS rfl (gS rfl (gS rfl (gS rfl g0))))))) (gS rfl (gS rfl (gS rfl (gS rfl (gS rfl (gS rfl g0)))))) (gS rfl (gS rfl (gS rfl (gS rfl (gS rfl g0))))) (gS rfl (gS rfl (gS rfl (gS rfl g0)))) (gS rfl (gS rfl (gS rfl g0))) g0 (fun g => ?_)
          exact hK13 (xs.length - ((i + 1))) _ _ (by omega) ⟨g, _, lb, (O ++ [xs[i]]), (i + 1), rfl, rfl, by omega, by rw [List.map_append]; exact hO, mem_app hOb hr2, by simp; omega, wa_step hfin (by first | exact .inl hlb | exact .inr hlt), V13⟩
      · skip
        simp only [decide_eq_true_eq, decide_eq_false_iff_not, Int.not_lt, Int.not_le, Bool.not_eq_true', Bool.not_eq_false', Bool.not_eq_eq_eq_not, Bool.not_true, Bool.not_false] at cB2
        refine c_exit ?_
        refine hQ12 _ _ _ (in_exit ?_)
        refine hK10 _ _ ?_
        refine fg3 3 5 6 (gS rfl (gS rfl (gS rfl (gS rfl (gS rfl (gS rfl g0)))))) (gS rfl (gS rfl (gS rfl (gS rfl (gS rfl g0))))) (gS rfl (gS rfl (gS rfl (gS rfl g0)))) (fun g => ?_)
        refine c_seq (fun K37 hK37 => ?_)
        refine c_seq (fun K38 hK38 => ?_)
        refine c_region ?_
        refine l_step (y_moveV (et g0 rfl)) ?_
        refine l_step (y_not (et g0 rfl)) ?_
        refine l_nil ?_
        refine hK38 _ _ ?_
        refine fg3 3 5 36 (gS rfl (gS rfl (gS rfl (gS rfl g0)))) (gS rfl (gS rfl (gS rfl g0))) g0 (fun g => ?_)
        refine c_cond (et g0 rfl) (fun cB4 => ?_) (fun cB4 => ?_)
        · skip
          
          refine c_region ?_
          refine l_step (y_moveV (et (gS rfl g0) rfl)) ?_
          refine l_step (y_loadB agg_25 sz_25 (et (gS rfl (gS rfl (gS rfl g0))) rfl) (by first | (simp only [Value.cells, hV, aV, bV, wV, wL, List.size_toArray, length_bL, length_uL, length_be, size_spl, List.length_cons, List.length_nil, List.length_replicate, Nat.zero_add, Nat.reduceAdd, Nat.reduceLeDiff, Nat.le_refl]; done) | rfl) (at1B k2)) ?_
          refine l_eff (e_slice1 Hvaa.underlying93 sz_25 zr_25 rfl (by decide) (et g0 rfl) (by simp [Value.cells, length_bL, length_be])) (fun v40 w40 h40 => ?_)
          obtain ⟨b40, rfl, n40⟩ := h40
          replace k2 := k2.up n40.up
          replace hF := hF.up n40.up
          replace hO := hO.up n40.up
          replace U := U.tr n40.up
          have kq40 : Blk w40 b40 (aK a).toArray := n40.blk
          have hbz : base ≤ w40.heap.size := Nat.le_trans hbW n40.up.size
          refine l_eff (e_app Hvaa.underlying93 sz_25 zr_25 by_25 rfl (by decide) (et (gS rfl (gS rfl g0)) rfl) hO (et g0 rfl) (aK_len a) kq40 (aK_one a) (by decide) (by simp; omega) hbz) (fun v41 w41 h41 => ?_)
          obtain ⟨hO41, c41, hown41⟩ := h41
          have hOo := hO
          replace k2 := k2.ch c41 (by first | omega | exact hOo.ne (by omega) | assumption | (intro q hq; exact hOo.ne (by have := hF0.lt hq; omega)))
          replace hF := hF.ch c41 (by first | omega | (intro q hq e; have := hF0.lt hq; omega) | (intro q hq e; exact hOo.ne (by have := hF0.lt hq; omega) e))
          replace hO := hO41
          replace U := U.cc c41 (by intro b hb; first | (have := hOo.lim b hb.symm; omega) | omega | exact .inl hb | exact .inr (hb ▸ U))
          refine l_step (y_assignV (et g0 rfl)) ?_
          refine l_nil ?_
          refine hK37 _ _ ?_
          refine fg1 5 g0 (fun g => ?_)
          refine c_seq (fun K42 hK42 => ?_)
          refine c_region ?_
          refine l_step (y_moveV (et g0 rfl)) ?_
          refine l_step (y_assignV (et g0 rfl)) ?_
          refine l_nil ?_
          refine hK42 _ _ ?_
          refine fg1 4 g0 (fun g => ?_)
          refine c_ret ?_
          refine ret1 rfl (res_tmp (et g0 rfl)) ?_
          have hD : xs.drop i = [] := List.drop_of_length_le (by omega)
          rw [hD] at hfin
          obtain ⟨H2, g2, l2, sv⟩ := hO.keep (Go.ofUp hF0 U) hbw
          refine ⟨H2, g2, ?_⟩
          rw [withA, if_neg hin, ← hfin]
          have hlb : lb = false := by simpa using cB4
          subst hlb
          rw [← List.map_singleton (f := aK), ← List.map_append] at sv
          exact LV.ofMap sv (fun x _ => aK_len x) (fun x hx => ⟨rfl, mem_app hOb ha x hx⟩)
        · skip
          
          refine c_skip ?_
          refine hK37 _ _ ?_
          refine fg1 5 (gS rfl g0) (fun g => ?_)
          refine c_seq (fun K43 hK43 => ?_)
          refine c_region ?_
          refine l_step (y_moveV (et g0 rfl)) ?_
          refine l_step (y_assignV (et g0 rfl)) ?_
          refine l_nil ?_
          refine hK43 _ _ ?_
          refine fg1 4 g0 (fun g => ?_)
          refine c_ret ?_
          refine ret1 rfl (res_tmp (et g0 rfl)) ?_
          have hD : xs.drop i = [] := List.drop_of_length_le (by omega)
          rw [hD] at hfin
          obtain ⟨H2, g2, l2, sv⟩ := hO.keep (Go.ofUp hF0 U) hbw
          refine ⟨H2, g2, ?_⟩
          rw [withA, if_neg hin, ← hfin]
          have hlb : lb = true := by simpa using cB4
          subst hlb
          rw [List.append_nil]
          exact LV.ofMap sv (fun x _ => aK_len x) (fun x hx => ⟨rfl, hOb x hx⟩)
end Go.Proofs.YgvaawGreat
