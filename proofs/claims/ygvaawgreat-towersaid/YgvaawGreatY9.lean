import Derived.Test.YgvaawGreatY8
set_option maxRecDepth 100000
set_option maxHeartbeats 4000000
set_option linter.unusedSimpArgs false
set_option linter.unusedVariables false
namespace Go.Proofs.YgvaawGreat
open Go
theorem mem_none {α : Type} {l : List α} {x : α} (h : ∀ j, (hj : j < l.length) → l[j] ≠ x) : ¬ x ∈ l := fun hm => by
  obtain ⟨j, hj, e⟩ := List.getElem_of_mem hm
  exact h j hj e
theorem len21 {a : Nat} {x : Value} : (bL (be 20 a) ++ [x]).length = 21 := by rw [List.length_append, length_bL, length_be]; rfl
theorem len22 {a : Nat} {x y : Value} : (bL (be 20 a) ++ [x, y]).length = 22 := by rw [List.length_append, length_bL, length_be]; rfl
theorem yp_isWarmSlot (bs o sc a : Nat) (sa : Option Addr) (cs : Array Value) (xs : List (Nat × Nat)) (w : World) (H : Store) (hF : Fz w H) (kS : Blk w bs cs) (hva : cs[o + 2]? = some (.slice sa xs.length sc)) (hS0 : LV P_mark 21 H (.slice sa xs.length sc) xs) (ha : a < A160) (hn : xs.length < 9223372036854775808) {vk : Value} {key : Nat} (hK : NV H vk key) (hkb : key < 256 ^ 32) :
    Ret 129 [.pointer (some ⟨bs, o, none⟩), aV a, vk] w (fun v w' => v = .bool (decide ((a, key) ∈ xs)) ∧ Up w w') := by
  have hF0 := hF
  have lS := kS.lt
  refine enter (n := 30) Hvaa.func129 rfl rfl (Nat.le_of_ble_eq_true rfl) ?_
  have U := Up.refl w
  refine c_seq (fun K1 hK1 => ?_)
  refine c_region ?_
  refine l_eff (e_boxV (et (gS rfl g0) rfl)) (fun v2 w2 h2 => ?_)
  obtain ⟨b2, rfl, n2⟩ := h2
  have f2 : w.heap.size ≤ b2 := Nat.le_trans U.size n2.fresh
  replace hF := hF.up n2.up
  replace kS := kS.up n2.up
  replace U := U.tr n2.up
  have k2 := n2.blk
  replace k2 : Blk w2 b2 (bL (be 20 a)).toArray := k2
  refine l_step y_assignC ?_
  refine l_nil ?_
  refine hK1 _ _ ?_
  refine fg3 2 0 4 (gS rfl (gS rfl (gS rfl (gS rfl g0)))) (gS rfl (gS rfl g0)) (gS rfl g0) (fun g => ?_)
  refine c_seq (fun K3 hK3 => ?_)
  refine c_seq (fun K4 hK4 => ?_)
  refine c_region ?_
  refine l_step (y_moveV (et (gS rfl g0) rfl)) ?_
  refine l_step (y_nil (et g0 rfl)) ?_
  refine l_step (y_fld fld_98_2 (et g0 rfl)) ?_
  refine l_step (y_load1 one_94 (et g0 rfl) (at1 (kS.cell hva))) ?_
  refine l_step (y_len Hvaa.underlying94 (et g0 rfl)) ?_
  refine l_step y_moveC ?_
  refine l_nil ?_
  refine hK4 _ _ ?_
  refine fg5 2 4 12 13 14 (gS rfl (gS rfl (gS rfl (gS rfl (gS rfl (gS rfl (gS rfl (gS rfl g0)))))))) (gS rfl (gS rfl (gS rfl (gS rfl (gS rfl (gS rfl g0)))))) (gS rfl (gS rfl g0)) (gS rfl g0) g0 (fun g => ?_)
  refine c_block (fun Q5 hQ5 => ?_)
  refine fg5 2 4 12 13 14 (gS rfl (gS rfl (gS rfl (gS rfl g0)))) (gS rfl (gS rfl (gS rfl g0))) (gS rfl (gS rfl g0)) (gS rfl g0) g0 (fun g => ?_)
  refine c_loop (fun k_ s_ W6 => ∃ (g : Nat → Value) (i : Nat), s_ = (upd (upd (upd (upd (upd g 2 vk) 4 (.pointer (some ⟨b2, 0, none⟩))) 12 (.slice sa xs.length sc)) 13 (.int .i64 (xs.length : Nat))) 14 (.int .i64 (i : Nat))) ∧ xs.length - i = k_ ∧ (i ≤ xs.length) ∧ (∀ j, (hj : j < i) → ∀ h : j < xs.length, ¬ (xs[j].1 = a ∧ xs[j].2 = key)) ∧ Ch (fun k => False) w2 W6) (xs.length - (0)) ?_ ?_
  · exact ⟨g, 0, rfl, rfl, Nat.zero_le _, fun j hj => absurd hj (by omega), Ch.refl _ _⟩
  · skip
    intro k_ s_ W6 hI K6 hK6
    obtain ⟨g, i, rfl, rfl, hi, hno, V6⟩ := hI
    replace k2 := k2.ch V6 (by exact fun h => h)
    replace hF := hF.ch V6 (by first | exact fun h => h | exact fun _ h => h.elim | exact fun _ _ h => h)
    replace kS := kS.ch V6 (by first | exact fun h => h | exact fun _ h => h.elim | exact fun _ _ h => h)
    replace U := U.cc V6 (by intro b hb; first | exact hb.elim | omega | (simp at hb ⊢; omega))
    refine c_seq (fun K7 hK7 => ?_)
    refine c_region ?_
    refine l_step (y_lss (et g0 rfl) (et (gS rfl g0) rfl)) ?_
    refine l_nil ?_
    refine hK7 _ _ ?_
    refine c_seq (fun K8 hK8 => ?_)
    refine c_cond (et g0 rfl) (fun cB1 => ?_) (fun cB1 => ?_)
    · skip
      simp only [decide_eq_true_eq, decide_eq_false_iff_not, Int.not_lt, Int.not_le, Bool.not_eq_true', Bool.not_eq_false', Bool.not_eq_eq_eq_not, Bool.not_true, Bool.not_false] at cB1
      refine c_skip ?_
      refine hK8 _ _ ?_
      refine fg5 2 4 12 13 14 (gS rfl (gS rfl (gS rfl (gS rfl (gS rfl g0))))) (gS rfl (gS rfl (gS rfl (gS rfl g0)))) (gS rfl (gS rfl (gS rfl g0))) (gS rfl (gS rfl g0)) (gS rfl g0) (fun g => ?_)
      refine c_seq (fun K10 hK10 => ?_)
      refine c_block (fun Q11 hQ11 => ?_)
      refine c_seq (fun K12 hK12 => ?_)
      refine c_region ?_
      obtain ⟨bq, oq, r, ha0, hrow, hrl, vk1, hr1, hk1, hal, hkl⟩ := hS0.row hF (i := i) (by omega)
      rw [hr1] at hrow hrl
      refine l_step (y_idxSa ha0 Hvaa.underlying94 sz_232 (et (gS rfl (gS rfl g0)) rfl) (et g0 rfl) ?_) ?_
      omega
      refine l_step (y_loadR agg_232 sz_232 (et g0 rfl) len21 (at1R hrow)) ?_
      refine l_eff (e_alloc zr_232) (fun v13 w13 h13 => ?_)
      obtain ⟨b13, rfl, n13⟩ := h13
      have d2_13 : b2 < b13 := Nat.lt_of_lt_of_le k2.lt n13.fresh
      have f13 : w.heap.size ≤ b13 := Nat.le_trans U.size n13.fresh
      have fV6_13 := Nat.le_trans V6.size n13.fresh
      replace k2 := k2.up n13.up
      replace hF := hF.up n13.up
      replace kS := kS.up n13.up
      replace U := U.tr n13.up
      replace V6 := V6.tr n13.up
      have k13 := n13.blk
      refine l_effN (e_store sz_232 (et g0 rfl) (cellsV (et (gS rfl g0) rfl) rfl) len21 (by exact one_app (one_sgl hk1.one1)) k13 (by exact Nat.le_of_ble_eq_true rfl)) (fun v14 w14 h14 => ?_)
      obtain ⟨rfl, x14⟩ := h14
      replace k2 := k2.ch x14.ch (by omega)
      replace hF := hF.ch x14.ch (by first | omega | (first | omega | (intro q hq e; have := hF0.lt hq; omega)))
      replace kS := kS.ch x14.ch (by first | omega | (omega))
      replace k13 := x14.blk.full (by rw [len21]; rfl)
      replace U := U.st x14 f13
      replace V6 := V6.st x14 (by omega)
      refine l_nil ?_
      refine hK12 _ _ ?_
      refine fg6 2 4 12 13 14 8 (gS rfl (gS rfl (gS rfl (gS rfl (gS rfl (gS rfl (gS rfl g0))))))) (gS rfl (gS rfl (gS rfl (gS rfl (gS rfl (gS rfl g0)))))) (gS rfl (gS rfl (gS rfl (gS rfl (gS rfl g0))))) (gS rfl (gS rfl (gS rfl (gS rfl g0)))) (gS rfl (gS rfl (gS rfl g0))) g0 (fun g => ?_)
      refine c_seq (fun K15 hK15 => ?_)
      refine c_region ?_
      refine l_step (y_fld fld_232_0 (et g0 rfl)) ?_
      refine l_step (y_loadR agg_25 sz_25 (et g0 rfl) (by rw [length_bL, length_be]) (at1R (k13.row addr_row))) ?_
      refine l_step (y_loadB agg_25 sz_25 (et (gS rfl (gS rfl (gS rfl (gS rfl (gS rfl (gS rfl g0)))))) rfl) (by first | (simp only [Value.cells, hV, aV, bV, wV, wL, List.size_toArray, length_bL, length_uL, length_be, size_spl, List.length_cons, List.length_nil, List.length_replicate, Nat.zero_add, Nat.reduceAdd, Nat.reduceLeDiff, Nat.le_refl]; done) | rfl) (at1B k2)) ?_
      refine l_step (y_eqlAddr hal ha (et (gS rfl g0) rfl) (et g0 rfl)) ?_
      refine l_step (y_moveV (et g0 rfl)) ?_
      refine gsplitL (i := 22) g0 (fun q16 => ?_) (fun q16 => ?_)
      · skip
        have hA : xs[i].1 = a := of_decide_eq_true q16
        refine l_gstep (j := 4) (t := 22) (by exact rfl) (by exact rfl) (et g0 rfl) (by decide) (y_fld fld_232_1 (et (gS rfl (gS rfl (gS rfl (gS rfl (gS rfl (gS rfl g0)))))) rfl)) ?_
        refine l_gstep (j := 4) (t := 22) (by exact rfl) (by exact rfl) (et (gS rfl g0) rfl) (by decide) (y_load1 one_95 (et g0 rfl) (at1 (k13.cell ((app20 (i := 0) rfl).trans rfl)))) ?_
        refine l_gstep (j := 4) (t := 22) (by exact rfl) (by exact rfl) (et (gS rfl (gS rfl g0)) rfl) (by decide) (y_moveV (et (gS rfl (gS rfl (gS rfl (gS rfl (gS rfl (gS rfl (gS rfl (gS rfl (gS rfl (gS rfl (gS rfl (gS rfl (gS rfl g0))))))))))))) rfl)) ?_
        refine l_geff (j := 4) (t := 22) (by exact rfl) (by exact rfl) (et (gS rfl (gS rfl (gS rfl g0))) rfl) rfl (e_callV cal_121 (aC (et (gS rfl g0) rfl) (aC (et g0 rfl) aN)) (nat_cmp hF hk1 hK (smW hkl) (bd_sm hkb (by decide)))) (fun v17 w17 h17 => ?_)
        obtain ⟨rfl, u17⟩ := h17
        replace k2 := k2.up u17
        replace k13 := k13.up u17
        replace hF := hF.up u17
        replace kS := kS.up u17
        replace U := U.tr u17
        replace V6 := V6.tr u17
        refine l_gstep (j := 4) (t := 22) (by exact rfl) (by exact rfl) (et (gS rfl (gS rfl (gS rfl (gS rfl g0)))) rfl) (by decide) ((y_eql (et g0 rfl) rfl).to (congrArg Value.bool (cmp_eq0 xs[i].2 key))) ?_
        refine l_step (y_pickT (et (gS rfl (gS rfl (gS rfl (gS rfl (gS rfl g0))))) rfl) (et g0 rfl)) ?_
        refine l_nil ?_
        refine hK15 _ _ ?_
        refine fg6 2 4 12 13 14 28 (gS rfl (gS rfl (gS rfl (gS rfl (gS rfl (gS rfl (gS rfl (gS rfl (gS rfl (gS rfl (gS rfl (gS rfl (gS rfl (gS rfl (gS rfl (gS rfl (gS rfl g0))))))))))))))))) (gS rfl (gS rfl (gS rfl (gS rfl (gS rfl (gS rfl (gS rfl (gS rfl (gS rfl (gS rfl (gS rfl (gS rfl (gS rfl (gS rfl (gS rfl (gS rfl g0)))))))))))))))) (gS rfl (gS rfl (gS rfl (gS rfl (gS rfl (gS rfl (gS rfl (gS rfl (gS rfl (gS rfl (gS rfl (gS rfl (gS rfl (gS rfl (gS rfl g0))))))))))))))) (gS rfl (gS rfl (gS rfl (gS rfl (gS rfl (gS rfl (gS rfl (gS rfl (gS rfl (gS rfl (gS rfl (gS rfl (gS rfl (gS rfl g0)))))))))))))) (gS rfl (gS rfl (gS rfl (gS rfl (gS rfl (gS rfl (gS rfl (gS rfl (gS rfl (gS rfl (gS rfl (gS rfl (gS rfl g0))))))))))))) g0 (fun g => ?_)
        refine c_cond (et g0 rfl) (fun cB2 => ?_) (fun cB2 => ?_)
        · skip
          
          have he : xs[i].1 = a ∧ xs[i].2 = key := ⟨hA, of_decide_eq_true cB2⟩
          refine c_seq (fun K19 hK19 => ?_)
          refine c_region ?_
          refine l_step y_assignC ?_
          refine l_nil ?_
          refine hK19 _ _ ?_
          refine fg1 6 g0 (fun g => ?_)
          refine c_ret ?_
          refine hQ11 _ _ _ (in_ret ?_)
          refine hQ5 _ _ _ (in_ret ?_)
          refine ret1 rfl (res_tmp (et g0 rfl)) ?_
          refine ⟨?_, U⟩
          rw [decide_eq_true]
          have e : xs[i] = (a, key) := Prod.ext he.1 he.2
          exact e ▸ List.getElem_mem (by omega)
        · skip
          
          have hne : ¬ (xs[i].1 = a ∧ xs[i].2 = key) := fun h => absurd h.2 (of_decide_eq_false cB2)
          refine c_skip ?_
          refine hQ11 _ _ _ (in_normal ?_)
          refine hK10 _ _ ?_
          refine fg5 2 4 12 13 14 (gS rfl (gS rfl (gS rfl (gS rfl (gS rfl g0))))) (gS rfl (gS rfl (gS rfl (gS rfl g0)))) (gS rfl (gS rfl (gS rfl g0))) (gS rfl (gS rfl g0)) (gS rfl g0) (fun g => ?_)
          refine c_region ?_
          refine l_step (y_add (et g0 rfl) rfl (addIN (y := 1) ?_)) ?_
          omega
          refine l_step (y_moveV (et g0 rfl)) ?_
          refine l_nil ?_
          refine fK5 2 4 12 13 14 (gS rfl (gS rfl (gS rfl (gS rfl (gS rfl (gS rfl g0)))))) (gS rfl (gS rfl (gS rfl (gS rfl (gS rfl g0))))) (gS rfl (gS rfl (gS rfl (gS rfl g0)))) (gS rfl (gS rfl (gS rfl g0))) g0 (fun g => ?_)
          exact hK6 (xs.length - ((i + 1))) _ _ (by omega) ⟨g, (i + 1), rfl, rfl, by omega, fun j hj h => by
            rcases Nat.lt_or_ge j i with h1 | h1
            · exact hno j h1 h
            · have : j = i := by omega
              subst this; exact hne, V6⟩
      · skip
        have hne : ¬ (xs[i].1 = a ∧ xs[i].2 = key) := fun h => absurd h.1 (of_decide_eq_false q16)
        refine l_gskip (j := 4) (t := 22) (by exact rfl) (by exact rfl) (et g0 rfl) (by decide) (by decide) ?_
        refine l_gskip (j := 4) (t := 22) (by exact rfl) (by exact rfl) (et (gS rfl g0) rfl) (by decide) (by decide) ?_
        refine l_gskip (j := 4) (t := 22) (by exact rfl) (by exact rfl) (et (gS rfl (gS rfl g0)) rfl) (by decide) (by decide) ?_
        refine l_gskip (j := 4) (t := 22) (by exact rfl) (by exact rfl) (et (gS rfl (gS rfl (gS rfl g0))) rfl) (by decide) (by decide) ?_
        refine l_gskip (j := 4) (t := 22) (by exact rfl) (by exact rfl) (et (gS rfl (gS rfl (gS rfl (gS rfl g0)))) rfl) (by decide) (by decide) ?_
        refine l_step (y_pickF (et (gS rfl (gS rfl (gS rfl (gS rfl (gS rfl g0))))) rfl) rfl) ?_
        refine l_nil ?_
        refine hK15 _ _ ?_
        refine fg6 2 4 12 13 14 28 (gS rfl (gS rfl (gS rfl (gS rfl (gS rfl (gS rfl (gS rfl (gS rfl (gS rfl (gS rfl (gS rfl (gS rfl (gS rfl (gS rfl (gS rfl (gS rfl (gS rfl g0))))))))))))))))) (gS rfl (gS rfl (gS rfl (gS rfl (gS rfl (gS rfl (gS rfl (gS rfl (gS rfl (gS rfl (gS rfl (gS rfl (gS rfl (gS rfl (gS rfl (gS rfl g0)))))))))))))))) (gS rfl (gS rfl (gS rfl (gS rfl (gS rfl (gS rfl (gS rfl (gS rfl (gS rfl (gS rfl (gS rfl (gS rfl (gS rfl (gS rfl (gS rfl g0))))))))))))))) (gS rfl (gS rfl (gS rfl (gS rfl (gS rfl (gS rfl (gS rfl (gS rfl (gS rfl (gS rfl (gS rfl (gS rfl (gS rfl (gS rfl g0)))))))))))))) (gS rfl (gS rfl (gS rfl (gS rfl (gS rfl (gS rfl (gS rfl (gS rfl (gS rfl (gS rfl (gS rfl (gS rfl (gS rfl g0))))))))))))) g0 (fun g => ?_)
        refine c_false (et g0 rfl) rfl ?_
        refine c_skip ?_
        refine hQ11 _ _ _ (in_normal ?_)
        refine hK10 _ _ ?_
        refine fg5 2 4 12 13 14 (gS rfl (gS rfl (gS rfl (gS rfl (gS rfl g0))))) (gS rfl (gS rfl (gS rfl (gS rfl g0)))) (gS rfl (gS rfl (gS rfl g0))) (gS rfl (gS rfl g0)) (gS rfl g0) (fun g => ?_)
        refine c_region ?_
        refine l_step (y_add (et g0 rfl) rfl (addIN (y := 1) ?_)) ?_
        omega
        refine l_step (y_moveV (et g0 rfl)) ?_
        refine l_nil ?_
        refine fK5 2 4 12 13 14 (gS rfl (gS rfl (gS rfl (gS rfl (gS rfl (gS rfl g0)))))) (gS rfl (gS rfl (gS rfl (gS rfl (gS rfl g0))))) (gS rfl (gS rfl (gS rfl (gS rfl g0)))) (gS rfl (gS rfl (gS rfl g0))) g0 (fun g => ?_)
        exact hK6 (xs.length - ((i + 1))) _ _ (by omega) ⟨g, (i + 1), rfl, rfl, by omega, fun j hj h => by
          rcases Nat.lt_or_ge j i with h1 | h1
          · exact hno j h1 h
          · have : j = i := by omega
            subst this; exact hne, V6⟩
    · skip
      simp only [decide_eq_true_eq, decide_eq_false_iff_not, Int.not_lt, Int.not_le, Bool.not_eq_true', Bool.not_eq_false', Bool.not_eq_eq_eq_not, Bool.not_true, Bool.not_false] at cB1
      refine c_exit ?_
      refine hQ5 _ _ _ (in_exit ?_)
      refine hK3 _ _ ?_
      refine fg0 (fun g => ?_)
      refine c_seq (fun K21 hK21 => ?_)
      refine c_region ?_
      refine l_step y_assignC ?_
      refine l_nil ?_
      refine hK21 _ _ ?_
      refine c_ret ?_
      refine ret1 rfl (res_tmp (et g0 rfl)) ?_
      refine ⟨?_, U⟩
      rw [decide_eq_false]
      exact mem_none (fun j hj e => hno j (by omega) hj (by rw [e]; exact ⟨rfl, rfl⟩))
theorem yp_tload (bs o sc a : Nat) (sa : Option Addr) (cs : Array Value) (xs : List (Nat × Nat × Nat)) (w : World) (H : Store) (hF : Fz w H) (kS : Blk w bs cs) (hva : cs[o + 5]? = some (.slice sa xs.length sc)) (hS0 : LV P_tri 22 H (.slice sa xs.length sc) xs) (ha : a < A160) (hn : xs.length < 9223372036854775808) {vk : Value} {key : Nat} (hK : NV H vk key) (hkb : key < 256 ^ 32) :
    Ret 233 [.pointer (some ⟨bs, o, none⟩), aV a, vk] w (fun v w' => NV H v (triAt xs a key) ∧ Up w w') := by
  have hF0 := hF
  have lS := kS.lt
  refine enter (n := 32) Hvaa.func233 rfl rfl (Nat.le_of_ble_eq_true rfl) ?_
  have U := Up.refl w
  refine c_seq (fun K1 hK1 => ?_)
  refine c_region ?_
  refine l_eff (e_boxV (et (gS rfl g0) rfl)) (fun v2 w2 h2 => ?_)
  obtain ⟨b2, rfl, n2⟩ := h2
  have f2 : w.heap.size ≤ b2 := Nat.le_trans U.size n2.fresh
  replace hF := hF.up n2.up
  replace kS := kS.up n2.up
  replace U := U.tr n2.up
  have k2 := n2.blk
  replace k2 : Blk w2 b2 (bL (be 20 a)).toArray := k2
  refine l_step y_assignC ?_
  refine l_nil ?_
  refine hK1 _ _ ?_
  refine fg3 2 0 4 (gS rfl (gS rfl (gS rfl (gS rfl g0)))) (gS rfl (gS rfl g0)) (gS rfl g0) (fun g => ?_)
  refine c_seq (fun K3 hK3 => ?_)
  refine c_seq (fun K4 hK4 => ?_)
  refine c_region ?_
  refine l_step (y_moveV (et (gS rfl g0) rfl)) ?_
  refine l_step (y_nil (et g0 rfl)) ?_
  refine l_step (y_fld fld_98_5 (et g0 rfl)) ?_
  refine l_step (y_load1 one_96 (et g0 rfl) (at1 (kS.cell hva))) ?_
  refine l_step (y_len Hvaa.underlying96 (et g0 rfl)) ?_
  refine l_step y_moveC ?_
  refine l_nil ?_
  refine hK4 _ _ ?_
  refine fg5 2 4 12 13 14 (gS rfl (gS rfl (gS rfl (gS rfl (gS rfl (gS rfl (gS rfl (gS rfl g0)))))))) (gS rfl (gS rfl (gS rfl (gS rfl (gS rfl (gS rfl g0)))))) (gS rfl (gS rfl g0)) (gS rfl g0) g0 (fun g => ?_)
  refine c_block (fun Q5 hQ5 => ?_)
  refine fg5 2 4 12 13 14 (gS rfl (gS rfl (gS rfl (gS rfl g0)))) (gS rfl (gS rfl (gS rfl g0))) (gS rfl (gS rfl g0)) (gS rfl g0) g0 (fun g => ?_)
  refine c_loop (fun k_ s_ W6 => ∃ (g : Nat → Value) (i : Nat), s_ = (upd (upd (upd (upd (upd g 2 vk) 4 (.pointer (some ⟨b2, 0, none⟩))) 12 (.slice sa xs.length sc)) 13 (.int .i64 (xs.length : Nat))) 14 (.int .i64 (i : Nat))) ∧ xs.length - i = k_ ∧ (i ≤ xs.length) ∧ (∀ j, (hj : j < i) → ∀ h : j < xs.length, ¬ (xs[j].1 = a ∧ xs[j].2.1 = key)) ∧ Ch (fun k => False) w2 W6) (xs.length - (0)) ?_ ?_
  · exact ⟨g, 0, rfl, rfl, Nat.zero_le _, fun j hj => absurd hj (by omega), Ch.refl _ _⟩
  · skip
    intro k_ s_ W6 hI K6 hK6
    obtain ⟨g, i, rfl, rfl, hi, hno, V6⟩ := hI
    replace k2 := k2.ch V6 (by exact fun h => h)
    replace hF := hF.ch V6 (by first | exact fun h => h | exact fun _ h => h.elim | exact fun _ _ h => h)
    replace kS := kS.ch V6 (by first | exact fun h => h | exact fun _ h => h.elim | exact fun _ _ h => h)
    replace U := U.cc V6 (by intro b hb; first | exact hb.elim | omega | (simp at hb ⊢; omega))
    refine c_seq (fun K7 hK7 => ?_)
    refine c_region ?_
    refine l_step (y_lss (et g0 rfl) (et (gS rfl g0) rfl)) ?_
    refine l_nil ?_
    refine hK7 _ _ ?_
    refine c_seq (fun K8 hK8 => ?_)
    refine c_cond (et g0 rfl) (fun cB1 => ?_) (fun cB1 => ?_)
    · skip
      simp only [decide_eq_true_eq, decide_eq_false_iff_not, Int.not_lt, Int.not_le, Bool.not_eq_true', Bool.not_eq_false', Bool.not_eq_eq_eq_not, Bool.not_true, Bool.not_false] at cB1
      refine c_skip ?_
      refine hK8 _ _ ?_
      refine fg5 2 4 12 13 14 (gS rfl (gS rfl (gS rfl (gS rfl (gS rfl g0))))) (gS rfl (gS rfl (gS rfl (gS rfl g0)))) (gS rfl (gS rfl (gS rfl g0))) (gS rfl (gS rfl g0)) (gS rfl g0) (fun g => ?_)
      refine c_seq (fun K10 hK10 => ?_)
      refine c_block (fun Q11 hQ11 => ?_)
      refine c_seq (fun K12 hK12 => ?_)
      refine c_region ?_
      obtain ⟨bq, oq, r, ha0, hrow, hrl, vk1, vv1, hr1, hk1, hv1, hal, hkl, hvl⟩ := hS0.row hF (i := i) (by omega)
      rw [hr1] at hrow hrl
      refine l_step (y_idxSa ha0 Hvaa.underlying96 sz_295 (et (gS rfl (gS rfl g0)) rfl) (et g0 rfl) ?_) ?_
      omega
      refine l_step (y_loadR agg_295 sz_295 (et g0 rfl) len22 (at1R hrow)) ?_
      refine l_eff (e_alloc zr_295) (fun v13 w13 h13 => ?_)
      obtain ⟨b13, rfl, n13⟩ := h13
      have d2_13 : b2 < b13 := Nat.lt_of_lt_of_le k2.lt n13.fresh
      have f13 : w.heap.size ≤ b13 := Nat.le_trans U.size n13.fresh
      have fV6_13 := Nat.le_trans V6.size n13.fresh
      replace k2 := k2.up n13.up
      replace hF := hF.up n13.up
      replace kS := kS.up n13.up
      replace U := U.tr n13.up
      replace V6 := V6.tr n13.up
      have k13 := n13.blk
      refine l_effN (e_store sz_295 (et g0 rfl) (cellsV (et (gS rfl g0) rfl) rfl) len22 (by exact one_app (one_two hk1.one1 hv1.one1)) k13 (by exact Nat.le_of_ble_eq_true rfl)) (fun v14 w14 h14 => ?_)
      obtain ⟨rfl, x14⟩ := h14
      replace k2 := k2.ch x14.ch (by omega)
      replace hF := hF.ch x14.ch (by first | omega | (first | omega | (intro q hq e; have := hF0.lt hq; omega)))
      replace kS := kS.ch x14.ch (by first | omega | (omega))
      replace k13 := x14.blk.full (by rw [len22]; rfl)
      replace U := U.st x14 f13
      replace V6 := V6.st x14 (by omega)
      refine l_nil ?_
      refine hK12 _ _ ?_
      refine fg6 2 4 12 13 14 8 (gS rfl (gS rfl (gS rfl (gS rfl (gS rfl (gS rfl (gS rfl g0))))))) (gS rfl (gS rfl (gS rfl (gS rfl (gS rfl (gS rfl g0)))))) (gS rfl (gS rfl (gS rfl (gS rfl (gS rfl g0))))) (gS rfl (gS rfl (gS rfl (gS rfl g0)))) (gS rfl (gS rfl (gS rfl g0))) g0 (fun g => ?_)
      refine c_seq (fun K15 hK15 => ?_)
      refine c_region ?_
      refine l_step (y_fld fld_295_0 (et g0 rfl)) ?_
      refine l_step (y_loadR agg_25 sz_25 (et g0 rfl) (by rw [length_bL, length_be]) (at1R (k13.row addr_row))) ?_
      refine l_step (y_loadB agg_25 sz_25 (et (gS rfl (gS rfl (gS rfl (gS rfl (gS rfl (gS rfl g0)))))) rfl) (by first | (simp only [Value.cells, hV, aV, bV, wV, wL, List.size_toArray, length_bL, length_uL, length_be, size_spl, List.length_cons, List.length_nil, List.length_replicate, Nat.zero_add, Nat.reduceAdd, Nat.reduceLeDiff, Nat.le_refl]; done) | rfl) (at1B k2)) ?_
      refine l_step (y_eqlAddr hal ha (et (gS rfl g0) rfl) (et g0 rfl)) ?_
      refine l_step (y_moveV (et g0 rfl)) ?_
      refine gsplitL (i := 22) g0 (fun q16 => ?_) (fun q16 => ?_)
      · skip
        have hA : xs[i].1 = a := of_decide_eq_true q16
        refine l_gstep (j := 4) (t := 22) (by exact rfl) (by exact rfl) (et g0 rfl) (by decide) (y_fld fld_295_1 (et (gS rfl (gS rfl (gS rfl (gS rfl (gS rfl (gS rfl g0)))))) rfl)) ?_
        refine l_gstep (j := 4) (t := 22) (by exact rfl) (by exact rfl) (et (gS rfl g0) rfl) (by decide) (y_load1 one_95 (et g0 rfl) (at1 (k13.cell ((app20 (i := 0) rfl).trans rfl)))) ?_
        refine l_gstep (j := 4) (t := 22) (by exact rfl) (by exact rfl) (et (gS rfl (gS rfl g0)) rfl) (by decide) (y_moveV (et (gS rfl (gS rfl (gS rfl (gS rfl (gS rfl (gS rfl (gS rfl (gS rfl (gS rfl (gS rfl (gS rfl (gS rfl (gS rfl g0))))))))))))) rfl)) ?_
        refine l_geff (j := 4) (t := 22) (by exact rfl) (by exact rfl) (et (gS rfl (gS rfl (gS rfl g0))) rfl) rfl (e_callV cal_121 (aC (et (gS rfl g0) rfl) (aC (et g0 rfl) aN)) (nat_cmp hF hk1 hK (smW hkl) (bd_sm hkb (by decide)))) (fun v17 w17 h17 => ?_)
        obtain ⟨rfl, u17⟩ := h17
        replace k2 := k2.up u17
        replace k13 := k13.up u17
        replace hF := hF.up u17
        replace kS := kS.up u17
        replace U := U.tr u17
        replace V6 := V6.tr u17
        refine l_gstep (j := 4) (t := 22) (by exact rfl) (by exact rfl) (et (gS rfl (gS rfl (gS rfl (gS rfl g0)))) rfl) (by decide) ((y_eql (et g0 rfl) rfl).to (congrArg Value.bool (cmp_eq0 xs[i].2.1 key))) ?_
        refine l_step (y_pickT (et (gS rfl (gS rfl (gS rfl (gS rfl (gS rfl g0))))) rfl) (et g0 rfl)) ?_
        refine l_nil ?_
        refine hK15 _ _ ?_
        refine fg7 2 4 12 13 14 8 28 (gS rfl (gS rfl (gS rfl (gS rfl (gS rfl (gS rfl (gS rfl (gS rfl (gS rfl (gS rfl (gS rfl (gS rfl (gS rfl (gS rfl (gS rfl (gS rfl (gS rfl g0))))))))))))))))) (gS rfl (gS rfl (gS rfl (gS rfl (gS rfl (gS rfl (gS rfl (gS rfl (gS rfl (gS rfl (gS rfl (gS rfl (gS rfl (gS rfl (gS rfl (gS rfl g0)))))))))))))))) (gS rfl (gS rfl (gS rfl (gS rfl (gS rfl (gS rfl (gS rfl (gS rfl (gS rfl (gS rfl (gS rfl (gS rfl (gS rfl (gS rfl (gS rfl g0))))))))))))))) (gS rfl (gS rfl (gS rfl (gS rfl (gS rfl (gS rfl (gS rfl (gS rfl (gS rfl (gS rfl (gS rfl (gS rfl (gS rfl (gS rfl g0)))))))))))))) (gS rfl (gS rfl (gS rfl (gS rfl (gS rfl (gS rfl (gS rfl (gS rfl (gS rfl (gS rfl (gS rfl (gS rfl (gS rfl g0))))))))))))) (gS rfl (gS rfl (gS rfl (gS rfl (gS rfl (gS rfl (gS rfl (gS rfl (gS rfl (gS rfl (gS rfl (gS rfl g0)))))))))))) g0 (fun g => ?_)
        refine c_cond (et g0 rfl) (fun cB2 => ?_) (fun cB2 => ?_)
        · skip
          
          have he : xs[i].1 = a ∧ xs[i].2.1 = key := ⟨hA, of_decide_eq_true cB2⟩
          refine c_seq (fun K19 hK19 => ?_)
          refine c_region ?_
          refine l_step (y_fld fld_295_2 (et (gS rfl g0) rfl)) ?_
          refine l_step (y_load1 one_95 (et g0 rfl) (at1 (k13.cell ((app20 (i := 1) rfl).trans rfl)))) ?_
          refine l_step (y_assignV (et g0 rfl)) ?_
          refine l_nil ?_
          refine hK19 _ _ ?_
          refine fg1 6 g0 (fun g => ?_)
          refine c_ret ?_
          refine hQ11 _ _ _ (in_ret ?_)
          refine hQ5 _ _ _ (in_ret ?_)
          refine ret1 rfl (res_tmp (et g0 rfl)) ?_
          refine ⟨?_, U⟩
          rw [triAt_found (i := i) (by omega) (fun j hj => hno j hj (by omega)) he]; exact hv1
        · skip
          
          have hne : ¬ (xs[i].1 = a ∧ xs[i].2.1 = key) := fun h => absurd h.2 (of_decide_eq_false cB2)
          refine c_skip ?_
          refine hQ11 _ _ _ (in_normal ?_)
          refine hK10 _ _ ?_
          refine fg5 2 4 12 13 14 (gS rfl (gS rfl (gS rfl (gS rfl (gS rfl (gS rfl g0)))))) (gS rfl (gS rfl (gS rfl (gS rfl (gS rfl g0))))) (gS rfl (gS rfl (gS rfl (gS rfl g0)))) (gS rfl (gS rfl (gS rfl g0))) (gS rfl (gS rfl g0)) (fun g => ?_)
          refine c_region ?_
          refine l_step (y_add (et g0 rfl) rfl (addIN (y := 1) ?_)) ?_
          omega
          refine l_step (y_moveV (et g0 rfl)) ?_
          refine l_nil ?_
          refine fK5 2 4 12 13 14 (gS rfl (gS rfl (gS rfl (gS rfl (gS rfl (gS rfl g0)))))) (gS rfl (gS rfl (gS rfl (gS rfl (gS rfl g0))))) (gS rfl (gS rfl (gS rfl (gS rfl g0)))) (gS rfl (gS rfl (gS rfl g0))) g0 (fun g => ?_)
          exact hK6 (xs.length - ((i + 1))) _ _ (by omega) ⟨g, (i + 1), rfl, rfl, by omega, fun j hj h => by
            rcases Nat.lt_or_ge j i with h1 | h1
            · exact hno j h1 h
            · have : j = i := by omega
              subst this; exact hne, V6⟩
      · skip
        have hne : ¬ (xs[i].1 = a ∧ xs[i].2.1 = key) := fun h => absurd h.1 (of_decide_eq_false q16)
        refine l_gskip (j := 4) (t := 22) (by exact rfl) (by exact rfl) (et g0 rfl) (by decide) (by decide) ?_
        refine l_gskip (j := 4) (t := 22) (by exact rfl) (by exact rfl) (et (gS rfl g0) rfl) (by decide) (by decide) ?_
        refine l_gskip (j := 4) (t := 22) (by exact rfl) (by exact rfl) (et (gS rfl (gS rfl g0)) rfl) (by decide) (by decide) ?_
        refine l_gskip (j := 4) (t := 22) (by exact rfl) (by exact rfl) (et (gS rfl (gS rfl (gS rfl g0))) rfl) (by decide) (by decide) ?_
        refine l_gskip (j := 4) (t := 22) (by exact rfl) (by exact rfl) (et (gS rfl (gS rfl (gS rfl (gS rfl g0)))) rfl) (by decide) (by decide) ?_
        refine l_step (y_pickF (et (gS rfl (gS rfl (gS rfl (gS rfl (gS rfl g0))))) rfl) rfl) ?_
        refine l_nil ?_
        refine hK15 _ _ ?_
        refine fg7 2 4 12 13 14 8 28 (gS rfl (gS rfl (gS rfl (gS rfl (gS rfl (gS rfl (gS rfl (gS rfl (gS rfl (gS rfl (gS rfl (gS rfl (gS rfl (gS rfl (gS rfl (gS rfl (gS rfl g0))))))))))))))))) (gS rfl (gS rfl (gS rfl (gS rfl (gS rfl (gS rfl (gS rfl (gS rfl (gS rfl (gS rfl (gS rfl (gS rfl (gS rfl (gS rfl (gS rfl (gS rfl g0)))))))))))))))) (gS rfl (gS rfl (gS rfl (gS rfl (gS rfl (gS rfl (gS rfl (gS rfl (gS rfl (gS rfl (gS rfl (gS rfl (gS rfl (gS rfl (gS rfl g0))))))))))))))) (gS rfl (gS rfl (gS rfl (gS rfl (gS rfl (gS rfl (gS rfl (gS rfl (gS rfl (gS rfl (gS rfl (gS rfl (gS rfl (gS rfl g0)))))))))))))) (gS rfl (gS rfl (gS rfl (gS rfl (gS rfl (gS rfl (gS rfl (gS rfl (gS rfl (gS rfl (gS rfl (gS rfl (gS rfl g0))))))))))))) (gS rfl (gS rfl (gS rfl (gS rfl (gS rfl (gS rfl (gS rfl (gS rfl (gS rfl (gS rfl (gS rfl (gS rfl g0)))))))))))) g0 (fun g => ?_)
        refine c_false (et g0 rfl) rfl ?_
        refine c_skip ?_
        refine hQ11 _ _ _ (in_normal ?_)
        refine hK10 _ _ ?_
        refine fg5 2 4 12 13 14 (gS rfl (gS rfl (gS rfl (gS rfl (gS rfl (gS rfl g0)))))) (gS rfl (gS rfl (gS rfl (gS rfl (gS rfl g0))))) (gS rfl (gS rfl (gS rfl (gS rfl g0)))) (gS rfl (gS rfl (gS rfl g0))) (gS rfl (gS rfl g0)) (fun g => ?_)
        refine c_region ?_
        refine l_step (y_add (et g0 rfl) rfl (addIN (y := 1) ?_)) ?_
        omega
        refine l_step (y_moveV (et g0 rfl)) ?_
        refine l_nil ?_
        refine fK5 2 4 12 13 14 (gS rfl (gS rfl (gS rfl (gS rfl (gS rfl (gS rfl g0)))))) (gS rfl (gS rfl (gS rfl (gS rfl (gS rfl g0))))) (gS rfl (gS rfl (gS rfl (gS rfl g0)))) (gS rfl (gS rfl (gS rfl g0))) g0 (fun g => ?_)
        exact hK6 (xs.length - ((i + 1))) _ _ (by omega) ⟨g, (i + 1), rfl, rfl, by omega, fun j hj h => by
          rcases Nat.lt_or_ge j i with h1 | h1
          · exact hno j h1 h
          · have : j = i := by omega
            subst this; exact hne, V6⟩
    · skip
      simp only [decide_eq_true_eq, decide_eq_false_iff_not, Int.not_lt, Int.not_le, Bool.not_eq_true', Bool.not_eq_false', Bool.not_eq_eq_eq_not, Bool.not_true, Bool.not_false] at cB1
      refine c_exit ?_
      refine hQ5 _ _ _ (in_exit ?_)
      refine hK3 _ _ ?_
      refine fg0 (fun g => ?_)
      refine c_seq (fun K21 hK21 => ?_)
      refine c_region ?_
      refine l_step y_assignC ?_
      refine l_nil ?_
      refine hK21 _ _ ?_
      refine c_ret ?_
      refine ret1 rfl (res_tmp (et g0 rfl)) ?_
      refine ⟨?_, U⟩
      rw [triAt_none (fun j hj => hno j (by omega) hj)]; exact NV.nil H
theorem yp_orig (bs o sc a : Nat) (sa : Option Addr) (cs : Array Value) (xs : List (Nat × Nat × Nat)) (w : World) (H : Store) (hF : Fz w H) (kS : Blk w bs cs) (hva : cs[o + 8]? = some (.slice sa xs.length sc)) (hS0 : LV P_tri 22 H (.slice sa xs.length sc) xs) (ha : a < A160) (hn : xs.length < 9223372036854775808) {vk : Value} {key : Nat} (hK : NV H vk key) (hkb : key < 256 ^ 32) :
    Ret 395 [.pointer (some ⟨bs, o, none⟩), aV a, vk] w (fun v w' => NV H v (triAt xs a key) ∧ Up w w') := by
  have hF0 := hF
  have lS := kS.lt
  refine enter (n := 32) Hvaa.func395 rfl rfl (Nat.le_of_ble_eq_true rfl) ?_
  have U := Up.refl w
  refine c_seq (fun K1 hK1 => ?_)
  refine c_region ?_
  refine l_eff (e_boxV (et (gS rfl g0) rfl)) (fun v2 w2 h2 => ?_)
  obtain ⟨b2, rfl, n2⟩ := h2
  have f2 : w.heap.size ≤ b2 := Nat.le_trans U.size n2.fresh
  replace hF := hF.up n2.up
  replace kS := kS.up n2.up
  replace U := U.tr n2.up
  have k2 := n2.blk
  replace k2 : Blk w2 b2 (bL (be 20 a)).toArray := k2
  refine l_step y_assignC ?_
  refine l_nil ?_
  refine hK1 _ _ ?_
  refine fg3 2 0 4 (gS rfl (gS rfl (gS rfl (gS rfl g0)))) (gS rfl (gS rfl g0)) (gS rfl g0) (fun g => ?_)
  refine c_seq (fun K3 hK3 => ?_)
  refine c_seq (fun K4 hK4 => ?_)
  refine c_region ?_
  refine l_step (y_moveV (et (gS rfl g0) rfl)) ?_
  refine l_step (y_nil (et g0 rfl)) ?_
  refine l_step (y_fld fld_102_1 (et g0 rfl)) ?_
  refine l_step (y_load1 one_99 (et g0 rfl) (at1 (kS.cell hva))) ?_
  refine l_step (y_len Hvaa.underlying99 (et g0 rfl)) ?_
  refine l_step y_moveC ?_
  refine l_nil ?_
  refine hK4 _ _ ?_
  refine fg5 2 4 12 13 14 (gS rfl (gS rfl (gS rfl (gS rfl (gS rfl (gS rfl (gS rfl (gS rfl g0)))))))) (gS rfl (gS rfl (gS rfl (gS rfl (gS rfl (gS rfl g0)))))) (gS rfl (gS rfl g0)) (gS rfl g0) g0 (fun g => ?_)
  refine c_block (fun Q5 hQ5 => ?_)
  refine fg5 2 4 12 13 14 (gS rfl (gS rfl (gS rfl (gS rfl g0)))) (gS rfl (gS rfl (gS rfl g0))) (gS rfl (gS rfl g0)) (gS rfl g0) g0 (fun g => ?_)
  refine c_loop (fun k_ s_ W6 => ∃ (g : Nat → Value) (i : Nat), s_ = (upd (upd (upd (upd (upd g 2 vk) 4 (.pointer (some ⟨b2, 0, none⟩))) 12 (.slice sa xs.length sc)) 13 (.int .i64 (xs.length : Nat))) 14 (.int .i64 (i : Nat))) ∧ xs.length - i = k_ ∧ (i ≤ xs.length) ∧ (∀ j, (hj : j < i) → ∀ h : j < xs.length, ¬ (xs[j].1 = a ∧ xs[j].2.1 = key)) ∧ Ch (fun k => False) w2 W6) (xs.length - (0)) ?_ ?_
  · exact ⟨g, 0, rfl, rfl, Nat.zero_le _, fun j hj => absurd hj (by omega), Ch.refl _ _⟩
  · skip
    intro k_ s_ W6 hI K6 hK6
    obtain ⟨g, i, rfl, rfl, hi, hno, V6⟩ := hI
    replace k2 := k2.ch V6 (by exact fun h => h)
    replace hF := hF.ch V6 (by first | exact fun h => h | exact fun _ h => h.elim | exact fun _ _ h => h)
    replace kS := kS.ch V6 (by first | exact fun h => h | exact fun _ h => h.elim | exact fun _ _ h => h)
    replace U := U.cc V6 (by intro b hb; first | exact hb.elim | omega | (simp at hb ⊢; omega))
    refine c_seq (fun K7 hK7 => ?_)
    refine c_region ?_
    refine l_step (y_lss (et g0 rfl) (et (gS rfl g0) rfl)) ?_
    refine l_nil ?_
    refine hK7 _ _ ?_
    refine c_seq (fun K8 hK8 => ?_)
    refine c_cond (et g0 rfl) (fun cB1 => ?_) (fun cB1 => ?_)
    · skip
      simp only [decide_eq_true_eq, decide_eq_false_iff_not, Int.not_lt, Int.not_le, Bool.not_eq_true', Bool.not_eq_false', Bool.not_eq_eq_eq_not, Bool.not_true, Bool.not_false] at cB1
      refine c_skip ?_
      refine hK8 _ _ ?_
      refine fg5 2 4 12 13 14 (gS rfl (gS rfl (gS rfl (gS rfl (gS rfl g0))))) (gS rfl (gS rfl (gS rfl (gS rfl g0)))) (gS rfl (gS rfl (gS rfl g0))) (gS rfl (gS rfl g0)) (gS rfl g0) (fun g => ?_)
      refine c_seq (fun K10 hK10 => ?_)
      refine c_block (fun Q11 hQ11 => ?_)
      refine c_seq (fun K12 hK12 => ?_)
      refine c_region ?_
      obtain ⟨bq, oq, r, ha0, hrow, hrl, vk1, vv1, hr1, hk1, hv1, hal, hkl, hvl⟩ := hS0.row hF (i := i) (by omega)
      rw [hr1] at hrow hrl
      refine l_step (y_idxSa ha0 Hvaa.underlying99 sz_139 (et (gS rfl (gS rfl g0)) rfl) (et g0 rfl) ?_) ?_
      omega
      refine l_step (y_loadR agg_139 sz_139 (et g0 rfl) len22 (at1R hrow)) ?_
      refine l_eff (e_alloc zr_139) (fun v13 w13 h13 => ?_)
      obtain ⟨b13, rfl, n13⟩ := h13
      have d2_13 : b2 < b13 := Nat.lt_of_lt_of_le k2.lt n13.fresh
      have f13 : w.heap.size ≤ b13 := Nat.le_trans U.size n13.fresh
      have fV6_13 := Nat.le_trans V6.size n13.fresh
      replace k2 := k2.up n13.up
      replace hF := hF.up n13.up
      replace kS := kS.up n13.up
      replace U := U.tr n13.up
      replace V6 := V6.tr n13.up
      have k13 := n13.blk
      refine l_effN (e_store sz_139 (et g0 rfl) (cellsV (et (gS rfl g0) rfl) rfl) len22 (by exact one_app (one_two hk1.one1 hv1.one1)) k13 (by exact Nat.le_of_ble_eq_true rfl)) (fun v14 w14 h14 => ?_)
      obtain ⟨rfl, x14⟩ := h14
      replace k2 := k2.ch x14.ch (by omega)
      replace hF := hF.ch x14.ch (by first | omega | (first | omega | (intro q hq e; have := hF0.lt hq; omega)))
      replace kS := kS.ch x14.ch (by first | omega | (omega))
      replace k13 := x14.blk.full (by rw [len22]; rfl)
      replace U := U.st x14 f13
      replace V6 := V6.st x14 (by omega)
      refine l_nil ?_
      refine hK12 _ _ ?_
      refine fg6 2 4 12 13 14 8 (gS rfl (gS rfl (gS rfl (gS rfl (gS rfl (gS rfl (gS rfl g0))))))) (gS rfl (gS rfl (gS rfl (gS rfl (gS rfl (gS rfl g0)))))) (gS rfl (gS rfl (gS rfl (gS rfl (gS rfl g0))))) (gS rfl (gS rfl (gS rfl (gS rfl g0)))) (gS rfl (gS rfl (gS rfl g0))) g0 (fun g => ?_)
      refine c_seq (fun K15 hK15 => ?_)
      refine c_region ?_
      refine l_step (y_fld fld_139_0 (et g0 rfl)) ?_
      refine l_step (y_loadR agg_25 sz_25 (et g0 rfl) (by rw [length_bL, length_be]) (at1R (k13.row addr_row))) ?_
      refine l_step (y_loadB agg_25 sz_25 (et (gS rfl (gS rfl (gS rfl (gS rfl (gS rfl (gS rfl g0)))))) rfl) (by first | (simp only [Value.cells, hV, aV, bV, wV, wL, List.size_toArray, length_bL, length_uL, length_be, size_spl, List.length_cons, List.length_nil, List.length_replicate, Nat.zero_add, Nat.reduceAdd, Nat.reduceLeDiff, Nat.le_refl]; done) | rfl) (at1B k2)) ?_
      refine l_step (y_eqlAddr hal ha (et (gS rfl g0) rfl) (et g0 rfl)) ?_
      refine l_step (y_moveV (et g0 rfl)) ?_
      refine gsplitL (i := 22) g0 (fun q16 => ?_) (fun q16 => ?_)
      · skip
        have hA : xs[i].1 = a := of_decide_eq_true q16
        refine l_gstep (j := 4) (t := 22) (by exact rfl) (by exact rfl) (et g0 rfl) (by decide) (y_fld fld_139_1 (et (gS rfl (gS rfl (gS rfl (gS rfl (gS rfl (gS rfl g0)))))) rfl)) ?_
        refine l_gstep (j := 4) (t := 22) (by exact rfl) (by exact rfl) (et (gS rfl g0) rfl) (by decide) (y_load1 one_95 (et g0 rfl) (at1 (k13.cell ((app20 (i := 0) rfl).trans rfl)))) ?_
        refine l_gstep (j := 4) (t := 22) (by exact rfl) (by exact rfl) (et (gS rfl (gS rfl g0)) rfl) (by decide) (y_moveV (et (gS rfl (gS rfl (gS rfl (gS rfl (gS rfl (gS rfl (gS rfl (gS rfl (gS rfl (gS rfl (gS rfl (gS rfl (gS rfl g0))))))))))))) rfl)) ?_
        refine l_geff (j := 4) (t := 22) (by exact rfl) (by exact rfl) (et (gS rfl (gS rfl (gS rfl g0))) rfl) rfl (e_callV cal_121 (aC (et (gS rfl g0) rfl) (aC (et g0 rfl) aN)) (nat_cmp hF hk1 hK (smW hkl) (bd_sm hkb (by decide)))) (fun v17 w17 h17 => ?_)
        obtain ⟨rfl, u17⟩ := h17
        replace k2 := k2.up u17
        replace k13 := k13.up u17
        replace hF := hF.up u17
        replace kS := kS.up u17
        replace U := U.tr u17
        replace V6 := V6.tr u17
        refine l_gstep (j := 4) (t := 22) (by exact rfl) (by exact rfl) (et (gS rfl (gS rfl (gS rfl (gS rfl g0)))) rfl) (by decide) ((y_eql (et g0 rfl) rfl).to (congrArg Value.bool (cmp_eq0 xs[i].2.1 key))) ?_
        refine l_step (y_pickT (et (gS rfl (gS rfl (gS rfl (gS rfl (gS rfl g0))))) rfl) (et g0 rfl)) ?_
        refine l_nil ?_
        refine hK15 _ _ ?_
        refine fg7 2 4 12 13 14 8 28 (gS rfl (gS rfl (gS rfl (gS rfl (gS rfl (gS rfl (gS rfl (gS rfl (gS rfl (gS rfl (gS rfl (gS rfl (gS rfl (gS rfl (gS rfl (gS rfl (gS rfl g0))))))))))))))))) (gS rfl (gS rfl (gS rfl (gS rfl (gS rfl (gS rfl (gS rfl (gS rfl (gS rfl (gS rfl (gS rfl (gS rfl (gS rfl (gS rfl (gS rfl (gS rfl g0)))))))))))))))) (gS rfl (gS rfl (gS rfl (gS rfl (gS rfl (gS rfl (gS rfl (gS rfl (gS rfl (gS rfl (gS rfl (gS rfl (gS rfl (gS rfl (gS rfl g0))))))))))))))) (gS rfl (gS rfl (gS rfl (gS rfl (gS rfl (gS rfl (gS rfl (gS rfl (gS rfl (gS rfl (gS rfl (gS rfl (gS rfl (gS rfl g0)))))))))))))) (gS rfl (gS rfl (gS rfl (gS rfl (gS rfl (gS rfl (gS rfl (gS rfl (gS rfl (gS rfl (gS rfl (gS rfl (gS rfl g0))))))))))))) (gS rfl (gS rfl (gS rfl (gS rfl (gS rfl (gS rfl (gS rfl (gS rfl (gS rfl (gS rfl (gS rfl (gS rfl g0)))))))))))) g0 (fun g => ?_)
        refine c_cond (et g0 rfl) (fun cB2 => ?_) (fun cB2 => ?_)
        · skip
          
          have he : xs[i].1 = a ∧ xs[i].2.1 = key := ⟨hA, of_decide_eq_true cB2⟩
          refine c_seq (fun K19 hK19 => ?_)
          refine c_region ?_
          refine l_step (y_fld fld_139_2 (et (gS rfl g0) rfl)) ?_
          refine l_step (y_load1 one_95 (et g0 rfl) (at1 (k13.cell ((app20 (i := 1) rfl).trans rfl)))) ?_
          refine l_step (y_assignV (et g0 rfl)) ?_
          refine l_nil ?_
          refine hK19 _ _ ?_
          refine fg1 6 g0 (fun g => ?_)
          refine c_ret ?_
          refine hQ11 _ _ _ (in_ret ?_)
          refine hQ5 _ _ _ (in_ret ?_)
          refine ret1 rfl (res_tmp (et g0 rfl)) ?_
          refine ⟨?_, U⟩
          rw [triAt_found (i := i) (by omega) (fun j hj => hno j hj (by omega)) he]; exact hv1
        · skip
          
          have hne : ¬ (xs[i].1 = a ∧ xs[i].2.1 = key) := fun h => absurd h.2 (of_decide_eq_false cB2)
          refine c_skip ?_
          refine hQ11 _ _ _ (in_normal ?_)
          refine hK10 _ _ ?_
          refine fg5 2 4 12 13 14 (gS rfl (gS rfl (gS rfl (gS rfl (gS rfl (gS rfl g0)))))) (gS rfl (gS rfl (gS rfl (gS rfl (gS rfl g0))))) (gS rfl (gS rfl (gS rfl (gS rfl g0)))) (gS rfl (gS rfl (gS rfl g0))) (gS rfl (gS rfl g0)) (fun g => ?_)
          refine c_region ?_
          refine l_step (y_add (et g0 rfl) rfl (addIN (y := 1) ?_)) ?_
          omega
          refine l_step (y_moveV (et g0 rfl)) ?_
          refine l_nil ?_
          refine fK5 2 4 12 13 14 (gS rfl (gS rfl (gS rfl (gS rfl (gS rfl (gS rfl g0)))))) (gS rfl (gS rfl (gS rfl (gS rfl (gS rfl g0))))) (gS rfl (gS rfl (gS rfl (gS rfl g0)))) (gS rfl (gS rfl (gS rfl g0))) g0 (fun g => ?_)
          exact hK6 (xs.length - ((i + 1))) _ _ (by omega) ⟨g, (i + 1), rfl, rfl, by omega, fun j hj h => by
            rcases Nat.lt_or_ge j i with h1 | h1
            · exact hno j h1 h
            · have : j = i := by omega
              subst this; exact hne, V6⟩
      · skip
        have hne : ¬ (xs[i].1 = a ∧ xs[i].2.1 = key) := fun h => absurd h.1 (of_decide_eq_false q16)
        refine l_gskip (j := 4) (t := 22) (by exact rfl) (by exact rfl) (et g0 rfl) (by decide) (by decide) ?_
        refine l_gskip (j := 4) (t := 22) (by exact rfl) (by exact rfl) (et (gS rfl g0) rfl) (by decide) (by decide) ?_
        refine l_gskip (j := 4) (t := 22) (by exact rfl) (by exact rfl) (et (gS rfl (gS rfl g0)) rfl) (by decide) (by decide) ?_
        refine l_gskip (j := 4) (t := 22) (by exact rfl) (by exact rfl) (et (gS rfl (gS rfl (gS rfl g0))) rfl) (by decide) (by decide) ?_
        refine l_gskip (j := 4) (t := 22) (by exact rfl) (by exact rfl) (et (gS rfl (gS rfl (gS rfl (gS rfl g0)))) rfl) (by decide) (by decide) ?_
        refine l_step (y_pickF (et (gS rfl (gS rfl (gS rfl (gS rfl (gS rfl g0))))) rfl) rfl) ?_
        refine l_nil ?_
        refine hK15 _ _ ?_
        refine fg7 2 4 12 13 14 8 28 (gS rfl (gS rfl (gS rfl (gS rfl (gS rfl (gS rfl (gS rfl (gS rfl (gS rfl (gS rfl (gS rfl (gS rfl (gS rfl (gS rfl (gS rfl (gS rfl (gS rfl g0))))))))))))))))) (gS rfl (gS rfl (gS rfl (gS rfl (gS rfl (gS rfl (gS rfl (gS rfl (gS rfl (gS rfl (gS rfl (gS rfl (gS rfl (gS rfl (gS rfl (gS rfl g0)))))))))))))))) (gS rfl (gS rfl (gS rfl (gS rfl (gS rfl (gS rfl (gS rfl (gS rfl (gS rfl (gS rfl (gS rfl (gS rfl (gS rfl (gS rfl (gS rfl g0))))))))))))))) (gS rfl (gS rfl (gS rfl (gS rfl (gS rfl (gS rfl (gS rfl (gS rfl (gS rfl (gS rfl (gS rfl (gS rfl (gS rfl (gS rfl g0)))))))))))))) (gS rfl (gS rfl (gS rfl (gS rfl (gS rfl (gS rfl (gS rfl (gS rfl (gS rfl (gS rfl (gS rfl (gS rfl (gS rfl g0))))))))))))) (gS rfl (gS rfl (gS rfl (gS rfl (gS rfl (gS rfl (gS rfl (gS rfl (gS rfl (gS rfl (gS rfl (gS rfl g0)))))))))))) g0 (fun g => ?_)
        refine c_false (et g0 rfl) rfl ?_
        refine c_skip ?_
        refine hQ11 _ _ _ (in_normal ?_)
        refine hK10 _ _ ?_
        refine fg5 2 4 12 13 14 (gS rfl (gS rfl (gS rfl (gS rfl (gS rfl (gS rfl g0)))))) (gS rfl (gS rfl (gS rfl (gS rfl (gS rfl g0))))) (gS rfl (gS rfl (gS rfl (gS rfl g0)))) (gS rfl (gS rfl (gS rfl g0))) (gS rfl (gS rfl g0)) (fun g => ?_)
        refine c_region ?_
        refine l_step (y_add (et g0 rfl) rfl (addIN (y := 1) ?_)) ?_
        omega
        refine l_step (y_moveV (et g0 rfl)) ?_
        refine l_nil ?_
        refine fK5 2 4 12 13 14 (gS rfl (gS rfl (gS rfl (gS rfl (gS rfl (gS rfl g0)))))) (gS rfl (gS rfl (gS rfl (gS rfl (gS rfl g0))))) (gS rfl (gS rfl (gS rfl (gS rfl g0)))) (gS rfl (gS rfl (gS rfl g0))) g0 (fun g => ?_)
        exact hK6 (xs.length - ((i + 1))) _ _ (by omega) ⟨g, (i + 1), rfl, rfl, by omega, fun j hj h => by
          rcases Nat.lt_or_ge j i with h1 | h1
          · exact hno j h1 h
          · have : j = i := by omega
            subst this; exact hne, V6⟩
    · skip
      simp only [decide_eq_true_eq, decide_eq_false_iff_not, Int.not_lt, Int.not_le, Bool.not_eq_true', Bool.not_eq_false', Bool.not_eq_eq_eq_not, Bool.not_true, Bool.not_false] at cB1
      refine c_exit ?_
      refine hQ5 _ _ _ (in_exit ?_)
      refine hK3 _ _ ?_
      refine fg0 (fun g => ?_)
      refine c_seq (fun K21 hK21 => ?_)
      refine c_region ?_
      refine l_step y_assignC ?_
      refine l_nil ?_
      refine hK21 _ _ ?_
      refine c_ret ?_
      refine ret1 rfl (res_tmp (et g0 rfl)) ?_
      refine ⟨?_, U⟩
      rw [triAt_none (fun j hj => hno j (by omega) hj)]; exact NV.nil H
end Go.Proofs.YgvaawGreat
