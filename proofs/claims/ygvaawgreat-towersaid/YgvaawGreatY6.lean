import Derived.Test.YgvaawGreatTypes3
set_option maxRecDepth 100000
set_option maxHeartbeats 4000000
set_option linter.unusedSimpArgs false
set_option linter.unusedVariables false
namespace Go.Proofs.YgvaawGreat
open Go
theorem wv_addr {w : World} {b a : Nat} (k : Blk w b (bL (be 20 a)).toArray) : WV (b + 1) w (.slice (some ⟨b, 0, none⟩) 20 20) (be 20 a) := by
  have := WV.ofBlk (s0 := b + 1) (c := 20) (l := be 20 a) (r := []) (by simpa [bL] using k) (be_lt 20 a) (by omega) (by rw [length_be]; decide) (by decide)
  rwa [length_be] at this
theorem ofBE_addr {a : Nat} (h : a < A160) : ofBE (be 20 a) = a := by rw [ofBE_be, Nat.mod_eq_of_lt (A160_pow ▸ h)]
theorem atSW {s0 : Nat} {w : World} {v : Value} {l : List Nat} (h : WV s0 w v l) : ∀ w', Up w w' → WV s0 w' v l := fun w' u => h.up u
theorem at1W {s0 : Nat} {w : World} {v : Value} {l : List Nat} (h : WV s0 w v l) : ∀ w', w' = w → WV s0 w' v l := fun w' u => u ▸ h
theorem bool_be {a b : Nat} (ha : a < A160) (hb : b < A160) : Value.bool (decide (ofBE (be 20 a) < ofBE (be 20 b))) = Value.bool (decide (a < b)) := by rw [ofBE_addr ha, ofBE_addr hb]
theorem yp_before (a b : Nat) (w : World) (ha : a < A160) (hb : b < A160) :
    Ret 130 [aV a, aV b] w (fun v w' => v = .bool (decide (a < b)) ∧ Up w w') := by
  refine enter (n := 10) Hvaa.func130 rfl rfl (Nat.le_of_ble_eq_true rfl) ?_
  have U := Up.refl w
  refine c_seq (fun K1 hK1 => ?_)
  refine c_region ?_
  refine l_eff (e_boxV (et g0 rfl)) (fun v2 w2 h2 => ?_)
  obtain ⟨b2, rfl, n2⟩ := h2
  have f2 : w.heap.size ≤ b2 := Nat.le_trans U.size n2.fresh
  replace U := U.tr n2.up
  have k2 := n2.blk
  replace k2 : Blk w2 b2 (bL (be 20 a)).toArray := k2
  refine l_eff (e_boxV (et (gS rfl (gS rfl g0)) rfl)) (fun v3 w3 h3 => ?_)
  obtain ⟨b3, rfl, n3⟩ := h3
  have d2_3 : b2 < b3 := Nat.lt_of_lt_of_le k2.lt n3.fresh
  have f3 : w.heap.size ≤ b3 := Nat.le_trans U.size n3.fresh
  replace k2 := k2.up n3.up
  replace U := U.tr n3.up
  have k3 := n3.blk
  replace k3 : Blk w3 b3 (bL (be 20 b)).toArray := k3
  refine l_step y_assignC ?_
  refine l_nil ?_
  refine hK1 _ _ ?_
  refine fg2 2 3 (gS rfl (gS rfl g0)) (gS rfl g0) (fun g => ?_)
  refine c_seq (fun K4 hK4 => ?_)
  refine c_draw Up 6 [(0, true), (1, true), (2, true), (3, true), (4, true), (5, true)] (by kernel_rfl) (fun w5 hu => ⟨Up.refl _, ?_⟩)
  replace k2 := k2.up hu
  replace k3 := k3.up hu
  replace U := U.tr hu
  have SU := Up.refl w5
  refine p_step (by exact rfl) (y_slA000 Hvaa.underlying25 sz_5 (et (gS rfl g0) rfl) ) ?_
  refine p_step (by exact rfl) (y_str Hvaa.underlying38 Hvaa.underlying9 (et g0 rfl) (atSW (wv_addr k2))) ?_
  refine p_step (by exact rfl) (y_slA000 Hvaa.underlying25 sz_5 (et (gS rfl (gS rfl g0)) rfl) ) ?_
  refine p_step (by exact rfl) (y_str Hvaa.underlying38 Hvaa.underlying9 (et g0 rfl) (atSW (wv_addr k3))) ?_
  refine p_step (by exact rfl) ((y_sLss Hvaa.underlying9 (be_lt 20 a) (be_lt 20 b) (by rw [length_be, length_be]) (et (gS rfl (gS rfl g0)) rfl) (et g0 rfl)).to (bool_be ha hb)) ?_
  refine p_step (by exact rfl) (y_assignV (et g0 rfl)) ?_
  refine p_nil ?_
  refine hK4 _ _ ?_
  refine fg1 4 g0 (fun g => ?_)
  refine c_ret ?_
  refine ret1 rfl (res_tmp (et g0 rfl)) ?_
  exact ⟨rfl, U⟩
theorem yp_listed (sa : Option Addr) (sc a : Nat) (xs : List Nat) (w : World) (H : Store) (hF : Fz w H) (hL : LV P_addr 20 H (.slice sa xs.length sc) xs) (ha : a < A160) (hn : xs.length < 9223372036854775808) :
    Ret 148 [.slice sa xs.length sc, aV a] w (fun v w' => v = .bool (decide (a ∈ xs)) ∧ Up w w') := by
  have hF0 := hF
  refine enter (n := 17) Hvaa.func148 rfl rfl (Nat.le_of_ble_eq_true rfl) ?_
  have U := Up.refl w
  refine c_seq (fun K1 hK1 => ?_)
  refine c_region ?_
  refine l_eff (e_boxV (et (gS rfl g0) rfl)) (fun v2 w2 h2 => ?_)
  obtain ⟨b2, rfl, n2⟩ := h2
  have f2 : w.heap.size ≤ b2 := Nat.le_trans U.size n2.fresh
  replace hF := hF.up n2.up
  replace U := U.tr n2.up
  have k2 := n2.blk
  replace k2 : Blk w2 b2 (bL (be 20 a)).toArray := k2
  refine l_step y_assignC ?_
  refine l_nil ?_
  refine hK1 _ _ ?_
  refine fg2 0 3 (gS rfl (gS rfl g0)) (gS rfl g0) (fun g => ?_)
  refine c_seq (fun K3 hK3 => ?_)
  refine c_seq (fun K4 hK4 => ?_)
  refine c_region ?_
  refine l_step (y_moveV (et (gS rfl g0) rfl)) ?_
  refine l_step (y_len Hvaa.underlying93 (et g0 rfl)) ?_
  refine l_step y_moveC ?_
  refine l_nil ?_
  refine hK4 _ _ ?_
  refine fg4 3 7 8 9 (gS rfl (gS rfl (gS rfl g0))) (gS rfl (gS rfl g0)) (gS rfl g0) g0 (fun g => ?_)
  refine c_block (fun Q5 hQ5 => ?_)
  refine fg4 3 7 8 9 (gS rfl (gS rfl (gS rfl g0))) (gS rfl (gS rfl g0)) (gS rfl g0) g0 (fun g => ?_)
  refine c_loop (fun k_ s_ W6 => ∃ (g : Nat → Value) (i : Nat), s_ = (upd (upd (upd (upd g 3 (.pointer (some ⟨b2, 0, none⟩))) 7 (.slice sa xs.length sc)) 8 (.int .i64 (xs.length : Nat))) 9 (.int .i64 (i : Nat))) ∧ xs.length - i = k_ ∧ (i ≤ xs.length) ∧ (∀ j, (hj : j < i) → ∀ h : j < xs.length, xs[j] ≠ a) ∧ Ch (fun k => False) w2 W6) (xs.length - (0)) ?_ ?_
  · exact ⟨g, 0, rfl, rfl, Nat.zero_le _, fun j hj => absurd hj (by omega), Ch.refl _ _⟩
  · skip
    intro k_ s_ W6 hI K6 hK6
    obtain ⟨g, i, rfl, rfl, hi, hno, V6⟩ := hI
    replace k2 := k2.ch V6 (by exact fun h => h)
    replace hF := hF.ch V6 (by first | exact fun h => h | exact fun _ h => h.elim | exact fun _ _ h => h)
    replace U := U.cc V6 (by intro b hb; first | exact hb.elim | omega | (simp at hb ⊢; omega))
    refine c_seq (fun K7 hK7 => ?_)
    refine c_region ?_
    refine l_step (y_lss (et g0 rfl) (et (gS rfl g0) rfl)) ?_
    refine l_nil ?_
    refine hK7 _ _ ?_
    refine c_seq (fun K8 hK8 => ?_)
    refine c_cond (et g0 rfl) (fun cB1 => ?_) (fun cB1 => ?_)
    · skip
      simp only [decide_eq_true_eq, decide_eq_false_iff_not, Int.not_lt, Int.not_le, Bool.not_eq_true', Bool.not_eq_false', Bool.not_eq_eq_eq_not, Bool.not_true, Bool.not_false] at cB1
      refine c_skip ?_
      refine hK8 _ _ ?_
      refine fg4 3 7 8 9 (gS rfl (gS rfl (gS rfl (gS rfl g0)))) (gS rfl (gS rfl (gS rfl g0))) (gS rfl (gS rfl g0)) (gS rfl g0) (fun g => ?_)
      refine c_seq (fun K10 hK10 => ?_)
      refine c_block (fun Q11 hQ11 => ?_)
      refine c_seq (fun K12 hK12 => ?_)
      refine c_region ?_
      obtain ⟨bq, oq, r, ha0, hrow, hrl, hr1, hr2⟩ := hL.row hF (i := i) (by omega)
      rw [hr1] at hrow hrl
      refine l_step (y_idxSa ha0 Hvaa.underlying93 sz_25 (et (gS rfl (gS rfl g0)) rfl) (et g0 rfl) ?_) ?_
      omega
      refine l_step (y_loadR agg_25 sz_25 (et g0 rfl) hrl (at1R hrow)) ?_
      refine l_eff (e_alloc zr_25) (fun v13 w13 h13 => ?_)
      obtain ⟨b13, rfl, n13⟩ := h13
      have d2_13 : b2 < b13 := Nat.lt_of_lt_of_le k2.lt n13.fresh
      have f13 : w.heap.size ≤ b13 := Nat.le_trans U.size n13.fresh
      have fV6_13 := Nat.le_trans V6.size n13.fresh
      replace k2 := k2.up n13.up
      replace hF := hF.up n13.up
      replace U := U.tr n13.up
      replace V6 := V6.tr n13.up
      have k13 := n13.blk
      refine l_effN (e_store sz_25 (et g0 rfl) (cellsV (et (gS rfl g0) rfl) rfl) (by rw [length_bL, length_be]) (by exact one_bL _) k13 (by exact Nat.le_of_ble_eq_true rfl)) (fun v14 w14 h14 => ?_)
      obtain ⟨rfl, x14⟩ := h14
      replace k2 := k2.ch x14.ch (by omega)
      replace hF := hF.ch x14.ch (by first | omega | first | omega | (intro q hq e; have := hF0.lt hq; omega))
      replace k13 := x14.blk.full (by rw [length_bL, length_be]; rfl)
      replace U := U.st x14 f13
      replace V6 := V6.st x14 (by omega)
      refine l_nil ?_
      refine hK12 _ _ ?_
      refine fg5 3 7 8 9 6 (gS rfl (gS rfl (gS rfl (gS rfl (gS rfl (gS rfl g0)))))) (gS rfl (gS rfl (gS rfl (gS rfl (gS rfl g0))))) (gS rfl (gS rfl (gS rfl (gS rfl g0)))) (gS rfl (gS rfl (gS rfl g0))) g0 (fun g => ?_)
      refine c_seq (fun K15 hK15 => ?_)
      refine c_region ?_
      refine l_step (y_loadB agg_25 sz_25 (et g0 rfl) (by first | (simp only [Value.cells, hV, aV, bV, wV, wL, List.size_toArray, length_bL, length_uL, length_be, size_spl, List.length_cons, List.length_nil, List.length_replicate, Nat.zero_add, Nat.reduceAdd, Nat.reduceLeDiff, Nat.le_refl]; done) | rfl) (at1B k13)) ?_
      refine l_step (y_loadB agg_25 sz_25 (et (gS rfl (gS rfl (gS rfl (gS rfl (gS rfl g0))))) rfl) (by first | (simp only [Value.cells, hV, aV, bV, wV, wL, List.size_toArray, length_bL, length_uL, length_be, size_spl, List.length_cons, List.length_nil, List.length_replicate, Nat.zero_add, Nat.reduceAdd, Nat.reduceLeDiff, Nat.le_refl]; done) | rfl) (at1B k2)) ?_
      refine l_step (y_eqlAddr hr2 ha (et (gS rfl g0) rfl) (et g0 rfl)) ?_
      refine l_nil ?_
      refine hK15 _ _ ?_
      refine fg5 3 7 8 9 15 (gS rfl (gS rfl (gS rfl (gS rfl (gS rfl (gS rfl (gS rfl g0))))))) (gS rfl (gS rfl (gS rfl (gS rfl (gS rfl (gS rfl g0)))))) (gS rfl (gS rfl (gS rfl (gS rfl (gS rfl g0))))) (gS rfl (gS rfl (gS rfl (gS rfl g0)))) g0 (fun g => ?_)
      refine c_cond (et g0 rfl) (fun cB2 => ?_) (fun cB2 => ?_)
      · skip
        
        have he : xs[i] = a := of_decide_eq_true cB2
        refine c_seq (fun K17 hK17 => ?_)
        refine c_region ?_
        refine l_step y_assignC ?_
        refine l_nil ?_
        refine hK17 _ _ ?_
        refine fg1 4 g0 (fun g => ?_)
        refine c_ret ?_
        refine hQ11 _ _ _ (in_ret ?_)
        refine hQ5 _ _ _ (in_ret ?_)
        refine ret1 rfl (res_tmp (et g0 rfl)) ?_
        exact ⟨by rw [decide_eq_true (he ▸ List.getElem_mem (by omega))], U⟩
      · skip
        
        have hne : xs[i] ≠ a := of_decide_eq_false cB2
        refine c_skip ?_
        refine hQ11 _ _ _ (in_normal ?_)
        refine hK10 _ _ ?_
        refine fg4 3 7 8 9 (gS rfl (gS rfl (gS rfl (gS rfl g0)))) (gS rfl (gS rfl (gS rfl g0))) (gS rfl (gS rfl g0)) (gS rfl g0) (fun g => ?_)
        refine c_region ?_
        refine l_step (y_add (et g0 rfl) rfl (addIN (y := 1) ?_)) ?_
        omega
        refine l_step (y_moveV (et g0 rfl)) ?_
        refine l_nil ?_
        refine fK4 3 7 8 9 (gS rfl (gS rfl (gS rfl (gS rfl (gS rfl g0))))) (gS rfl (gS rfl (gS rfl (gS rfl g0)))) (gS rfl (gS rfl (gS rfl g0))) g0 (fun g => ?_)
        exact hK6 (xs.length - ((i + 1))) _ _ (by omega) ⟨g, (i + 1), rfl, rfl, by omega, fun j hj h => by
          rcases Nat.lt_or_ge j i with h1 | h1
          · exact hno j h1 h
          · have : j = i := by omega
            subst this; exact hne, V6⟩
    · skip
      simp only [decide_eq_true_eq, decide_eq_false_iff_not, Int.not_lt, Int.not_le, Bool.not_eq_true', Bool.not_eq_false', Bool.not_eq_eq_eq_not, Bool.not_true, Bool.not_false] at cB1
      refine c_exit ?_
      refine hQ5 _ _ _ (in_exit ?_)
      refine hK3 _ _ ?_
      refine fg0 (fun g => ?_)
      refine c_seq (fun K18 hK18 => ?_)
      refine c_region ?_
      refine l_step y_assignC ?_
      refine l_nil ?_
      refine hK18 _ _ ?_
      refine c_ret ?_
      refine ret1 rfl (res_tmp (et g0 rfl)) ?_
      refine ⟨?_, U⟩
      rw [decide_eq_false]
      intro hm
      obtain ⟨j, hj, e⟩ := List.getElem_of_mem hm
      exact hno j (by omega) hj e
theorem acct_len {H : Store} {c : List Value} {A : YAcct} (h : P_acct H c A) : c.length = 24 := by
  obtain ⟨vn, vb, vc, vs, h1, _⟩ := h
  rw [h1, List.length_append, length_bL, length_be]; rfl
theorem acct_one {H : Store} {c : List Value} {A : YAcct} (h : P_acct H c A) : ∀ v ∈ c, v.one1 = true := by
  obtain ⟨vn, vb, vc, vs, h1, h2, h3, h4, h5, h6, _⟩ := h
  obtain ⟨l3, b3, _⟩ := h3.ex
  obtain ⟨a3, c3, e3, _⟩ := b3.sv.val
  obtain ⟨l4, b4, _⟩ := h4.ex
  obtain ⟨a4, c4, e4, _⟩ := b4.sv.val
  obtain ⟨a5, c5, e5, _⟩ := h5.sv.val
  obtain ⟨a6, c6, e6, _⟩ := h6.val
  intro v hv
  rw [h1] at hv
  rcases List.mem_append.1 hv with hv | hv
  · exact one_bL _ v hv
  · simp only [List.mem_cons, List.not_mem_nil, or_false] at hv
    rcases hv with rfl | rfl | rfl | rfl
    · rw [e3]; rfl
    · rw [e4]; rfl
    · rw [e5]; rfl
    · rw [e6]; rfl
theorem acct_addr {H : Store} {c : List Value} {A : YAcct} (h : P_acct H c A) : (∀ i v, (bL (be 20 A.addr))[i]? = some v → c.toArray[0 + i]? = some v) ∧ A.addr < A160 := by
  obtain ⟨vn, vb, vc, vs, h1, h2, _⟩ := h
  refine ⟨fun i v hv => ?_, h2⟩
  have : i < (bL (be 20 A.addr)).length := (List.getElem?_eq_some_iff.1 hv).1
  rw [h1, Nat.zero_add, List.getElem?_toArray, List.getElem?_append_left this]; exact hv
theorem yp_account (bs o sc a : Nat) (sa : Option Addr) (cs : Array Value) (xs : List YAcct) (w : World) (H : Store) (hF : Fz w H) (kS : Blk w bs cs) (hva : cs[o]? = some (.slice sa xs.length sc)) (hL : LV P_acct 24 H (.slice sa xs.length sc) xs) (ha : a < A160) (hn : xs.length < 9223372036854775808) :
    Ret 43 [.pointer (some ⟨bs, o, none⟩), aV a] w (fun v w' => ∃ c, v = .agg c.toArray ∧ P_acct H c (acctAt xs a) ∧ Up w w') := by
  have hF0 := hF
  have lS := kS.lt
  refine enter (n := 24) Hvaa.func43 rfl rfl (Nat.le_of_ble_eq_true rfl) ?_
  have U := Up.refl w
  refine c_seq (fun K1 hK1 => ?_)
  refine c_region ?_
  refine l_eff (e_boxV (et (gS rfl g0) rfl)) (fun v2 w2 h2 => ?_)
  obtain ⟨b2, rfl, n2⟩ := h2
  have f2 : w.heap.size ≤ b2 := Nat.le_trans U.size n2.fresh
  replace hF := hF.up n2.up
  replace kS := kS.up n2.up
  replace U := U.tr n2.up
  have k2 := n2.blk
  replace k2 : Blk w2 b2 (bL (be 20 a)).toArray := k2
  refine l_eff (e_alloc zr_107) (fun v3 w3 h3 => ?_)
  obtain ⟨b3, rfl, n3⟩ := h3
  have d2_3 : b2 < b3 := Nat.lt_of_lt_of_le k2.lt n3.fresh
  have f3 : w.heap.size ≤ b3 := Nat.le_trans U.size n3.fresh
  replace k2 := k2.up n3.up
  replace hF := hF.up n3.up
  replace kS := kS.up n3.up
  replace U := U.tr n3.up
  have k3 := n3.blk
  refine l_nil ?_
  refine hK1 _ _ ?_
  refine fg3 0 3 4 (gS rfl (gS rfl g0)) (gS rfl g0) g0 (fun g => ?_)
  refine c_seq (fun K4 hK4 => ?_)
  refine c_seq (fun K5 hK5 => ?_)
  refine c_region ?_
  refine l_step (y_moveV (et (gS rfl (gS rfl g0)) rfl)) ?_
  refine l_step (y_nil (et g0 rfl)) ?_
  refine l_step (y_fld fld_98_0 (et g0 rfl)) ?_
  refine l_step (y_load1 one_92 (et g0 rfl) (at1 (kS.cell (by simpa using hva)))) ?_
  refine l_step (y_len Hvaa.underlying92 (et g0 rfl)) ?_
  refine l_step y_moveC ?_
  refine l_nil ?_
  refine hK5 _ _ ?_
  refine fg5 3 4 10 11 12 (gS rfl (gS rfl (gS rfl (gS rfl (gS rfl (gS rfl (gS rfl g0))))))) (gS rfl (gS rfl (gS rfl (gS rfl (gS rfl (gS rfl g0)))))) (gS rfl (gS rfl g0)) (gS rfl g0) g0 (fun g => ?_)
  refine c_block (fun Q6 hQ6 => ?_)
  refine fg5 3 4 10 11 12 (gS rfl (gS rfl (gS rfl (gS rfl g0)))) (gS rfl (gS rfl (gS rfl g0))) (gS rfl (gS rfl g0)) (gS rfl g0) g0 (fun g => ?_)
  refine c_loop (fun k_ s_ W7 => ∃ (g : Nat → Value) (i : Nat), s_ = (upd (upd (upd (upd (upd g 3 (.pointer (some ⟨b2, 0, none⟩))) 4 (.pointer (some ⟨b3, 0, none⟩))) 10 (.slice sa xs.length sc)) 11 (.int .i64 (xs.length : Nat))) 12 (.int .i64 (i : Nat))) ∧ xs.length - i = k_ ∧ (i ≤ xs.length) ∧ (∀ j, (hj : j < i) → ∀ h : j < xs.length, xs[j].addr ≠ a) ∧ Ch (fun k => False) w3 W7) (xs.length - (0)) ?_ ?_
  · exact ⟨g, 0, rfl, rfl, Nat.zero_le _, fun j hj => absurd hj (by omega), Ch.refl _ _⟩
  · skip
    intro k_ s_ W7 hI K7 hK7
    obtain ⟨g, i, rfl, rfl, hi, hno, V7⟩ := hI
    replace k2 := k2.ch V7 (by exact fun h => h)
    replace k3 := k3.ch V7 (by exact fun h => h)
    replace hF := hF.ch V7 (by first | exact fun h => h | exact fun _ h => h.elim | exact fun _ _ h => h)
    replace kS := kS.ch V7 (by first | exact fun h => h | exact fun _ h => h.elim | exact fun _ _ h => h)
    replace U := U.cc V7 (by intro b hb; first | exact hb.elim | omega | (simp at hb ⊢; omega))
    refine c_seq (fun K8 hK8 => ?_)
    refine c_region ?_
    refine l_step (y_lss (et g0 rfl) (et (gS rfl g0) rfl)) ?_
    refine l_nil ?_
    refine hK8 _ _ ?_
    refine c_seq (fun K9 hK9 => ?_)
    refine c_cond (et g0 rfl) (fun cB1 => ?_) (fun cB1 => ?_)
    · skip
      simp only [decide_eq_true_eq, decide_eq_false_iff_not, Int.not_lt, Int.not_le, Bool.not_eq_true', Bool.not_eq_false', Bool.not_eq_eq_eq_not, Bool.not_true, Bool.not_false] at cB1
      refine c_skip ?_
      refine hK9 _ _ ?_
      refine fg5 3 4 10 11 12 (gS rfl (gS rfl (gS rfl (gS rfl (gS rfl g0))))) (gS rfl (gS rfl (gS rfl (gS rfl g0)))) (gS rfl (gS rfl (gS rfl g0))) (gS rfl (gS rfl g0)) (gS rfl g0) (fun g => ?_)
      refine c_seq (fun K11 hK11 => ?_)
      refine c_block (fun Q12 hQ12 => ?_)
      refine c_seq (fun K13 hK13 => ?_)
      refine c_region ?_
      obtain ⟨bq, oq, r, ha0, hrow, hrl, hP⟩ := hL.row hF (i := i) (by omega)
      have hPo := acct_one hP
      have hPa := acct_addr hP
      refine l_step (y_idxSa ha0 Hvaa.underlying92 sz_107 (et (gS rfl (gS rfl g0)) rfl) (et g0 rfl) ?_) ?_
      omega
      refine l_step (y_loadR agg_107 sz_107 (et g0 rfl) hrl (at1R hrow)) ?_
      refine l_eff (e_alloc zr_107) (fun v14 w14 h14 => ?_)
      obtain ⟨b14, rfl, n14⟩ := h14
      have d2_14 : b2 < b14 := Nat.lt_of_lt_of_le k2.lt n14.fresh
      have d3_14 : b3 < b14 := Nat.lt_of_lt_of_le k3.lt n14.fresh
      have f14 : w.heap.size ≤ b14 := Nat.le_trans U.size n14.fresh
      have fV7_14 := Nat.le_trans V7.size n14.fresh
      replace k2 := k2.up n14.up
      replace k3 := k3.up n14.up
      replace hF := hF.up n14.up
      replace kS := kS.up n14.up
      replace U := U.tr n14.up
      replace V7 := V7.tr n14.up
      have k14 := n14.blk
      refine l_effN (e_store sz_107 (et g0 rfl) (cellsV (et (gS rfl g0) rfl) rfl) hrl (by exact hPo) k14 (by exact Nat.le_of_ble_eq_true rfl)) (fun v15 w15 h15 => ?_)
      obtain ⟨rfl, x15⟩ := h15
      replace k2 := k2.ch x15.ch (by omega)
      replace k3 := k3.ch x15.ch (by omega)
      replace hF := hF.ch x15.ch (by first | omega | first | omega | (intro q hq e; have := hF0.lt hq; omega))
      replace kS := kS.ch x15.ch (by first | omega | omega)
      replace k14 := x15.blk.full (by rw [hrl]; rfl)
      replace U := U.st x15 f14
      replace V7 := V7.st x15 (by omega)
      refine l_nil ?_
      refine hK13 _ _ ?_
      refine fg6 3 4 10 11 12 6 (gS rfl (gS rfl (gS rfl (gS rfl (gS rfl (gS rfl (gS rfl g0))))))) (gS rfl (gS rfl (gS rfl (gS rfl (gS rfl (gS rfl g0)))))) (gS rfl (gS rfl (gS rfl (gS rfl (gS rfl g0))))) (gS rfl (gS rfl (gS rfl (gS rfl g0)))) (gS rfl (gS rfl (gS rfl g0))) g0 (fun g => ?_)
      refine c_seq (fun K16 hK16 => ?_)
      refine c_region ?_
      refine l_step (y_fld fld_107_0 (et g0 rfl)) ?_
      refine l_step (y_loadR agg_25 sz_25 (et g0 rfl) (by rw [length_bL, length_be]) (at1R (k14.row hPa.1))) ?_
      refine l_step (y_loadB agg_25 sz_25 (et (gS rfl (gS rfl (gS rfl (gS rfl (gS rfl (gS rfl (gS rfl g0))))))) rfl) (by first | (simp only [Value.cells, hV, aV, bV, wV, wL, List.size_toArray, length_bL, length_uL, length_be, size_spl, List.length_cons, List.length_nil, List.length_replicate, Nat.zero_add, Nat.reduceAdd, Nat.reduceLeDiff, Nat.le_refl]; done) | rfl) (at1B k2)) ?_
      refine l_step (y_eqlAddr hPa.2 ha (et (gS rfl g0) rfl) (et g0 rfl)) ?_
      refine l_nil ?_
      refine hK16 _ _ ?_
      refine fg7 3 4 10 11 12 6 19 (gS rfl (gS rfl (gS rfl (gS rfl (gS rfl (gS rfl (gS rfl (gS rfl (gS rfl g0))))))))) (gS rfl (gS rfl (gS rfl (gS rfl (gS rfl (gS rfl (gS rfl (gS rfl g0)))))))) (gS rfl (gS rfl (gS rfl (gS rfl (gS rfl (gS rfl (gS rfl g0))))))) (gS rfl (gS rfl (gS rfl (gS rfl (gS rfl (gS rfl g0)))))) (gS rfl (gS rfl (gS rfl (gS rfl (gS rfl g0))))) (gS rfl (gS rfl (gS rfl (gS rfl g0)))) g0 (fun g => ?_)
      refine c_cond (et g0 rfl) (fun cB2 => ?_) (fun cB2 => ?_)
      · skip
        
        have he : xs[i].addr = a := of_decide_eq_true cB2
        refine c_seq (fun K18 hK18 => ?_)
        refine c_region ?_
        refine l_step (y_loadB agg_107 sz_107 (et (gS rfl g0) rfl) (by rw [List.size_toArray, hrl]) (at1B k14)) ?_
        refine l_effN (e_store sz_107 (et (gS rfl (gS rfl (gS rfl (gS rfl (gS rfl (gS rfl g0)))))) rfl) (cellsV (et g0 rfl) rfl) hrl (by exact hPo) k3 (by exact Nat.le_of_ble_eq_true rfl)) (fun v19 w19 h19 => ?_)
        obtain ⟨rfl, x19⟩ := h19
        replace k2 := k2.ch x19.ch (by omega)
        replace k14 := k14.ch x19.ch (by omega)
        replace hF := hF.ch x19.ch (by first | omega | first | omega | (intro q hq e; have := hF0.lt hq; omega))
        replace kS := kS.ch x19.ch (by first | omega | omega)
        replace k3 := x19.blk.full (by rw [hrl]; rfl)
        replace U := U.st x19 f3
        refine l_nil ?_
        refine hK18 _ _ ?_
        refine fg1 4 (gS rfl (gS rfl (gS rfl (gS rfl (gS rfl (gS rfl g0)))))) (fun g => ?_)
        refine c_ret ?_
        refine hQ12 _ _ _ (in_ret ?_)
        refine hQ6 _ _ _ (in_ret ?_)
        refine ret1 rfl (res_blk agg_107 sz_107 (et g0 rfl) (by first | (rw [List.size_toArray, hrl]; done) | exact acct_len (noAcct_cells (H := H) ha)) k3) ?_
        exact ⟨r, rfl, (acctAt_found (i := i) (by omega) (fun j hj => hno j hj (by omega)) he) ▸ hP, U⟩
      · skip
        
        have hne : xs[i].addr ≠ a := of_decide_eq_false cB2
        refine c_skip ?_
        refine hQ12 _ _ _ (in_normal ?_)
        refine hK11 _ _ ?_
        refine fg5 3 4 10 11 12 (gS rfl (gS rfl (gS rfl (gS rfl (gS rfl (gS rfl g0)))))) (gS rfl (gS rfl (gS rfl (gS rfl (gS rfl g0))))) (gS rfl (gS rfl (gS rfl (gS rfl g0)))) (gS rfl (gS rfl (gS rfl g0))) (gS rfl (gS rfl g0)) (fun g => ?_)
        refine c_region ?_
        refine l_step (y_add (et g0 rfl) rfl (addIN (y := 1) ?_)) ?_
        omega
        refine l_step (y_moveV (et g0 rfl)) ?_
        refine l_nil ?_
        refine fK5 3 4 10 11 12 (gS rfl (gS rfl (gS rfl (gS rfl (gS rfl (gS rfl g0)))))) (gS rfl (gS rfl (gS rfl (gS rfl (gS rfl g0))))) (gS rfl (gS rfl (gS rfl (gS rfl g0)))) (gS rfl (gS rfl (gS rfl g0))) g0 (fun g => ?_)
        exact hK7 (xs.length - ((i + 1))) _ _ (by omega) ⟨g, (i + 1), rfl, rfl, by omega, fun j hj h => by
          rcases Nat.lt_or_ge j i with h1 | h1
          · exact hno j h1 h
          · have : j = i := by omega
            subst this; exact hne, V7⟩
    · skip
      simp only [decide_eq_true_eq, decide_eq_false_iff_not, Int.not_lt, Int.not_le, Bool.not_eq_true', Bool.not_eq_false', Bool.not_eq_eq_eq_not, Bool.not_true, Bool.not_false] at cB1
      refine c_exit ?_
      refine hQ6 _ _ _ (in_exit ?_)
      refine hK4 _ _ ?_
      refine fg2 3 4 (gS rfl (gS rfl (gS rfl (gS rfl (gS rfl g0))))) (gS rfl (gS rfl (gS rfl (gS rfl g0)))) (fun g => ?_)
      refine c_seq (fun K20 hK20 => ?_)
      refine c_region ?_
      refine l_step (y_loadB agg_25 sz_25 (et (gS rfl g0) rfl) (by first | (simp only [Value.cells, hV, aV, bV, wV, wL, List.size_toArray, length_bL, length_uL, length_be, size_spl, List.length_cons, List.length_nil, List.length_replicate, Nat.zero_add, Nat.reduceAdd, Nat.reduceLeDiff, Nat.le_refl]; done) | rfl) (at1B k2)) ?_
      have hb21 : ∀ w, (Instr.build 107 ([(0, (Value.agg (bL (be 20 a)).toArray))] : List (Nat × Value)).toArray).run Hvaa.prog w = .ok (.agg ([(bL (be 20 a)), [.slice none 0 0], [.slice none 0 0], [.slice none 0 0], [.slice none 0 0]] : List (List Value)).flatten.toArray) w := bld_run zr_107 plc_107 (fill_flat (off := 0) (k := 20) (f := (List.replicate 20 (.int .u8 0))) (c := bL (be 20 a)) (v := (Value.agg (bL (be 20 a)).toArray)) rfl rfl (by first | (simp [length_bL, length_be, length_uL]; done) | rfl) (by first | rfl | (simp [length_bL, length_be, length_uL]; done)) rfl (by first | (simp [length_bL, length_be, length_uL]; done) | rfl) (fill_nil _ _))
      refine l_step ((y_bld (bC (et g0 rfl) bN) hb21).to (congrArg (fun l : List Value => Value.agg l.toArray) (show _ = bL (be 20 a) ++ [.slice none 0 0, .slice none 0 0, .slice none 0 0, .slice none 0 0] by simp))) ?_
      refine l_effN (e_store sz_107 (et (gS rfl (gS rfl g0)) rfl) (cellsV (et g0 rfl) rfl) (acct_len (noAcct_cells (H := H) ha)) (by exact acct_one (noAcct_cells (H := H) ha)) k3 (by exact Nat.le_of_ble_eq_true rfl)) (fun v22 w22 h22 => ?_)
      obtain ⟨rfl, x22⟩ := h22
      replace k2 := k2.ch x22.ch (by omega)
      replace hF := hF.ch x22.ch (by first | omega | first | omega | (intro q hq e; have := hF0.lt hq; omega))
      replace kS := kS.ch x22.ch (by first | omega | omega)
      replace k3 := x22.blk.full (by rw [acct_len (noAcct_cells (H := H) ha)]; rfl)
      replace U := U.st x22 f3
      refine l_nil ?_
      refine hK20 _ _ ?_
      refine fg1 4 (gS rfl (gS rfl g0)) (fun g => ?_)
      refine c_ret ?_
      refine ret1 rfl (res_blk agg_107 sz_107 (et g0 rfl) (by first | (rw [List.size_toArray, hrl]; done) | exact acct_len (noAcct_cells (H := H) ha)) k3) ?_
      exact ⟨_, rfl, (acctAt_none (fun j hj => hno j (by omega) hj)) ▸ noAcct_cells ha, U⟩
end Go.Proofs.YgvaawGreat
