import Derived.Test.YgvaawGreatY13
set_option maxRecDepth 100000
set_option maxHeartbeats 4000000
set_option linter.unusedSimpArgs false
set_option linter.unusedVariables false
namespace Go.Proofs.YgvaawGreat
open Go
def setBal (A : YAcct) (n : Nat) : YAcct := ⟨A.addr, A.nonce, n, A.code, A.slots⟩
def setNon (A : YAcct) (n : Nat) : YAcct := ⟨A.addr, n, A.bal, A.code, A.slots⟩
theorem set20 {a : Nat} {x y z t u : Value} : spl (bL (be 20 a) ++ [x, y, z, t]).toArray 20 [u] = (bL (be 20 a) ++ [u, y, z, t]).toArray := by
  have h := spl_mid (bL (be 20 a)) x [y, z, t] u 20 (by rw [length_bL, length_be])
  simpa using h
theorem set21 {a : Nat} {x y z t u : Value} : spl (bL (be 20 a) ++ [x, y, z, t]).toArray 21 [u] = (bL (be 20 a) ++ [x, u, z, t]).toArray := by
  have h := spl_mid (bL (be 20 a) ++ [x]) y [z, t] u 21 (by rw [List.length_append, length_bL, length_be]; rfl)
  simpa using h
theorem acct_bal {H : Store} {vn vb vc vs u : Value} {A : YAcct} {n : Nat} (h : P_acct H (bL (be 20 A.addr) ++ [vn, vb, vc, vs]) A) (hu : NV H u n) (hn : n < W256) : P_acct H (bL (be 20 A.addr) ++ [vn, u, vc, vs]) (setBal A n) := by
  obtain ⟨vn', vb', vc', vs', hc0, hA0, hn0, hb0, hcd0, hS0, hb1, hb2, hb3⟩ := h
  have e := List.append_cancel_left hc0
  simp only [List.cons.injEq, and_true] at e
  obtain ⟨rfl, rfl, rfl, rfl⟩ := e
  exact ⟨vn, u, vc, vs, rfl, hA0, hn0, hu, hcd0, hS0, hb1, hn, hb3⟩
theorem acct_non {H : Store} {vn vb vc vs u : Value} {A : YAcct} {n : Nat} (h : P_acct H (bL (be 20 A.addr) ++ [vn, vb, vc, vs]) A) (hu : NV H u n) (hn : n < 18446744073709551616) : P_acct H (bL (be 20 A.addr) ++ [u, vb, vc, vs]) (setNon A n) := by
  obtain ⟨vn', vb', vc', vs', hc0, hA0, hn0, hb0, hcd0, hS0, hb1, hb2, hb3⟩ := h
  have e := List.append_cancel_left hc0
  simp only [List.cons.injEq, and_true] at e
  obtain ⟨rfl, rfl, rfl, rfl⟩ := e
  exact ⟨u, vb, vc, vs, rfl, hA0, hu, hb0, hcd0, hS0, hn, hb2, hb3⟩
theorem acct_form {H : Store} {c : List Value} {A : YAcct} (h : P_acct H c A) : ∃ vn vb vc vs, c = bL (be 20 A.addr) ++ [vn, vb, vc, vs] ∧ NV H vn A.nonce ∧ NV H vb A.bal ∧ BV H vc A.code ∧ A.nonce < 18446744073709551616 ∧ A.bal < W256 := by
  obtain ⟨vn, vb, vc, vs, hc0, hA0, hn0, hb0, hcd0, hS0, hb1, hb2, hb3⟩ := h
  exact ⟨vn, vb, vc, vs, hc0, hn0, hb0, hcd0, hb1, hb2⟩
theorem yp_setBalance (bs o sc0 a : Nat) (sa0 : Option Addr) (cs : Array Value) (accts : List YAcct) (w : World) (H : Store) (hF : Fz w H) (kS : Blk w bs cs) (nbS : ¬ H.has bs) (hva : cs[o]? = some (.slice sa0 accts.length sc0)) (hL : LV P_acct 24 H (.slice sa0 accts.length sc0) accts) (ha : a < A160) (hn : accts.length < 2147483648) {vn_ : Value} {n : Nat} (hN : NV H vn_ n) (hnb : n < W256) :
    Ret 49 [.pointer (some ⟨bs, o, none⟩), aV a, vn_] w (fun v w' => v = .tuple #[] ∧ ∃ v' H', Go (fun k => k = bs) w H w' H' ∧ LV P_acct 24 H' v' (putA accts (setBal (acctAt accts a) n)) ∧ Blk w' bs (cs.setIfInBounds (o + 0) v')) := by
  have hF0 := hF
  have lS := kS.lt
  refine enter (n := 15) Hvaa.func49 rfl rfl (Nat.le_of_ble_eq_true rfl) ?_
  have U : Ch (fun k => k = bs) w w := Ch.refl _ w
  refine c_seq (fun K1 hK1 => ?_)
  refine c_region ?_
  refine l_eff (e_boxV (et (gS rfl g0) rfl)) (fun v2 w2 h2 => ?_)
  obtain ⟨b2, rfl, n2⟩ := h2
  have f2 : w.heap.size ≤ b2 := Nat.le_trans U.size n2.fresh
  replace hF := hF.up n2.up
  replace kS := kS.up n2.up
  replace U := U.tr n2.up
  have k2 := n2.blk
  replace k2 : Blk w2 b2 (bL (be 20 a)).toArray := k2
  refine l_nil ?_
  refine hK1 _ _ ?_
  refine fg3 2 0 4 (gS rfl (gS rfl (gS rfl g0))) (gS rfl g0) g0 (fun g => ?_)
  refine c_seq (fun K3 hK3 => ?_)
  refine c_region ?_
  refine l_step (y_moveV (et (gS rfl g0) rfl)) ?_
  refine l_step (y_loadB agg_25 sz_25 (et (gS rfl g0) rfl) (by first | (simp only [Value.cells, hV, aV, bV, wV, wL, List.size_toArray, length_bL, length_uL, length_be, size_spl, List.length_cons, List.length_nil, List.length_replicate, Nat.zero_add, Nat.reduceAdd, Nat.reduceLeDiff, Nat.le_refl]; done) | rfl) (at1B k2)) ?_
  refine l_eff (e_callV cal_43 (aC (et (gS rfl g0) rfl) (aC (et g0 rfl) aN)) (yp_account bs o sc0 a sa0 cs accts _ H hF kS hva hL ha (by omega))) (fun v4 w4 h4 => ?_)
  obtain ⟨c0, rfl, hP0, u4⟩ := h4
  replace k2 := k2.up u4
  replace hF := hF.up u4
  replace kS := kS.up u4
  replace U := U.tr u4
  have h24 := acct_len hP0
  have hc1 := acct_one hP0
  obtain ⟨vn, vb, vc, vs, hc0, hn0, hb0, hcd0, hb1, hb2⟩ := acct_form hP0
  rw [hc0] at hP0
  refine l_eff (e_alloc zr_107) (fun v5 w5 h5 => ?_)
  obtain ⟨b5, rfl, n5⟩ := h5
  have d2_5 : b2 < b5 := Nat.lt_of_lt_of_le k2.lt n5.fresh
  have f5 : w.heap.size ≤ b5 := Nat.le_trans U.size n5.fresh
  replace k2 := k2.up n5.up
  replace hF := hF.up n5.up
  replace kS := kS.up n5.up
  replace U := U.tr n5.up
  have k5 := n5.blk
  refine l_effN (e_store sz_107 (et g0 rfl) (cellsV (et (gS rfl g0) rfl) rfl) h24 (by exact hc1) k5 (by exact Nat.le_of_ble_eq_true rfl)) (fun v6 w6 h6 => ?_)
  obtain ⟨rfl, x6⟩ := h6
  replace k2 := k2.ch x6.ch (by omega)
  replace hF := hF.ch x6.ch (by first | omega | (first | omega | (intro q hq e; have := hF0.lt hq; omega) | (intro q hq e; exact hOo.ne (by have := hF0.lt hq; omega) e) | (intro q hq e; exact nbS (e ▸ hq))))
  replace kS := kS.ch x6.ch (by first | omega | (omega))
  replace k5 := x6.blk.full (by rw [h24]; rfl)
  replace U := U.st x6 (.inr f5)
  rw [hc0] at k5
  refine l_nil ?_
  refine hK3 _ _ ?_
  refine fg3 2 0 6 (gS rfl (gS rfl (gS rfl (gS rfl (gS rfl (gS rfl g0)))))) (gS rfl (gS rfl (gS rfl (gS rfl (gS rfl g0))))) g0 (fun g => ?_)
  refine c_seq (fun K7 hK7 => ?_)
  refine c_region ?_
  refine l_step (y_moveV (et (gS rfl (gS rfl g0)) rfl)) ?_
  refine l_step (y_fld fld_107_2 (et (gS rfl g0) rfl)) ?_
  refine l_effN (e_store sz_95 (et g0 rfl) (cellsV (et (gS rfl g0) rfl) (cells_one hN.one1)) rfl (by exact one_sgl hN.one1) k5 (by (rw [List.size_toArray, List.length_append, length_bL, length_be]; exact Nat.le_of_ble_eq_true rfl))) (fun v8 w8 h8 => ?_)
  obtain ⟨rfl, x8⟩ := h8
  replace k2 := k2.ch x8.ch (by omega)
  replace hF := hF.ch x8.ch (by first | omega | (first | omega | (intro q hq e; have := hF0.lt hq; omega) | (intro q hq e; exact hOo.ne (by have := hF0.lt hq; omega) e) | (intro q hq e; exact nbS (e ▸ hq))))
  replace kS := kS.ch x8.ch (by first | omega | (omega))
  replace k5 := x8.blk
  replace U := U.st x8 (.inr f5)
  rw [show (0 + 21 : Nat) = 21 from rfl, set21] at k5
  have hP2 := acct_bal hP0 hN hnb
  have hl2 := acct_len hP2
  refine l_nil ?_
  refine hK7 _ _ ?_
  refine fg2 0 6 (gS rfl (gS rfl (gS rfl g0))) (gS rfl (gS rfl g0)) (fun g => ?_)
  refine c_region ?_
  refine l_step (y_moveV (et (gS rfl g0) rfl)) ?_
  refine l_step (y_loadB agg_107 sz_107 (et (gS rfl g0) rfl) (by rw [List.size_toArray, hl2]) (at1B k5)) ?_
  obtain ⟨Gf, hGf⟩ : ∃ x : Go (fun k => k = bs) w H w8 H, True := ⟨⟨U, hF, Le.refl _, fun _ h => .inl h⟩, trivial⟩
  refine l_eff (e_callV cal_127 (aC (et (gS rfl g0) rfl) (aC (et g0 rfl) aN)) (yp_put bs o sc0 sa0 cs accts _ _ _ H hF kS nbS hva hL hP2 hn)) (fun v9 w9 h9 => ?_)
  obtain ⟨rfl, v2, H3, g9, lv3, kS2⟩ := h9
  replace k2 := k2.ch g9.ch (by omega)
  replace k5 := k5.ch g9.ch (by omega)
  replace kS := kS2
  replace hF := g9.fz
  replace U := U.cc g9.ch (by intro b hb; first | omega | exact .inl hb | exact .inr (hb ▸ U))
  refine l_nil ?_
  refine end0 rfl ?_
  exact ⟨rfl, v2, H3, Gf.trans g9 (fun b hb => .inl hb), lv3, kS⟩
theorem yp_setNonce (bs o sc0 a : Nat) (sa0 : Option Addr) (cs : Array Value) (accts : List YAcct) (w : World) (H : Store) (hF : Fz w H) (kS : Blk w bs cs) (nbS : ¬ H.has bs) (hva : cs[o]? = some (.slice sa0 accts.length sc0)) (hL : LV P_acct 24 H (.slice sa0 accts.length sc0) accts) (ha : a < A160) (hn : accts.length < 2147483648) {vn_ : Value} {n : Nat} (hN : NV H vn_ n) (hnb : n < 18446744073709551616) :
    Ret 48 [.pointer (some ⟨bs, o, none⟩), aV a, vn_] w (fun v w' => v = .tuple #[] ∧ ∃ v' H', Go (fun k => k = bs) w H w' H' ∧ LV P_acct 24 H' v' (putA accts (setNon (acctAt accts a) n)) ∧ Blk w' bs (cs.setIfInBounds (o + 0) v')) := by
  have hF0 := hF
  have lS := kS.lt
  refine enter (n := 15) Hvaa.func48 rfl rfl (Nat.le_of_ble_eq_true rfl) ?_
  have U : Ch (fun k => k = bs) w w := Ch.refl _ w
  refine c_seq (fun K1 hK1 => ?_)
  refine c_region ?_
  refine l_eff (e_boxV (et (gS rfl g0) rfl)) (fun v2 w2 h2 => ?_)
  obtain ⟨b2, rfl, n2⟩ := h2
  have f2 : w.heap.size ≤ b2 := Nat.le_trans U.size n2.fresh
  replace hF := hF.up n2.up
  replace kS := kS.up n2.up
  replace U := U.tr n2.up
  have k2 := n2.blk
  replace k2 : Blk w2 b2 (bL (be 20 a)).toArray := k2
  refine l_nil ?_
  refine hK1 _ _ ?_
  refine fg3 2 0 4 (gS rfl (gS rfl (gS rfl g0))) (gS rfl g0) g0 (fun g => ?_)
  refine c_seq (fun K3 hK3 => ?_)
  refine c_region ?_
  refine l_step (y_moveV (et (gS rfl g0) rfl)) ?_
  refine l_step (y_loadB agg_25 sz_25 (et (gS rfl g0) rfl) (by first | (simp only [Value.cells, hV, aV, bV, wV, wL, List.size_toArray, length_bL, length_uL, length_be, size_spl, List.length_cons, List.length_nil, List.length_replicate, Nat.zero_add, Nat.reduceAdd, Nat.reduceLeDiff, Nat.le_refl]; done) | rfl) (at1B k2)) ?_
  refine l_eff (e_callV cal_43 (aC (et (gS rfl g0) rfl) (aC (et g0 rfl) aN)) (yp_account bs o sc0 a sa0 cs accts _ H hF kS hva hL ha (by omega))) (fun v4 w4 h4 => ?_)
  obtain ⟨c0, rfl, hP0, u4⟩ := h4
  replace k2 := k2.up u4
  replace hF := hF.up u4
  replace kS := kS.up u4
  replace U := U.tr u4
  have h24 := acct_len hP0
  have hc1 := acct_one hP0
  obtain ⟨vn, vb, vc, vs, hc0, hn0, hb0, hcd0, hb1, hb2⟩ := acct_form hP0
  rw [hc0] at hP0
  refine l_eff (e_alloc zr_107) (fun v5 w5 h5 => ?_)
  obtain ⟨b5, rfl, n5⟩ := h5
  have d2_5 : b2 < b5 := Nat.lt_of_lt_of_le k2.lt n5.fresh
  have f5 : w.heap.size ≤ b5 := Nat.le_trans U.size n5.fresh
  replace k2 := k2.up n5.up
  replace hF := hF.up n5.up
  replace kS := kS.up n5.up
  replace U := U.tr n5.up
  have k5 := n5.blk
  refine l_effN (e_store sz_107 (et g0 rfl) (cellsV (et (gS rfl g0) rfl) rfl) h24 (by exact hc1) k5 (by exact Nat.le_of_ble_eq_true rfl)) (fun v6 w6 h6 => ?_)
  obtain ⟨rfl, x6⟩ := h6
  replace k2 := k2.ch x6.ch (by omega)
  replace hF := hF.ch x6.ch (by first | omega | (first | omega | (intro q hq e; have := hF0.lt hq; omega) | (intro q hq e; exact hOo.ne (by have := hF0.lt hq; omega) e) | (intro q hq e; exact nbS (e ▸ hq))))
  replace kS := kS.ch x6.ch (by first | omega | (omega))
  replace k5 := x6.blk.full (by rw [h24]; rfl)
  replace U := U.st x6 (.inr f5)
  rw [hc0] at k5
  refine l_nil ?_
  refine hK3 _ _ ?_
  refine fg3 2 0 6 (gS rfl (gS rfl (gS rfl (gS rfl (gS rfl (gS rfl g0)))))) (gS rfl (gS rfl (gS rfl (gS rfl (gS rfl g0))))) g0 (fun g => ?_)
  refine c_seq (fun K7 hK7 => ?_)
  refine c_region ?_
  refine l_step (y_moveV (et (gS rfl (gS rfl g0)) rfl)) ?_
  refine l_step (y_fld fld_107_1 (et (gS rfl g0) rfl)) ?_
  refine l_effN (e_store sz_95 (et g0 rfl) (cellsV (et (gS rfl g0) rfl) (cells_one hN.one1)) rfl (by exact one_sgl hN.one1) k5 (by (rw [List.size_toArray, List.length_append, length_bL, length_be]; exact Nat.le_of_ble_eq_true rfl))) (fun v8 w8 h8 => ?_)
  obtain ⟨rfl, x8⟩ := h8
  replace k2 := k2.ch x8.ch (by omega)
  replace hF := hF.ch x8.ch (by first | omega | (first | omega | (intro q hq e; have := hF0.lt hq; omega) | (intro q hq e; exact hOo.ne (by have := hF0.lt hq; omega) e) | (intro q hq e; exact nbS (e ▸ hq))))
  replace kS := kS.ch x8.ch (by first | omega | (omega))
  replace k5 := x8.blk
  replace U := U.st x8 (.inr f5)
  rw [show (0 + 20 : Nat) = 20 from rfl, set20] at k5
  have hP2 := acct_non hP0 hN hnb
  have hl2 := acct_len hP2
  refine l_nil ?_
  refine hK7 _ _ ?_
  refine fg2 0 6 (gS rfl (gS rfl (gS rfl g0))) (gS rfl (gS rfl g0)) (fun g => ?_)
  refine c_region ?_
  refine l_step (y_moveV (et (gS rfl g0) rfl)) ?_
  refine l_step (y_loadB agg_107 sz_107 (et (gS rfl g0) rfl) (by rw [List.size_toArray, hl2]) (at1B k5)) ?_
  obtain ⟨Gf, hGf⟩ : ∃ x : Go (fun k => k = bs) w H w8 H, True := ⟨⟨U, hF, Le.refl _, fun _ h => .inl h⟩, trivial⟩
  refine l_eff (e_callV cal_127 (aC (et (gS rfl g0) rfl) (aC (et g0 rfl) aN)) (yp_put bs o sc0 sa0 cs accts _ _ _ H hF kS nbS hva hL hP2 hn)) (fun v9 w9 h9 => ?_)
  obtain ⟨rfl, v2, H3, g9, lv3, kS2⟩ := h9
  replace k2 := k2.ch g9.ch (by omega)
  replace k5 := k5.ch g9.ch (by omega)
  replace kS := kS2
  replace hF := g9.fz
  replace U := U.cc g9.ch (by intro b hb; first | omega | exact .inl hb | exact .inr (hb ▸ U))
  refine l_nil ?_
  refine end0 rfl ?_
  exact ⟨rfl, v2, H3, Gf.trans g9 (fun b hb => .inl hb), lv3, kS⟩
theorem yp_isWarm (bs o sc a : Nat) (sa : Option Addr) (cs : Array Value) (xs : List Nat) (w : World) (H : Store) (hF : Fz w H) (kS : Blk w bs cs) (hva : cs[o + 1]? = some (.slice sa xs.length sc)) (hS0 : LV P_addr 20 H (.slice sa xs.length sc) xs) (ha : a < A160) (hn : xs.length < 2147483648) :
    Ret 393 [.pointer (some ⟨bs, o, none⟩), aV a] w (fun v w' => v = .bool (decide (a ∈ xs)) ∧ Up w w') := by
  have hF0 := hF
  have lS := kS.lt
  refine enter (n := 11) Hvaa.func393 rfl rfl (Nat.le_of_ble_eq_true rfl) ?_
  have U := Up.refl w
  refine c_seq (fun K1 hK1 => ?_)
  refine c_region ?_
  refine l_eff (e_boxV (et (gS rfl g0) rfl)) (fun v2 w2 h2 => ?_)
  obtain ⟨b2, rfl, n2⟩ := h2
  have f2 : w.heap.size ≤ b2 := Nat.le_trans U.size n2.fresh
  replace hF := hF.up n2.up
  replace kS := kS.up n2.up
  replace U := U.tr n2.up
  have k2 := n2.blk
  replace k2 : Blk w2 b2 (bL (be 20 a)).toArray := k2
  refine l_step y_assignC ?_
  refine l_nil ?_
  refine hK1 _ _ ?_
  refine fg2 0 3 (gS rfl (gS rfl g0)) (gS rfl g0) (fun g => ?_)
  refine c_seq (fun K3 hK3 => ?_)
  refine c_draw Up 7 [(0, true), (1, true), (2, true), (3, true), (4, true), (5, false), (6, true)] (by kernel_rfl) (fun w4 hu => ⟨Up.refl _, ?_⟩)
  replace k2 := k2.up hu
  replace hF := hF.up hu
  replace kS := kS.up hu
  replace U := U.tr hu
  have SU := Up.refl w4
  refine p_step (by exact rfl) (y_moveV (et (gS rfl g0) rfl)) ?_
  refine p_step (by exact rfl) (y_nil (et g0 rfl)) ?_
  refine p_step (by exact rfl) (y_fld fld_98_1 (et g0 rfl)) ?_
  refine p_step (by exact rfl) (y_load1 one_93 (et g0 rfl) (atS (kS.cell hva))) ?_
  refine p_step (by exact rfl) (y_loadB agg_25 sz_25 (et (gS rfl (gS rfl (gS rfl (gS rfl g0)))) rfl) (by first | (simp only [Value.cells, hV, aV, bV, wV, wL, List.size_toArray, length_bL, length_uL, length_be, size_spl, List.length_cons, List.length_nil, List.length_replicate, Nat.zero_add, Nat.reduceAdd, Nat.reduceLeDiff, Nat.le_refl]; done) | rfl) (atSB k2)) ?_
  refine p_eff (by exact rfl) (e_callV cal_148 (aC (et (gS rfl g0) rfl) (aC (et g0 rfl) aN)) (yp_listed sa sc a xs _ H hF hS0 ha (by omega))) (fun v5 w5 h5 => ?_)
  obtain ⟨rfl, u5⟩ := h5
  replace k2 := k2.up u5
  replace hF := hF.up u5
  replace kS := kS.up u5
  replace U := U.tr u5
  refine ⟨.inr (SU.tr u5), ?_⟩
  replace SU := SU.tr u5
  refine p_step (by exact rfl) (y_assignV (et g0 rfl)) ?_
  refine p_nil ?_
  refine hK3 _ _ ?_
  refine fg1 4 g0 (fun g => ?_)
  refine c_ret ?_
  refine ret1 rfl (res_tmp (et g0 rfl)) ?_
  exact ⟨rfl, U⟩
structure MC {α : Type} (P : Cp α) : Prop where
  m : Mono P
theorem mc_addr : MC P_addr := ⟨mono_addr⟩
theorem mc_word : MC P_word := ⟨mono_word⟩
theorem mc_slot : MC P_slot := ⟨mono_slot⟩
theorem mc_acct : MC P_acct := ⟨mono_acct⟩
theorem mc_mark : MC P_mark := ⟨mono_mark⟩
theorem mc_tri : MC P_tri := ⟨mono_tri⟩
theorem mc_log : MC P_log := ⟨mono_log⟩
theorem LV.mono {α : Type} {P : Cp α} {k : Nat} {H H' : Store} {v : Value} {xs : List α} (h : LV P k H v xs) (hl : Le H H') (mc : MC P := by first | with_reducible exact mc_addr | with_reducible exact mc_word | with_reducible exact mc_slot | with_reducible exact mc_acct | with_reducible exact mc_mark | with_reducible exact mc_tri | with_reducible exact mc_log | with_reducible exact mc_nat | with_reducible exact mc_access | with_reducible exact mc_sk | with_reducible exact mc_ea | with_reducible exact mc_es | with_reducible exact mc_raw | with_reducible exact mc_oslot | with_reducible exact mc_oacct | with_reducible exact mc_tx | assumption) : LV P k H' v xs := h.mono' mc.m hl
theorem LV.one1 {α : Type} {P : Cp α} {k : Nat} {H : Store} {v : Value} {xs : List α} (h : LV P k H v xs) : v.one1 = true := by
  obtain ⟨a, c, e, _⟩ := h.val
  rw [e]; rfl
theorem yp_warm (bs o sc a : Nat) (sa : Option Addr) (cs : Array Value) (xs : List Nat) (w : World) (H : Store) (hF : Fz w H) (kS : Blk w bs cs) (nbS : ¬ H.has bs) (hva : cs[o + 1]? = some (.slice sa xs.length sc)) (hS0 : LV P_addr 20 H (.slice sa xs.length sc) xs) (ha : a < A160) (hn : xs.length < 2147483648) :
    Ret 51 [.pointer (some ⟨bs, o, none⟩), aV a] w (fun v w' => v = .tuple #[] ∧ ∃ v' H', Go (fun k => k = bs) w H w' H' ∧ LV P_addr 20 H' v' (withA xs a) ∧ Blk w' bs (cs.setIfInBounds (o + 1) v')) := by
  have lS := kS.lt
  refine enter (n := 13) Hvaa.func51 rfl rfl (Nat.le_of_ble_eq_true rfl) ?_
  have U : Ch (fun k => k = bs) w w := Ch.refl _ w
  have G : Go (fun k => k = bs) w H w H := Go.refl hF
  refine c_seq (fun K1 hK1 => ?_)
  refine c_region ?_
  refine l_eff (e_boxV (et (gS rfl g0) rfl)) (fun v2 w2 h2 => ?_)
  obtain ⟨b2, rfl, n2⟩ := h2
  have f2 : w.heap.size ≤ b2 := Nat.le_trans U.size n2.fresh
  have nb2 := hF.nb n2.fresh
  replace G := G.tr (Go.ofUp hF n2.up)
  replace hF := hF.up n2.up
  replace kS := kS.up n2.up
  replace U := U.tr n2.up
  have k2 := n2.blk
  replace k2 : Blk w2 b2 (bL (be 20 a)).toArray := k2
  refine l_nil ?_
  refine hK1 _ _ ?_
  refine fg2 0 3 (gS rfl g0) g0 (fun g => ?_)
  refine c_draw Up 9 [(0, true), (1, true), (2, true), (3, true), (4, true), (5, true), (6, false), (7, true), (8, true), (9, false)] (by kernel_rfl) (fun w3 hu => ⟨Up.refl _, ?_⟩)
  replace G := G.tr (Go.ofUp hF hu)
  replace hF := hF.up hu
  replace k2 := k2.up hu
  replace kS := kS.up hu
  replace U := U.tr hu
  have SU := Up.refl w3
  refine p_step (by exact rfl) (y_moveV (et (gS rfl g0) rfl)) ?_
  refine p_step (by exact rfl) (y_moveV (et (gS rfl (gS rfl g0)) rfl)) ?_
  refine p_step (by exact rfl) (y_nil (et g0 rfl)) ?_
  refine p_step (by exact rfl) (y_fld fld_98_1 (et g0 rfl)) ?_
  refine p_step (by exact rfl) (y_load1 one_93 (et g0 rfl) (atS (kS.cell hva))) ?_
  refine p_step (by exact rfl) (y_loadB agg_25 sz_25 (et (gS rfl (gS rfl (gS rfl (gS rfl (gS rfl g0))))) rfl) (by first | (simp only [Value.cells, hV, aV, bV, wV, wL, List.size_toArray, length_bL, length_uL, length_be, size_spl, List.length_cons, List.length_nil, List.length_replicate, Nat.zero_add, Nat.reduceAdd, Nat.reduceLeDiff, Nat.le_refl]; done) | rfl) (atSB k2)) ?_
  refine p_eff (by exact rfl) (e_callV cal_128 (aC (et (gS rfl g0) rfl) (aC (et g0 rfl) aN)) (yp_withAddr sa sc a xs _ _ hF hS0 ha hn)) (fun v4 w4 h4 => ?_)
  obtain ⟨H4, g4, lv⟩ := h4
  have hlew4 := g4.le
  replace nb2 := g4.nb nb2 k2.lt
  replace nbS := g4.nb nbS kS.lt
  replace hS0 := hS0.mono hlew4
  replace k2 := k2.up g4.up
  replace kS := kS.up g4.up
  replace U := U.tr g4.up
  replace G := G.tr g4
  replace hF := g4.fz
  refine ⟨.inr (SU.tr g4.up), ?_⟩
  replace SU := SU.tr g4.up
  refine p_step (by exact rfl) (y_nil (et (gS rfl (gS rfl (gS rfl (gS rfl (gS rfl (gS rfl g0)))))) rfl)) ?_
  refine p_step (by exact rfl) (y_fld fld_98_1 (et g0 rfl)) ?_
  refine p_effN (by exact rfl) (e_store sz_93 (et g0 rfl) (cellsV (et (gS rfl (gS rfl g0)) rfl) (cells_one lv.one1)) rfl (by exact one_sgl lv.one1) kS (by (have := (Array.getElem?_eq_some_iff.1 hva).1; omega))) (fun v5 w5 h5 => ?_)
  obtain ⟨rfl, x5⟩ := h5
  replace k2 := k2.ch x5.ch (by omega)
  replace kS := x5.blk
  replace G := G.wr x5 (.inl (by first | rfl | (simp; done))) nbS
  replace hF := G.fz
  replace U := U.st x5 (.inl (by first | rfl | (simp; done)))
  refine ⟨.inl rfl, ?_⟩
  refine p_nil ?_
  refine end0 rfl ?_
  exact ⟨rfl, _, _, G, lv, kS⟩
def accessN (l : List Nat) (a : Nat) : Nat := if a ∈ l then 100 else 2600
theorem yp_access (bs o sc a : Nat) (sa : Option Addr) (cs : Array Value) (xs : List Nat) (w : World) (H : Store) (hF : Fz w H) (kS : Blk w bs cs) (hva : cs[o + 1]? = some (.slice sa xs.length sc)) (hS0 : LV P_addr 20 H (.slice sa xs.length sc) xs) (ha : a < A160) (hn : xs.length < 2147483648) :
    Ret 333 [.pointer (some ⟨bs, o, none⟩), aV a] w (fun v w' => ∃ H', Go No w H w' H' ∧ NV H' v (accessN xs a)) := by
  have lS := kS.lt
  refine enter (n := 10) Hvaa.func333 rfl rfl (Nat.le_of_ble_eq_true rfl) ?_
  have U := Up.refl w
  have G : Go (No) w H w H := Go.refl hF
  refine c_seq (fun K1 hK1 => ?_)
  refine c_region ?_
  refine l_eff (e_boxV (et (gS rfl g0) rfl)) (fun v2 w2 h2 => ?_)
  obtain ⟨b2, rfl, n2⟩ := h2
  have f2 : w.heap.size ≤ b2 := Nat.le_trans U.size n2.fresh
  have nb2 := hF.nb n2.fresh
  replace G := G.tr (Go.ofUp hF n2.up)
  replace hF := hF.up n2.up
  replace kS := kS.up n2.up
  replace U := U.tr n2.up
  have k2 := n2.blk
  replace k2 : Blk w2 b2 (bL (be 20 a)).toArray := k2
  refine l_step y_assignC ?_
  refine l_nil ?_
  refine hK1 _ _ ?_
  refine fg2 0 3 (gS rfl (gS rfl g0)) (gS rfl g0) (fun g => ?_)
  refine c_seq (fun K3 hK3 => ?_)
  refine c_seq (fun K4 hK4 => ?_)
  refine c_region ?_
  refine l_step (y_moveV (et (gS rfl g0) rfl)) ?_
  refine l_step (y_loadB agg_25 sz_25 (et (gS rfl g0) rfl) (by first | (simp only [Value.cells, hV, aV, bV, wV, wL, List.size_toArray, length_bL, length_uL, length_be, size_spl, List.length_cons, List.length_nil, List.length_replicate, Nat.zero_add, Nat.reduceAdd, Nat.reduceLeDiff, Nat.le_refl]; done) | rfl) (at1B k2)) ?_
  refine l_eff (e_callV cal_393 (aC (et (gS rfl g0) rfl) (aC (et g0 rfl) aN)) (yp_isWarm bs o sc a sa cs xs _ _ hF kS hva hS0 ha hn)) (fun v5 w5 h5 => ?_)
  obtain ⟨rfl, u5⟩ := h5
  replace G := G.tr (Go.ofUp hF u5)
  replace hF := hF.up u5
  replace k2 := k2.up u5
  replace kS := kS.up u5
  replace U := U.tr u5
  refine l_nil ?_
  refine hK4 _ _ ?_
  refine fg1 7 g0 (fun g => ?_)
  refine c_cond (et g0 rfl) (fun cB1 => ?_) (fun cB1 => ?_)
  · skip
    
    have hin : a ∈ xs := of_decide_eq_true cB1
    refine c_seq (fun K7 hK7 => ?_)
    refine c_region ?_
    refine l_eff (e_callV cal_32 (aC (v := .int .u64 ((100 : Nat) : Int)) rfl aN) (yp_num (x := 100) hF (by decide))) (fun v8 w8 h8 => ?_)
    obtain ⟨H8, g8, n8⟩ := h8
    have hlew8 := g8.le
    replace nb2 := g8.nb nb2 k2.lt
    replace hS0 := hS0.mono hlew8
    replace k2 := k2.up g8.up
    replace kS := kS.up g8.up
    replace U := U.tr g8.up
    replace G := G.tr g8
    replace hF := g8.fz
    have q8 : 100 < 256 ^ 1 := by decide
    refine l_step (y_assignV (et g0 rfl)) ?_
    refine l_nil ?_
    refine hK7 _ _ ?_
    refine fg1 4 g0 (fun g => ?_)
    refine c_ret ?_
    refine ret1 rfl (res_tmp (et g0 rfl)) ?_
    exact ⟨_, G, n8.to (by rw [accessN, if_pos hin])⟩
  · skip
    
    have hin : ¬ a ∈ xs := of_decide_eq_false cB1
    refine c_skip ?_
    refine hK3 _ _ ?_
    refine fg0 (fun g => ?_)
    refine c_seq (fun K9 hK9 => ?_)
    refine c_region ?_
    refine l_eff (e_callV cal_32 (aC (v := .int .u64 ((2600 : Nat) : Int)) rfl aN) (yp_num (x := 2600) hF (by decide))) (fun v10 w10 h10 => ?_)
    obtain ⟨H10, g10, n10⟩ := h10
    have hlew10 := g10.le
    replace nb2 := g10.nb nb2 k2.lt
    replace hS0 := hS0.mono hlew10
    replace k2 := k2.up g10.up
    replace kS := kS.up g10.up
    replace U := U.tr g10.up
    replace G := G.tr g10
    replace hF := g10.fz
    have q10 : 2600 < 256 ^ 2 := by decide
    refine l_step (y_assignV (et g0 rfl)) ?_
    refine l_nil ?_
    refine hK9 _ _ ?_
    refine fg1 4 g0 (fun g => ?_)
    refine c_ret ?_
    refine ret1 rfl (res_tmp (et g0 rfl)) ?_
    exact ⟨_, G, n10.to (by rw [accessN, if_neg hin])⟩
end Go.Proofs.YgvaawGreat
