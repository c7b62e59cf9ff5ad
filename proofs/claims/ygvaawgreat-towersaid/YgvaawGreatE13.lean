import Derived.Test.YgvaawGreatE12
set_option maxRecDepth 100000
set_option maxHeartbeats 4000000
set_option linter.unusedSimpArgs false
set_option linter.unusedVariables false
namespace Go.Proofs.YgvaawGreat
open Go
theorem v_tempOf {w : World} {H : Store} {col : Nat → Nat} {bc : Nat} {cs : Array Value} {V : EV} (hV : VL w H col bc cs V) (ho : VOk V) (a k : Nat) (ha : a < A160) (hk : k < W256) (na nt : Nat) (hr : (hasA V a ∧ na = 0) ∨ (V.accts.length < 2560 ∧ na = 1)) (hrt : (hasT V a k ∧ nt = 0) ∨ (V.temps.length < 12288 ∧ nt = 1)) : Ret 383 [.pointer (some ⟨bc, 2435, none⟩), aV a, wV k] w (fun v w' => ∃ (i : Nat) (x : ETemp) (col' : Nat → Nat) (cs' : Array Value) (V1 : EV), v = .tuple #[.int .i32 (i : Nat), .bool true] ∧ VT w H col bc cs w' H col' cs' V1 ∧ Lay V V1 na 0 nt ∧ hasA V1 a ∧ V1.temps[i]? = some x ∧ x.acct = ai V1 a ∧ x.key = k) := by
  cases h : V.tm with
  | true => exact v_tempOf1 hV ho a k ha hk na nt hr hrt h
  | false => exact v_tempOf0 hV ho a k ha hk na nt hr hrt h
theorem VL.logRow {w : World} {H : Store} {col : Nat → Nat} {bc : Nat} {cs : Array Value} {V : EV} {i : Nat} {x : YLog} (h : VL w H col bc cs V) (hx : V.logs[i]? = some x) : ∃ b cap ta tc da dc, cs[27016]? = some (.slice (some ⟨b, 0, none⟩) V.logs.length cap) ∧ Row w b (0 + i * 22) (bL (be 20 x.addr) ++ [Value.slice ta x.topics.length tc, Value.slice da x.data.length dc]) ∧ x.addr < A160 ∧ LV P_word 32 H (.slice ta x.topics.length tc) x.topics ∧ BV H (.slice da x.data.length dc) x.data := by
  obtain ⟨v, b, c, h1, h2, h3⟩ := h.log
  obtain ⟨cap, c', e1, e2, e3, e4, e5, e6, e7, vt, vd, e10, e8, e9, e11⟩ := h2.get hx
  obtain ⟨ta, tc, e12, _⟩ := e9.val
  obtain ⟨da, dc, e13, _⟩ := e11.sv.val
  rw [e10, e12, e13] at e7
  rw [e12] at e9
  rw [e13] at e11
  subst e1
  exact ⟨b, cap, ta, tc, da, dc, h1, by rw [Nat.zero_add]; exact e5.row e7, e8, e9, e11⟩
theorem v_tstore {w : World} {H : Store} {col : Nat → Nat} {bc : Nat} {cs : Array Value} {V : EV} (hV : VL w H col bc cs V) (ho : VOk V) (a k : Nat) (ha : a < A160) (hk : k < W256) (u : Nat) (hub : u < W256) (na nt : Nat) (hr : (hasA V a ∧ na = 0) ∨ (V.accts.length < 2560 ∧ na = 1)) (hrt : (hasT V a k ∧ nt = 0) ∨ (V.temps.length < 12288 ∧ nt = 1)) (hjr : V.journal.length < 65536) :
    Ret 311 [.pointer (some ⟨bc, 2435, none⟩), aV a, wV k, wV u] w (fun v w' => v = .bool true ∧ ∃ (col' : Nat → Nat) (cs' : Array Value) (V' : EV), VT w H col bc cs w' H col' cs' V' ∧ VOk V' ∧ JS V V' (fun A => { A with temp := fset2 A.temp a k u }) na 0 nt 1 0) := by
  have hT := VT.refl hV
  have hnw := hV.new
  have hcC := hV.colC
  have hml := ho.bd.marks
  refine enter (n := 50) Hvaa.func311 rfl rfl (Nat.le_of_ble_eq_true rfl) ?_
  have U : Ch (fun _ => True) w w := Ch.refl _ w
  refine c_seq (fun K1 hK1 => ?_)
  exact (by
    refine c_region ?_
    refine l_eff (e_boxV (et (gS rfl g0) rfl)) (fun v2 w2 h2 => ?_)
    obtain ⟨b2, rfl, n2⟩ := h2
    have f2 : w.heap.size ≤ b2 := Nat.le_trans U.size n2.fresh
    replace hT := hT.up n2.up
    replace U := U.tr n2.up
    have k2 := n2.blk
    replace k2 : Blk w2 b2 (bL (be 20 a)).toArray := k2
    have nc2 : col b2 = 0 := hnw _ f2
    refine l_eff (e_boxV (et (gS rfl (gS rfl (gS rfl g0))) rfl)) (fun v3 w3 h3 => ?_)
    obtain ⟨b3, rfl, n3⟩ := h3
    have d2_3 : b2 < b3 := Nat.lt_of_lt_of_le k2.lt n3.fresh
    have f3 : w.heap.size ≤ b3 := Nat.le_trans U.size n3.fresh
    replace k2 := k2.up n3.up
    replace hT := hT.up n3.up
    replace U := U.tr n3.up
    have k3 := n3.blk
    have nc3 : col b3 = 0 := hnw _ f3
    refine l_eff (e_boxV (et (gS rfl (gS rfl (gS rfl (gS rfl (gS rfl g0))))) rfl)) (fun v4 w4 h4 => ?_)
    obtain ⟨b4, rfl, n4⟩ := h4
    have d2_4 : b2 < b4 := Nat.lt_of_lt_of_le k2.lt n4.fresh
    have d3_4 : b3 < b4 := Nat.lt_of_lt_of_le k3.lt n4.fresh
    have f4 : w.heap.size ≤ b4 := Nat.le_trans U.size n4.fresh
    replace k2 := k2.up n4.up
    replace k3 := k3.up n4.up
    replace hT := hT.up n4.up
    replace U := U.tr n4.up
    have k4 := n4.blk
    have nc4 : col b4 = 0 := hnw _ f4
    refine l_step y_assignC ?_
    refine l_nil ?_
    refine hK1 _ _ ?_
    refine fg4 0 5 6 7 (gS rfl (gS rfl (gS rfl (gS rfl g0)))) (gS rfl (gS rfl (gS rfl g0))) (gS rfl (gS rfl g0)) (gS rfl g0) (fun g => ?_)
    refine c_seq (fun K5 hK5 => ?_)
    refine c_seq (fun K6 hK6 => ?_)
    exact (by
      refine c_region ?_
      refine l_step (y_moveV (et (gS rfl (gS rfl (gS rfl g0))) rfl)) ?_
      refine l_eff (e_callV cal_170 (aC (et g0 rfl) aN) (v_room hT.vl)) (fun v7 w7 h7 => ?_)
      obtain ⟨rfl, u7⟩ := h7
      replace k2 := k2.up u7
      replace k3 := k3.up u7
      replace k4 := k4.up u7
      replace hT := hT.up u7
      replace U := U.tr u7
      refine l_step (y_not (et g0 rfl)) ?_
      refine l_nil ?_
      refine hK6 _ _ ?_
      refine fg5 0 5 6 7 13 (gS rfl (gS rfl (gS rfl (gS rfl (gS rfl (gS rfl g0)))))) (gS rfl (gS rfl (gS rfl (gS rfl (gS rfl g0))))) (gS rfl (gS rfl (gS rfl (gS rfl g0)))) (gS rfl (gS rfl (gS rfl g0))) g0 (fun g => ?_)
      refine c_false (et g0 rfl) (by (simp; omega)) ?_
      refine c_skip ?_
      refine hK5 _ _ ?_
      refine fg4 0 5 6 7 (gS rfl (gS rfl (gS rfl (gS rfl g0)))) (gS rfl (gS rfl (gS rfl g0))) (gS rfl (gS rfl g0)) (gS rfl g0) (fun g => ?_)
      refine c_seq (fun K9 hK9 => ?_)
      exact (by
        refine c_region ?_
        refine l_step (y_moveV (et (gS rfl (gS rfl (gS rfl g0))) rfl)) ?_
        refine l_step (y_loadB agg_25 sz_25 (et (gS rfl (gS rfl (gS rfl g0))) rfl) (by rw [List.size_toArray, length_bL, length_be]) (at1B k2)) ?_
        refine l_step (y_loadB agg_65 sz_65 (et (gS rfl (gS rfl (gS rfl g0))) rfl) (by first | (simp only [Value.cells, hV, aV, bV, wV, wL, List.size_toArray, length_bL, length_uL, length_be, size_spl, List.length_cons, List.length_nil, List.length_replicate, Nat.zero_add, Nat.reduceAdd, Nat.reduceLeDiff, Nat.le_refl]; done) | rfl) (at1B k3)) ?_
        have lt2 := k2.lt
        have lt3 := k3.lt
        have lt4 := k4.lt
        refine l_eff (e_callV cal_383 (aC (et (gS rfl (gS rfl g0)) rfl) (aC (et (gS rfl g0) rfl) (aC (et g0 rfl) aN))) (v_tempOf hT.vl ho a k ha hk na nt hr hrt)) (fun v10 w10 h10 => ?_)
        obtain ⟨i9, x9, col2, cs2, V2, rfl, hT2, hLy, hA2, hx9, hxa, hxk⟩ := h10
        replace k2 := k2.ch hT2.go.ch (by intro hm; omega)
        replace k3 := k3.ch hT2.go.ch (by intro hm; omega)
        replace k4 := k4.ch hT2.go.ch (by intro hm; omega)
        replace hT := hT.trans hT2
        replace U := U.cc hT2.go.ch (by intro b hb; exact .inl trivial)
        have hq2 := hT2.col
        replace nc2 := (hq2 b2 lt2).trans nc2
        replace nc3 := (hq2 b3 lt3).trans nc3
        replace nc4 := (hq2 b4 lt4).trans nc4
        replace hcC := hT2.vl.colC
        replace hml := hLy.ok.bd.marks
        obtain ⟨ba, ca, cap9, hAA⟩ := hT2.vl.temp hx9
        have hi9 := hAA.lt
        have hac := hAA.col
        have hb9 := hLy.ok.bd.temps
        have hpl : i9 < 12288 := by omega
        have hok := hAA.ok
        have hew := hok.val
        obtain ⟨lj9, lk9, hlJ⟩ := hT.vl.lenJ
        have hjl := hLy.j
        refine l_step (y_moveV (et g0 rfl)) ?_
        refine l_step (y_ext (et g0 rfl) rfl) ?_
        exact (by
          refine l_step (y_ext (et (gS rfl g0) rfl) rfl) ?_
          refine l_step (y_assignV (et (gS rfl g0) rfl)) ?_
          refine l_step (y_assignV (et (gS rfl g0) rfl)) ?_
          refine l_nil ?_
          refine hK9 _ _ ?_
          refine fg4 0 7 9 10 (gS rfl (gS rfl (gS rfl (gS rfl (gS rfl (gS rfl (gS rfl (gS rfl (gS rfl (gS rfl (gS rfl (gS rfl g0)))))))))))) (gS rfl (gS rfl (gS rfl (gS rfl (gS rfl (gS rfl (gS rfl (gS rfl (gS rfl g0))))))))) (gS rfl g0) g0 (fun g => ?_)
          refine c_seq (fun K11 hK11 => ?_)
          refine c_seq (fun K12 hK12 => ?_)
          exact (by
            refine c_region ?_
            refine l_step (y_moveV (et g0 rfl)) ?_
            refine l_step (y_not (et g0 rfl)) ?_
            refine l_nil ?_
            refine hK12 _ _ ?_
            refine fg4 0 7 9 22 (gS rfl (gS rfl (gS rfl (gS rfl (gS rfl g0))))) (gS rfl (gS rfl (gS rfl (gS rfl g0)))) (gS rfl (gS rfl (gS rfl g0))) g0 (fun g => ?_)
            refine c_false (et g0 rfl) (by rfl) ?_
            refine c_skip ?_
            refine hK11 _ _ ?_
            refine fg3 0 7 9 (gS rfl (gS rfl (gS rfl g0))) (gS rfl (gS rfl g0)) (gS rfl g0) (fun g => ?_)
            refine c_seq (fun K14 hK14 => ?_)
            exact (by
              refine c_draw (Ch (fun k => col2 k = 4)) 19 [(0, true), (1, true), (2, true), (3, true), (4, true), (5, true), (6, true), (7, true), (8, true), (9, true), (10, true), (11, true), (12, true), (13, true), (14, true), (15, false), (16, false), (17, true), (18, true), (19, false)] (by kernel_rfl) (fun w15 hu => ⟨Ch.refl _ _, ?_⟩)
              replace k2 := k2.up hu
              replace k3 := k3.up hu
              replace k4 := k4.up hu
              replace hT := hT.up hu
              replace hAA := hAA.up hu
              replace U := U.tr hu
              have SU : (Ch (fun k => col2 k = 4)) w15 w15 := Ch.refl _ _
              refine p_step (by exact rfl) (y_moveV (et (gS rfl (gS rfl g0)) rfl)) ?_
              refine p_step (by exact rfl) (y_moveV (et (gS rfl (gS rfl (gS rfl g0))) rfl)) ?_
              refine p_step (by exact rfl) (y_nil (et g0 rfl)) ?_
              refine p_step (by exact rfl) (y_fld fld_84_4 (et g0 rfl)) ?_
              refine p_step (by exact rfl) (y_load1 one_79 (et g0 rfl) (atC (hT.vl.c1 hlJ rfl) (by intro hm; omega))) ?_
              refine p_step (by exact rfl) (y_moveV (et (gS rfl (gS rfl (gS rfl (gS rfl (gS rfl g0))))) rfl)) ?_
              refine p_step (by exact rfl) (y_moveV (et (gS rfl (gS rfl (gS rfl (gS rfl (gS rfl (gS rfl (gS rfl (gS rfl g0)))))))) rfl)) ?_
              refine p_step (by exact rfl) (y_nil (et g0 rfl)) ?_
              refine p_step (by exact rfl) (y_fld fld_84_9 (et g0 rfl)) ?_
              refine p_step (by exact rfl) (y_load1 one_81 (et g0 rfl) (atC (hT.vl.c1 hAA.sl rfl) (by intro hm; omega))) ?_
              refine p_step (by exact rfl) (y_moveV (et (gS rfl (gS rfl (gS rfl (gS rfl (gS rfl (gS rfl (gS rfl (gS rfl (gS rfl (gS rfl g0)))))))))) rfl)) ?_
              refine p_step (by exact rfl) (y_idxS Hvaa.underlying81 sz_430 (et (gS rfl g0) rfl) (et g0 rfl) ?_ ?_) ?_
              omega
              omega
              refine p_step (by exact rfl) (y_fld fld_430_2 (et g0 rfl)) ?_
              refine p_step (by exact rfl) (y_loadR agg_65 sz_65 (et g0 rfl) rfl (atCR (hAA.rVal (by omega)) (by intro hm; omega))) ?_
              refine p_step (by exact rfl) (y_bldEw (kd := 8) rfl (et (gS rfl (gS rfl (gS rfl (gS rfl (gS rfl (gS rfl (gS rfl (gS rfl g0)))))))) rfl) (et g0 rfl)) ?_
              refine p_eff (by exact rfl) (e_slice1 (k := 8) Hvaa.underlying79 sz_218 zr_218 rfl (by decide) (et g0 rfl) (show (eeC (⟨8, i9, 0, x9.val, [], false⟩ : EEnt) (.slice none 0 0)).toArray.size = 9 by rw [List.size_toArray, eeC_len _ _])) (fun v16 w16 h16 => ?_)
              obtain ⟨bb16, rfl, nn16⟩ := h16
              replace k2 := k2.up nn16.up
              replace k3 := k3.up nn16.up
              replace k4 := k4.up nn16.up
              replace hT := hT.up nn16.up
              replace hAA := hAA.up nn16.up
              replace U := U.tr nn16.up
              have kk16 : Blk w16 bb16 (eeC (⟨8, i9, 0, x9.val, [], false⟩ : EEnt) (.slice none 0 0)).toArray := nn16.blk
              refine ⟨.inr (SU.tr nn16.up), ?_⟩
              replace SU := SU.tr nn16.up
              exact (by
                have lt2 := k2.lt
                have lt3 := k3.lt
                have lt4 := k4.lt
                refine p_eff (by exact rfl) (e_appT (y := (⟨8, i9, 0, x9.val, [], false⟩ : EEnt)) (news := eeC (⟨8, i9, 0, x9.val, [], false⟩ : EEnt) (.slice none 0 0)) Hvaa.underlying79 sz_218 zr_218 by_218 rfl (by decide) (et (gS rfl (gS rfl (gS rfl (gS rfl (gS rfl (gS rfl (gS rfl (gS rfl (gS rfl (gS rfl (gS rfl g0))))))))))) rfl) hT hT.vl.jou hlJ (by decide) (by decide) (et g0 rfl) kk16 (eeC_len _ _) one_eeC ⟨_, rfl, BV.nil _, ⟨Nat.le_of_ble_eq_true rfl, by first | exact hpl | exact Nat.le_of_ble_eq_true rfl, by first | exact hen | exact Nat.le_of_ble_eq_true rfl, by first | exact hew | exact Nat.le_of_ble_eq_true rfl, by first | exact heb | exact Nat.le_of_ble_eq_true rfl⟩⟩ (by decide) (by rw [hjl]; omega)) (fun v17 w17 h17 => ?_)
                obtain ⟨hm17, ch17⟩ := h17
                replace k2 := k2.ch ch17 (by intro hm; first | omega | (subst hm; omega))
                replace k3 := k3.ch ch17 (by intro hm; first | omega | (subst hm; omega))
                replace k4 := k4.ch ch17 (by intro hm; first | omega | (subst hm; omega))
                replace hAA := hAA.ch ch17 (by intro hm; first | omega | (subst hm; omega))
                replace hT := hm17
                replace U := U.cc ch17 (by intro b hb; exact .inl trivial)
                replace SU := SU.cc ch17 (by intro b hb; first | exact .inl hb | exact hb.elim | omega | (have h9 := hOo.lim b hb.symm; first | exact .inl (by omega) | omega))
                obtain ⟨pa17, pc17, rfl⟩ := hm17.pd.len
                refine ⟨.inr SU, ?_⟩
                refine p_step (by exact rfl) (y_nil (et (gS rfl (gS rfl (gS rfl (gS rfl (gS rfl (gS rfl (gS rfl (gS rfl (gS rfl (gS rfl (gS rfl (gS rfl (gS rfl (gS rfl (gS rfl (gS rfl g0)))))))))))))))) rfl)) ?_
                refine p_step (by exact rfl) (y_fld fld_84_4 (et g0 rfl)) ?_
                refine p_effN (by exact rfl) (e_store sz_79 (et g0 rfl) (cellsV (et (gS rfl (gS rfl g0)) rfl) rfl) rfl (by intro v hv; simp at hv; subst hv; rfl) hT.m.kC (by rw [hT.m.size]; exact Nat.le_of_ble_eq_true rfl)) (fun v18 w18 h18 => ?_)
                obtain ⟨rfl, x18⟩ := h18
                obtain ⟨col4, hv18, hq18⟩ := hT.layJ hml x18
                replace k2 := k2.ch x18.ch (by intro hm; first | omega | (subst hm; omega))
                replace k3 := k3.ch x18.ch (by intro hm; first | omega | (subst hm; omega))
                replace k4 := k4.ch x18.ch (by intro hm; first | omega | (subst hm; omega))
                replace hT := hv18
                replace U := U.cc x18.ch (by intro b hb; exact .inl trivial)
                replace nc2 := (hq18 b2 lt2).trans nc2
                replace nc3 := (hq18 b3 lt3).trans nc3
                replace nc4 := (hq18 b4 lt4).trans nc4
                replace hcC := hT.vl.colC
                obtain ⟨bA, cA, capA, hAB⟩ := hT.vl.temp (x := x9) hx9
                have hab := hAB.col
                have hfit := hAB.fit
                have hi9b : i9 < V2.temps.length := hAB.lt
                refine ⟨.inl rfl, ?_⟩
                refine p_nil ?_
                refine hK14 _ _ ?_
                refine fg3 0 7 9 (gS rfl (gS rfl (gS rfl (gS rfl (gS rfl (gS rfl (gS rfl (gS rfl (gS rfl (gS rfl (gS rfl (gS rfl (gS rfl (gS rfl (gS rfl (gS rfl (gS rfl (gS rfl (gS rfl (gS rfl (gS rfl g0))))))))))))))))))))) (gS rfl (gS rfl (gS rfl (gS rfl (gS rfl (gS rfl (gS rfl (gS rfl (gS rfl (gS rfl (gS rfl (gS rfl (gS rfl (gS rfl (gS rfl (gS rfl (gS rfl (gS rfl (gS rfl (gS rfl g0)))))))))))))))))))) (gS rfl (gS rfl (gS rfl (gS rfl (gS rfl (gS rfl (gS rfl (gS rfl (gS rfl (gS rfl (gS rfl (gS rfl (gS rfl (gS rfl (gS rfl (gS rfl (gS rfl (gS rfl (gS rfl g0))))))))))))))))))) (fun g => ?_)
                refine c_seq (fun K19 hK19 => ?_)
                exact (by
                  refine c_draw Up 8 [(0, true), (1, true), (2, true), (3, true), (4, true), (5, true), (6, true), (7, true), (8, false)] (by kernel_rfl) (fun w20 hu => ⟨Up.refl _, ?_⟩)
                  replace k2 := k2.up hu
                  replace k3 := k3.up hu
                  replace k4 := k4.up hu
                  replace hT := hT.up hu
                  replace hAB := hAB.up hu
                  replace U := U.tr hu
                  have SU := Up.refl w20
                  refine p_step (by exact rfl) (y_moveV (et (gS rfl (gS rfl g0)) rfl)) ?_
                  refine p_step (by exact rfl) (y_nil (et g0 rfl)) ?_
                  refine p_step (by exact rfl) (y_fld fld_84_9 (et g0 rfl)) ?_
                  refine p_step (by exact rfl) (y_load1 one_81 (et g0 rfl) (atS (hT.vl.c1 hAB.sl rfl))) ?_
                  refine p_step (by exact rfl) (y_moveV (et (gS rfl (gS rfl (gS rfl (gS rfl g0)))) rfl)) ?_
                  refine p_step (by exact rfl) (y_loadB agg_65 sz_65 (et (gS rfl (gS rfl (gS rfl (gS rfl (gS rfl (gS rfl g0)))))) rfl) (by first | (simp only [Value.cells, hV, aV, bV, wV, wL, List.size_toArray, length_bL, length_uL, length_be, size_spl, List.length_cons, List.length_nil, List.length_replicate, Nat.zero_add, Nat.reduceAdd, Nat.reduceLeDiff, Nat.le_refl]; done) | rfl) (atSB k4)) ?_
                  refine p_step (by exact rfl) (y_idxS Hvaa.underlying81 sz_430 (et (gS rfl (gS rfl g0)) rfl) (et (gS rfl g0) rfl) ?_ ?_) ?_
                  omega
                  exact Int.ofNat_lt.2 hi9b
                  refine p_step (by exact rfl) (y_fld fld_430_2 (et g0 rfl)) ?_
                  refine p_effN (by exact rfl) (e_store sz_65 (et g0 rfl) (cellsV (et (gS rfl (gS rfl g0)) rfl) rfl) rfl (by exact one_uL _) hAB.kA (by have h9 := hfit; omega)) (fun v21 w21 h21 => ?_)
                  obtain ⟨rfl, x21⟩ := h21
                  have hv21 := hT.setT hAB (j := 5) (y := { x9 with val := u }) (by omega) x21 rfl (Nat.le_of_ble_eq_true rfl) ⟨hok.acct, hok.key, hub⟩
                  replace k2 := k2.ch x21.ch (by intro hm; first | omega | (subst hm; omega))
                  replace k3 := k3.ch x21.ch (by intro hm; first | omega | (subst hm; omega))
                  replace k4 := k4.ch x21.ch (by intro hm; first | omega | (subst hm; omega))
                  replace hT := hv21
                  replace U := U.cc x21.ch (by intro b hb; exact .inl trivial)
                  refine ⟨.inl rfl, ?_⟩
                  refine p_nil ?_
                  refine hK19 _ _ ?_
                  refine fg0 (fun g => ?_)
                  refine c_seq (fun K22 hK22 => ?_)
                  exact (by
                    refine c_region ?_
                    refine l_step y_assignC ?_
                    refine l_nil ?_
                    refine hK22 _ _ ?_
                    refine c_ret ?_
                    repeat with_reducible refine then_ret ?_
                    refine ret1 rfl (res_tmp (et g0 rfl)) ?_
                    subst hxk
                    have h9 := put_temp (v := u) hLy ho hA2 hxa hx9 hjr
                    exact ⟨rfl, _, _, _, hT, h9.1, h9.2⟩)))))))))
theorem v_logged {w : World} {H : Store} {col : Nat → Nat} {bc : Nat} {cs : Array Value} {V : EV} (hV : VL w H col bc cs V) (ho : VOk V) (hF : Fz w H) (hLd : ∀ x ∈ V.logs, x.topics.length < 16777216 ∧ x.data.length ≤ 1099511627776) :
    Ret 115 [.pointer (some ⟨bc, 2435, none⟩)] w (fun v w' => ∃ H', Go No w H w' H' ∧ LV P_log 22 H' v V.logs) := by
  have hnw := hV.new
  have hfz := hV.fz
  obtain ⟨ll9, lm9, hlL⟩ := hV.lenL
  have hlb := ho.bd.logs
  refine enter (n := 35) Hvaa.func115 rfl rfl (Nat.le_of_ble_eq_true rfl) ?_
  have U := Up.refl w
  have G : Go (No) w H w H := Go.refl hF
  have hL0 : Le H H := Le.refl H
  refine c_seq (fun K1 hK1 => ?_)
  exact (by
    refine c_region ?_
    refine l_step y_assignC ?_
    refine l_nil ?_
    refine hK1 _ _ ?_
    refine fg1 0 (gS rfl g0) (fun g => ?_)
    refine c_seq (fun K2 hK2 => ?_)
    refine c_seq (fun K3 hK3 => ?_)
    exact (by
      refine c_region ?_
      refine l_step (y_moveV (et g0 rfl)) ?_
      refine l_step (y_nil (et g0 rfl)) ?_
      refine l_step (y_fld fld_84_8 (et g0 rfl)) ?_
      refine l_step (y_load1 one_42 (et g0 rfl) (at1 (hV.c1 hlL rfl))) ?_
      refine l_step (y_len Hvaa.underlying42 (et g0 rfl)) ?_
      refine l_step (y_eql (et g0 rfl) rfl) ?_
      refine l_nil ?_
      refine hK3 _ _ ?_
      refine fg2 0 10 (gS rfl (gS rfl (gS rfl (gS rfl (gS rfl (gS rfl g0)))))) g0 (fun g => ?_)
      refine c_cond (et g0 rfl) (fun cB1 => ?_) (fun cB1 => ?_)
      · skip
        
        have hz : V.logs = [] := List.length_eq_zero_iff.1 (by have := of_decide_eq_true cB1; omega)
        refine c_seq (fun K5 hK5 => ?_)
        exact (by
          refine c_region ?_
          refine l_step y_assignC ?_
          refine l_nil ?_
          refine hK5 _ _ ?_
          refine fg1 2 g0 (fun g => ?_)
          refine c_ret ?_
          repeat with_reducible refine then_ret ?_
          refine ret1 rfl (res_tmp (et g0 rfl)) ?_
          exact ⟨_, G, by rw [hz]; exact LV.nil _ _ _⟩)
      · skip
        
        have hz : V.logs.length ≠ 0 := by have := of_decide_eq_false cB1; omega
        refine c_skip ?_
        refine hK2 _ _ ?_
        refine fg1 0 (gS rfl g0) (fun g => ?_)
        refine c_seq (fun K6 hK6 => ?_)
        exact (by
          refine c_region ?_
          refine l_step (y_moveV (et g0 rfl)) ?_
          refine l_step (y_nil (et g0 rfl)) ?_
          refine l_step (y_fld fld_84_8 (et g0 rfl)) ?_
          refine l_step (y_load1 one_42 (et g0 rfl) (at1 (hV.c1 hlL rfl))) ?_
          refine l_step (y_len Hvaa.underlying42 (et g0 rfl)) ?_
          refine l_eff (e_make Hvaa.underlying42 sz_131 zr_131 by_131 (et g0 rfl) (et g0 rfl) (by omega) (by omega)) (fun v7 w7 h7 => ?_)
          obtain ⟨b7, rfl, n7⟩ := h7
          have f7 : w.heap.size ≤ b7 := Nat.le_trans U.size n7.fresh
          have nb7 := hF.nb n7.fresh
          replace G := G.tr (Go.ofUp hF n7.up)
          replace hF := hF.up n7.up
          replace hV := hV.up n7.up
          replace U := U.tr n7.up
          have k7 := n7.blk
          obtain ⟨rest0, hr0, k7⟩ := made_list k7
          refine l_step (y_assignV (et g0 rfl)) ?_
          refine l_nil ?_
          refine hK6 _ _ ?_
          refine fg2 0 3 (gS rfl (gS rfl (gS rfl (gS rfl (gS rfl (gS rfl (gS rfl g0))))))) g0 (fun g => ?_)
          refine c_seq (fun K8 hK8 => ?_)
          refine c_seq (fun K9 hK9 => ?_)
          exact (by
            refine c_region ?_
            refine l_step (y_moveV (et g0 rfl)) ?_
            refine l_step (y_len Hvaa.underlying42 (et g0 rfl)) ?_
            refine l_step y_moveC ?_
            refine l_nil ?_
            refine hK9 _ _ ?_
            refine fg4 0 3 18 19 (gS rfl (gS rfl (gS rfl (gS rfl g0)))) (gS rfl (gS rfl (gS rfl g0))) (gS rfl g0) g0 (fun g => ?_)
            refine c_block (fun Q10 hQ10 => ?_)
            refine fg4 0 3 18 19 (gS rfl (gS rfl (gS rfl g0))) (gS rfl (gS rfl g0)) (gS rfl g0) g0 (fun g => ?_)
            refine c_loop (fun k_ s_ W11 => ∃ (g : Nat → Value) (Hk11 : Store) (cl : List (List Value)) (rest : List Value) (i : Nat), s_ = (upd (upd (upd (upd g 0 (.pointer (some ⟨bc, 2435, none⟩))) 3 (.slice (some ⟨b7, 0, none⟩) V.logs.length V.logs.length)) 18 (.int .i64 (V.logs.length : Nat))) 19 (.int .i64 (i : Nat))) ∧ V.logs.length - i = k_ ∧ (i ≤ V.logs.length) ∧ (cl.length = i) ∧ (rest.length = (V.logs.length - i) * 22) ∧ (CP P_log 22 Hk11 cl V.logs) ∧ Blk W11 b7 ((cl.flatten ++ rest).toArray) ∧ Go (fun k => k = b7) w7 H W11 Hk11) (V.logs.length - (0)) ?_ ?_
            · exact ⟨g, _, [], rest0, 0, rfl, rfl, Nat.zero_le _, rfl, by rw [hr0, Nat.sub_zero], CP.nil _ _ _ _, k7, Go.refl hF⟩
            · skip
              intro k_ s_ W11 hI K11 hK11
              obtain ⟨g, Hk11, cl, rest, i, rfl, rfl, hi, hcl, hrl, hcp, nk7, V11⟩ := hI
              have hle11 := V11.le
              replace nb7 := V11.nb nb7 k7.lt
              replace hL0 := hL0.trans hle11
              replace G := G.trans V11 (by intro b hb; first | exact hb.elim | omega | (simp at hb ⊢; omega))
              replace hF := V11.fz
              replace hV := hV.ch V11.ch (by intro b hb; first | (subst hb; exact ⟨hnw _ (by omega), fun hh => by have := hfz.lt hh; omega⟩) | (rcases hb with hb | hb <;> (subst hb; exact ⟨hnw _ (by omega), fun hh => by have := hfz.lt hh; omega⟩)))
              replace k7 := nk7
              replace U := U.cc V11.ch (by intro b hb; first | exact hb.elim | omega | (simp at hb ⊢; omega))
              refine c_seq (fun K12 hK12 => ?_)
              exact (by
                refine c_region ?_
                refine l_step (y_lss (et g0 rfl) (et (gS rfl g0) rfl)) ?_
                refine l_nil ?_
                refine hK12 _ _ ?_
                refine c_seq (fun K13 hK13 => ?_)
                refine c_cond (et g0 rfl) (fun cB2 => ?_) (fun cB2 => ?_)
                · skip
                  
                  have hil : i < V.logs.length := by have := of_decide_eq_true cB2; omega
                  refine c_skip ?_
                  refine hK13 _ _ ?_
                  refine fg4 0 3 18 19 (gS rfl (gS rfl (gS rfl (gS rfl g0)))) (gS rfl (gS rfl (gS rfl g0))) (gS rfl (gS rfl g0)) (gS rfl g0) (fun g => ?_)
                  refine c_seq (fun K15 hK15 => ?_)
                  refine c_block (fun Q16 hQ16 => ?_)
                  refine c_seq (fun K17 hK17 => ?_)
                  exact (by
                    refine c_region ?_
                    refine l_step (y_moveV (et g0 rfl)) ?_
                    refine l_step (y_assignV (et g0 rfl)) ?_
                    refine l_nil ?_
                    refine hK17 _ _ ?_
                    refine fg5 0 3 18 19 4 (gS rfl (gS rfl (gS rfl (gS rfl (gS rfl g0))))) (gS rfl (gS rfl (gS rfl (gS rfl g0)))) (gS rfl (gS rfl (gS rfl g0))) (gS rfl (gS rfl g0)) g0 (fun g => ?_)
                    refine c_region ?_
                    refine l_step (y_moveV (et (gS rfl (gS rfl (gS rfl g0))) rfl)) ?_
                    refine l_step (y_moveV (et (gS rfl g0) rfl)) ?_
                    refine l_step (y_moveV (et (gS rfl (gS rfl (gS rfl (gS rfl (gS rfl (gS rfl g0)))))) rfl)) ?_
                    refine l_step (y_nil (et g0 rfl)) ?_
                    refine l_step (y_fld fld_84_8 (et g0 rfl)) ?_
                    obtain ⟨bq, capq, ta, tc, da, dc, hsl, hrow, hal, hvt, hvd⟩ := hV.logRow (i := i) (List.getElem?_eq_getElem hil)
                    have hLx := hLd _ (List.getElem_mem hil)
                    refine l_step (y_load1 one_42 (et g0 rfl) (at1 (hV.c1 hsl rfl))) ?_
                    refine l_step (y_moveV (et (gS rfl (gS rfl (gS rfl (gS rfl (gS rfl (gS rfl g0)))))) rfl)) ?_
                    refine l_step (y_idxS Hvaa.underlying42 sz_131 (et (gS rfl g0) rfl) (et g0 rfl) ?_ ?_) ?_
                    omega
                    omega
                    refine l_step (y_loadR agg_131 sz_131 (et g0 rfl) len22 (at1R hrow)) ?_
                    refine l_eff (e_callV cal_207 (aC (et g0 rfl) aN) (v_copiedLog hF hal (hvt.mono hL0) (hvd.mono hL0) hLx.1 hLx.2)) (fun v18 w18 h18 => ?_)
                    obtain ⟨H18, ya, yc, za, zc, rfl, g18, lv9, bv9⟩ := h18
                    have hlew18 := g18.le
                    replace nb7 := g18.nb nb7 k7.lt
                    replace hcp := hcp.mono hlew18
                    replace hL0 := hL0.trans hlew18
                    replace k7 := k7.up g18.up
                    replace hV := hV.up g18.up
                    replace U := U.tr g18.up
                    replace G := G.tr g18
                    replace V11 := V11.tr g18
                    replace hF := g18.fz
                    exact (by
                      have hfl : cl.flatten.length = i * 22 := by rw [hcp.len (by omega), hcl]
                      have hkr : 22 ≤ rest.length := by rw [hrl]; omega
                      refine l_step (y_idxS Hvaa.underlying42 sz_131 (et (gS rfl (gS rfl (gS rfl (gS rfl (gS rfl (gS rfl (gS rfl (gS rfl (gS rfl g0))))))))) rfl) (et (gS rfl (gS rfl (gS rfl (gS rfl (gS rfl (gS rfl (gS rfl (gS rfl g0)))))))) rfl) ?_ ?_) ?_
                      omega
                      omega
                      refine l_effN (e_store sz_131 (et g0 rfl) (cellsV (et (gS rfl g0) rfl) rfl) len22 (by exact one_app (one_two rfl rfl)) k7 (by (rw [List.size_toArray, List.length_append, hfl, hrl]; simp only [Int.toNat_natCast]; omega))) (fun v19 w19 h19 => ?_)
                      obtain ⟨rfl, x19⟩ := h19
                      replace hV := hV.ch x19.ch (by first | omega | (intro b hb; first | (subst hb; exact ⟨hnw _ (by omega), fun hh => by have := hfz.lt hh; omega⟩) | (rcases hb with hb | hb <;> (subst hb; exact ⟨hnw _ (by omega), fun hh => by have := hfz.lt hh; omega⟩))))
                      replace k7 := x19.blk
                      replace G := G.wr x19 (by first | exact .inr f7 | omega | (simp; omega)) nb7
                      replace V11 := V11.wr x19 (by first | exact .inr f7 | omega | (simp; omega)) nb7
                      replace hF := G.fz
                      replace U := U.st x19 f7
                      have h9 := k7
                      simp only [Int.toNat_natCast] at h9
                      rw [fill_rec hfl len22 hkr] at h9
                      replace k7 := h9
                      refine l_nil ?_
                      refine hQ16 _ _ _ (in_normal ?_)
                      refine hK15 _ _ ?_
                      refine fg4 0 3 18 19 (gS rfl (gS rfl (gS rfl (gS rfl (gS rfl (gS rfl (gS rfl (gS rfl (gS rfl (gS rfl (gS rfl (gS rfl (gS rfl (gS rfl (gS rfl g0))))))))))))))) (gS rfl (gS rfl (gS rfl (gS rfl (gS rfl (gS rfl (gS rfl (gS rfl (gS rfl (gS rfl (gS rfl (gS rfl (gS rfl (gS rfl g0)))))))))))))) (gS rfl (gS rfl (gS rfl (gS rfl (gS rfl (gS rfl (gS rfl (gS rfl (gS rfl (gS rfl (gS rfl (gS rfl (gS rfl g0))))))))))))) (gS rfl (gS rfl (gS rfl (gS rfl (gS rfl (gS rfl (gS rfl (gS rfl (gS rfl (gS rfl (gS rfl (gS rfl g0)))))))))))) (fun g => ?_)
                      refine c_region ?_
                      refine l_step (y_add (et g0 rfl) rfl (addIN (y := 1) ?_)) ?_
                      omega
                      refine l_step (y_moveV (et g0 rfl)) ?_
                      refine l_nil ?_
                      refine fK4 0 3 18 19 (gS rfl (gS rfl (gS rfl (gS rfl (gS rfl g0))))) (gS rfl (gS rfl (gS rfl (gS rfl g0)))) (gS rfl (gS rfl (gS rfl g0))) g0 (fun g => ?_)
                      exact hK11 (V.logs.length - ((i + 1))) _ _ (by omega) ⟨g, _, _, _, (i + 1), rfl, rfl, by omega, by rw [List.length_append, hcl]; rfl, by rw [List.length_drop, hrl]; omega, hcp.snoc hcl hil len22 ⟨_, _, rfl, hal, lv9, bv9⟩, k7, V11⟩))
                · skip
                  
                  have hil : i = V.logs.length := by have := of_decide_eq_false cB2; omega
                  obtain rfl : rest = [] := List.length_eq_zero_iff.1 (by rw [hrl, hil]; omega)
                  rw [List.append_nil] at k7
                  refine c_exit ?_
                  refine hQ10 _ _ _ (in_exit ?_)
                  refine hK8 _ _ ?_
                  refine fg1 3 (gS rfl (gS rfl (gS rfl g0))) (fun g => ?_)
                  refine c_seq (fun K20 hK20 => ?_)
                  exact (by
                    refine c_region ?_
                    refine l_step (y_moveV (et g0 rfl)) ?_
                    refine l_step (y_assignV (et g0 rfl)) ?_
                    refine l_nil ?_
                    refine hK20 _ _ ?_
                    refine fg1 2 g0 (fun g => ?_)
                    refine c_ret ?_
                    repeat with_reducible refine then_ret ?_
                    refine ret1 rfl (res_tmp (et g0 rfl)) ?_
                    obtain ⟨H2, g2, l2, e2⟩ := G.hold k7 f7
                    exact ⟨H2, g2, LV.ofNew e2 l2 mono_log rfl (by omega) (by omega) hcp.get⟩))))))
end Go.Proofs.YgvaawGreat
