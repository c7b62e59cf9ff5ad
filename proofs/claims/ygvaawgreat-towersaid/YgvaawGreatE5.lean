import Derived.Test.YgvaawGreatE4
set_option maxRecDepth 100000
set_option maxHeartbeats 4000000
set_option linter.unusedSimpArgs false
set_option linter.unusedVariables false
namespace Go.Proofs.YgvaawGreat
open Go
theorem v_room {w : World} {H : Store} {col : Nat → Nat} {bc : Nat} {cs : Array Value} {V : EV} (hV : VL w H col bc cs V) :
    Ret 170 [.pointer (some ⟨bc, 2435, none⟩)] w (fun v w' => v = .bool (decide ((V.journal.length : Int) < 65536)) ∧ Up w w') := by
  obtain ⟨lj9, lk9, hlJ⟩ := hV.lenJ
  refine enter (n := 9) Hvaa.func170 rfl rfl (Nat.le_of_ble_eq_true rfl) ?_
  have U := Up.refl w
  refine c_seq (fun K1 hK1 => ?_)
  exact (by
    refine c_region ?_
    refine l_step y_assignC ?_
    refine l_nil ?_
    refine hK1 _ _ ?_
    refine fg1 0 (gS rfl g0) (fun g => ?_)
    refine c_seq (fun K2 hK2 => ?_)
    exact (by
      refine c_region ?_
      refine l_step (y_moveV (et g0 rfl)) ?_
      refine l_step (y_nil (et g0 rfl)) ?_
      refine l_step (y_fld fld_84_4 (et g0 rfl)) ?_
      refine l_step (y_load1 one_79 (et g0 rfl) (at1 (hV.c1 hlJ rfl))) ?_
      refine l_step (y_len Hvaa.underlying79 (et g0 rfl)) ?_
      refine l_step (y_lss (et g0 rfl) rfl) ?_
      refine l_step (y_assignV (et g0 rfl)) ?_
      refine l_nil ?_
      refine hK2 _ _ ?_
      refine fg1 2 g0 (fun g => ?_)
      refine c_ret ?_
      repeat with_reducible refine then_ret ?_
      refine ret1 rfl (res_tmp (et g0 rfl)) ?_
      exact ⟨rfl, U⟩))
theorem v_putBalance {w : World} {H : Store} {col : Nat → Nat} {bc : Nat} {cs : Array Value} {V : EV} (hV : VL w H col bc cs V) (ho : VOk V) (a : Nat) (ha : a < A160) (u : Nat) (hub : u < W256) (na : Nat) (hr : (hasA V a ∧ na = 0) ∨ (V.accts.length < 2560 ∧ na = 1)) (hjr : V.journal.length < 65536) :
    Ret 97 [.pointer (some ⟨bc, 2435, none⟩), aV a, wV u] w (fun v w' => v = .bool true ∧ ∃ (col' : Nat → Nat) (cs' : Array Value) (V' : EV), VT w H col bc cs w' H col' cs' V' ∧ VOk V' ∧ JS V V' (fun A => { A with bal := fset A.bal a u }) na 0 0 1 0) := by
  have hT := VT.refl hV
  have hnw := hV.new
  have hcC := hV.colC
  have hml := ho.bd.marks
  refine enter (n := 47) Hvaa.func97 rfl rfl (Nat.le_of_ble_eq_true rfl) ?_
  have U : Ch (fun _ => True) w w := Ch.refl _ w
  refine c_seq (fun K1 hK1 => ?_)
  exact (by
    refine c_region ?_
    refine l_eff (e_boxV (et (gS rfl g0) rfl)) (fun v2 w2 h2 => ?_)
    obtain ⟨b2, rfl, n2⟩ := h2
    have f2 : w.heap.size ≤ b2 := Nat.le_trans U.size n2.fresh
    replace hT := hT.up n2.up
    replace U := U.tr n2.up
    have k2 := n2.blk
    replace k2 : Blk w2 b2 (bL (be 20 a)).toArray := k2
    have nc2 : col b2 = 0 := hnw _ f2
    refine l_eff (e_boxV (et (gS rfl (gS rfl (gS rfl g0))) rfl)) (fun v3 w3 h3 => ?_)
    obtain ⟨b3, rfl, n3⟩ := h3
    have d2_3 : b2 < b3 := Nat.lt_of_lt_of_le k2.lt n3.fresh
    have f3 : w.heap.size ≤ b3 := Nat.le_trans U.size n3.fresh
    replace k2 := k2.up n3.up
    replace hT := hT.up n3.up
    replace U := U.tr n3.up
    have k3 := n3.blk
    have nc3 : col b3 = 0 := hnw _ f3
    refine l_step y_assignC ?_
    refine l_nil ?_
    refine hK1 _ _ ?_
    refine fg3 0 4 5 (gS rfl (gS rfl (gS rfl g0))) (gS rfl (gS rfl g0)) (gS rfl g0) (fun g => ?_)
    refine c_seq (fun K4 hK4 => ?_)
    refine c_seq (fun K5 hK5 => ?_)
    exact (by
      refine c_region ?_
      refine l_step (y_moveV (et (gS rfl (gS rfl g0)) rfl)) ?_
      refine l_eff (e_callV cal_170 (aC (et g0 rfl) aN) (v_room hT.vl)) (fun v6 w6 h6 => ?_)
      obtain ⟨rfl, u6⟩ := h6
      replace k2 := k2.up u6
      replace k3 := k3.up u6
      replace hT := hT.up u6
      replace U := U.tr u6
      refine l_step (y_not (et g0 rfl)) ?_
      refine l_nil ?_
      refine hK5 _ _ ?_
      refine fg4 0 4 5 11 (gS rfl (gS rfl (gS rfl (gS rfl (gS rfl g0))))) (gS rfl (gS rfl (gS rfl (gS rfl g0)))) (gS rfl (gS rfl (gS rfl g0))) g0 (fun g => ?_)
      refine c_false (et g0 rfl) (by (simp; omega)) ?_
      refine c_skip ?_
      refine hK4 _ _ ?_
      refine fg3 0 4 5 (gS rfl (gS rfl (gS rfl g0))) (gS rfl (gS rfl g0)) (gS rfl g0) (fun g => ?_)
      refine c_seq (fun K8 hK8 => ?_)
      exact (by
        refine c_region ?_
        refine l_step (y_moveV (et (gS rfl (gS rfl g0)) rfl)) ?_
        refine l_step (y_loadB agg_25 sz_25 (et (gS rfl (gS rfl g0)) rfl) (by rw [List.size_toArray, length_bL, length_be]) (at1B k2)) ?_
        have lt2 := k2.lt
        have lt3 := k3.lt
        refine l_eff (e_callV cal_82 (aC (et (gS rfl g0) rfl) (aC (et g0 rfl) aN)) (v_acct hT.vl ho a ha na hr)) (fun v9 w9 h9 => ?_)
        obtain ⟨i9, x9, col2, cs2, V2, rfl, hT2, hLy, hx9, hxa, htmE⟩ := h9
        replace k2 := k2.ch hT2.go.ch (by intro hm; omega)
        replace k3 := k3.ch hT2.go.ch (by intro hm; omega)
        replace hT := hT.trans hT2
        replace U := U.cc hT2.go.ch (by intro b hb; exact .inl trivial)
        have hq2 := hT2.col
        replace nc2 := (hq2 b2 lt2).trans nc2
        replace nc3 := (hq2 b3 lt3).trans nc3
        replace hcC := hT2.vl.colC
        replace hml := hLy.ok.bd.marks
        obtain ⟨ba, ca, cap9, vc9, hAA⟩ := hT2.vl.acct hx9
        have hi9 := hAA.lt
        have hac := hAA.col
        have hb9 := hLy.ok.bd.accts
        have hpl : i9 < 12288 := by omega
        have hok := hAA.ok
        have hen := hok.nonce
        have hew := hok.bal
        have heb := hok.code
        obtain ⟨lj9, lk9, hlJ⟩ := hT.vl.lenJ
        have hjl := hLy.j
        refine l_step (y_moveV (et g0 rfl)) ?_
        refine l_step (y_ext (et g0 rfl) rfl) ?_
        refine l_step (y_ext (et (gS rfl g0) rfl) rfl) ?_
        refine l_step (y_assignV (et (gS rfl g0) rfl)) ?_
        exact (by
          refine l_step (y_assignV (et (gS rfl g0) rfl)) ?_
          refine l_nil ?_
          refine hK8 _ _ ?_
          refine fg4 0 5 7 8 (gS rfl (gS rfl (gS rfl (gS rfl (gS rfl (gS rfl (gS rfl (gS rfl (gS rfl (gS rfl g0)))))))))) (gS rfl (gS rfl (gS rfl (gS rfl (gS rfl (gS rfl (gS rfl (gS rfl g0)))))))) (gS rfl g0) g0 (fun g => ?_)
          refine c_seq (fun K10 hK10 => ?_)
          refine c_seq (fun K11 hK11 => ?_)
          exact (by
            refine c_region ?_
            refine l_step (y_moveV (et g0 rfl)) ?_
            refine l_step (y_not (et g0 rfl)) ?_
            refine l_nil ?_
            refine hK11 _ _ ?_
            refine fg4 0 5 7 19 (gS rfl (gS rfl (gS rfl (gS rfl (gS rfl g0))))) (gS rfl (gS rfl (gS rfl (gS rfl g0)))) (gS rfl (gS rfl (gS rfl g0))) g0 (fun g => ?_)
            refine c_false (et g0 rfl) (by rfl) ?_
            refine c_skip ?_
            refine hK10 _ _ ?_
            refine fg3 0 5 7 (gS rfl (gS rfl (gS rfl g0))) (gS rfl (gS rfl g0)) (gS rfl g0) (fun g => ?_)
            refine c_seq (fun K13 hK13 => ?_)
            exact (by
              refine c_draw (Ch (fun k => col2 k = 4)) 19 [(0, true), (1, true), (2, true), (3, true), (4, true), (5, true), (6, true), (7, true), (8, true), (9, true), (10, true), (11, true), (12, true), (13, true), (14, true), (15, false), (16, false), (17, true), (18, true), (19, false)] (by kernel_rfl) (fun w14 hu => ⟨Ch.refl _ _, ?_⟩)
              replace k2 := k2.up hu
              replace k3 := k3.up hu
              replace hT := hT.up hu
              replace hAA := hAA.up hu
              replace U := U.tr hu
              have SU : (Ch (fun k => col2 k = 4)) w14 w14 := Ch.refl _ _
              refine p_step (by exact rfl) (y_moveV (et (gS rfl (gS rfl g0)) rfl)) ?_
              refine p_step (by exact rfl) (y_moveV (et (gS rfl (gS rfl (gS rfl g0))) rfl)) ?_
              refine p_step (by exact rfl) (y_nil (et g0 rfl)) ?_
              refine p_step (by exact rfl) (y_fld fld_84_4 (et g0 rfl)) ?_
              refine p_step (by exact rfl) (y_load1 one_79 (et g0 rfl) (atC (hT.vl.c1 hlJ rfl) (by intro hm; omega))) ?_
              refine p_step (by exact rfl) (y_moveV (et (gS rfl (gS rfl (gS rfl (gS rfl (gS rfl g0))))) rfl)) ?_
              refine p_step (by exact rfl) (y_moveV (et (gS rfl (gS rfl (gS rfl (gS rfl (gS rfl (gS rfl (gS rfl (gS rfl g0)))))))) rfl)) ?_
              refine p_step (by exact rfl) (y_nil (et g0 rfl)) ?_
              refine p_step (by exact rfl) (y_fld fld_84_0 (et g0 rfl)) ?_
              refine p_step (by exact rfl) (y_load1 one_76 (et g0 rfl) (atC (hT.vl.c1 hAA.sl rfl) (by intro hm; omega))) ?_
              refine p_step (by exact rfl) (y_moveV (et (gS rfl (gS rfl (gS rfl (gS rfl (gS rfl (gS rfl (gS rfl (gS rfl (gS rfl (gS rfl g0)))))))))) rfl)) ?_
              refine p_step (by exact rfl) (y_idxS Hvaa.underlying76 sz_167 (et (gS rfl g0) rfl) (et g0 rfl) ?_ ?_) ?_
              omega
              omega
              refine p_step (by exact rfl) (y_fld fld_167_2 (et g0 rfl)) ?_
              refine p_step (by exact rfl) (y_loadR agg_65 sz_65 (et g0 rfl) rfl (atCR (hAA.rBal (by omega)) (by intro hm; omega))) ?_
              refine p_step (by exact rfl) (y_bldEw (kd := 0) rfl (et (gS rfl (gS rfl (gS rfl (gS rfl (gS rfl (gS rfl (gS rfl (gS rfl g0)))))))) rfl) (et g0 rfl)) ?_
              refine p_eff (by exact rfl) (e_slice1 (k := 8) Hvaa.underlying79 sz_218 zr_218 rfl (by decide) (et g0 rfl) (show (eeC (⟨0, i9, 0, x9.bal, [], false⟩ : EEnt) (.slice none 0 0)).toArray.size = 9 by rw [List.size_toArray, eeC_len _ _])) (fun v15 w15 h15 => ?_)
              obtain ⟨bb15, rfl, nn15⟩ := h15
              replace k2 := k2.up nn15.up
              replace k3 := k3.up nn15.up
              replace hT := hT.up nn15.up
              replace hAA := hAA.up nn15.up
              replace U := U.tr nn15.up
              have kk15 : Blk w15 bb15 (eeC (⟨0, i9, 0, x9.bal, [], false⟩ : EEnt) (.slice none 0 0)).toArray := nn15.blk
              refine ⟨.inr (SU.tr nn15.up), ?_⟩
              replace SU := SU.tr nn15.up
              exact (by
                have lt2 := k2.lt
                have lt3 := k3.lt
                refine p_eff (by exact rfl) (e_appT (y := (⟨0, i9, 0, x9.bal, [], false⟩ : EEnt)) (news := eeC (⟨0, i9, 0, x9.bal, [], false⟩ : EEnt) (.slice none 0 0)) Hvaa.underlying79 sz_218 zr_218 by_218 rfl (by decide) (et (gS rfl (gS rfl (gS rfl (gS rfl (gS rfl (gS rfl (gS rfl (gS rfl (gS rfl (gS rfl (gS rfl g0))))))))))) rfl) hT hT.vl.jou hlJ (by decide) (by decide) (et g0 rfl) kk15 (eeC_len _ _) one_eeC ⟨_, rfl, BV.nil _, ⟨Nat.le_of_ble_eq_true rfl, by first | exact hpl | exact Nat.le_of_ble_eq_true rfl, by first | exact hen | exact Nat.le_of_ble_eq_true rfl, by first | exact hew | exact Nat.le_of_ble_eq_true rfl, by first | exact heb | exact Nat.le_of_ble_eq_true rfl⟩⟩ (by decide) (by rw [hjl]; omega)) (fun v16 w16 h16 => ?_)
                obtain ⟨hm16, ch16⟩ := h16
                replace k2 := k2.ch ch16 (by intro hm; first | omega | (subst hm; omega))
                replace k3 := k3.ch ch16 (by intro hm; first | omega | (subst hm; omega))
                replace hAA := hAA.ch ch16 (by intro hm; first | omega | (subst hm; omega))
                replace hT := hm16
                replace U := U.cc ch16 (by intro b hb; exact .inl trivial)
                replace SU := SU.cc ch16 (by intro b hb; first | exact .inl hb | exact hb.elim | omega | (have h9 := hOo.lim b hb.symm; first | exact .inl (by omega) | omega))
                obtain ⟨pa16, pc16, rfl⟩ := hm16.pd.len
                refine ⟨.inr SU, ?_⟩
                refine p_step (by exact rfl) (y_nil (et (gS rfl (gS rfl (gS rfl (gS rfl (gS rfl (gS rfl (gS rfl (gS rfl (gS rfl (gS rfl (gS rfl (gS rfl (gS rfl (gS rfl (gS rfl (gS rfl g0)))))))))))))))) rfl)) ?_
                refine p_step (by exact rfl) (y_fld fld_84_4 (et g0 rfl)) ?_
                refine p_effN (by exact rfl) (e_store sz_79 (et g0 rfl) (cellsV (et (gS rfl (gS rfl g0)) rfl) rfl) rfl (by intro v hv; simp at hv; subst hv; rfl) hT.m.kC (by rw [hT.m.size]; exact Nat.le_of_ble_eq_true rfl)) (fun v17 w17 h17 => ?_)
                obtain ⟨rfl, x17⟩ := h17
                obtain ⟨col4, hv17, hq17⟩ := hT.layJ hml x17
                replace k2 := k2.ch x17.ch (by intro hm; first | omega | (subst hm; omega))
                replace k3 := k3.ch x17.ch (by intro hm; first | omega | (subst hm; omega))
                replace hT := hv17
                replace U := U.cc x17.ch (by intro b hb; exact .inl trivial)
                replace nc2 := (hq17 b2 lt2).trans nc2
                replace nc3 := (hq17 b3 lt3).trans nc3
                replace hcC := hT.vl.colC
                obtain ⟨bA, cA, capA, vcA, hAB⟩ := hT.vl.acct (x := x9) hx9
                have hab := hAB.col
                have hfit := hAB.fit
                have hi9b : i9 < V2.accts.length := hAB.lt
                refine ⟨.inl rfl, ?_⟩
                refine p_nil ?_
                refine hK13 _ _ ?_
                refine fg3 0 5 7 (gS rfl (gS rfl (gS rfl (gS rfl (gS rfl (gS rfl (gS rfl (gS rfl (gS rfl (gS rfl (gS rfl (gS rfl (gS rfl (gS rfl (gS rfl (gS rfl (gS rfl (gS rfl (gS rfl (gS rfl (gS rfl g0))))))))))))))))))))) (gS rfl (gS rfl (gS rfl (gS rfl (gS rfl (gS rfl (gS rfl (gS rfl (gS rfl (gS rfl (gS rfl (gS rfl (gS rfl (gS rfl (gS rfl (gS rfl (gS rfl (gS rfl (gS rfl (gS rfl g0)))))))))))))))))))) (gS rfl (gS rfl (gS rfl (gS rfl (gS rfl (gS rfl (gS rfl (gS rfl (gS rfl (gS rfl (gS rfl (gS rfl (gS rfl (gS rfl (gS rfl (gS rfl (gS rfl (gS rfl (gS rfl g0))))))))))))))))))) (fun g => ?_)
                refine c_seq (fun K18 hK18 => ?_)
                exact (by
                  refine c_draw Up 8 [(0, true), (1, true), (2, true), (3, true), (4, true), (5, true), (6, true), (7, true), (8, false)] (by kernel_rfl) (fun w19 hu => ⟨Up.refl _, ?_⟩)
                  replace k2 := k2.up hu
                  replace k3 := k3.up hu
                  replace hT := hT.up hu
                  replace hAB := hAB.up hu
                  replace U := U.tr hu
                  have SU := Up.refl w19
                  refine p_step (by exact rfl) (y_moveV (et (gS rfl (gS rfl g0)) rfl)) ?_
                  refine p_step (by exact rfl) (y_nil (et g0 rfl)) ?_
                  refine p_step (by exact rfl) (y_fld fld_84_0 (et g0 rfl)) ?_
                  refine p_step (by exact rfl) (y_load1 one_76 (et g0 rfl) (atS (hT.vl.c1 hAB.sl rfl))) ?_
                  refine p_step (by exact rfl) (y_moveV (et (gS rfl (gS rfl (gS rfl (gS rfl g0)))) rfl)) ?_
                  refine p_step (by exact rfl) (y_loadB agg_65 sz_65 (et (gS rfl (gS rfl (gS rfl (gS rfl (gS rfl (gS rfl g0)))))) rfl) (by first | (simp only [Value.cells, hV, aV, bV, wV, wL, List.size_toArray, length_bL, length_uL, length_be, size_spl, List.length_cons, List.length_nil, List.length_replicate, Nat.zero_add, Nat.reduceAdd, Nat.reduceLeDiff, Nat.le_refl]; done) | rfl) (atSB k3)) ?_
                  refine p_step (by exact rfl) (y_idxS Hvaa.underlying76 sz_167 (et (gS rfl (gS rfl g0)) rfl) (et (gS rfl g0) rfl) ?_ ?_) ?_
                  omega
                  exact Int.ofNat_lt.2 hi9b
                  refine p_step (by exact rfl) (y_fld fld_167_2 (et g0 rfl)) ?_
                  refine p_effN (by exact rfl) (e_store sz_65 (et g0 rfl) (cellsV (et (gS rfl (gS rfl g0)) rfl) rfl) rfl (by exact one_uL _) hAB.kA (by have h9 := hfit; omega)) (fun v20 w20 h20 => ?_)
                  obtain ⟨rfl, x20⟩ := h20
                  have hv20 := hT.setA hAB (j := 21) (y := { x9 with bal := u }) (by omega) x20 ea_bal (Nat.le_of_ble_eq_true rfl) hAB.code ⟨hok.addr, hok.nonce, hub, hok.code⟩
                  replace k2 := k2.ch x20.ch (by intro hm; first | omega | (subst hm; omega))
                  replace k3 := k3.ch x20.ch (by intro hm; first | omega | (subst hm; omega))
                  replace hT := hv20
                  replace U := U.cc x20.ch (by intro b hb; exact .inl trivial)
                  refine ⟨.inl rfl, ?_⟩
                  refine p_nil ?_
                  refine hK18 _ _ ?_
                  refine fg0 (fun g => ?_)
                  refine c_seq (fun K21 hK21 => ?_)
                  exact (by
                    refine c_region ?_
                    refine l_step y_assignC ?_
                    refine l_nil ?_
                    refine hK21 _ _ ?_
                    refine c_ret ?_
                    repeat with_reducible refine then_ret ?_
                    refine ret1 rfl (res_tmp (et g0 rfl)) ?_
                    subst hxa
                    have h9 := put_bal (v := u) hLy ho hx9 hjr
                    exact ⟨rfl, _, _, _, hT, h9.1, h9.2⟩)))))))))
theorem v_putNonce {w : World} {H : Store} {col : Nat → Nat} {bc : Nat} {cs : Array Value} {V : EV} (hV : VL w H col bc cs V) (ho : VOk V) (a : Nat) (ha : a < A160) (u : Nat) (hub : u < 18446744073709551616) (na : Nat) (hr : (hasA V a ∧ na = 0) ∨ (V.accts.length < 2560 ∧ na = 1)) (hjr : V.journal.length < 65536) :
    Ret 96 [.pointer (some ⟨bc, 2435, none⟩), aV a, .int .u64 (u : Nat)] w (fun v w' => v = .bool true ∧ ∃ (col' : Nat → Nat) (cs' : Array Value) (V' : EV), VT w H col bc cs w' H col' cs' V' ∧ VOk V' ∧ JS V V' (fun A => { A with nonce := fset A.nonce a u }) na 0 0 1 0) := by
  have hT := VT.refl hV
  have hnw := hV.new
  have hcC := hV.colC
  have hml := ho.bd.marks
  refine enter (n := 47) Hvaa.func96 rfl rfl (Nat.le_of_ble_eq_true rfl) ?_
  have U : Ch (fun _ => True) w w := Ch.refl _ w
  refine c_seq (fun K1 hK1 => ?_)
  exact (by
    refine c_region ?_
    refine l_eff (e_boxV (et (gS rfl g0) rfl)) (fun v2 w2 h2 => ?_)
    obtain ⟨b2, rfl, n2⟩ := h2
    have f2 : w.heap.size ≤ b2 := Nat.le_trans U.size n2.fresh
    replace hT := hT.up n2.up
    replace U := U.tr n2.up
    have k2 := n2.blk
    replace k2 : Blk w2 b2 (bL (be 20 a)).toArray := k2
    have nc2 : col b2 = 0 := hnw _ f2
    refine l_step y_assignC ?_
    refine l_nil ?_
    refine hK1 _ _ ?_
    refine fg3 2 0 4 (gS rfl (gS rfl (gS rfl (gS rfl g0)))) (gS rfl (gS rfl g0)) (gS rfl g0) (fun g => ?_)
    refine c_seq (fun K3 hK3 => ?_)
    refine c_seq (fun K4 hK4 => ?_)
    exact (by
      refine c_region ?_
      refine l_step (y_moveV (et (gS rfl g0) rfl)) ?_
      refine l_eff (e_callV cal_170 (aC (et g0 rfl) aN) (v_room hT.vl)) (fun v5 w5 h5 => ?_)
      obtain ⟨rfl, u5⟩ := h5
      replace k2 := k2.up u5
      replace hT := hT.up u5
      replace U := U.tr u5
      refine l_step (y_not (et g0 rfl)) ?_
      refine l_nil ?_
      refine hK4 _ _ ?_
      refine fg4 2 0 4 11 (gS rfl (gS rfl (gS rfl (gS rfl (gS rfl g0))))) (gS rfl (gS rfl (gS rfl (gS rfl g0)))) (gS rfl (gS rfl (gS rfl g0))) g0 (fun g => ?_)
      refine c_false (et g0 rfl) (by (simp; omega)) ?_
      refine c_skip ?_
      refine hK3 _ _ ?_
      refine fg3 2 0 4 (gS rfl (gS rfl (gS rfl g0))) (gS rfl (gS rfl g0)) (gS rfl g0) (fun g => ?_)
      refine c_seq (fun K7 hK7 => ?_)
      exact (by
        refine c_region ?_
        refine l_step (y_moveV (et (gS rfl g0) rfl)) ?_
        refine l_step (y_loadB agg_25 sz_25 (et (gS rfl g0) rfl) (by rw [List.size_toArray, length_bL, length_be]) (at1B k2)) ?_
        have lt2 := k2.lt
        refine l_eff (e_callV cal_82 (aC (et (gS rfl g0) rfl) (aC (et g0 rfl) aN)) (v_acct hT.vl ho a ha na hr)) (fun v8 w8 h8 => ?_)
        obtain ⟨i9, x9, col2, cs2, V2, rfl, hT2, hLy, hx9, hxa, htmE⟩ := h8
        replace k2 := k2.ch hT2.go.ch (by intro hm; omega)
        replace hT := hT.trans hT2
        replace U := U.cc hT2.go.ch (by intro b hb; exact .inl trivial)
        have hq2 := hT2.col
        replace nc2 := (hq2 b2 lt2).trans nc2
        replace hcC := hT2.vl.colC
        replace hml := hLy.ok.bd.marks
        obtain ⟨ba, ca, cap9, vc9, hAA⟩ := hT2.vl.acct hx9
        have hi9 := hAA.lt
        have hac := hAA.col
        have hb9 := hLy.ok.bd.accts
        have hpl : i9 < 12288 := by omega
        have hok := hAA.ok
        have hen := hok.nonce
        have hew := hok.bal
        have heb := hok.code
        obtain ⟨lj9, lk9, hlJ⟩ := hT.vl.lenJ
        have hjl := hLy.j
        refine l_step (y_moveV (et g0 rfl)) ?_
        refine l_step (y_ext (et g0 rfl) rfl) ?_
        refine l_step (y_ext (et (gS rfl g0) rfl) rfl) ?_
        refine l_step (y_assignV (et (gS rfl g0) rfl)) ?_
        refine l_step (y_assignV (et (gS rfl g0) rfl)) ?_
        refine l_nil ?_
        refine hK7 _ _ ?_
        refine fg4 2 0 7 8 (gS rfl (gS rfl (gS rfl (gS rfl (gS rfl (gS rfl (gS rfl (gS rfl (gS rfl (gS rfl g0)))))))))) (gS rfl (gS rfl (gS rfl (gS rfl (gS rfl (gS rfl (gS rfl (gS rfl (gS rfl g0))))))))) (gS rfl g0) g0 (fun g => ?_)
        refine c_seq (fun K9 hK9 => ?_)
        refine c_seq (fun K10 hK10 => ?_)
        exact (by
          refine c_region ?_
          refine l_step (y_moveV (et g0 rfl)) ?_
          refine l_step (y_not (et g0 rfl)) ?_
          refine l_nil ?_
          refine hK10 _ _ ?_
          refine fg4 2 0 7 19 (gS rfl (gS rfl (gS rfl (gS rfl (gS rfl g0))))) (gS rfl (gS rfl (gS rfl (gS rfl g0)))) (gS rfl (gS rfl (gS rfl g0))) g0 (fun g => ?_)
          refine c_false (et g0 rfl) (by rfl) ?_
          refine c_skip ?_
          refine hK9 _ _ ?_
          refine fg3 2 0 7 (gS rfl (gS rfl (gS rfl g0))) (gS rfl (gS rfl g0)) (gS rfl g0) (fun g => ?_)
          refine c_seq (fun K12 hK12 => ?_)
          exact (by
            refine c_draw (Ch (fun k => col2 k = 4)) 19 [(0, true), (1, true), (2, true), (3, true), (4, true), (5, true), (6, true), (7, true), (8, true), (9, true), (10, true), (11, true), (12, true), (13, true), (14, true), (15, false), (16, false), (17, true), (18, true), (19, false)] (by kernel_rfl) (fun w13 hu => ⟨Ch.refl _ _, ?_⟩)
            replace k2 := k2.up hu
            replace hT := hT.up hu
            replace hAA := hAA.up hu
            replace U := U.tr hu
            have SU : (Ch (fun k => col2 k = 4)) w13 w13 := Ch.refl _ _
            refine p_step (by exact rfl) (y_moveV (et (gS rfl g0) rfl)) ?_
            refine p_step (by exact rfl) (y_moveV (et (gS rfl (gS rfl g0)) rfl)) ?_
            refine p_step (by exact rfl) (y_nil (et g0 rfl)) ?_
            refine p_step (by exact rfl) (y_fld fld_84_4 (et g0 rfl)) ?_
            refine p_step (by exact rfl) (y_load1 one_79 (et g0 rfl) (atC (hT.vl.c1 hlJ rfl) (by intro hm; omega))) ?_
            refine p_step (by exact rfl) (y_moveV (et (gS rfl (gS rfl (gS rfl (gS rfl (gS rfl g0))))) rfl)) ?_
            refine p_step (by exact rfl) (y_moveV (et (gS rfl (gS rfl (gS rfl (gS rfl (gS rfl (gS rfl (gS rfl g0))))))) rfl)) ?_
            refine p_step (by exact rfl) (y_nil (et g0 rfl)) ?_
            refine p_step (by exact rfl) (y_fld fld_84_0 (et g0 rfl)) ?_
            refine p_step (by exact rfl) (y_load1 one_76 (et g0 rfl) (atC (hT.vl.c1 hAA.sl rfl) (by intro hm; omega))) ?_
            refine p_step (by exact rfl) (y_moveV (et (gS rfl (gS rfl (gS rfl (gS rfl (gS rfl (gS rfl (gS rfl (gS rfl (gS rfl (gS rfl g0)))))))))) rfl)) ?_
            refine p_step (by exact rfl) (y_idxS Hvaa.underlying76 sz_167 (et (gS rfl g0) rfl) (et g0 rfl) ?_ ?_) ?_
            omega
            omega
            refine p_step (by exact rfl) (y_fld fld_167_1 (et g0 rfl)) ?_
            refine p_step (by exact rfl) (y_load1 one_26 (et g0 rfl) (atC (hAA.cNonce (by omega)) (by intro hm; omega))) ?_
            refine p_step (by exact rfl) (y_bldEn (kd := 1) rfl (et (gS rfl (gS rfl (gS rfl (gS rfl (gS rfl (gS rfl (gS rfl (gS rfl g0)))))))) rfl) (et g0 rfl)) ?_
            refine p_eff (by exact rfl) (e_slice1 (k := 8) Hvaa.underlying79 sz_218 zr_218 rfl (by decide) (et g0 rfl) (show (eeC (⟨1, i9, x9.nonce, 0, [], false⟩ : EEnt) (.slice none 0 0)).toArray.size = 9 by rw [List.size_toArray, eeC_len _ _])) (fun v14 w14 h14 => ?_)
            obtain ⟨bb14, rfl, nn14⟩ := h14
            replace k2 := k2.up nn14.up
            replace hT := hT.up nn14.up
            replace hAA := hAA.up nn14.up
            replace U := U.tr nn14.up
            have kk14 : Blk w14 bb14 (eeC (⟨1, i9, x9.nonce, 0, [], false⟩ : EEnt) (.slice none 0 0)).toArray := nn14.blk
            refine ⟨.inr (SU.tr nn14.up), ?_⟩
            replace SU := SU.tr nn14.up
            exact (by
              have lt2 := k2.lt
              refine p_eff (by exact rfl) (e_appT (y := (⟨1, i9, x9.nonce, 0, [], false⟩ : EEnt)) (news := eeC (⟨1, i9, x9.nonce, 0, [], false⟩ : EEnt) (.slice none 0 0)) Hvaa.underlying79 sz_218 zr_218 by_218 rfl (by decide) (et (gS rfl (gS rfl (gS rfl (gS rfl (gS rfl (gS rfl (gS rfl (gS rfl (gS rfl (gS rfl (gS rfl g0))))))))))) rfl) hT hT.vl.jou hlJ (by decide) (by decide) (et g0 rfl) kk14 (eeC_len _ _) one_eeC ⟨_, rfl, BV.nil _, ⟨Nat.le_of_ble_eq_true rfl, by first | exact hpl | exact Nat.le_of_ble_eq_true rfl, by first | exact hen | exact Nat.le_of_ble_eq_true rfl, by first | exact hew | exact Nat.le_of_ble_eq_true rfl, by first | exact heb | exact Nat.le_of_ble_eq_true rfl⟩⟩ (by decide) (by rw [hjl]; omega)) (fun v15 w15 h15 => ?_)
              obtain ⟨hm15, ch15⟩ := h15
              replace k2 := k2.ch ch15 (by intro hm; first | omega | (subst hm; omega))
              replace hAA := hAA.ch ch15 (by intro hm; first | omega | (subst hm; omega))
              replace hT := hm15
              replace U := U.cc ch15 (by intro b hb; exact .inl trivial)
              replace SU := SU.cc ch15 (by intro b hb; first | exact .inl hb | exact hb.elim | omega | (have h9 := hOo.lim b hb.symm; first | exact .inl (by omega) | omega))
              obtain ⟨pa15, pc15, rfl⟩ := hm15.pd.len
              refine ⟨.inr SU, ?_⟩
              refine p_step (by exact rfl) (y_nil (et (gS rfl (gS rfl (gS rfl (gS rfl (gS rfl (gS rfl (gS rfl (gS rfl (gS rfl (gS rfl (gS rfl (gS rfl (gS rfl (gS rfl (gS rfl (gS rfl g0)))))))))))))))) rfl)) ?_
              refine p_step (by exact rfl) (y_fld fld_84_4 (et g0 rfl)) ?_
              refine p_effN (by exact rfl) (e_store sz_79 (et g0 rfl) (cellsV (et (gS rfl (gS rfl g0)) rfl) rfl) rfl (by intro v hv; simp at hv; subst hv; rfl) hT.m.kC (by rw [hT.m.size]; exact Nat.le_of_ble_eq_true rfl)) (fun v16 w16 h16 => ?_)
              obtain ⟨rfl, x16⟩ := h16
              obtain ⟨col4, hv16, hq16⟩ := hT.layJ hml x16
              replace k2 := k2.ch x16.ch (by intro hm; first | omega | (subst hm; omega))
              replace hT := hv16
              replace U := U.cc x16.ch (by intro b hb; exact .inl trivial)
              replace nc2 := (hq16 b2 lt2).trans nc2
              replace hcC := hT.vl.colC
              obtain ⟨bA, cA, capA, vcA, hAB⟩ := hT.vl.acct (x := x9) hx9
              have hab := hAB.col
              have hfit := hAB.fit
              have hi9b : i9 < V2.accts.length := hAB.lt
              refine ⟨.inl rfl, ?_⟩
              refine p_nil ?_
              refine hK12 _ _ ?_
              refine fg3 2 0 7 (gS rfl (gS rfl (gS rfl (gS rfl (gS rfl (gS rfl (gS rfl (gS rfl (gS rfl (gS rfl (gS rfl (gS rfl (gS rfl (gS rfl (gS rfl (gS rfl (gS rfl (gS rfl (gS rfl (gS rfl (gS rfl g0))))))))))))))))))))) (gS rfl (gS rfl (gS rfl (gS rfl (gS rfl (gS rfl (gS rfl (gS rfl (gS rfl (gS rfl (gS rfl (gS rfl (gS rfl (gS rfl (gS rfl (gS rfl (gS rfl (gS rfl (gS rfl (gS rfl g0)))))))))))))))))))) (gS rfl (gS rfl (gS rfl (gS rfl (gS rfl (gS rfl (gS rfl (gS rfl (gS rfl (gS rfl (gS rfl (gS rfl (gS rfl (gS rfl (gS rfl (gS rfl (gS rfl (gS rfl (gS rfl g0))))))))))))))))))) (fun g => ?_)
              refine c_seq (fun K17 hK17 => ?_)
              exact (by
                refine c_region ?_
                refine l_step (y_moveV (et (gS rfl g0) rfl)) ?_
                refine l_step (y_nil (et g0 rfl)) ?_
                refine l_step (y_fld fld_84_0 (et g0 rfl)) ?_
                refine l_step (y_load1 one_76 (et g0 rfl) (at1 (hT.vl.c1 hAB.sl rfl))) ?_
                refine l_step (y_moveV (et (gS rfl (gS rfl (gS rfl (gS rfl g0)))) rfl)) ?_
                refine l_step (y_moveV (et (gS rfl (gS rfl (gS rfl (gS rfl (gS rfl (gS rfl (gS rfl g0))))))) rfl)) ?_
                refine l_step (y_idxS Hvaa.underlying76 sz_167 (et (gS rfl (gS rfl g0)) rfl) (et (gS rfl g0) rfl) ?_ ?_) ?_
                omega
                exact Int.ofNat_lt.2 hi9b
                refine l_step (y_fld fld_167_1 (et g0 rfl)) ?_
                refine l_effN (e_store sz_26 (et g0 rfl) (cellsV (et (gS rfl (gS rfl g0)) rfl) rfl) rfl (by intro v hv; simp at hv; subst hv; rfl) hAB.kA (by have h9 := hfit; omega)) (fun v18 w18 h18 => ?_)
                obtain ⟨rfl, x18⟩ := h18
                have hv18 := hT.setA hAB (j := 20) (y := { x9 with nonce := u }) (by omega) x18 ea_nonce (Nat.le_of_ble_eq_true rfl) hAB.code ⟨hok.addr, hub, hok.bal, hok.code⟩
                replace k2 := k2.ch x18.ch (by intro hm; first | omega | (subst hm; omega))
                replace hT := hv18
                replace U := U.cc x18.ch (by intro b hb; exact .inl trivial)
                refine l_nil ?_
                refine hK17 _ _ ?_
                refine fg0 (fun g => ?_)
                refine c_seq (fun K19 hK19 => ?_)
                exact (by
                  refine c_region ?_
                  refine l_step y_assignC ?_
                  refine l_nil ?_
                  refine hK19 _ _ ?_
                  refine c_ret ?_
                  repeat with_reducible refine then_ret ?_
                  refine ret1 rfl (res_tmp (et g0 rfl)) ?_
                  subst hxa
                  have h9 := put_nonce (v := u) hLy ho hx9 hjr
                  exact ⟨rfl, _, _, _, hT, h9.1, h9.2⟩))))))))
theorem v_warmAcct {w : World} {H : Store} {col : Nat → Nat} {bc : Nat} {cs : Array Value} {V : EV} (hV : VL w H col bc cs V) (ho : VOk V) (a : Nat) (ha : a < A160) (na : Nat) (hr : (hasA V a ∧ na = 0) ∨ (V.accts.length < 2560 ∧ na = 1)) (hjr : V.journal.length < 65536) :
    Ret 173 [.pointer (some ⟨bc, 2435, none⟩), aV a] w (fun v w' => v = .bool true ∧ ∃ (col' : Nat → Nat) (cs' : Array Value) (V' : EV), VT w H col bc cs w' H col' cs' V' ∧ VOk V' ∧ JS V V' (fun A => { A with warmA := fset A.warmA a true }) na 0 0 1 0) := by
  have hT := VT.refl hV
  have hnw := hV.new
  have hcC := hV.colC
  have hml := ho.bd.marks
  refine enter (n := 44) Hvaa.func173 rfl rfl (Nat.le_of_ble_eq_true rfl) ?_
  have U : Ch (fun _ => True) w w := Ch.refl _ w
  refine c_seq (fun K1 hK1 => ?_)
  exact (by
    refine c_region ?_
    refine l_eff (e_boxV (et (gS rfl g0) rfl)) (fun v2 w2 h2 => ?_)
    obtain ⟨b2, rfl, n2⟩ := h2
    have f2 : w.heap.size ≤ b2 := Nat.le_trans U.size n2.fresh
    replace hT := hT.up n2.up
    replace U := U.tr n2.up
    have k2 := n2.blk
    replace k2 : Blk w2 b2 (bL (be 20 a)).toArray := k2
    have nc2 : col b2 = 0 := hnw _ f2
    refine l_step y_assignC ?_
    refine l_nil ?_
    refine hK1 _ _ ?_
    refine fg2 0 3 (gS rfl (gS rfl g0)) (gS rfl g0) (fun g => ?_)
    refine c_seq (fun K3 hK3 => ?_)
    refine c_seq (fun K4 hK4 => ?_)
    exact (by
      refine c_region ?_
      refine l_step (y_moveV (et (gS rfl g0) rfl)) ?_
      refine l_eff (e_callV cal_170 (aC (et g0 rfl) aN) (v_room hT.vl)) (fun v5 w5 h5 => ?_)
      obtain ⟨rfl, u5⟩ := h5
      replace k2 := k2.up u5
      replace hT := hT.up u5
      replace U := U.tr u5
      refine l_step (y_not (et g0 rfl)) ?_
      refine l_nil ?_
      refine hK4 _ _ ?_
      refine fg3 0 3 9 (gS rfl (gS rfl (gS rfl (gS rfl g0)))) (gS rfl (gS rfl (gS rfl g0))) g0 (fun g => ?_)
      refine c_false (et g0 rfl) (by (simp; omega)) ?_
      refine c_skip ?_
      refine hK3 _ _ ?_
      refine fg2 0 3 (gS rfl (gS rfl g0)) (gS rfl g0) (fun g => ?_)
      refine c_seq (fun K7 hK7 => ?_)
      exact (by
        refine c_region ?_
        refine l_step (y_moveV (et (gS rfl g0) rfl)) ?_
        refine l_step (y_loadB agg_25 sz_25 (et (gS rfl g0) rfl) (by rw [List.size_toArray, length_bL, length_be]) (at1B k2)) ?_
        have lt2 := k2.lt
        refine l_eff (e_callV cal_82 (aC (et (gS rfl g0) rfl) (aC (et g0 rfl) aN)) (v_acct hT.vl ho a ha na hr)) (fun v8 w8 h8 => ?_)
        obtain ⟨i9, x9, col2, cs2, V2, rfl, hT2, hLy, hx9, hxa, htmE⟩ := h8
        replace k2 := k2.ch hT2.go.ch (by intro hm; omega)
        replace hT := hT.trans hT2
        replace U := U.cc hT2.go.ch (by intro b hb; exact .inl trivial)
        have hq2 := hT2.col
        replace nc2 := (hq2 b2 lt2).trans nc2
        replace hcC := hT2.vl.colC
        replace hml := hLy.ok.bd.marks
        obtain ⟨ba, ca, cap9, vc9, hAA⟩ := hT2.vl.acct hx9
        have hi9 := hAA.lt
        have hac := hAA.col
        have hb9 := hLy.ok.bd.accts
        have hpl : i9 < 12288 := by omega
        have hok := hAA.ok
        have hen := hok.nonce
        have hew := hok.bal
        have heb := hok.code
        obtain ⟨lj9, lk9, hlJ⟩ := hT.vl.lenJ
        have hjl := hLy.j
        refine l_step (y_moveV (et g0 rfl)) ?_
        refine l_step (y_ext (et g0 rfl) rfl) ?_
        refine l_step (y_ext (et (gS rfl g0) rfl) rfl) ?_
        refine l_step (y_assignV (et (gS rfl g0) rfl)) ?_
        refine l_step (y_assignV (et (gS rfl g0) rfl)) ?_
        refine l_nil ?_
        refine hK7 _ _ ?_
        refine fg3 0 5 6 (gS rfl (gS rfl (gS rfl (gS rfl (gS rfl (gS rfl (gS rfl (gS rfl (gS rfl g0))))))))) (gS rfl g0) g0 (fun g => ?_)
        refine c_seq (fun K9 hK9 => ?_)
        refine c_seq (fun K10 hK10 => ?_)
        exact (by
          refine c_region ?_
          refine l_step (y_moveV (et g0 rfl)) ?_
          refine l_step (y_not (et g0 rfl)) ?_
          refine l_nil ?_
          refine hK10 _ _ ?_
          refine fg3 0 5 17 (gS rfl (gS rfl (gS rfl (gS rfl g0)))) (gS rfl (gS rfl (gS rfl g0))) g0 (fun g => ?_)
          refine c_false (et g0 rfl) (by rfl) ?_
          refine c_skip ?_
          refine hK9 _ _ ?_
          refine fg2 0 5 (gS rfl (gS rfl g0)) (gS rfl g0) (fun g => ?_)
          refine c_seq (fun K12 hK12 => ?_)
          exact (by
            refine c_draw (Ch (fun k => col2 k = 4)) 19 [(0, true), (1, true), (2, true), (3, true), (4, true), (5, true), (6, true), (7, true), (8, true), (9, true), (10, true), (11, true), (12, true), (13, true), (14, true), (15, false), (16, false), (17, true), (18, true), (19, false)] (by kernel_rfl) (fun w13 hu => ⟨Ch.refl _ _, ?_⟩)
            replace k2 := k2.up hu
            replace hT := hT.up hu
            replace hAA := hAA.up hu
            replace U := U.tr hu
            have SU : (Ch (fun k => col2 k = 4)) w13 w13 := Ch.refl _ _
            refine p_step (by exact rfl) (y_moveV (et (gS rfl g0) rfl)) ?_
            refine p_step (by exact rfl) (y_moveV (et (gS rfl (gS rfl g0)) rfl)) ?_
            refine p_step (by exact rfl) (y_nil (et g0 rfl)) ?_
            refine p_step (by exact rfl) (y_fld fld_84_4 (et g0 rfl)) ?_
            refine p_step (by exact rfl) (y_load1 one_79 (et g0 rfl) (atC (hT.vl.c1 hlJ rfl) (by intro hm; omega))) ?_
            refine p_step (by exact rfl) (y_moveV (et (gS rfl (gS rfl (gS rfl (gS rfl (gS rfl g0))))) rfl)) ?_
            refine p_step (by exact rfl) (y_moveV (et (gS rfl (gS rfl (gS rfl (gS rfl (gS rfl (gS rfl (gS rfl g0))))))) rfl)) ?_
            refine p_step (by exact rfl) (y_nil (et g0 rfl)) ?_
            refine p_step (by exact rfl) (y_fld fld_84_0 (et g0 rfl)) ?_
            refine p_step (by exact rfl) (y_load1 one_76 (et g0 rfl) (atC (hT.vl.c1 hAA.sl rfl) (by intro hm; omega))) ?_
            refine p_step (by exact rfl) (y_moveV (et (gS rfl (gS rfl (gS rfl (gS rfl (gS rfl (gS rfl (gS rfl (gS rfl (gS rfl (gS rfl g0)))))))))) rfl)) ?_
            refine p_step (by exact rfl) (y_idxS Hvaa.underlying76 sz_167 (et (gS rfl g0) rfl) (et g0 rfl) ?_ ?_) ?_
            omega
            omega
            refine p_step (by exact rfl) (y_fld fld_167_4 (et g0 rfl)) ?_
            refine p_step (by exact rfl) (y_load1 one_4 (et g0 rfl) (atC (hAA.cWarm (by omega)) (by intro hm; omega))) ?_
            refine p_step (by exact rfl) (y_bldEf (kd := 4) rfl (et (gS rfl (gS rfl (gS rfl (gS rfl (gS rfl (gS rfl (gS rfl (gS rfl g0)))))))) rfl) (et g0 rfl)) ?_
            refine p_eff (by exact rfl) (e_slice1 (k := 8) Hvaa.underlying79 sz_218 zr_218 rfl (by decide) (et g0 rfl) (show (eeC (⟨4, i9, 0, 0, [], x9.warm⟩ : EEnt) (.slice none 0 0)).toArray.size = 9 by rw [List.size_toArray, eeC_len _ _])) (fun v14 w14 h14 => ?_)
            obtain ⟨bb14, rfl, nn14⟩ := h14
            replace k2 := k2.up nn14.up
            replace hT := hT.up nn14.up
            replace hAA := hAA.up nn14.up
            replace U := U.tr nn14.up
            have kk14 : Blk w14 bb14 (eeC (⟨4, i9, 0, 0, [], x9.warm⟩ : EEnt) (.slice none 0 0)).toArray := nn14.blk
            refine ⟨.inr (SU.tr nn14.up), ?_⟩
            replace SU := SU.tr nn14.up
            exact (by
              have lt2 := k2.lt
              refine p_eff (by exact rfl) (e_appT (y := (⟨4, i9, 0, 0, [], x9.warm⟩ : EEnt)) (news := eeC (⟨4, i9, 0, 0, [], x9.warm⟩ : EEnt) (.slice none 0 0)) Hvaa.underlying79 sz_218 zr_218 by_218 rfl (by decide) (et (gS rfl (gS rfl (gS rfl (gS rfl (gS rfl (gS rfl (gS rfl (gS rfl (gS rfl (gS rfl (gS rfl g0))))))))))) rfl) hT hT.vl.jou hlJ (by decide) (by decide) (et g0 rfl) kk14 (eeC_len _ _) one_eeC ⟨_, rfl, BV.nil _, ⟨Nat.le_of_ble_eq_true rfl, by first | exact hpl | exact Nat.le_of_ble_eq_true rfl, by first | exact hen | exact Nat.le_of_ble_eq_true rfl, by first | exact hew | exact Nat.le_of_ble_eq_true rfl, by first | exact heb | exact Nat.le_of_ble_eq_true rfl⟩⟩ (by decide) (by rw [hjl]; omega)) (fun v15 w15 h15 => ?_)
              obtain ⟨hm15, ch15⟩ := h15
              replace k2 := k2.ch ch15 (by intro hm; first | omega | (subst hm; omega))
              replace hAA := hAA.ch ch15 (by intro hm; first | omega | (subst hm; omega))
              replace hT := hm15
              replace U := U.cc ch15 (by intro b hb; exact .inl trivial)
              replace SU := SU.cc ch15 (by intro b hb; first | exact .inl hb | exact hb.elim | omega | (have h9 := hOo.lim b hb.symm; first | exact .inl (by omega) | omega))
              obtain ⟨pa15, pc15, rfl⟩ := hm15.pd.len
              refine ⟨.inr SU, ?_⟩
              refine p_step (by exact rfl) (y_nil (et (gS rfl (gS rfl (gS rfl (gS rfl (gS rfl (gS rfl (gS rfl (gS rfl (gS rfl (gS rfl (gS rfl (gS rfl (gS rfl (gS rfl (gS rfl (gS rfl g0)))))))))))))))) rfl)) ?_
              refine p_step (by exact rfl) (y_fld fld_84_4 (et g0 rfl)) ?_
              refine p_effN (by exact rfl) (e_store sz_79 (et g0 rfl) (cellsV (et (gS rfl (gS rfl g0)) rfl) rfl) rfl (by intro v hv; simp at hv; subst hv; rfl) hT.m.kC (by rw [hT.m.size]; exact Nat.le_of_ble_eq_true rfl)) (fun v16 w16 h16 => ?_)
              obtain ⟨rfl, x16⟩ := h16
              obtain ⟨col4, hv16, hq16⟩ := hT.layJ hml x16
              replace k2 := k2.ch x16.ch (by intro hm; first | omega | (subst hm; omega))
              replace hT := hv16
              replace U := U.cc x16.ch (by intro b hb; exact .inl trivial)
              replace nc2 := (hq16 b2 lt2).trans nc2
              replace hcC := hT.vl.colC
              obtain ⟨bA, cA, capA, vcA, hAB⟩ := hT.vl.acct (x := x9) hx9
              have hab := hAB.col
              have hfit := hAB.fit
              have hi9b : i9 < V2.accts.length := hAB.lt
              refine ⟨.inl rfl, ?_⟩
              refine p_nil ?_
              refine hK12 _ _ ?_
              refine fg2 0 5 (gS rfl (gS rfl (gS rfl (gS rfl (gS rfl (gS rfl (gS rfl (gS rfl (gS rfl (gS rfl (gS rfl (gS rfl (gS rfl (gS rfl (gS rfl (gS rfl (gS rfl (gS rfl (gS rfl (gS rfl g0)))))))))))))))))))) (gS rfl (gS rfl (gS rfl (gS rfl (gS rfl (gS rfl (gS rfl (gS rfl (gS rfl (gS rfl (gS rfl (gS rfl (gS rfl (gS rfl (gS rfl (gS rfl (gS rfl (gS rfl (gS rfl g0))))))))))))))))))) (fun g => ?_)
              refine c_seq (fun K17 hK17 => ?_)
              exact (by
                refine c_region ?_
                refine l_step (y_moveV (et (gS rfl g0) rfl)) ?_
                refine l_step (y_nil (et g0 rfl)) ?_
                refine l_step (y_fld fld_84_0 (et g0 rfl)) ?_
                refine l_step (y_load1 one_76 (et g0 rfl) (at1 (hT.vl.c1 hAB.sl rfl))) ?_
                refine l_step (y_moveV (et (gS rfl (gS rfl (gS rfl (gS rfl g0)))) rfl)) ?_
                refine l_step (y_idxS Hvaa.underlying76 sz_167 (et (gS rfl g0) rfl) (et g0 rfl) ?_ ?_) ?_
                omega
                exact Int.ofNat_lt.2 hi9b
                refine l_step (y_fld fld_167_4 (et g0 rfl)) ?_
                refine l_effN (e_store sz_4 (et g0 rfl) (cellsV rfl rfl) rfl (by intro v hv; simp at hv; subst hv; rfl) hAB.kA (by have h9 := hfit; omega)) (fun v18 w18 h18 => ?_)
                obtain ⟨rfl, x18⟩ := h18
                have hv18 := hT.setA hAB (j := 26) (y := { x9 with warm := true }) (by omega) x18 ea_warm (Nat.le_of_ble_eq_true rfl) hAB.code ⟨hok.addr, hok.nonce, hok.bal, hok.code⟩
                replace k2 := k2.ch x18.ch (by intro hm; first | omega | (subst hm; omega))
                replace hT := hv18
                replace U := U.cc x18.ch (by intro b hb; exact .inl trivial)
                refine l_nil ?_
                refine hK17 _ _ ?_
                refine fg0 (fun g => ?_)
                refine c_seq (fun K19 hK19 => ?_)
                exact (by
                  refine c_region ?_
                  refine l_step y_assignC ?_
                  refine l_nil ?_
                  refine hK19 _ _ ?_
                  refine c_ret ?_
                  repeat with_reducible refine then_ret ?_
                  refine ret1 rfl (res_tmp (et g0 rfl)) ?_
                  subst hxa
                  have h9 := put_warm (v := true) hLy ho hx9 hjr
                  exact ⟨rfl, _, _, _, hT, h9.1, h9.2⟩))))))))
theorem v_markMade {w : World} {H : Store} {col : Nat → Nat} {bc : Nat} {cs : Array Value} {V : EV} (hV : VL w H col bc cs V) (ho : VOk V) (a : Nat) (ha : a < A160) (na : Nat) (hr : (hasA V a ∧ na = 0) ∨ (V.accts.length < 2560 ∧ na = 1)) (hjr : V.journal.length < 65536) :
    Ret 181 [.pointer (some ⟨bc, 2435, none⟩), aV a] w (fun v w' => v = .bool true ∧ ∃ (col' : Nat → Nat) (cs' : Array Value) (V' : EV), VT w H col bc cs w' H col' cs' V' ∧ VOk V' ∧ JS V V' (fun A => { A with made := fset A.made a true }) na 0 0 1 0) := by
  have hT := VT.refl hV
  have hnw := hV.new
  have hcC := hV.colC
  have hml := ho.bd.marks
  refine enter (n := 44) Hvaa.func181 rfl rfl (Nat.le_of_ble_eq_true rfl) ?_
  have U : Ch (fun _ => True) w w := Ch.refl _ w
  refine c_seq (fun K1 hK1 => ?_)
  exact (by
    refine c_region ?_
    refine l_eff (e_boxV (et (gS rfl g0) rfl)) (fun v2 w2 h2 => ?_)
    obtain ⟨b2, rfl, n2⟩ := h2
    have f2 : w.heap.size ≤ b2 := Nat.le_trans U.size n2.fresh
    replace hT := hT.up n2.up
    replace U := U.tr n2.up
    have k2 := n2.blk
    replace k2 : Blk w2 b2 (bL (be 20 a)).toArray := k2
    have nc2 : col b2 = 0 := hnw _ f2
    refine l_step y_assignC ?_
    refine l_nil ?_
    refine hK1 _ _ ?_
    refine fg2 0 3 (gS rfl (gS rfl g0)) (gS rfl g0) (fun g => ?_)
    refine c_seq (fun K3 hK3 => ?_)
    refine c_seq (fun K4 hK4 => ?_)
    exact (by
      refine c_region ?_
      refine l_step (y_moveV (et (gS rfl g0) rfl)) ?_
      refine l_eff (e_callV cal_170 (aC (et g0 rfl) aN) (v_room hT.vl)) (fun v5 w5 h5 => ?_)
      obtain ⟨rfl, u5⟩ := h5
      replace k2 := k2.up u5
      replace hT := hT.up u5
      replace U := U.tr u5
      refine l_step (y_not (et g0 rfl)) ?_
      refine l_nil ?_
      refine hK4 _ _ ?_
      refine fg3 0 3 9 (gS rfl (gS rfl (gS rfl (gS rfl g0)))) (gS rfl (gS rfl (gS rfl g0))) g0 (fun g => ?_)
      refine c_false (et g0 rfl) (by (simp; omega)) ?_
      refine c_skip ?_
      refine hK3 _ _ ?_
      refine fg2 0 3 (gS rfl (gS rfl g0)) (gS rfl g0) (fun g => ?_)
      refine c_seq (fun K7 hK7 => ?_)
      exact (by
        refine c_region ?_
        refine l_step (y_moveV (et (gS rfl g0) rfl)) ?_
        refine l_step (y_loadB agg_25 sz_25 (et (gS rfl g0) rfl) (by rw [List.size_toArray, length_bL, length_be]) (at1B k2)) ?_
        have lt2 := k2.lt
        refine l_eff (e_callV cal_82 (aC (et (gS rfl g0) rfl) (aC (et g0 rfl) aN)) (v_acct hT.vl ho a ha na hr)) (fun v8 w8 h8 => ?_)
        obtain ⟨i9, x9, col2, cs2, V2, rfl, hT2, hLy, hx9, hxa, htmE⟩ := h8
        replace k2 := k2.ch hT2.go.ch (by intro hm; omega)
        replace hT := hT.trans hT2
        replace U := U.cc hT2.go.ch (by intro b hb; exact .inl trivial)
        have hq2 := hT2.col
        replace nc2 := (hq2 b2 lt2).trans nc2
        replace hcC := hT2.vl.colC
        replace hml := hLy.ok.bd.marks
        obtain ⟨ba, ca, cap9, vc9, hAA⟩ := hT2.vl.acct hx9
        have hi9 := hAA.lt
        have hac := hAA.col
        have hb9 := hLy.ok.bd.accts
        have hpl : i9 < 12288 := by omega
        have hok := hAA.ok
        have hen := hok.nonce
        have hew := hok.bal
        have heb := hok.code
        obtain ⟨lj9, lk9, hlJ⟩ := hT.vl.lenJ
        have hjl := hLy.j
        refine l_step (y_moveV (et g0 rfl)) ?_
        refine l_step (y_ext (et g0 rfl) rfl) ?_
        refine l_step (y_ext (et (gS rfl g0) rfl) rfl) ?_
        refine l_step (y_assignV (et (gS rfl g0) rfl)) ?_
        refine l_step (y_assignV (et (gS rfl g0) rfl)) ?_
        refine l_nil ?_
        refine hK7 _ _ ?_
        refine fg3 0 5 6 (gS rfl (gS rfl (gS rfl (gS rfl (gS rfl (gS rfl (gS rfl (gS rfl (gS rfl g0))))))))) (gS rfl g0) g0 (fun g => ?_)
        refine c_seq (fun K9 hK9 => ?_)
        refine c_seq (fun K10 hK10 => ?_)
        exact (by
          refine c_region ?_
          refine l_step (y_moveV (et g0 rfl)) ?_
          refine l_step (y_not (et g0 rfl)) ?_
          refine l_nil ?_
          refine hK10 _ _ ?_
          refine fg3 0 5 17 (gS rfl (gS rfl (gS rfl (gS rfl g0)))) (gS rfl (gS rfl (gS rfl g0))) g0 (fun g => ?_)
          refine c_false (et g0 rfl) (by rfl) ?_
          refine c_skip ?_
          refine hK9 _ _ ?_
          refine fg2 0 5 (gS rfl (gS rfl g0)) (gS rfl g0) (fun g => ?_)
          refine c_seq (fun K12 hK12 => ?_)
          exact (by
            refine c_draw (Ch (fun k => col2 k = 4)) 19 [(0, true), (1, true), (2, true), (3, true), (4, true), (5, true), (6, true), (7, true), (8, true), (9, true), (10, true), (11, true), (12, true), (13, true), (14, true), (15, false), (16, false), (17, true), (18, true), (19, false)] (by kernel_rfl) (fun w13 hu => ⟨Ch.refl _ _, ?_⟩)
            replace k2 := k2.up hu
            replace hT := hT.up hu
            replace hAA := hAA.up hu
            replace U := U.tr hu
            have SU : (Ch (fun k => col2 k = 4)) w13 w13 := Ch.refl _ _
            refine p_step (by exact rfl) (y_moveV (et (gS rfl g0) rfl)) ?_
            refine p_step (by exact rfl) (y_moveV (et (gS rfl (gS rfl g0)) rfl)) ?_
            refine p_step (by exact rfl) (y_nil (et g0 rfl)) ?_
            refine p_step (by exact rfl) (y_fld fld_84_4 (et g0 rfl)) ?_
            refine p_step (by exact rfl) (y_load1 one_79 (et g0 rfl) (atC (hT.vl.c1 hlJ rfl) (by intro hm; omega))) ?_
            refine p_step (by exact rfl) (y_moveV (et (gS rfl (gS rfl (gS rfl (gS rfl (gS rfl g0))))) rfl)) ?_
            refine p_step (by exact rfl) (y_moveV (et (gS rfl (gS rfl (gS rfl (gS rfl (gS rfl (gS rfl (gS rfl g0))))))) rfl)) ?_
            refine p_step (by exact rfl) (y_nil (et g0 rfl)) ?_
            refine p_step (by exact rfl) (y_fld fld_84_0 (et g0 rfl)) ?_
            refine p_step (by exact rfl) (y_load1 one_76 (et g0 rfl) (atC (hT.vl.c1 hAA.sl rfl) (by intro hm; omega))) ?_
            refine p_step (by exact rfl) (y_moveV (et (gS rfl (gS rfl (gS rfl (gS rfl (gS rfl (gS rfl (gS rfl (gS rfl (gS rfl (gS rfl g0)))))))))) rfl)) ?_
            refine p_step (by exact rfl) (y_idxS Hvaa.underlying76 sz_167 (et (gS rfl g0) rfl) (et g0 rfl) ?_ ?_) ?_
            omega
            omega
            refine p_step (by exact rfl) (y_fld fld_167_5 (et g0 rfl)) ?_
            refine p_step (by exact rfl) (y_load1 one_4 (et g0 rfl) (atC (hAA.cMade (by omega)) (by intro hm; omega))) ?_
            refine p_step (by exact rfl) (y_bldEf (kd := 9) rfl (et (gS rfl (gS rfl (gS rfl (gS rfl (gS rfl (gS rfl (gS rfl (gS rfl g0)))))))) rfl) (et g0 rfl)) ?_
            refine p_eff (by exact rfl) (e_slice1 (k := 8) Hvaa.underlying79 sz_218 zr_218 rfl (by decide) (et g0 rfl) (show (eeC (⟨9, i9, 0, 0, [], x9.made⟩ : EEnt) (.slice none 0 0)).toArray.size = 9 by rw [List.size_toArray, eeC_len _ _])) (fun v14 w14 h14 => ?_)
            obtain ⟨bb14, rfl, nn14⟩ := h14
            replace k2 := k2.up nn14.up
            replace hT := hT.up nn14.up
            replace hAA := hAA.up nn14.up
            replace U := U.tr nn14.up
            have kk14 : Blk w14 bb14 (eeC (⟨9, i9, 0, 0, [], x9.made⟩ : EEnt) (.slice none 0 0)).toArray := nn14.blk
            refine ⟨.inr (SU.tr nn14.up), ?_⟩
            replace SU := SU.tr nn14.up
            exact (by
              have lt2 := k2.lt
              refine p_eff (by exact rfl) (e_appT (y := (⟨9, i9, 0, 0, [], x9.made⟩ : EEnt)) (news := eeC (⟨9, i9, 0, 0, [], x9.made⟩ : EEnt) (.slice none 0 0)) Hvaa.underlying79 sz_218 zr_218 by_218 rfl (by decide) (et (gS rfl (gS rfl (gS rfl (gS rfl (gS rfl (gS rfl (gS rfl (gS rfl (gS rfl (gS rfl (gS rfl g0))))))))))) rfl) hT hT.vl.jou hlJ (by decide) (by decide) (et g0 rfl) kk14 (eeC_len _ _) one_eeC ⟨_, rfl, BV.nil _, ⟨Nat.le_of_ble_eq_true rfl, by first | exact hpl | exact Nat.le_of_ble_eq_true rfl, by first | exact hen | exact Nat.le_of_ble_eq_true rfl, by first | exact hew | exact Nat.le_of_ble_eq_true rfl, by first | exact heb | exact Nat.le_of_ble_eq_true rfl⟩⟩ (by decide) (by rw [hjl]; omega)) (fun v15 w15 h15 => ?_)
              obtain ⟨hm15, ch15⟩ := h15
              replace k2 := k2.ch ch15 (by intro hm; first | omega | (subst hm; omega))
              replace hAA := hAA.ch ch15 (by intro hm; first | omega | (subst hm; omega))
              replace hT := hm15
              replace U := U.cc ch15 (by intro b hb; exact .inl trivial)
              replace SU := SU.cc ch15 (by intro b hb; first | exact .inl hb | exact hb.elim | omega | (have h9 := hOo.lim b hb.symm; first | exact .inl (by omega) | omega))
              obtain ⟨pa15, pc15, rfl⟩ := hm15.pd.len
              refine ⟨.inr SU, ?_⟩
              refine p_step (by exact rfl) (y_nil (et (gS rfl (gS rfl (gS rfl (gS rfl (gS rfl (gS rfl (gS rfl (gS rfl (gS rfl (gS rfl (gS rfl (gS rfl (gS rfl (gS rfl (gS rfl (gS rfl g0)))))))))))))))) rfl)) ?_
              refine p_step (by exact rfl) (y_fld fld_84_4 (et g0 rfl)) ?_
              refine p_effN (by exact rfl) (e_store sz_79 (et g0 rfl) (cellsV (et (gS rfl (gS rfl g0)) rfl) rfl) rfl (by intro v hv; simp at hv; subst hv; rfl) hT.m.kC (by rw [hT.m.size]; exact Nat.le_of_ble_eq_true rfl)) (fun v16 w16 h16 => ?_)
              obtain ⟨rfl, x16⟩ := h16
              obtain ⟨col4, hv16, hq16⟩ := hT.layJ hml x16
              replace k2 := k2.ch x16.ch (by intro hm; first | omega | (subst hm; omega))
              replace hT := hv16
              replace U := U.cc x16.ch (by intro b hb; exact .inl trivial)
              replace nc2 := (hq16 b2 lt2).trans nc2
              replace hcC := hT.vl.colC
              obtain ⟨bA, cA, capA, vcA, hAB⟩ := hT.vl.acct (x := x9) hx9
              have hab := hAB.col
              have hfit := hAB.fit
              have hi9b : i9 < V2.accts.length := hAB.lt
              refine ⟨.inl rfl, ?_⟩
              refine p_nil ?_
              refine hK12 _ _ ?_
              refine fg2 0 5 (gS rfl (gS rfl (gS rfl (gS rfl (gS rfl (gS rfl (gS rfl (gS rfl (gS rfl (gS rfl (gS rfl (gS rfl (gS rfl (gS rfl (gS rfl (gS rfl (gS rfl (gS rfl (gS rfl (gS rfl g0)))))))))))))))))))) (gS rfl (gS rfl (gS rfl (gS rfl (gS rfl (gS rfl (gS rfl (gS rfl (gS rfl (gS rfl (gS rfl (gS rfl (gS rfl (gS rfl (gS rfl (gS rfl (gS rfl (gS rfl (gS rfl g0))))))))))))))))))) (fun g => ?_)
              refine c_seq (fun K17 hK17 => ?_)
              exact (by
                refine c_region ?_
                refine l_step (y_moveV (et (gS rfl g0) rfl)) ?_
                refine l_step (y_nil (et g0 rfl)) ?_
                refine l_step (y_fld fld_84_0 (et g0 rfl)) ?_
                refine l_step (y_load1 one_76 (et g0 rfl) (at1 (hT.vl.c1 hAB.sl rfl))) ?_
                refine l_step (y_moveV (et (gS rfl (gS rfl (gS rfl (gS rfl g0)))) rfl)) ?_
                refine l_step (y_idxS Hvaa.underlying76 sz_167 (et (gS rfl g0) rfl) (et g0 rfl) ?_ ?_) ?_
                omega
                exact Int.ofNat_lt.2 hi9b
                refine l_step (y_fld fld_167_5 (et g0 rfl)) ?_
                refine l_effN (e_store sz_4 (et g0 rfl) (cellsV rfl rfl) rfl (by intro v hv; simp at hv; subst hv; rfl) hAB.kA (by have h9 := hfit; omega)) (fun v18 w18 h18 => ?_)
                obtain ⟨rfl, x18⟩ := h18
                have hv18 := hT.setA hAB (j := 27) (y := { x9 with made := true }) (by omega) x18 ea_made (Nat.le_of_ble_eq_true rfl) hAB.code ⟨hok.addr, hok.nonce, hok.bal, hok.code⟩
                replace k2 := k2.ch x18.ch (by intro hm; first | omega | (subst hm; omega))
                replace hT := hv18
                replace U := U.cc x18.ch (by intro b hb; exact .inl trivial)
                refine l_nil ?_
                refine hK17 _ _ ?_
                refine fg0 (fun g => ?_)
                refine c_seq (fun K19 hK19 => ?_)
                exact (by
                  refine c_region ?_
                  refine l_step y_assignC ?_
                  refine l_nil ?_
                  refine hK19 _ _ ?_
                  refine c_ret ?_
                  repeat with_reducible refine then_ret ?_
                  refine ret1 rfl (res_tmp (et g0 rfl)) ?_
                  subst hxa
                  have h9 := put_made (v := true) hLy ho hx9 hjr
                  exact ⟨rfl, _, _, _, hT, h9.1, h9.2⟩))))))))
theorem v_markGone {w : World} {H : Store} {col : Nat → Nat} {bc : Nat} {cs : Array Value} {V : EV} (hV : VL w H col bc cs V) (ho : VOk V) (a : Nat) (ha : a < A160) (na : Nat) (hr : (hasA V a ∧ na = 0) ∨ (V.accts.length < 2560 ∧ na = 1)) (hjr : V.journal.length < 65536) :
    Ret 314 [.pointer (some ⟨bc, 2435, none⟩), aV a] w (fun v w' => v = .bool true ∧ ∃ (col' : Nat → Nat) (cs' : Array Value) (V' : EV), VT w H col bc cs w' H col' cs' V' ∧ VOk V' ∧ JS V V' (fun A => { A with gone := fset A.gone a true }) na 0 0 1 0) := by
  have hT := VT.refl hV
  have hnw := hV.new
  have hcC := hV.colC
  have hml := ho.bd.marks
  refine enter (n := 44) Hvaa.func314 rfl rfl (Nat.le_of_ble_eq_true rfl) ?_
  have U : Ch (fun _ => True) w w := Ch.refl _ w
  refine c_seq (fun K1 hK1 => ?_)
  exact (by
    refine c_region ?_
    refine l_eff (e_boxV (et (gS rfl g0) rfl)) (fun v2 w2 h2 => ?_)
    obtain ⟨b2, rfl, n2⟩ := h2
    have f2 : w.heap.size ≤ b2 := Nat.le_trans U.size n2.fresh
    replace hT := hT.up n2.up
    replace U := U.tr n2.up
    have k2 := n2.blk
    replace k2 : Blk w2 b2 (bL (be 20 a)).toArray := k2
    have nc2 : col b2 = 0 := hnw _ f2
    refine l_step y_assignC ?_
    refine l_nil ?_
    refine hK1 _ _ ?_
    refine fg2 0 3 (gS rfl (gS rfl g0)) (gS rfl g0) (fun g => ?_)
    refine c_seq (fun K3 hK3 => ?_)
    refine c_seq (fun K4 hK4 => ?_)
    exact (by
      refine c_region ?_
      refine l_step (y_moveV (et (gS rfl g0) rfl)) ?_
      refine l_eff (e_callV cal_170 (aC (et g0 rfl) aN) (v_room hT.vl)) (fun v5 w5 h5 => ?_)
      obtain ⟨rfl, u5⟩ := h5
      replace k2 := k2.up u5
      replace hT := hT.up u5
      replace U := U.tr u5
      refine l_step (y_not (et g0 rfl)) ?_
      refine l_nil ?_
      refine hK4 _ _ ?_
      refine fg3 0 3 9 (gS rfl (gS rfl (gS rfl (gS rfl g0)))) (gS rfl (gS rfl (gS rfl g0))) g0 (fun g => ?_)
      refine c_false (et g0 rfl) (by (simp; omega)) ?_
      refine c_skip ?_
      refine hK3 _ _ ?_
      refine fg2 0 3 (gS rfl (gS rfl g0)) (gS rfl g0) (fun g => ?_)
      refine c_seq (fun K7 hK7 => ?_)
      exact (by
        refine c_region ?_
        refine l_step (y_moveV (et (gS rfl g0) rfl)) ?_
        refine l_step (y_loadB agg_25 sz_25 (et (gS rfl g0) rfl) (by rw [List.size_toArray, length_bL, length_be]) (at1B k2)) ?_
        have lt2 := k2.lt
        refine l_eff (e_callV cal_82 (aC (et (gS rfl g0) rfl) (aC (et g0 rfl) aN)) (v_acct hT.vl ho a ha na hr)) (fun v8 w8 h8 => ?_)
        obtain ⟨i9, x9, col2, cs2, V2, rfl, hT2, hLy, hx9, hxa, htmE⟩ := h8
        replace k2 := k2.ch hT2.go.ch (by intro hm; omega)
        replace hT := hT.trans hT2
        replace U := U.cc hT2.go.ch (by intro b hb; exact .inl trivial)
        have hq2 := hT2.col
        replace nc2 := (hq2 b2 lt2).trans nc2
        replace hcC := hT2.vl.colC
        replace hml := hLy.ok.bd.marks
        obtain ⟨ba, ca, cap9, vc9, hAA⟩ := hT2.vl.acct hx9
        have hi9 := hAA.lt
        have hac := hAA.col
        have hb9 := hLy.ok.bd.accts
        have hpl : i9 < 12288 := by omega
        have hok := hAA.ok
        have hen := hok.nonce
        have hew := hok.bal
        have heb := hok.code
        obtain ⟨lj9, lk9, hlJ⟩ := hT.vl.lenJ
        have hjl := hLy.j
        refine l_step (y_moveV (et g0 rfl)) ?_
        refine l_step (y_ext (et g0 rfl) rfl) ?_
        refine l_step (y_ext (et (gS rfl g0) rfl) rfl) ?_
        refine l_step (y_assignV (et (gS rfl g0) rfl)) ?_
        refine l_step (y_assignV (et (gS rfl g0) rfl)) ?_
        refine l_nil ?_
        refine hK7 _ _ ?_
        refine fg3 0 5 6 (gS rfl (gS rfl (gS rfl (gS rfl (gS rfl (gS rfl (gS rfl (gS rfl (gS rfl g0))))))))) (gS rfl g0) g0 (fun g => ?_)
        refine c_seq (fun K9 hK9 => ?_)
        refine c_seq (fun K10 hK10 => ?_)
        exact (by
          refine c_region ?_
          refine l_step (y_moveV (et g0 rfl)) ?_
          refine l_step (y_not (et g0 rfl)) ?_
          refine l_nil ?_
          refine hK10 _ _ ?_
          refine fg3 0 5 17 (gS rfl (gS rfl (gS rfl (gS rfl g0)))) (gS rfl (gS rfl (gS rfl g0))) g0 (fun g => ?_)
          refine c_false (et g0 rfl) (by rfl) ?_
          refine c_skip ?_
          refine hK9 _ _ ?_
          refine fg2 0 5 (gS rfl (gS rfl g0)) (gS rfl g0) (fun g => ?_)
          refine c_seq (fun K12 hK12 => ?_)
          exact (by
            refine c_draw (Ch (fun k => col2 k = 4)) 19 [(0, true), (1, true), (2, true), (3, true), (4, true), (5, true), (6, true), (7, true), (8, true), (9, true), (10, true), (11, true), (12, true), (13, true), (14, true), (15, false), (16, false), (17, true), (18, true), (19, false)] (by kernel_rfl) (fun w13 hu => ⟨Ch.refl _ _, ?_⟩)
            replace k2 := k2.up hu
            replace hT := hT.up hu
            replace hAA := hAA.up hu
            replace U := U.tr hu
            have SU : (Ch (fun k => col2 k = 4)) w13 w13 := Ch.refl _ _
            refine p_step (by exact rfl) (y_moveV (et (gS rfl g0) rfl)) ?_
            refine p_step (by exact rfl) (y_moveV (et (gS rfl (gS rfl g0)) rfl)) ?_
            refine p_step (by exact rfl) (y_nil (et g0 rfl)) ?_
            refine p_step (by exact rfl) (y_fld fld_84_4 (et g0 rfl)) ?_
            refine p_step (by exact rfl) (y_load1 one_79 (et g0 rfl) (atC (hT.vl.c1 hlJ rfl) (by intro hm; omega))) ?_
            refine p_step (by exact rfl) (y_moveV (et (gS rfl (gS rfl (gS rfl (gS rfl (gS rfl g0))))) rfl)) ?_
            refine p_step (by exact rfl) (y_moveV (et (gS rfl (gS rfl (gS rfl (gS rfl (gS rfl (gS rfl (gS rfl g0))))))) rfl)) ?_
            refine p_step (by exact rfl) (y_nil (et g0 rfl)) ?_
            refine p_step (by exact rfl) (y_fld fld_84_0 (et g0 rfl)) ?_
            refine p_step (by exact rfl) (y_load1 one_76 (et g0 rfl) (atC (hT.vl.c1 hAA.sl rfl) (by intro hm; omega))) ?_
            refine p_step (by exact rfl) (y_moveV (et (gS rfl (gS rfl (gS rfl (gS rfl (gS rfl (gS rfl (gS rfl (gS rfl (gS rfl (gS rfl g0)))))))))) rfl)) ?_
            refine p_step (by exact rfl) (y_idxS Hvaa.underlying76 sz_167 (et (gS rfl g0) rfl) (et g0 rfl) ?_ ?_) ?_
            omega
            omega
            refine p_step (by exact rfl) (y_fld fld_167_6 (et g0 rfl)) ?_
            refine p_step (by exact rfl) (y_load1 one_4 (et g0 rfl) (atC (hAA.cGone (by omega)) (by intro hm; omega))) ?_
            refine p_step (by exact rfl) (y_bldEf (kd := 10) rfl (et (gS rfl (gS rfl (gS rfl (gS rfl (gS rfl (gS rfl (gS rfl (gS rfl g0)))))))) rfl) (et g0 rfl)) ?_
            refine p_eff (by exact rfl) (e_slice1 (k := 8) Hvaa.underlying79 sz_218 zr_218 rfl (by decide) (et g0 rfl) (show (eeC (⟨10, i9, 0, 0, [], x9.gone⟩ : EEnt) (.slice none 0 0)).toArray.size = 9 by rw [List.size_toArray, eeC_len _ _])) (fun v14 w14 h14 => ?_)
            obtain ⟨bb14, rfl, nn14⟩ := h14
            replace k2 := k2.up nn14.up
            replace hT := hT.up nn14.up
            replace hAA := hAA.up nn14.up
            replace U := U.tr nn14.up
            have kk14 : Blk w14 bb14 (eeC (⟨10, i9, 0, 0, [], x9.gone⟩ : EEnt) (.slice none 0 0)).toArray := nn14.blk
            refine ⟨.inr (SU.tr nn14.up), ?_⟩
            replace SU := SU.tr nn14.up
            exact (by
              have lt2 := k2.lt
              refine p_eff (by exact rfl) (e_appT (y := (⟨10, i9, 0, 0, [], x9.gone⟩ : EEnt)) (news := eeC (⟨10, i9, 0, 0, [], x9.gone⟩ : EEnt) (.slice none 0 0)) Hvaa.underlying79 sz_218 zr_218 by_218 rfl (by decide) (et (gS rfl (gS rfl (gS rfl (gS rfl (gS rfl (gS rfl (gS rfl (gS rfl (gS rfl (gS rfl (gS rfl g0))))))))))) rfl) hT hT.vl.jou hlJ (by decide) (by decide) (et g0 rfl) kk14 (eeC_len _ _) one_eeC ⟨_, rfl, BV.nil _, ⟨Nat.le_of_ble_eq_true rfl, by first | exact hpl | exact Nat.le_of_ble_eq_true rfl, by first | exact hen | exact Nat.le_of_ble_eq_true rfl, by first | exact hew | exact Nat.le_of_ble_eq_true rfl, by first | exact heb | exact Nat.le_of_ble_eq_true rfl⟩⟩ (by decide) (by rw [hjl]; omega)) (fun v15 w15 h15 => ?_)
              obtain ⟨hm15, ch15⟩ := h15
              replace k2 := k2.ch ch15 (by intro hm; first | omega | (subst hm; omega))
              replace hAA := hAA.ch ch15 (by intro hm; first | omega | (subst hm; omega))
              replace hT := hm15
              replace U := U.cc ch15 (by intro b hb; exact .inl trivial)
              replace SU := SU.cc ch15 (by intro b hb; first | exact .inl hb | exact hb.elim | omega | (have h9 := hOo.lim b hb.symm; first | exact .inl (by omega) | omega))
              obtain ⟨pa15, pc15, rfl⟩ := hm15.pd.len
              refine ⟨.inr SU, ?_⟩
              refine p_step (by exact rfl) (y_nil (et (gS rfl (gS rfl (gS rfl (gS rfl (gS rfl (gS rfl (gS rfl (gS rfl (gS rfl (gS rfl (gS rfl (gS rfl (gS rfl (gS rfl (gS rfl (gS rfl g0)))))))))))))))) rfl)) ?_
              refine p_step (by exact rfl) (y_fld fld_84_4 (et g0 rfl)) ?_
              refine p_effN (by exact rfl) (e_store sz_79 (et g0 rfl) (cellsV (et (gS rfl (gS rfl g0)) rfl) rfl) rfl (by intro v hv; simp at hv; subst hv; rfl) hT.m.kC (by rw [hT.m.size]; exact Nat.le_of_ble_eq_true rfl)) (fun v16 w16 h16 => ?_)
              obtain ⟨rfl, x16⟩ := h16
              obtain ⟨col4, hv16, hq16⟩ := hT.layJ hml x16
              replace k2 := k2.ch x16.ch (by intro hm; first | omega | (subst hm; omega))
              replace hT := hv16
              replace U := U.cc x16.ch (by intro b hb; exact .inl trivial)
              replace nc2 := (hq16 b2 lt2).trans nc2
              replace hcC := hT.vl.colC
              obtain ⟨bA, cA, capA, vcA, hAB⟩ := hT.vl.acct (x := x9) hx9
              have hab := hAB.col
              have hfit := hAB.fit
              have hi9b : i9 < V2.accts.length := hAB.lt
              refine ⟨.inl rfl, ?_⟩
              refine p_nil ?_
              refine hK12 _ _ ?_
              refine fg2 0 5 (gS rfl (gS rfl (gS rfl (gS rfl (gS rfl (gS rfl (gS rfl (gS rfl (gS rfl (gS rfl (gS rfl (gS rfl (gS rfl (gS rfl (gS rfl (gS rfl (gS rfl (gS rfl (gS rfl (gS rfl g0)))))))))))))))))))) (gS rfl (gS rfl (gS rfl (gS rfl (gS rfl (gS rfl (gS rfl (gS rfl (gS rfl (gS rfl (gS rfl (gS rfl (gS rfl (gS rfl (gS rfl (gS rfl (gS rfl (gS rfl (gS rfl g0))))))))))))))))))) (fun g => ?_)
              refine c_seq (fun K17 hK17 => ?_)
              exact (by
                refine c_region ?_
                refine l_step (y_moveV (et (gS rfl g0) rfl)) ?_
                refine l_step (y_nil (et g0 rfl)) ?_
                refine l_step (y_fld fld_84_0 (et g0 rfl)) ?_
                refine l_step (y_load1 one_76 (et g0 rfl) (at1 (hT.vl.c1 hAB.sl rfl))) ?_
                refine l_step (y_moveV (et (gS rfl (gS rfl (gS rfl (gS rfl g0)))) rfl)) ?_
                refine l_step (y_idxS Hvaa.underlying76 sz_167 (et (gS rfl g0) rfl) (et g0 rfl) ?_ ?_) ?_
                omega
                exact Int.ofNat_lt.2 hi9b
                refine l_step (y_fld fld_167_6 (et g0 rfl)) ?_
                refine l_effN (e_store sz_4 (et g0 rfl) (cellsV rfl rfl) rfl (by intro v hv; simp at hv; subst hv; rfl) hAB.kA (by have h9 := hfit; omega)) (fun v18 w18 h18 => ?_)
                obtain ⟨rfl, x18⟩ := h18
                have hv18 := hT.setA hAB (j := 28) (y := { x9 with gone := true }) (by omega) x18 ea_gone (Nat.le_of_ble_eq_true rfl) hAB.code ⟨hok.addr, hok.nonce, hok.bal, hok.code⟩
                replace k2 := k2.ch x18.ch (by intro hm; first | omega | (subst hm; omega))
                replace hT := hv18
                replace U := U.cc x18.ch (by intro b hb; exact .inl trivial)
                refine l_nil ?_
                refine hK17 _ _ ?_
                refine fg0 (fun g => ?_)
                refine c_seq (fun K19 hK19 => ?_)
                exact (by
                  refine c_region ?_
                  refine l_step y_assignC ?_
                  refine l_nil ?_
                  refine hK19 _ _ ?_
                  refine c_ret ?_
                  repeat with_reducible refine then_ret ?_
                  refine ret1 rfl (res_tmp (et g0 rfl)) ?_
                  subst hxa
                  have h9 := put_gone (v := true) hLy ho hx9 hjr
                  exact ⟨rfl, _, _, _, hT, h9.1, h9.2⟩))))))))
end Go.Proofs.YgvaawGreat
