import Derived.Test.YgvaawGreatE7
set_option maxRecDepth 100000
set_option maxHeartbeats 4000000
set_option linter.unusedSimpArgs false
set_option linter.unusedVariables false
namespace Go.Proofs.YgvaawGreat
open Go
theorem VT.gn {w w1 w2 : World} {H H1 H2 : Store} {col c1 : Nat → Nat} {bc : Nat} {cs cs1 : Array Value} {V : EV} (h : VT w H col bc cs w1 H1 c1 cs1 V) (g : Go No w1 H1 w2 H2) : VT w H col bc cs w2 H2 c1 cs1 V := ⟨h.vl.go g (fun _ h => h.elim), h.out, h.go.tr g, h.col⟩
theorem lg_s21 {B : List Value} {x y z : Value} (h : B.length = 20) : spl (B ++ [x, y]).toArray 21 [z] = (B ++ [x, z]).toArray := by
  apply Array.ext_getElem?
  intro i
  show ((B ++ [x, y]).toArray.setIfInBounds 21 z)[i]? = _
  by_cases e : i = 21
  · subst e
    rw [Array.getElem?_setIfInBounds_self_of_lt (by simp [h]), List.getElem?_toArray, List.getElem?_append_right (by omega), h]
    rfl
  · rw [Array.getElem?_setIfInBounds_ne (by omega), List.getElem?_toArray, List.getElem?_toArray]
    by_cases hi : i < 20
    · rw [List.getElem?_append_left (by omega), List.getElem?_append_left (by omega)]
    · rw [List.getElem?_append_right (by omega), List.getElem?_append_right (by omega), h]
      have : i = 20 ∨ 22 ≤ i := by omega
      rcases this with rfl | h2
      · rfl
      · rw [List.getElem?_eq_none (by simp; omega), List.getElem?_eq_none (by simp; omega)]
theorem lg_s20 {B : List Value} {x y z : Value} (h : B.length = 20) : spl (B ++ [x, y]).toArray 20 [z] = (B ++ [z, y]).toArray := by
  apply Array.ext_getElem?
  intro i
  show ((B ++ [x, y]).toArray.setIfInBounds 20 z)[i]? = _
  by_cases e : i = 20
  · subst e
    rw [Array.getElem?_setIfInBounds_self_of_lt (by simp [h]), List.getElem?_toArray, List.getElem?_append_right (by omega), h]
    rfl
  · rw [Array.getElem?_setIfInBounds_ne (by omega), List.getElem?_toArray, List.getElem?_toArray]
    by_cases hi : i < 20
    · rw [List.getElem?_append_left (by omega), List.getElem?_append_left (by omega)]
    · rw [List.getElem?_append_right (by omega), List.getElem?_append_right (by omega), h]
      have : i = 21 ∨ 22 ≤ i := by omega
      rcases this with rfl | h2
      · rfl
      · rw [List.getElem?_eq_none (by simp; omega), List.getElem?_eq_none (by simp; omega)]
theorem v_putCode {w : World} {H : Store} {col : Nat → Nat} {bc : Nat} {cs : Array Value} {V : EV} (hV : VL w H col bc cs V) (ho : VOk V) (a : Nat) (ha : a < A160) {ca : Option Addr} {cc : Nat} {l : List Nat} (hB : BV H (.slice ca l.length cc) l) (hl : l.length ≤ 256) (na : Nat) (hr : (hasA V a ∧ na = 0) ∨ (V.accts.length < 2560 ∧ na = 1)) (hjr : V.journal.length < 65536) :
    Ret 255 [.pointer (some ⟨bc, 2435, none⟩), aV a, .slice ca l.length cc] w (fun v w' => v = .bool true ∧ ∃ (H' : Store) (col' : Nat → Nat) (cs' : Array Value) (V' : EV), VT w H col bc cs w' H' col' cs' V' ∧ VOk V' ∧ JS V V' (fun A => { A with code := fset A.code a l }) na 0 0 1 0) := by
  have hT := VT.refl hV
  have hnw := hV.new
  have hcC := hV.colC
  have hml := ho.bd.marks
  refine enter (n := 53) Hvaa.func255 rfl rfl (Nat.le_of_ble_eq_true rfl) ?_
  have U : Ch (fun _ => True) w w := Ch.refl _ w
  refine c_seq (fun K1 hK1 => ?_)
  exact (by
    refine c_region ?_
    refine l_eff (e_boxV (et (gS rfl g0) rfl)) (fun v2 w2 h2 => ?_)
    obtain ⟨b2, rfl, n2⟩ := h2
    have f2 : w.heap.size ≤ b2 := Nat.le_trans U.size n2.fresh
    replace hT := hT.up n2.up
    replace U := U.tr n2.up
    have k2 := n2.blk
    replace k2 : Blk w2 b2 (bL (be 20 a)).toArray := k2
    have nc2 : col b2 = 0 := hnw _ f2
    refine l_step y_assignC ?_
    refine l_nil ?_
    refine hK1 _ _ ?_
    refine fg3 2 0 4 (gS rfl (gS rfl (gS rfl (gS rfl g0)))) (gS rfl (gS rfl g0)) (gS rfl g0) (fun g => ?_)
    refine c_seq (fun K3 hK3 => ?_)
    refine c_seq (fun K4 hK4 => ?_)
    exact (by
      refine c_region ?_
      refine l_step (y_moveV (et (gS rfl g0) rfl)) ?_
      refine l_eff (e_callV cal_170 (aC (et g0 rfl) aN) (v_room hT.vl)) (fun v5 w5 h5 => ?_)
      obtain ⟨rfl, u5⟩ := h5
      replace k2 := k2.up u5
      replace hT := hT.up u5
      replace U := U.tr u5
      refine l_step (y_not (et g0 rfl)) ?_
      refine l_step (y_moveV (et g0 rfl)) ?_
      refine gsplitL (i := 12) g0 (fun q6 => ?_) (fun q6 => ?_)
      · skip
        simp at q6; omega
      · skip
        refine l_gstep (j := 3) (t := 12) (by exact rfl) (by exact rfl) (et g0 rfl) (by decide) (y_moveV (et (gS rfl (gS rfl (gS rfl (gS rfl (gS rfl (gS rfl (gS rfl g0))))))) rfl)) ?_
        refine l_gstep (j := 3) (t := 12) (by exact rfl) (by exact rfl) (et (gS rfl g0) rfl) (by decide) (y_len Hvaa.underlying38 (et g0 rfl)) ?_
        refine l_gstep (j := 3) (t := 12) (by exact rfl) (by exact rfl) (et (gS rfl (gS rfl g0)) rfl) (by decide) (y_gtr (et g0 rfl) rfl) ?_
        refine l_step (y_pickF (et (gS rfl (gS rfl (gS rfl g0))) rfl) (et g0 rfl)) ?_
        refine l_nil ?_
        refine hK4 _ _ ?_
        refine fg4 2 0 4 16 (gS rfl (gS rfl (gS rfl (gS rfl (gS rfl (gS rfl (gS rfl (gS rfl (gS rfl (gS rfl (gS rfl g0))))))))))) (gS rfl (gS rfl (gS rfl (gS rfl (gS rfl (gS rfl (gS rfl (gS rfl (gS rfl (gS rfl g0)))))))))) (gS rfl (gS rfl (gS rfl (gS rfl (gS rfl (gS rfl (gS rfl (gS rfl (gS rfl g0))))))))) g0 (fun g => ?_)
        refine c_false (et g0 rfl) (by (first | rfl | (simp; omega))) ?_
        refine c_skip ?_
        refine hK3 _ _ ?_
        refine fg3 2 0 4 (gS rfl (gS rfl (gS rfl g0))) (gS rfl (gS rfl g0)) (gS rfl g0) (fun g => ?_)
        refine c_seq (fun K8 hK8 => ?_)
        exact (by
          refine c_region ?_
          refine l_step (y_moveV (et (gS rfl g0) rfl)) ?_
          refine l_step (y_loadB agg_25 sz_25 (et (gS rfl g0) rfl) (by rw [List.size_toArray, length_bL, length_be]) (at1B k2)) ?_
          have lt2 := k2.lt
          refine l_eff (e_callV cal_82 (aC (et (gS rfl g0) rfl) (aC (et g0 rfl) aN)) (v_acct hT.vl ho a ha na hr)) (fun v9 w9 h9 => ?_)
          obtain ⟨i9, x9, col2, cs2, V2, rfl, hT2, hLy, hx9, hxa, htmE⟩ := h9
          replace k2 := k2.ch hT2.go.ch (by intro hm; omega)
          replace hT := hT.trans hT2
          replace U := U.cc hT2.go.ch (by intro b hb; exact .inl trivial)
          have hq2 := hT2.col
          replace nc2 := (hq2 b2 lt2).trans nc2
          replace hcC := hT2.vl.colC
          replace hml := hLy.ok.bd.marks
          obtain ⟨ba, ca, cap9, vc9, hAA⟩ := hT2.vl.acct hx9
          have hi9 := hAA.lt
          have hac := hAA.col
          have hb9 := hLy.ok.bd.accts
          have hpl : i9 < 12288 := by omega
          have hok := hAA.ok
          have hen := hok.nonce
          have hew := hok.bal
          have heb := hok.code
          obtain ⟨lj9, lk9, hlJ⟩ := hT.vl.lenJ
          have hjl := hLy.j
          obtain ⟨va9, vd9, rfl⟩ := hAA.cd
          refine l_step (y_moveV (et g0 rfl)) ?_
          refine l_step (y_ext (et g0 rfl) rfl) ?_
          refine l_step (y_ext (et (gS rfl g0) rfl) rfl) ?_
          refine l_step (y_assignV (et (gS rfl g0) rfl)) ?_
          refine l_step (y_assignV (et (gS rfl g0) rfl)) ?_
          refine l_nil ?_
          refine hK8 _ _ ?_
          refine fg4 2 0 7 8 (gS rfl (gS rfl (gS rfl (gS rfl (gS rfl (gS rfl (gS rfl (gS rfl (gS rfl (gS rfl g0)))))))))) (gS rfl (gS rfl (gS rfl (gS rfl (gS rfl (gS rfl (gS rfl (gS rfl (gS rfl g0))))))))) (gS rfl g0) g0 (fun g => ?_)
          refine c_seq (fun K10 hK10 => ?_)
          refine c_seq (fun K11 hK11 => ?_)
          exact (by
            refine c_region ?_
            refine l_step (y_moveV (et g0 rfl)) ?_
            refine l_step (y_not (et g0 rfl)) ?_
            refine l_nil ?_
            refine hK11 _ _ ?_
            refine fg4 2 0 7 24 (gS rfl (gS rfl (gS rfl (gS rfl (gS rfl g0))))) (gS rfl (gS rfl (gS rfl (gS rfl g0)))) (gS rfl (gS rfl (gS rfl g0))) g0 (fun g => ?_)
            refine c_false (et g0 rfl) (by rfl) ?_
            refine c_skip ?_
            refine hK10 _ _ ?_
            refine fg3 2 0 7 (gS rfl (gS rfl (gS rfl g0))) (gS rfl (gS rfl g0)) (gS rfl g0) (fun g => ?_)
            refine c_seq (fun K13 hK13 => ?_)
            exact (by
              refine c_draw (Ch (fun k => col2 k = 4)) 19 [(0, true), (1, true), (2, true), (3, true), (4, true), (5, true), (6, true), (7, true), (8, true), (9, true), (10, true), (11, true), (12, true), (13, true), (14, true), (15, false), (16, false), (17, true), (18, true), (19, false)] (by kernel_rfl) (fun w14 hu => ⟨Ch.refl _ _, ?_⟩)
              replace k2 := k2.up hu
              replace hT := hT.up hu
              replace hAA := hAA.up hu
              replace U := U.tr hu
              have SU : (Ch (fun k => col2 k = 4)) w14 w14 := Ch.refl _ _
              refine p_step (by exact rfl) (y_moveV (et (gS rfl g0) rfl)) ?_
              refine p_step (by exact rfl) (y_moveV (et (gS rfl (gS rfl g0)) rfl)) ?_
              refine p_step (by exact rfl) (y_nil (et g0 rfl)) ?_
              refine p_step (by exact rfl) (y_fld fld_84_4 (et g0 rfl)) ?_
              refine p_step (by exact rfl) (y_load1 one_79 (et g0 rfl) (atC (hT.vl.c1 hlJ rfl) (by intro hm; omega))) ?_
              refine p_step (by exact rfl) (y_moveV (et (gS rfl (gS rfl (gS rfl (gS rfl (gS rfl g0))))) rfl)) ?_
              refine p_step (by exact rfl) (y_moveV (et (gS rfl (gS rfl (gS rfl (gS rfl (gS rfl (gS rfl (gS rfl g0))))))) rfl)) ?_
              refine p_step (by exact rfl) (y_nil (et g0 rfl)) ?_
              refine p_step (by exact rfl) (y_fld fld_84_0 (et g0 rfl)) ?_
              refine p_step (by exact rfl) (y_load1 one_76 (et g0 rfl) (atC (hT.vl.c1 hAA.sl rfl) (by intro hm; omega))) ?_
              refine p_step (by exact rfl) (y_moveV (et (gS rfl (gS rfl (gS rfl (gS rfl (gS rfl (gS rfl (gS rfl (gS rfl (gS rfl (gS rfl g0)))))))))) rfl)) ?_
              refine p_step (by exact rfl) (y_idxS Hvaa.underlying76 sz_167 (et (gS rfl g0) rfl) (et g0 rfl) ?_ ?_) ?_
              omega
              omega
              refine p_step (by exact rfl) (y_fld fld_167_3 (et g0 rfl)) ?_
              refine p_step (by exact rfl) (y_load1 one_38 (et g0 rfl) (atC (hAA.cCode (by omega)) (by intro hm; omega))) ?_
              refine p_step (by exact rfl) (y_bldEb (kd := 2) (l := x9.code) rfl (et (gS rfl (gS rfl (gS rfl (gS rfl (gS rfl (gS rfl (gS rfl (gS rfl g0)))))))) rfl) (et g0 rfl)) ?_
              refine p_eff (by exact rfl) (e_slice1 (k := 8) Hvaa.underlying79 sz_218 zr_218 rfl (by decide) (et g0 rfl) (show (eeC (⟨2, i9, 0, 0, x9.code, false⟩ : EEnt) (.slice va9 x9.code.length vd9)).toArray.size = 9 by rw [List.size_toArray, eeC_len _ _])) (fun v15 w15 h15 => ?_)
              obtain ⟨bb15, rfl, nn15⟩ := h15
              replace k2 := k2.up nn15.up
              replace hT := hT.up nn15.up
              replace hAA := hAA.up nn15.up
              replace U := U.tr nn15.up
              have kk15 : Blk w15 bb15 (eeC (⟨2, i9, 0, 0, x9.code, false⟩ : EEnt) (.slice va9 x9.code.length vd9)).toArray := nn15.blk
              refine ⟨.inr (SU.tr nn15.up), ?_⟩
              replace SU := SU.tr nn15.up
              exact (by
                have lt2 := k2.lt
                refine p_eff (by exact rfl) (e_appT (y := (⟨2, i9, 0, 0, x9.code, false⟩ : EEnt)) (news := eeC (⟨2, i9, 0, 0, x9.code, false⟩ : EEnt) (.slice va9 x9.code.length vd9)) Hvaa.underlying79 sz_218 zr_218 by_218 rfl (by decide) (et (gS rfl (gS rfl (gS rfl (gS rfl (gS rfl (gS rfl (gS rfl (gS rfl (gS rfl (gS rfl (gS rfl g0))))))))))) rfl) hT hT.vl.jou hlJ (by decide) (by decide) (et g0 rfl) kk15 (eeC_len _ _) one_eeC ⟨_, rfl, hAA.code, ⟨Nat.le_of_ble_eq_true rfl, by first | exact hpl | exact Nat.le_of_ble_eq_true rfl, by first | exact hen | exact Nat.le_of_ble_eq_true rfl, by first | exact hew | exact Nat.le_of_ble_eq_true rfl, by first | exact heb | exact Nat.le_of_ble_eq_true rfl⟩⟩ (by decide) (by rw [hjl]; omega)) (fun v16 w16 h16 => ?_)
                obtain ⟨hm16, ch16⟩ := h16
                replace k2 := k2.ch ch16 (by intro hm; first | omega | (subst hm; omega))
                replace hAA := hAA.ch ch16 (by intro hm; first | omega | (subst hm; omega))
                replace hT := hm16
                replace U := U.cc ch16 (by intro b hb; exact .inl trivial)
                replace SU := SU.cc ch16 (by intro b hb; first | exact .inl hb | exact hb.elim | omega | (have h9 := hOo.lim b hb.symm; first | exact .inl (by omega) | omega))
                obtain ⟨pa16, pc16, rfl⟩ := hm16.pd.len
                refine ⟨.inr SU, ?_⟩
                refine p_step (by exact rfl) (y_nil (et (gS rfl (gS rfl (gS rfl (gS rfl (gS rfl (gS rfl (gS rfl (gS rfl (gS rfl (gS rfl (gS rfl (gS rfl (gS rfl (gS rfl (gS rfl (gS rfl g0)))))))))))))))) rfl)) ?_
                refine p_step (by exact rfl) (y_fld fld_84_4 (et g0 rfl)) ?_
                refine p_effN (by exact rfl) (e_store sz_79 (et g0 rfl) (cellsV (et (gS rfl (gS rfl g0)) rfl) rfl) rfl (by intro v hv; simp at hv; subst hv; rfl) hT.m.kC (by rw [hT.m.size]; exact Nat.le_of_ble_eq_true rfl)) (fun v17 w17 h17 => ?_)
                obtain ⟨rfl, x17⟩ := h17
                obtain ⟨col4, hv17, hq17⟩ := hT.layJ hml x17
                replace k2 := k2.ch x17.ch (by intro hm; first | omega | (subst hm; omega))
                replace hT := hv17
                replace U := U.cc x17.ch (by intro b hb; exact .inl trivial)
                replace nc2 := (hq17 b2 lt2).trans nc2
                replace hcC := hT.vl.colC
                obtain ⟨bA, cA, capA, vcA, hAB⟩ := hT.vl.acct (x := x9) hx9
                have hi9b : i9 < V2.accts.length := hAB.lt
                have hab := hAB.col
                refine ⟨.inl rfl, ?_⟩
                refine p_nil ?_
                refine hK13 _ _ ?_
                refine fg3 2 0 7 (gS rfl (gS rfl (gS rfl (gS rfl (gS rfl (gS rfl (gS rfl (gS rfl (gS rfl (gS rfl (gS rfl (gS rfl (gS rfl (gS rfl (gS rfl (gS rfl (gS rfl (gS rfl (gS rfl (gS rfl (gS rfl g0))))))))))))))))))))) (gS rfl (gS rfl (gS rfl (gS rfl (gS rfl (gS rfl (gS rfl (gS rfl (gS rfl (gS rfl (gS rfl (gS rfl (gS rfl (gS rfl (gS rfl (gS rfl (gS rfl (gS rfl (gS rfl (gS rfl g0)))))))))))))))))))) (gS rfl (gS rfl (gS rfl (gS rfl (gS rfl (gS rfl (gS rfl (gS rfl (gS rfl (gS rfl (gS rfl (gS rfl (gS rfl (gS rfl (gS rfl (gS rfl (gS rfl (gS rfl (gS rfl g0))))))))))))))))))) (fun g => ?_)
                refine c_seq (fun K18 hK18 => ?_)
                exact (by
                  refine c_draw Up 9 [(0, true), (1, true), (2, true), (3, true), (4, true), (5, true), (6, false), (7, true), (8, true), (9, false)] (by kernel_rfl) (fun w19 hu => ⟨Up.refl _, ?_⟩)
                  replace k2 := k2.up hu
                  replace hT := hT.up hu
                  replace U := U.tr hu
                  have SU := Up.refl w19
                  refine p_step (by exact rfl) (y_moveV (et (gS rfl g0) rfl)) ?_
                  refine p_step (by exact rfl) (y_nil (et g0 rfl)) ?_
                  refine p_step (by exact rfl) (y_fld fld_84_0 (et g0 rfl)) ?_
                  refine p_step (by exact rfl) (y_load1 one_76 (et g0 rfl) (atS (hT.vl.c1 hAB.sl rfl))) ?_
                  refine p_step (by exact rfl) (y_moveV (et (gS rfl (gS rfl (gS rfl (gS rfl g0)))) rfl)) ?_
                  refine p_step (by exact rfl) (y_moveV (et (gS rfl (gS rfl (gS rfl (gS rfl (gS rfl (gS rfl (gS rfl g0))))))) rfl)) ?_
                  refine p_eff (by exact rfl) (e_callV cal_77 (aC (et g0 rfl) aN) (vault_copied _ _ _ _ _ _ hT.vl.fz ((hB.mono hT.go.le).wv hT.vl.fz) (Nat.le_refl _) (by omega))) (fun v20 w20 h20 => ?_)
                  obtain ⟨H20, g20, b20⟩ := h20
                  replace k2 := k2.ch g20.ch (by exact fun h => h)
                  replace hT := hT.gn g20
                  replace U := U.cc g20.ch (by intro b hb; exact .inl trivial)
                  obtain ⟨ya9, yc9, rfl, _⟩ := b20.sv.val
                  have hsl := hAB.sl
                  obtain ⟨bA2, cA2, capA2, vcA2, hAC⟩ := hT.vl.acct (x := x9) hx9
                  have e9 := hAC.sl
                  rw [hsl] at e9
                  cases e9
                  have hfit := hAC.fit
                  have hac2 := hAC.col
                  replace SU := SU.cc g20.ch (by intro b hb; first | exact .inl hb | exact hb.elim | omega)
                  refine ⟨.inr SU, ?_⟩
                  refine p_step (by exact rfl) (y_idxS Hvaa.underlying76 sz_167 (et (gS rfl (gS rfl (gS rfl g0))) rfl) (et (gS rfl (gS rfl g0)) rfl) ?_ ?_) ?_
                  omega
                  exact Int.ofNat_lt.2 hi9b
                  refine p_step (by exact rfl) (y_fld fld_167_3 (et g0 rfl)) ?_
                  refine p_effN (by exact rfl) (e_store sz_38 (et g0 rfl) (cellsV (et (gS rfl (gS rfl g0)) rfl) rfl) rfl (by intro v hv; simp at hv; subst hv; rfl) hAC.kA (by have h9 := hfit; omega)) (fun v21 w21 h21 => ?_)
                  obtain ⟨rfl, x21⟩ := h21
                  have hv21 := hT.setA hAC (j := 25) (y := { x9 with code := l }) (by omega) x21 ea_code (Nat.le_of_ble_eq_true rfl) b20 ⟨hok.addr, hok.nonce, hok.bal, (by show l.length ≤ 512; omega)⟩
                  replace k2 := k2.ch x21.ch (by intro hm; first | omega | (subst hm; omega))
                  replace hT := hv21
                  replace U := U.cc x21.ch (by intro b hb; exact .inl trivial)
                  refine ⟨.inl rfl, ?_⟩
                  refine p_nil ?_
                  refine hK18 _ _ ?_
                  refine fg0 (fun g => ?_)
                  refine c_seq (fun K22 hK22 => ?_)
                  exact (by
                    refine c_region ?_
                    refine l_step y_assignC ?_
                    refine l_nil ?_
                    refine hK22 _ _ ?_
                    refine c_ret ?_
                    repeat with_reducible refine then_ret ?_
                    refine ret1 rfl (res_tmp (et g0 rfl)) ?_
                    subst hxa
                    have h9 := put_code (v := l) hLy ho hx9 hjr
                    exact ⟨rfl, _, _, _, _, hT, h9.1, h9.2⟩))))))))
theorem v_copiedLog {w : World} {H : Store} {lg : YLog} {ta da : Option Addr} {tc dc : Nat} (hF : Fz w H) (hal : lg.addr < A160) (hLt : LV P_word 32 H (.slice ta lg.topics.length tc) lg.topics) (hBd : BV H (.slice da lg.data.length dc) lg.data) (htl : lg.topics.length < 16777216) (hdl : lg.data.length ≤ 1099511627776) :
    Ret 207 [.agg (bL (be 20 lg.addr) ++ [Value.slice ta lg.topics.length tc, Value.slice da lg.data.length dc]).toArray] w (fun v w' => ∃ (H' : Store) (a1 : Option Addr) (c1 : Nat) (a2 : Option Addr) (c2 : Nat), v = .agg (bL (be 20 lg.addr) ++ [Value.slice a1 lg.topics.length c1, Value.slice a2 lg.data.length c2]).toArray ∧ Go No w H w' H' ∧ LV P_word 32 H' (.slice a1 lg.topics.length c1) lg.topics ∧ BV H' (.slice a2 lg.data.length c2) lg.data) := by
  have hF0 := hF
  refine enter (n := 25) Hvaa.func207 rfl rfl (Nat.le_of_ble_eq_true rfl) ?_
  have U := Up.refl w
  have G : Go (No) w H w H := Go.refl hF
  have hL0 : Le H H := Le.refl H
  refine c_seq (fun K1 hK1 => ?_)
  exact (by
    refine c_region ?_
    refine l_eff (e_boxV (et g0 rfl)) (fun v2 w2 h2 => ?_)
    obtain ⟨b2, rfl, n2⟩ := h2
    have f2 : w.heap.size ≤ b2 := Nat.le_trans U.size n2.fresh
    have nb2 := hF.nb n2.fresh
    replace G := G.tr (Go.ofUp hF n2.up)
    replace hF := hF.up n2.up
    replace U := U.tr n2.up
    have k2 := n2.blk
    replace k2 : Blk w2 b2 (bL (be 20 lg.addr) ++ [Value.slice ta lg.topics.length tc, Value.slice da lg.data.length dc]).toArray := k2
    refine l_eff (e_alloc zr_131) (fun v3 w3 h3 => ?_)
    obtain ⟨b3, rfl, n3⟩ := h3
    have d2_3 : b2 < b3 := Nat.lt_of_lt_of_le k2.lt n3.fresh
    have f3 : w.heap.size ≤ b3 := Nat.le_trans U.size n3.fresh
    have nb3 := hF.nb n3.fresh
    replace G := G.tr (Go.ofUp hF n3.up)
    replace hF := hF.up n3.up
    replace k2 := k2.up n3.up
    replace U := U.tr n3.up
    have k3 := n3.blk
    obtain ⟨zs3, hz3, k3⟩ : ∃ cs : Array Value, cs.size = 22 ∧ Blk w3 b3 cs := ⟨_, rfl, k3⟩
    refine l_nil ?_
    refine hK1 _ _ ?_
    refine fg2 1 2 (gS rfl g0) g0 (fun g => ?_)
    refine c_seq (fun K4 hK4 => ?_)
    exact (by
      refine c_region ?_
      refine l_step (y_fld fld_131_2 (et (gS rfl g0) rfl)) ?_
      refine l_step (y_load1 one_38 (et g0 rfl) (at1 (k2.cell ((app20 (i := 1) rfl).trans rfl)))) ?_
      refine l_eff (e_callV cal_77 (aC (et g0 rfl) aN) (vault_copied _ _ _ _ _ _ hF ((hBd.mono hL0).wv hF) (Nat.le_refl _) (by omega))) (fun v5 w5 h5 => ?_)
      obtain ⟨H5, g5, b5⟩ := h5
      have hlew5 := g5.le
      replace nb2 := g5.nb nb2 k2.lt
      replace nb3 := g5.nb nb3 k3.lt
      replace hL0 := hL0.trans hlew5
      replace k2 := k2.up g5.up
      replace k3 := k3.up g5.up
      replace U := U.tr g5.up
      replace G := G.tr g5
      replace hF := g5.fz
      obtain ⟨za, zc, rfl, hzl⟩ := b5.sv.val
      refine l_step (y_fld fld_131_2 (et (gS rfl (gS rfl (gS rfl (gS rfl g0)))) rfl)) ?_
      refine l_effN (e_store sz_38 (et g0 rfl) (cellsV (et (gS rfl g0) rfl) rfl) rfl (by intro v hv; simp at hv; subst hv; rfl) k2 (by (rw [List.size_toArray, len22]; exact Nat.le_of_ble_eq_true rfl))) (fun v6 w6 h6 => ?_)
      obtain ⟨rfl, x6⟩ := h6
      replace k3 := k3.ch x6.ch (by omega)
      replace k2 := x6.blk
      replace G := G.wr x6 (by first | exact .inr f2 | omega | (simp; omega)) nb2
      replace hF := G.fz
      replace U := U.st x6 f2
      rw [lg_s21 (by rw [length_bL, length_be])] at k2
      refine l_nil ?_
      refine hK4 _ _ ?_
      refine fg2 1 2 (gS rfl (gS rfl (gS rfl (gS rfl (gS rfl g0))))) (gS rfl (gS rfl (gS rfl (gS rfl g0)))) (fun g => ?_)
      refine c_seq (fun K7 hK7 => ?_)
      refine c_seq (fun K8 hK8 => ?_)
      exact (by
        refine c_region ?_
        refine l_step (y_fld fld_131_1 (et (gS rfl g0) rfl)) ?_
        refine l_step (y_load1 one_29 (et g0 rfl) (at1 (k2.cell ((app20 (i := 0) rfl).trans rfl)))) ?_
        refine l_step (y_len Hvaa.underlying29 (et g0 rfl)) ?_
        refine l_step (y_eql (et g0 rfl) rfl) ?_
        refine l_nil ?_
        refine hK8 _ _ ?_
        refine fg3 1 2 11 (gS rfl (gS rfl (gS rfl (gS rfl (gS rfl g0))))) (gS rfl (gS rfl (gS rfl (gS rfl g0)))) g0 (fun g => ?_)
        refine c_cond (et g0 rfl) (fun cB1 => ?_) (fun cB1 => ?_)
        · skip
          
          have hz : lg.topics = [] := List.length_eq_zero_iff.1 (by have := of_decide_eq_true cB1; omega)
          refine c_seq (fun K10 hK10 => ?_)
          exact (by
            refine c_region ?_
            refine l_step (y_fld fld_131_1 (et (gS rfl (gS rfl g0)) rfl)) ?_
            refine l_effN (e_store sz_29 (et g0 rfl) (cellsV rfl rfl) rfl (by intro v hv; simp at hv; subst hv; rfl) k2 (by (rw [List.size_toArray, len22]; exact Nat.le_of_ble_eq_true rfl))) (fun v11 w11 h11 => ?_)
            obtain ⟨rfl, x11⟩ := h11
            replace k3 := k3.ch x11.ch (by omega)
            replace k2 := x11.blk
            replace G := G.wr x11 (by first | exact .inr f2 | omega | (simp; omega)) nb2
            replace hF := G.fz
            replace U := U.st x11 f2
            rw [lg_s20 (by rw [length_bL, length_be])] at k2
            refine l_nil ?_
            refine hK10 _ _ ?_
            refine fg2 1 2 (gS rfl (gS rfl (gS rfl g0))) (gS rfl (gS rfl g0)) (fun g => ?_)
            refine c_seq (fun K12 hK12 => ?_)
            exact (by
              refine c_region ?_
              refine l_step (y_loadB agg_131 sz_131 (et (gS rfl g0) rfl) (by rw [List.size_toArray, len22]) (at1B k2)) ?_
              refine l_effN (e_store sz_131 (et (gS rfl g0) rfl) (cellsV (et g0 rfl) rfl) len22 (by exact one_app (one_two rfl rfl)) k3 (by (rw [hz3]; exact Nat.le_refl _))) (fun v13 w13 h13 => ?_)
              obtain ⟨rfl, x13⟩ := h13
              replace k2 := k2.ch x13.ch (by omega)
              replace k3 := x13.blk.full (by rw [len22, hz3])
              replace G := G.wr x13 (by first | exact .inr f3 | omega | (simp; omega)) nb3
              replace hF := G.fz
              replace U := U.st x13 f3
              refine l_nil ?_
              refine hK12 _ _ ?_
              refine fg1 2 (gS rfl g0) (fun g => ?_)
              refine c_ret ?_
              repeat with_reducible refine then_ret ?_
              refine ret1 rfl (res_blk agg_131 sz_131 (et g0 rfl) (by rw [List.size_toArray, len22]) k3) ?_
              exact ⟨_, none, 0, _, _, by rw [hz]; rfl, G, by rw [hz]; exact LV.nil _ _ _, b5⟩))
        · skip
          
          have hz : lg.topics.length ≠ 0 := by have := of_decide_eq_false cB1; omega
          obtain ⟨cs9, hSV, hcl, hcp, hone⟩ := hLt.raw one_words
          obtain ⟨sb, so_, hsa, hsb, hsr⟩ : ∃ b o, ta = some ⟨b, o, none⟩ ∧ Store.has H b ∧ Row w b o cs9.flatten := hSV.at'.elim (fun h => absurd h.2 hz) (fun ⟨b, o, c', ds, e9, g1, g2, g3, g4⟩ => by cases e9; exact ⟨b, o, rfl, ⟨ds, g3⟩, (hF0.blk b ds g3).row g4⟩)
          subst hsa
          replace hsr := hsr.ch G.ch (fun h => h)
          refine c_skip ?_
          refine hK7 _ _ ?_
          refine fg2 1 2 (gS rfl (gS rfl g0)) (gS rfl g0) (fun g => ?_)
          refine c_seq (fun K14 hK14 => ?_)
          exact (by
            refine c_region ?_
            refine l_step (y_fld fld_131_1 (et (gS rfl g0) rfl)) ?_
            refine l_step (y_load1 one_29 (et g0 rfl) (at1 (k2.cell ((app20 (i := 0) rfl).trans rfl)))) ?_
            refine l_step (y_len Hvaa.underlying29 (et g0 rfl)) ?_
            refine l_eff (e_make Hvaa.underlying29 sz_28 zr_28 by_28 (et g0 rfl) (et g0 rfl) (by omega) (by omega)) (fun v15 w15 h15 => ?_)
            obtain ⟨b15, rfl, n15⟩ := h15
            have d2_15 : b2 < b15 := Nat.lt_of_lt_of_le k2.lt n15.fresh
            have d3_15 : b3 < b15 := Nat.lt_of_lt_of_le k3.lt n15.fresh
            have f15 : w.heap.size ≤ b15 := Nat.le_trans U.size n15.fresh
            have nb15 := hF.nb n15.fresh
            replace G := G.tr (Go.ofUp hF n15.up)
            replace hF := hF.up n15.up
            replace k2 := k2.up n15.up
            replace k3 := k3.up n15.up
            replace U := U.tr n15.up
            have k15 := n15.blk
            replace hsr := hsr.up n15.up
            refine l_step (y_assignV (et g0 rfl)) ?_
            refine l_nil ?_
            refine hK14 _ _ ?_
            refine fg3 1 2 3 (gS rfl (gS rfl (gS rfl (gS rfl (gS rfl (gS rfl g0)))))) (gS rfl (gS rfl (gS rfl (gS rfl (gS rfl g0))))) g0 (fun g => ?_)
            refine c_seq (fun K16 hK16 => ?_)
            exact (by
              refine c_region ?_
              refine l_step (y_moveV (et g0 rfl)) ?_
              refine l_step (y_fld fld_131_1 (et (gS rfl (gS rfl (gS rfl g0))) rfl)) ?_
              refine l_step (y_load1 one_29 (et g0 rfl) (at1 (k2.cell ((app20 (i := 0) rfl).trans rfl)))) ?_
              refine l_eff (e_copyK Hvaa.underlying29 sz_28 (et (gS rfl (gS rfl g0)) rfl) (et g0 rfl) (l := cs9.flatten) (by rw [hSV.len, Nat.min_self]) hsr hone k15 (by rw [hSV.len, size_made]; omega)) (fun v17 w17 h17 => ?_)
              obtain ⟨rfl, x17⟩ := h17
              replace G := G.chs x17.ch (by intro b hb; first | omega | exact .inl hb | (simp at hb ⊢; omega)) (by intro q hq; first | (subst hq; assumption) | (simp only at hq; first | (subst hq; assumption) | (rcases hq with rfl | rfl <;> assumption)))
              replace hF := G.fz
              replace k2 := k2.ch x17.ch (by omega)
              replace k3 := k3.ch x17.ch (by omega)
              replace k15 := x17.blk
              replace U := U.cc x17.ch (by intro b hb; first | exact hb ▸ f15 | omega)
              rw [spl_full9 (by rw [hSV.len, size_made])] at k15
              refine l_nil ?_
              refine hK16 _ _ ?_
              refine fg3 1 2 3 (gS rfl (gS rfl (gS rfl (gS rfl (gS rfl (gS rfl g0)))))) (gS rfl (gS rfl (gS rfl (gS rfl (gS rfl g0))))) (gS rfl (gS rfl (gS rfl (gS rfl g0)))) (fun g => ?_)
              refine c_seq (fun K18 hK18 => ?_)
              exact (by
                refine c_region ?_
                refine l_step (y_moveV (et g0 rfl)) ?_
                refine l_step (y_fld fld_131_1 (et (gS rfl (gS rfl (gS rfl g0))) rfl)) ?_
                refine l_effN (e_store sz_29 (et g0 rfl) (cellsV (et (gS rfl g0) rfl) rfl) rfl (by intro v hv; simp at hv; subst hv; rfl) k2 (by (rw [List.size_toArray, len22]; exact Nat.le_of_ble_eq_true rfl))) (fun v19 w19 h19 => ?_)
                obtain ⟨rfl, x19⟩ := h19
                replace k3 := k3.ch x19.ch (by omega)
                replace k15 := k15.ch x19.ch (by omega)
                replace k2 := x19.blk
                replace G := G.wr x19 (by first | exact .inr f2 | omega | (simp; omega)) nb2
                replace hF := G.fz
                replace U := U.st x19 f2
                rw [lg_s20 (by rw [length_bL, length_be])] at k2
                refine l_nil ?_
                refine hK18 _ _ ?_
                refine fg2 1 2 (gS rfl (gS rfl (gS rfl (gS rfl g0)))) (gS rfl (gS rfl (gS rfl g0))) (fun g => ?_)
                refine c_seq (fun K20 hK20 => ?_)
                exact (by
                  refine c_region ?_
                  refine l_step (y_loadB agg_131 sz_131 (et (gS rfl g0) rfl) (by rw [List.size_toArray, len22]) (at1B k2)) ?_
                  refine l_effN (e_store sz_131 (et (gS rfl g0) rfl) (cellsV (et g0 rfl) rfl) len22 (by exact one_app (one_two rfl rfl)) k3 (by (rw [hz3]; exact Nat.le_refl _))) (fun v21 w21 h21 => ?_)
                  obtain ⟨rfl, x21⟩ := h21
                  replace k2 := k2.ch x21.ch (by omega)
                  replace k15 := k15.ch x21.ch (by omega)
                  replace k3 := x21.blk.full (by rw [len22, hz3])
                  replace G := G.wr x21 (by first | exact .inr f3 | omega | (simp; omega)) nb3
                  replace hF := G.fz
                  replace U := U.st x21 f3
                  refine l_nil ?_
                  refine hK20 _ _ ?_
                  refine fg1 2 (gS rfl g0) (fun g => ?_)
                  refine c_ret ?_
                  repeat with_reducible refine then_ret ?_
                  refine ret1 rfl (res_blk agg_131 sz_131 (et g0 rfl) (by rw [List.size_toArray, len22]) k3) ?_
                  obtain ⟨H2, g2, l2, e2⟩ := G.hold k15 f15
                  exact ⟨_, _, _, _, _, rfl, g2, LV.ofNew e2 l2 mono_word rfl (by omega) hcl (fun i c x hc hx => ⟨(hcp i c x hc hx).1, mono_word _ _ _ _ G.le (hcp i c x hc hx).2⟩), b5.mono l2⟩)))))))
end Go.Proofs.YgvaawGreat
