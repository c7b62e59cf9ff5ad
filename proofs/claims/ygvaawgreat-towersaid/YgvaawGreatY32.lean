import Derived.Test.YgvaawGreatApB
set_option maxRecDepth 100000
set_option maxHeartbeats 4000000
set_option linter.unusedSimpArgs false
set_option linter.unusedVariables false
namespace Go.Proofs.YgvaawGreat
open Go
def c2N (a x : Nat) (l : List Nat) : Nat := kecN ([255] ++ be 20 a ++ be 32 x ++ be 32 (kecN l)) % A160
theorem yp_create2Addr (hKec : KSum) {w : World} {H : Store} (hF : Fz w H) {a x : Nat} {vx vb : Value} {l : List Nat} (ha : a < A160) (h1 : NV H vx x) (sX : x < W256) (hB : BV H vb l) (hl : l.length ≤ 1099511627776) :
    Ret 225 [aV a, vx, vb] w (fun v w' => ∃ H', v = aV (c2N a x l) ∧ Go No w H w' H') := by
  refine enter (n := 28) Hvaa.func225 rfl rfl (Nat.le_of_ble_eq_true rfl) ?_
  have U := Up.refl w
  have G : Go (No) w H w H := Go.refl hF
  refine c_seq (fun K1 hK1 => ?_)
  exact (by
    refine c_region ?_
    refine l_eff (e_boxV (et g0 rfl)) (fun v2 w2 h2 => ?_)
    obtain ⟨b2, rfl, n2⟩ := h2
    have f2 : w.heap.size ≤ b2 := Nat.le_trans U.size n2.fresh
    have nb2 := hF.nb n2.fresh
    replace G := G.tr (Go.ofUp hF n2.up)
    replace hF := hF.up n2.up
    replace U := U.tr n2.up
    have k2 := n2.blk
    replace k2 : Blk w2 b2 (bL (be 20 a)).toArray := k2
    refine l_eff (e_alloc zr_25) (fun v3 w3 h3 => ?_)
    obtain ⟨b3, rfl, n3⟩ := h3
    have d2_3 : b2 < b3 := Nat.lt_of_lt_of_le k2.lt n3.fresh
    have f3 : w.heap.size ≤ b3 := Nat.le_trans U.size n3.fresh
    have nb3 := hF.nb n3.fresh
    replace G := G.tr (Go.ofUp hF n3.up)
    replace hF := hF.up n3.up
    replace k2 := k2.up n3.up
    replace U := U.tr n3.up
    have k3 := n3.blk
    refine l_nil ?_
    refine hK1 _ _ ?_
    refine fg4 2 1 3 6 (gS rfl (gS rfl (gS rfl (gS rfl g0)))) (gS rfl (gS rfl (gS rfl g0))) (gS rfl g0) g0 (fun g => ?_)
    refine c_seq (fun K4 hK4 => ?_)
    exact (by
      refine c_region ?_
      refine l_step (y_moveV (et (gS rfl (gS rfl g0)) rfl)) ?_
      refine l_eff (e_callV cal_81 (aC (et g0 rfl) aN) (nat_be32 hF h1 sX)) (fun v5 w5 h5 => ?_)
      obtain ⟨rfl, u5⟩ := h5
      replace G := G.tr (Go.ofUp hF u5)
      replace hF := hF.up u5
      replace k2 := k2.up u5
      replace k3 := k3.up u5
      replace U := U.tr u5
      refine l_step (y_moveV (et g0 rfl)) ?_
      refine l_step (y_ext (et g0 rfl) rfl) ?_
      refine l_step (y_ext (et (gS rfl g0) rfl) rfl) ?_
      refine l_eff (e_alloc zr_27) (fun v6 w6 h6 => ?_)
      obtain ⟨b6, rfl, n6⟩ := h6
      have d2_6 : b2 < b6 := Nat.lt_of_lt_of_le k2.lt n6.fresh
      have d3_6 : b3 < b6 := Nat.lt_of_lt_of_le k3.lt n6.fresh
      have f6 : w.heap.size ≤ b6 := Nat.le_trans U.size n6.fresh
      have nb6 := hF.nb n6.fresh
      replace G := G.tr (Go.ofUp hF n6.up)
      replace hF := hF.up n6.up
      replace k2 := k2.up n6.up
      replace k3 := k3.up n6.up
      replace U := U.tr n6.up
      have k6 := n6.blk
      refine l_effN (e_store sz_27 (et g0 rfl) (cellsV (et (gS rfl (gS rfl g0)) rfl) rfl) (by rw [length_bL, length_be]) (by exact one_bL _) k6 (by exact Nat.le_of_ble_eq_true rfl)) (fun v7 w7 h7 => ?_)
      obtain ⟨rfl, x7⟩ := h7
      replace k2 := k2.ch x7.ch (by omega)
      replace k3 := k3.ch x7.ch (by omega)
      replace k6 := x7.blk.full (by rw [length_bL, length_be]; rfl)
      replace G := G.wr x7 (by first | exact .inr f6 | omega | (simp; omega)) nb6
      replace hF := G.fz
      replace U := U.st x7 f6
      exact (by
        refine l_step (y_assignV (et (gS rfl g0) rfl)) ?_
        refine l_nil ?_
        refine hK4 _ _ ?_
        refine fg4 2 3 6 7 (gS rfl (gS rfl (gS rfl (gS rfl (gS rfl (gS rfl (gS rfl (gS rfl (gS rfl (gS rfl g0)))))))))) (gS rfl (gS rfl (gS rfl (gS rfl (gS rfl (gS rfl (gS rfl (gS rfl g0)))))))) (gS rfl (gS rfl (gS rfl (gS rfl (gS rfl (gS rfl (gS rfl g0))))))) (gS rfl g0) (fun g => ?_)
        refine c_seq (fun K8 hK8 => ?_)
        exact (by
          refine c_region ?_
          refine l_step (y_moveV (et (gS rfl (gS rfl (gS rfl g0))) rfl)) ?_
          refine l_eff (e_callV cal_215 (aC (et g0 rfl) aN) (hKec _ _ _ _ hF hB (hl))) (fun v9 w9 h9 => ?_)
          obtain ⟨rfl, u9⟩ := h9
          replace G := G.tr (Go.ofUp hF u9)
          replace hF := hF.up u9
          replace k2 := k2.up u9
          replace k3 := k3.up u9
          replace k6 := k6.up u9
          replace U := U.tr u9
          refine l_eff (e_alloc zr_27) (fun v10 w10 h10 => ?_)
          obtain ⟨b10, rfl, n10⟩ := h10
          have d2_10 : b2 < b10 := Nat.lt_of_lt_of_le k2.lt n10.fresh
          have d3_10 : b3 < b10 := Nat.lt_of_lt_of_le k3.lt n10.fresh
          have d6_10 : b6 < b10 := Nat.lt_of_lt_of_le k6.lt n10.fresh
          have f10 : w.heap.size ≤ b10 := Nat.le_trans U.size n10.fresh
          have nb10 := hF.nb n10.fresh
          replace G := G.tr (Go.ofUp hF n10.up)
          replace hF := hF.up n10.up
          replace k2 := k2.up n10.up
          replace k3 := k3.up n10.up
          replace k6 := k6.up n10.up
          replace U := U.tr n10.up
          have k10 := n10.blk
          refine l_effN (e_store sz_27 (et g0 rfl) (cellsV (et (gS rfl g0) rfl) rfl) (by rw [length_bL, length_be]) (by exact one_bL _) k10 (by exact Nat.le_of_ble_eq_true rfl)) (fun v11 w11 h11 => ?_)
          obtain ⟨rfl, x11⟩ := h11
          replace k2 := k2.ch x11.ch (by omega)
          replace k3 := k3.ch x11.ch (by omega)
          replace k6 := k6.ch x11.ch (by omega)
          replace k10 := x11.blk.full (by rw [length_bL, length_be]; rfl)
          replace G := G.wr x11 (by first | exact .inr f10 | omega | (simp; omega)) nb10
          replace hF := G.fz
          replace U := U.st x11 f10
          refine l_nil ?_
          refine hK8 _ _ ?_
          refine fg4 3 6 7 9 (gS rfl (gS rfl (gS rfl (gS rfl (gS rfl g0))))) (gS rfl (gS rfl (gS rfl (gS rfl g0)))) (gS rfl (gS rfl (gS rfl g0))) g0 (fun g => ?_)
          refine c_seq (fun K12 hK12 => ?_)
          exact (by
            refine c_region ?_
            obtain ⟨base, hbs⟩ : ∃ base, base = w11.heap.size := ⟨_, rfl⟩
            have hbw : w.heap.size ≤ base := by rw [hbs]; exact U.size
            have hHb : ∀ q, Store.has H q → q < base := fun q hq => by rw [hbs]; exact hF.lt hq
            have hlb2 : b2 < base := by rw [hbs]; exact k2.lt
            have hlb3 : b3 < base := by rw [hbs]; exact k3.lt
            have hlb6 : b6 < base := by rw [hbs]; exact k6.lt
            have hlb10 : b10 < base := by rw [hbs]; exact k10.lt
            refine l_eff (e_bytes1 (q := 255) rfl (by decide)) (fun v13 w13 h13 => ?_)
            obtain ⟨hO, u13⟩ := h13
            replace G := G.tr (Go.ofUp hF u13)
            replace hF := hF.up u13
            replace k2 := k2.up u13
            replace k3 := k3.up u13
            replace k6 := k6.up u13
            replace k10 := k10.up u13
            replace U := U.tr u13
            rw [← hbs] at hO
            have hbW := u13.size
            refine l_step (y_slA000 Hvaa.underlying25 sz_5 (et (gS rfl (gS rfl (gS rfl (gS rfl g0)))) rfl) ) ?_
            have hbz : base ≤ w13.heap.size := by rw [hbs]; exact hbW
            refine l_eff (e_appB Hvaa.underlying38 (et (gS rfl g0) rfl) hO (l2 := be 20 a) (length_be _ _) (et g0 rfl) (k2.row (RowIn.self _)) (be_lt _ _) (by simp only [length_be, List.length_cons, List.length_nil]; omega) hbz) (fun v14 w14 h14 => ?_)
            obtain ⟨hO14, c14⟩ := h14
            have hOo := hO
            replace G := G.chs c14 (by intro b hb; have h9 := hOo.lim b hb.symm; first | exact .inr (by omega) | omega) (by intro q hq hh; have := hHb q hh; have := hOo.lim q hq.symm; omega)
            replace hF := G.fz
            replace k2 := k2.ch c14 (by first | omega | exact hOo.ne (by omega))
            replace k3 := k3.ch c14 (by first | omega | exact hOo.ne (by omega))
            replace k6 := k6.ch c14 (by first | omega | exact hOo.ne (by omega))
            replace k10 := k10.ch c14 (by first | omega | exact hOo.ne (by omega))
            replace hO := hO14
            replace U := U.cc c14 (by intro b hb; have h9 := hOo.lim b hb.symm; first | exact .inr (by omega) | omega)
            exact (by
              refine l_step (y_assignV (et g0 rfl)) ?_
              refine l_nil ?_
              refine hK12 _ _ ?_
              refine fg4 6 7 9 10 (gS rfl (gS rfl (gS rfl (gS rfl (gS rfl (gS rfl g0)))))) (gS rfl (gS rfl (gS rfl (gS rfl (gS rfl g0))))) (gS rfl (gS rfl (gS rfl (gS rfl g0)))) g0 (fun g => ?_)
              refine c_seq (fun K15 hK15 => ?_)
              exact (by
                refine c_region ?_
                refine l_step (y_moveV (et g0 rfl)) ?_
                refine l_step (y_slA000 Hvaa.underlying27 sz_5 (et (gS rfl (gS rfl (gS rfl g0))) rfl) ) ?_
                replace hbz : base ≤ w14.heap.size := Nat.le_trans hbz c14.size
                refine l_eff (e_appB Hvaa.underlying38 (et (gS rfl g0) rfl) hO (l2 := be 32 x) (length_be _ _) (et g0 rfl) (k6.row (RowIn.self _)) (be_lt _ _) (by simp only [length_be, List.length_append, List.length_cons, List.length_nil]; omega) hbz) (fun v16 w16 h16 => ?_)
                obtain ⟨hO16, c16⟩ := h16
                have hOo := hO
                replace G := G.chs c16 (by intro b hb; have h9 := hOo.lim b hb.symm; first | exact .inr (by omega) | omega) (by intro q hq hh; have := hHb q hh; have := hOo.lim q hq.symm; omega)
                replace hF := G.fz
                replace k2 := k2.ch c16 (by first | omega | exact hOo.ne (by omega))
                replace k3 := k3.ch c16 (by first | omega | exact hOo.ne (by omega))
                replace k6 := k6.ch c16 (by first | omega | exact hOo.ne (by omega))
                replace k10 := k10.ch c16 (by first | omega | exact hOo.ne (by omega))
                replace hO := hO16
                replace U := U.cc c16 (by intro b hb; have h9 := hOo.lim b hb.symm; first | exact .inr (by omega) | omega)
                refine l_step (y_assignV (et g0 rfl)) ?_
                refine l_nil ?_
                refine hK15 _ _ ?_
                refine fg3 6 9 10 (gS rfl (gS rfl (gS rfl (gS rfl (gS rfl (gS rfl (gS rfl g0))))))) (gS rfl (gS rfl (gS rfl (gS rfl (gS rfl g0))))) g0 (fun g => ?_)
                refine c_seq (fun K17 hK17 => ?_)
                exact (by
                  refine c_region ?_
                  refine l_step (y_moveV (et g0 rfl)) ?_
                  refine l_step (y_slA000 Hvaa.underlying27 sz_5 (et (gS rfl (gS rfl g0)) rfl) ) ?_
                  replace hbz : base ≤ w16.heap.size := Nat.le_trans hbz c16.size
                  refine l_eff (e_appB Hvaa.underlying38 (et (gS rfl g0) rfl) hO (l2 := be 32 (kecN l)) (length_be _ _) (et g0 rfl) (k10.row (RowIn.self _)) (be_lt _ _) (by simp only [length_be, List.length_append, List.length_cons, List.length_nil]; omega) hbz) (fun v18 w18 h18 => ?_)
                  obtain ⟨hO18, c18⟩ := h18
                  have hOo := hO
                  replace G := G.chs c18 (by intro b hb; have h9 := hOo.lim b hb.symm; first | exact .inr (by omega) | omega) (by intro q hq hh; have := hHb q hh; have := hOo.lim q hq.symm; omega)
                  replace hF := G.fz
                  replace k2 := k2.ch c18 (by first | omega | exact hOo.ne (by omega))
                  replace k3 := k3.ch c18 (by first | omega | exact hOo.ne (by omega))
                  replace k6 := k6.ch c18 (by first | omega | exact hOo.ne (by omega))
                  replace k10 := k10.ch c18 (by first | omega | exact hOo.ne (by omega))
                  replace hO := hO18
                  replace U := U.cc c18 (by intro b hb; have h9 := hOo.lim b hb.symm; first | exact .inr (by omega) | omega)
                  obtain ⟨Hz19, Gz19, hlz19, bvz19, hnz19⟩ := hO.keep' G hbw
                  replace G := Gz19
                  replace hF := G.fz
                  replace h1 := h1.mono hlz19
                  replace hB := hB.mono hlz19
                  replace nb2 := fun hh => (hnz19 _ hh).elim nb2 (fun e => hO.ne (by omega) e)
                  replace nb3 := fun hh => (hnz19 _ hh).elim nb3 (fun e => hO.ne (by omega) e)
                  replace nb6 := fun hh => (hnz19 _ hh).elim nb6 (fun e => hO.ne (by omega) e)
                  replace nb10 := fun hh => (hnz19 _ hh).elim nb10 (fun e => hO.ne (by omega) e)
                  refine l_eff (e_callV cal_124 (aC (et g0 rfl) aN) (yp_hashedAddr hKec hF bvz19 (by simp only [length_be, List.length_append, List.length_cons, List.length_nil]; omega))) (fun v20 w20 h20 => ?_)
                  obtain ⟨rfl, u20⟩ := h20
                  replace G := G.tr (Go.ofUp hF u20)
                  replace hF := hF.up u20
                  replace k2 := k2.up u20
                  replace k3 := k3.up u20
                  replace k6 := k6.up u20
                  replace k10 := k10.up u20
                  replace U := U.tr u20
                  exact (by
                    refine l_effN (e_store sz_25 (et (gS rfl (gS rfl (gS rfl (gS rfl (gS rfl (gS rfl g0)))))) rfl) (cellsV (et g0 rfl) rfl) (by rw [length_bL, length_be]) (by exact one_bL _) k3 (by exact Nat.le_of_ble_eq_true rfl)) (fun v21 w21 h21 => ?_)
                    obtain ⟨rfl, x21⟩ := h21
                    replace k2 := k2.ch x21.ch (by omega)
                    replace k6 := k6.ch x21.ch (by omega)
                    replace k10 := k10.ch x21.ch (by omega)
                    replace k3 := x21.blk.full (by rw [length_bL, length_be]; rfl)
                    replace G := G.wr x21 (by first | exact .inr f3 | omega | (simp; omega)) nb3
                    replace hF := G.fz
                    replace U := U.st x21 f3
                    refine l_nil ?_
                    refine hK17 _ _ ?_
                    refine fg1 6 (gS rfl (gS rfl (gS rfl (gS rfl (gS rfl (gS rfl g0)))))) (fun g => ?_)
                    refine c_ret ?_
                    repeat with_reducible refine then_ret ?_
                    refine ret1 rfl (res_blk agg_25 sz_25 (et g0 rfl) (by rw [List.size_toArray, length_bL, length_be]) k3) ?_
                    exact ⟨_, rfl, G⟩)))))))))
end Go.Proofs.YgvaawGreat
