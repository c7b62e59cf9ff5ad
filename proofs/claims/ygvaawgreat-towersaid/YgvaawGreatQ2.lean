import Derived.Test.YgvaawGreatQ1
import Derived.Test.YgvaawGreatX4
set_option maxRecDepth 100000
set_option maxHeartbeats 4000000
set_option linter.unusedSimpArgs false
set_option linter.unusedVariables false
namespace Go.Proofs.YgvaawGreat
open Go
theorem VOk.jn {V : EV} (h : VOk V) : V.journal.length ≤ 65536 := h.bd.journal
theorem abs_js {V V' : EV} {f : AW → AW} {na ns nt nj nl : Nat} (h : JS V V' f na ns nt nj nl) {A : AW} {sv : List AW} {og : Nat → Nat → Nat} (hv : VA V A sv og) : absV V' = f A := (h.va hv).abs
theorem wrm_has {V V' : EV} {a na ns nt nj nl : Nat} (h : JS V V' (wrmF a) na ns nt nj nl) {A : AW} {sv : List AW} {og : Nat → Nat → Nat} (hv : VA V A sv og) : hasA V' a := has_warm (by rw [abs_js h hv]; show fset _ a true a = true; unfold fset; rw [if_pos rfl])
theorem e_warmList {w : World} {H : Store} {col : Nat → Nat} {bc : Nat} {cs : Array Value} {V : EV} (hV : VL w H col bc cs V) (ho : VOk V) {l : List (Nat × List Nat)} {la : Option Addr} {lc : Nat} (hL : LV P_access 21 H (.slice la l.length lc) l) (hls : lsOk l = true) (hr : V.accts.length + 16 ≤ 2560) (hrs : V.slots.length + 64 ≤ 2560) (hjr : V.journal.length + 80 ≤ 65536) {A0 : AW} {sv0 : List AW} {og0 : Nat → Nat → Nat} (hva : VA V A0 sv0 og0) :
    Ret 101 [.pointer (some ⟨bc, 2435, none⟩), .slice la l.length lc] w (fun v w' => v = .tuple #[] ∧ ∃ (col' : Nat → Nat) (cs' : Array Value) (V' : EV), VT w H col bc cs w' H col' cs' V' ∧ VOk V' ∧ JS V V' (lstF l) l.length (keysN l) 0 (l.length + keysN l) 0) := by
  have hT := VT.refl hV
  have hnw := hV.new
  have hcC := hV.colC
  have hml := ho.bd.marks
  have hfz := hV.fz
  have hl16 : l.length ≤ 16 ∧ keysN l ≤ 64 := by
    unfold lsOk at hls
    simp only [Bool.and_eq_true, decide_eq_true_eq] at hls
    exact hls
  refine enter (n := 41) Hvaa.func101 rfl rfl (Nat.le_of_ble_eq_true rfl) ?_
  have U : Ch (fun _ => True) w w := Ch.refl _ w
  refine c_seq (fun K1 hK1 => ?_)
  exact (by
    refine c_region ?_
    refine l_step (y_moveV (et (gS rfl g0) rfl)) ?_
    refine l_step (y_len Hvaa.underlying39 (et g0 rfl)) ?_
    refine l_step y_moveC ?_
    refine l_nil ?_
    refine hK1 _ _ ?_
    refine fg4 0 9 10 11 (gS rfl (gS rfl (gS rfl g0))) (gS rfl (gS rfl g0)) (gS rfl g0) g0 (fun g => ?_)
    refine c_block (fun Q2 hQ2 => ?_)
    refine fg4 0 9 10 11 (gS rfl (gS rfl (gS rfl g0))) (gS rfl (gS rfl g0)) (gS rfl g0) g0 (fun g => ?_)
    refine c_loop (fun k_ s_ W3 => ∃ (g : Nat → Value) (i : Nat) (coli : Nat → Nat) (csi : Array Value) (Vi : EV), s_ = (upd (upd (upd (upd g 0 (.pointer (some ⟨bc, 2435, none⟩))) 9 (.slice la l.length lc)) 10 (.int .i64 (l.length : Nat))) 11 (.int .i64 (i : Nat))) ∧ l.length - i = k_ ∧ (i ≤ l.length) ∧ (VT w H col bc cs W3 H coli csi Vi) ∧ (VOk Vi) ∧ (JS V Vi (lstF (l.take i)) i (keysN (l.take i)) 0 (i + keysN (l.take i)) 0)) (l.length - (0)) ?_ ?_
    · exact ⟨g, 0, _, _, _, rfl, rfl, Nat.zero_le _, hT, ho, by rw [List.take_zero]; exact JS.refl V⟩
    · skip
      intro k_ s_ W3 hI K3 hK3
      obtain ⟨g, i, coli, csi, Vi, rfl, rfl, hi, hT, ho, hJ⟩ := hI
      have U : Ch (fun _ => True) w W3 := hT.go.ch.mono (fun _ _ _ => trivial)
      have hcC := hT.vl.colC
      have hml := ho.bd.marks
      have hnwi := hT.vl.new
      have hji := hJ.nj
      have hai := hJ.na
      have hsi := hJ.ns
      have hkl := keys_le l i
      refine c_seq (fun K4 hK4 => ?_)
      exact (by
        refine c_region ?_
        refine l_step (y_lss (et g0 rfl) (et (gS rfl g0) rfl)) ?_
        refine l_nil ?_
        refine hK4 _ _ ?_
        refine c_seq (fun K5 hK5 => ?_)
        refine c_cond (et g0 rfl) (fun cB1 => ?_) (fun cB1 => ?_)
        · skip
          
          have hil : i < l.length := by have := of_decide_eq_true cB1; omega
          have hkt := keys_take hil
          have hkl2 := keys_le l (i + 1)
          refine c_skip ?_
          refine hK5 _ _ ?_
          refine fg4 0 9 10 11 (gS rfl (gS rfl (gS rfl (gS rfl g0)))) (gS rfl (gS rfl (gS rfl g0))) (gS rfl (gS rfl g0)) (gS rfl g0) (fun g => ?_)
          refine c_seq (fun K7 hK7 => ?_)
          refine c_block (fun Q8 hQ8 => ?_)
          refine c_seq (fun K9 hK9 => ?_)
          exact (by
            refine c_region ?_
            obtain ⟨bq, oq, r, ha0, hrow, hrl, vk, hr1, hal, hvk⟩ := hL.row hT.vl.fz (i := i) hil
            rw [hr1] at hrow hrl
            obtain ⟨ka9, kc9, rfl, hkl9, hkc9⟩ := hvk.val
            refine l_step (y_idxSa ha0 Hvaa.underlying39 sz_143 (et (gS rfl (gS rfl g0)) rfl) (et g0 rfl) ?_) ?_
            omega
            refine l_step (y_loadR agg_143 sz_143 (et g0 rfl) len21 (at1R hrow)) ?_
            have hnwj := hT.vl.new
            refine l_eff (e_alloc zr_143) (fun v10 w10 h10 => ?_)
            obtain ⟨b10, rfl, n10⟩ := h10
            have f10 : w.heap.size ≤ b10 := Nat.le_trans U.size n10.fresh
            replace hT := hT.up n10.up
            replace U := U.tr n10.up
            have k10 := n10.blk
            obtain ⟨zs10, hz10, k10⟩ : ∃ cs : Array Value, cs.size = 21 ∧ Blk w10 b10 cs := ⟨_, rfl, k10⟩
            have nc10 := hnwj _ n10.fresh
            refine l_effN (e_store sz_143 (et g0 rfl) (cellsV (et (gS rfl g0) rfl) rfl) len21 (by exact one_app (one_sgl rfl)) k10 (by (rw [hz10]; exact Nat.le_refl _))) (fun v11 w11 h11 => ?_)
            obtain ⟨rfl, x11⟩ := h11
            replace hT := hT.ch x11.ch (by first | omega | (intro b hb; subst hb; exact ⟨by omega, fun hh => by have := hfz.lt hh; omega, by omega⟩))
            replace k10 := x11.blk.full (by rw [len21, hz10])
            replace U := U.st x11 (.inr f10)
            refine l_nil ?_
            refine hK9 _ _ ?_
            refine fg5 0 9 10 11 5 (gS rfl (gS rfl (gS rfl (gS rfl (gS rfl (gS rfl g0)))))) (gS rfl (gS rfl (gS rfl (gS rfl (gS rfl g0))))) (gS rfl (gS rfl (gS rfl (gS rfl g0)))) (gS rfl (gS rfl (gS rfl g0))) g0 (fun g => ?_)
            refine c_seq (fun K12 hK12 => ?_)
            exact (by
              refine c_region ?_
              refine l_step (y_moveV (et (gS rfl (gS rfl (gS rfl (gS rfl g0)))) rfl)) ?_
              refine l_step (y_fld fld_143_0 (et (gS rfl g0) rfl)) ?_
              refine l_step (y_loadR agg_25 sz_25 (et g0 rfl) (by rw [length_bL, length_be]) (at1R (k10.row (RowIn.app _ _)))) ?_
              refine l_eff (e_callV cal_100 (aC (et (gS rfl (gS rfl g0)) rfl) (aC (et g0 rfl) aN)) (e_warm hT.vl ho l[i].1 hal (by omega) (by omega))) (fun v13 w13 h13 => ?_)
              obtain ⟨rfl, cl13, cs13, V13, t13, ok13, js13⟩ := h13
              have nc10 := (t13.col b10 k10.lt).trans nc10
              replace k10 := k10.ch t13.go.ch (by intro hm; omega)
              replace hT := hT.trans t13
              replace U := U.cc t13.go.ch (by intro b hb; exact .inl trivial)
              have ho := ok13
              have hha := wrm_has js13 (hJ.va hva)
              have hcC := hT.vl.colC
              have hji2 := js13.nj
              have hai2 := js13.na
              have hsi2 := js13.ns
              refine l_nil ?_
              refine hK12 _ _ ?_
              refine fg5 0 9 10 11 5 (gS rfl (gS rfl (gS rfl (gS rfl (gS rfl (gS rfl (gS rfl (gS rfl g0)))))))) (gS rfl (gS rfl (gS rfl (gS rfl (gS rfl (gS rfl (gS rfl g0))))))) (gS rfl (gS rfl (gS rfl (gS rfl (gS rfl (gS rfl g0)))))) (gS rfl (gS rfl (gS rfl (gS rfl (gS rfl g0))))) (gS rfl (gS rfl (gS rfl (gS rfl g0)))) (fun g => ?_)
              refine c_seq (fun K14 hK14 => ?_)
              exact (by
                refine c_region ?_
                refine l_step (y_fld fld_143_1 (et g0 rfl)) ?_
                refine l_step (y_load1 one_29 (et g0 rfl) (at1 (k10.cell ((app20 (i := 0) rfl).trans rfl)))) ?_
                refine l_step (y_len Hvaa.underlying29 (et g0 rfl)) ?_
                refine l_step y_moveC ?_
                refine l_nil ?_
                refine hK14 _ _ ?_
                refine fg8 0 9 10 11 5 20 21 22 (gS rfl (gS rfl (gS rfl (gS rfl (gS rfl (gS rfl (gS rfl (gS rfl g0)))))))) (gS rfl (gS rfl (gS rfl (gS rfl (gS rfl (gS rfl (gS rfl g0))))))) (gS rfl (gS rfl (gS rfl (gS rfl (gS rfl (gS rfl g0)))))) (gS rfl (gS rfl (gS rfl (gS rfl (gS rfl g0))))) (gS rfl (gS rfl (gS rfl (gS rfl g0)))) (gS rfl (gS rfl g0)) (gS rfl g0) g0 (fun g => ?_)
                refine c_block (fun Q15 hQ15 => ?_)
                refine fg8 0 5 9 10 11 20 21 22 (gS rfl (gS rfl (gS rfl (gS rfl (gS rfl (gS rfl (gS rfl g0))))))) (gS rfl (gS rfl (gS rfl g0))) (gS rfl (gS rfl (gS rfl (gS rfl (gS rfl (gS rfl g0)))))) (gS rfl (gS rfl (gS rfl (gS rfl (gS rfl g0))))) (gS rfl (gS rfl (gS rfl (gS rfl g0)))) (gS rfl (gS rfl g0)) (gS rfl g0) g0 (fun g => ?_)
                refine c_loop (fun k_ s_ W16 => ∃ (g : Nat → Value) (j : Nat) (colj : Nat → Nat) (csj : Array Value) (Vj : EV), s_ = (upd (upd (upd (upd (upd (upd (upd (upd g 0 (.pointer (some ⟨bc, 2435, none⟩))) 5 (.pointer (some ⟨b10, 0, none⟩))) 9 (.slice la l.length lc)) 10 (.int .i64 (l.length : Nat))) 11 (.int .i64 (i : Nat))) 20 (.slice ka9 l[i].2.length kc9)) 21 (.int .i64 (l[i].2.length : Nat))) 22 (.int .i64 (j : Nat))) ∧ l[i].2.length - j = k_ ∧ (j ≤ l[i].2.length) ∧ (VT w H col bc cs W16 H colj csj Vj) ∧ (VOk Vj) ∧ (JS Vi Vj (fun A => keyF l[i].1 (l[i].2.take j) (wrmF l[i].1 A)) 1 j 0 (1 + j) 0) ∧ (hasA Vj l[i].1) ∧ (colj b10 = 0) ∧ (Blk W16 b10 ((bL (be 20 l[i].1) ++ [Value.slice ka9 l[i].2.length kc9]).toArray))) (l[i].2.length - (0)) ?_ ?_
                · exact ⟨g, 0, _, _, _, rfl, rfl, Nat.zero_le _, hT, ho, by rw [List.take_zero]; exact js13, hha, nc10, k10⟩
                · skip
                  intro k_ s_ W16 hI K16 hK16
                  clear k10
                  obtain ⟨g, j, colj, csj, Vj, rfl, rfl, hj, hT, ho, hJ2, hha, nc5, k10⟩ := hI
                  have U : Ch (fun _ => True) w W16 := hT.go.ch.mono (fun _ _ _ => trivial)
                  have nc10 := nc5
                  have hcC := hT.vl.colC
                  have hml := ho.bd.marks
                  have hnwi := hT.vl.new
                  have hjj := hJ2.nj
                  have haj := hJ2.na
                  have hsj := hJ2.ns
                  refine c_seq (fun K17 hK17 => ?_)
                  exact (by
                    refine c_region ?_
                    refine l_step (y_lss (et g0 rfl) (et (gS rfl g0) rfl)) ?_
                    refine l_nil ?_
                    refine hK17 _ _ ?_
                    refine c_seq (fun K18 hK18 => ?_)
                    refine c_cond (et g0 rfl) (fun cB2 => ?_) (fun cB2 => ?_)
                    · skip
                      
                      have hjl : j < l[i].2.length := by have := of_decide_eq_true cB2; omega
                      refine c_skip ?_
                      refine hK18 _ _ ?_
                      refine fg8 0 5 9 10 11 20 21 22 (gS rfl (gS rfl (gS rfl (gS rfl (gS rfl (gS rfl (gS rfl (gS rfl g0)))))))) (gS rfl (gS rfl (gS rfl (gS rfl (gS rfl (gS rfl (gS rfl g0))))))) (gS rfl (gS rfl (gS rfl (gS rfl (gS rfl (gS rfl g0)))))) (gS rfl (gS rfl (gS rfl (gS rfl (gS rfl g0))))) (gS rfl (gS rfl (gS rfl (gS rfl g0)))) (gS rfl (gS rfl (gS rfl g0))) (gS rfl (gS rfl g0)) (gS rfl g0) (fun g => ?_)
                      refine c_seq (fun K20 hK20 => ?_)
                      refine c_block (fun Q21 hQ21 => ?_)
                      refine c_seq (fun K22 hK22 => ?_)
                      exact (by
                        refine c_region ?_
                        obtain ⟨bk, ok, rk, ha1, hrow1, hrl1, hrk1, hkb⟩ := hvk.row hT.vl.fz (i := j) hjl
                        rw [hrk1] at hrow1 hrl1
                        refine l_step (y_idxSa ha1 Hvaa.underlying29 sz_28 (et (gS rfl (gS rfl g0)) rfl) (et g0 rfl) ?_) ?_
                        omega
                        refine l_step (y_loadR agg_28 sz_28 (et g0 rfl) (by rw [length_bL, length_be]) (at1R hrow1)) ?_
                        have hnwj := hT.vl.new
                        refine l_eff (e_alloc zr_28) (fun v23 w23 h23 => ?_)
                        obtain ⟨b23, rfl, n23⟩ := h23
                        have d10_23 : b10 < b23 := Nat.lt_of_lt_of_le k10.lt n23.fresh
                        have f23 : w.heap.size ≤ b23 := Nat.le_trans U.size n23.fresh
                        replace k10 := k10.up n23.up
                        replace hT := hT.up n23.up
                        replace U := U.tr n23.up
                        have k23 := n23.blk
                        obtain ⟨zs23, hz23, k23⟩ : ∃ cs : Array Value, cs.size = 32 ∧ Blk w23 b23 cs := ⟨_, rfl, k23⟩
                        have nc23 := hnwj _ n23.fresh
                        refine l_effN (e_store sz_28 (et g0 rfl) (cellsV (et (gS rfl g0) rfl) rfl) (by rw [length_bL, length_be]) (by exact one_bL _) k23 (by (rw [hz23]; exact Nat.le_refl _))) (fun v24 w24 h24 => ?_)
                        obtain ⟨rfl, x24⟩ := h24
                        replace k10 := k10.ch x24.ch (by omega)
                        replace hT := hT.ch x24.ch (by first | omega | (intro b hb; subst hb; exact ⟨by omega, fun hh => by have := hfz.lt hh; omega, by omega⟩))
                        replace k23 := x24.blk.full (by rw [length_bL, length_be, hz23])
                        replace U := U.st x24 (.inr f23)
                        refine l_nil ?_
                        refine hK22 _ _ ?_
                        refine fg9 0 5 9 10 11 20 21 22 7 (gS rfl (gS rfl (gS rfl (gS rfl (gS rfl (gS rfl (gS rfl (gS rfl (gS rfl (gS rfl g0)))))))))) (gS rfl (gS rfl (gS rfl (gS rfl (gS rfl (gS rfl (gS rfl (gS rfl (gS rfl g0))))))))) (gS rfl (gS rfl (gS rfl (gS rfl (gS rfl (gS rfl (gS rfl (gS rfl g0)))))))) (gS rfl (gS rfl (gS rfl (gS rfl (gS rfl (gS rfl (gS rfl g0))))))) (gS rfl (gS rfl (gS rfl (gS rfl (gS rfl (gS rfl g0)))))) (gS rfl (gS rfl (gS rfl (gS rfl (gS rfl g0))))) (gS rfl (gS rfl (gS rfl (gS rfl g0)))) (gS rfl (gS rfl (gS rfl g0))) g0 (fun g => ?_)
                        refine c_seq (fun K25 hK25 => ?_)
                        exact (by
                          refine c_region ?_
                          refine l_step (y_loadB agg_28 sz_28 (et g0 rfl) (by rw [List.size_toArray, length_bL, length_be]) (at1B k23)) ?_
                          refine l_eff (e_callV cal_83 (aC (et g0 rfl) aN) (fromBytes_spec _ _)) (fun v26 w26 h26 => ?_)
                          obtain ⟨rfl, u26⟩ := h26
                          replace k10 := k10.up u26
                          replace k23 := k23.up u26
                          replace hT := hT.up u26
                          replace U := U.tr u26
                          have hnwj := hT.vl.new
                          refine l_eff (e_alloc zr_65) (fun v27 w27 h27 => ?_)
                          obtain ⟨b27, rfl, n27⟩ := h27
                          have d10_27 : b10 < b27 := Nat.lt_of_lt_of_le k10.lt n27.fresh
                          have d23_27 : b23 < b27 := Nat.lt_of_lt_of_le k23.lt n27.fresh
                          have f27 : w.heap.size ≤ b27 := Nat.le_trans U.size n27.fresh
                          replace k10 := k10.up n27.up
                          replace k23 := k23.up n27.up
                          replace hT := hT.up n27.up
                          replace U := U.tr n27.up
                          have k27 := n27.blk
                          obtain ⟨zs27, hz27, k27⟩ : ∃ cs : Array Value, cs.size = 4 ∧ Blk w27 b27 cs := ⟨_, rfl, k27⟩
                          have nc27 := hnwj _ n27.fresh
                          refine l_effN (e_store sz_65 (et g0 rfl) (cellsV (et (gS rfl g0) rfl) rfl) rfl (by exact one_uL _) k27 (by (first | (rw [hz27]; exact Nat.le_refl _) | (rw [List.size_toArray, wL_len]; exact Nat.le_refl _)))) (fun v28 w28 h28 => ?_)
                          obtain ⟨rfl, x28⟩ := h28
                          replace k10 := k10.ch x28.ch (by omega)
                          replace k23 := k23.ch x28.ch (by omega)
                          replace hT := hT.ch x28.ch (by first | omega | (intro b hb; subst hb; exact ⟨by omega, fun hh => by have := hfz.lt hh; omega, by omega⟩))
                          replace k27 := x28.blk.full (by first | (rw [hz27]; rfl) | (rw [List.size_toArray, wL_len, wL_len]))
                          replace U := U.st x28 (.inr f27)
                          refine l_nil ?_
                          refine hK25 _ _ ?_
                          refine fg9 0 5 9 10 11 20 21 22 8 (gS rfl (gS rfl (gS rfl (gS rfl (gS rfl (gS rfl (gS rfl (gS rfl (gS rfl (gS rfl (gS rfl g0))))))))))) (gS rfl (gS rfl (gS rfl (gS rfl (gS rfl (gS rfl (gS rfl (gS rfl (gS rfl (gS rfl g0)))))))))) (gS rfl (gS rfl (gS rfl (gS rfl (gS rfl (gS rfl (gS rfl (gS rfl (gS rfl g0))))))))) (gS rfl (gS rfl (gS rfl (gS rfl (gS rfl (gS rfl (gS rfl (gS rfl g0)))))))) (gS rfl (gS rfl (gS rfl (gS rfl (gS rfl (gS rfl (gS rfl g0))))))) (gS rfl (gS rfl (gS rfl (gS rfl (gS rfl (gS rfl g0)))))) (gS rfl (gS rfl (gS rfl (gS rfl (gS rfl g0))))) (gS rfl (gS rfl (gS rfl (gS rfl g0)))) g0 (fun g => ?_)
                          refine c_seq (fun K29 hK29 => ?_)
                          exact (by
                            refine c_region ?_
                            refine l_step (y_moveV (et (gS rfl (gS rfl (gS rfl (gS rfl (gS rfl (gS rfl (gS rfl (gS rfl g0)))))))) rfl)) ?_
                            refine l_step (y_fld fld_143_0 (et (gS rfl (gS rfl (gS rfl (gS rfl (gS rfl (gS rfl (gS rfl (gS rfl g0)))))))) rfl)) ?_
                            refine l_step (y_loadR agg_25 sz_25 (et g0 rfl) (by rw [length_bL, length_be]) (at1R (k10.row (RowIn.app _ _)))) ?_
                            refine l_step (y_loadB agg_65 sz_65 (et (gS rfl (gS rfl (gS rfl g0))) rfl) rfl (at1B k27)) ?_
                            refine l_eff (e_callV cal_174 (aC (et (gS rfl (gS rfl (gS rfl g0))) rfl) (aC (et (gS rfl g0) rfl) (aC (et g0 rfl) aN))) (v_isWarmSlot hT.vl ho l[i].1 l[i].2[j] hal hkb)) (fun v30 w30 h30 => ?_)
                            obtain ⟨rfl, u30⟩ := h30
                            replace k10 := k10.up u30
                            replace k23 := k23.up u30
                            replace k27 := k27.up u30
                            replace hT := hT.up u30
                            replace U := U.tr u30
                            refine l_step (y_not (et g0 rfl)) ?_
                            refine l_nil ?_
                            refine hK29 _ _ ?_
                            refine fg10 0 5 9 10 11 20 21 22 8 33 (gS rfl (gS rfl (gS rfl (gS rfl (gS rfl (gS rfl (gS rfl (gS rfl (gS rfl (gS rfl (gS rfl (gS rfl (gS rfl (gS rfl g0)))))))))))))) (gS rfl (gS rfl (gS rfl (gS rfl (gS rfl (gS rfl (gS rfl (gS rfl (gS rfl (gS rfl (gS rfl (gS rfl (gS rfl g0))))))))))))) (gS rfl (gS rfl (gS rfl (gS rfl (gS rfl (gS rfl (gS rfl (gS rfl (gS rfl (gS rfl (gS rfl (gS rfl g0)))))))))))) (gS rfl (gS rfl (gS rfl (gS rfl (gS rfl (gS rfl (gS rfl (gS rfl (gS rfl (gS rfl (gS rfl g0))))))))))) (gS rfl (gS rfl (gS rfl (gS rfl (gS rfl (gS rfl (gS rfl (gS rfl (gS rfl (gS rfl g0)))))))))) (gS rfl (gS rfl (gS rfl (gS rfl (gS rfl (gS rfl (gS rfl (gS rfl (gS rfl g0))))))))) (gS rfl (gS rfl (gS rfl (gS rfl (gS rfl (gS rfl (gS rfl (gS rfl g0)))))))) (gS rfl (gS rfl (gS rfl (gS rfl (gS rfl (gS rfl (gS rfl g0))))))) (gS rfl (gS rfl (gS rfl (gS rfl (gS rfl (gS rfl g0)))))) g0 (fun g => ?_)
                            refine c_cond (et g0 rfl) (fun cB3 => ?_) (fun cB3 => ?_)
                            · skip
                              
                              have hw : (absV Vj).warmS l[i].1 l[i].2[j] = false := by revert cB3; cases (absV Vj).warmS l[i].1 l[i].2[j] <;> simp
                              exact (by
                                refine c_region ?_
                                refine l_step (y_moveV (et (gS rfl (gS rfl (gS rfl (gS rfl (gS rfl (gS rfl (gS rfl (gS rfl (gS rfl g0))))))))) rfl)) ?_
                                refine l_step (y_fld fld_143_0 (et (gS rfl (gS rfl (gS rfl (gS rfl (gS rfl (gS rfl (gS rfl (gS rfl (gS rfl g0))))))))) rfl)) ?_
                                refine l_step (y_loadR agg_25 sz_25 (et g0 rfl) (by rw [length_bL, length_be]) (at1R (k10.row (RowIn.app _ _)))) ?_
                                refine l_step (y_loadB agg_65 sz_65 (et (gS rfl (gS rfl (gS rfl (gS rfl g0)))) rfl) rfl (at1B k27)) ?_
                                refine l_eff (e_callV cal_175 (aC (et (gS rfl (gS rfl (gS rfl g0))) rfl) (aC (et (gS rfl g0) rfl) (aC (et g0 rfl) aN))) (v_warmSlot hT.vl ho l[i].1 l[i].2[j] hal hkb 0 1 (.inl ⟨hha, rfl⟩) (.inr ⟨by omega, rfl⟩) (by omega))) (fun v32 w32 h32 => ?_)
                                obtain ⟨rfl, cl32, cs32, V32, t32, ok32, js32⟩ := h32
                                have nc10 := (t32.col b10 k10.lt).trans nc10
                                have nc23 := (t32.col b23 k23.lt).trans nc23
                                have nc27 := (t32.col b27 k27.lt).trans nc27
                                replace k10 := k10.ch t32.go.ch (by intro hm; omega)
                                replace k23 := k23.ch t32.go.ch (by intro hm; omega)
                                replace k27 := k27.ch t32.go.ch (by intro hm; omega)
                                replace hT := hT.trans t32
                                replace U := U.cc t32.go.ch (by intro b hb; exact .inl trivial)
                                have ho := ok32
                                have hha := js32.ha _ hha
                                have hJ3 := ((hJ2.trans js32).ex (g := fun A => keyF l[i].1 (l[i].2.take (j + 1)) (wrmF l[i].1 A)) (fun A => (keyF_take (a := l[i].1) hjl (wrmF l[i].1 A)).symm)).le (na' := 1) (ns' := j + 1) (nt' := 0) (nj' := 1 + (j + 1)) (nl' := 0) (by omega) (by omega) (by omega) (by omega) (by omega)
                                refine l_nil ?_
                                refine hQ21 _ _ _ (in_normal ?_)
                                refine hK20 _ _ ?_
                                refine fg8 0 5 9 10 11 20 21 22 (gS rfl (gS rfl (gS rfl (gS rfl (gS rfl (gS rfl (gS rfl (gS rfl (gS rfl (gS rfl (gS rfl (gS rfl (gS rfl (gS rfl g0)))))))))))))) (gS rfl (gS rfl (gS rfl (gS rfl (gS rfl (gS rfl (gS rfl (gS rfl (gS rfl (gS rfl (gS rfl (gS rfl (gS rfl g0))))))))))))) (gS rfl (gS rfl (gS rfl (gS rfl (gS rfl (gS rfl (gS rfl (gS rfl (gS rfl (gS rfl (gS rfl (gS rfl g0)))))))))))) (gS rfl (gS rfl (gS rfl (gS rfl (gS rfl (gS rfl (gS rfl (gS rfl (gS rfl (gS rfl (gS rfl g0))))))))))) (gS rfl (gS rfl (gS rfl (gS rfl (gS rfl (gS rfl (gS rfl (gS rfl (gS rfl (gS rfl g0)))))))))) (gS rfl (gS rfl (gS rfl (gS rfl (gS rfl (gS rfl (gS rfl (gS rfl (gS rfl g0))))))))) (gS rfl (gS rfl (gS rfl (gS rfl (gS rfl (gS rfl (gS rfl (gS rfl g0)))))))) (gS rfl (gS rfl (gS rfl (gS rfl (gS rfl (gS rfl (gS rfl g0))))))) (fun g => ?_)
                                refine c_region ?_
                                refine l_step (y_add (et g0 rfl) rfl (addIN (y := 1) ?_)) ?_
                                omega
                                refine l_step (y_moveV (et g0 rfl)) ?_
                                refine l_nil ?_
                                refine fK8 0 5 9 10 11 20 21 22 (gS rfl (gS rfl (gS rfl (gS rfl (gS rfl (gS rfl (gS rfl (gS rfl (gS rfl g0))))))))) (gS rfl (gS rfl (gS rfl (gS rfl (gS rfl (gS rfl (gS rfl (gS rfl g0)))))))) (gS rfl (gS rfl (gS rfl (gS rfl (gS rfl (gS rfl (gS rfl g0))))))) (gS rfl (gS rfl (gS rfl (gS rfl (gS rfl (gS rfl g0)))))) (gS rfl (gS rfl (gS rfl (gS rfl (gS rfl g0))))) (gS rfl (gS rfl (gS rfl (gS rfl g0)))) (gS rfl (gS rfl (gS rfl g0))) g0 (fun g => ?_)
                                exact hK16 (l[i].2.length - ((j + 1))) _ _ (by omega) ⟨g, (j + 1), _, _, _, rfl, rfl, by omega, hT, ho, hJ3, hha, nc10, k10⟩)
                            · skip
                              
                              have hw : (absV Vj).warmS l[i].1 l[i].2[j] = true := by revert cB3; cases (absV Vj).warmS l[i].1 l[i].2[j] <;> simp
                              have hJ3 := ((hJ2.trans (JS.same (wrs_same hw) 0 1 0 1 0)).ex (fun A => (keyF_take (a := l[i].1) hjl (wrmF l[i].1 A)).symm)).le (Nat.le_refl _) (Nat.le_refl _) (Nat.le_refl _) (Nat.le_of_eq (Nat.add_assoc _ _ _)) (Nat.le_refl _)
                              refine c_skip ?_
                              refine hQ21 _ _ _ (in_normal ?_)
                              refine hK20 _ _ ?_
                              refine fg8 0 5 9 10 11 20 21 22 (gS rfl (gS rfl (gS rfl (gS rfl (gS rfl (gS rfl (gS rfl (gS rfl (gS rfl g0))))))))) (gS rfl (gS rfl (gS rfl (gS rfl (gS rfl (gS rfl (gS rfl (gS rfl g0)))))))) (gS rfl (gS rfl (gS rfl (gS rfl (gS rfl (gS rfl (gS rfl g0))))))) (gS rfl (gS rfl (gS rfl (gS rfl (gS rfl (gS rfl g0)))))) (gS rfl (gS rfl (gS rfl (gS rfl (gS rfl g0))))) (gS rfl (gS rfl (gS rfl (gS rfl g0)))) (gS rfl (gS rfl (gS rfl g0))) (gS rfl (gS rfl g0)) (fun g => ?_)
                              refine c_region ?_
                              refine l_step (y_add (et g0 rfl) rfl (addIN (y := 1) ?_)) ?_
                              omega
                              refine l_step (y_moveV (et g0 rfl)) ?_
                              refine l_nil ?_
                              refine fK8 0 5 9 10 11 20 21 22 (gS rfl (gS rfl (gS rfl (gS rfl (gS rfl (gS rfl (gS rfl (gS rfl (gS rfl g0))))))))) (gS rfl (gS rfl (gS rfl (gS rfl (gS rfl (gS rfl (gS rfl (gS rfl g0)))))))) (gS rfl (gS rfl (gS rfl (gS rfl (gS rfl (gS rfl (gS rfl g0))))))) (gS rfl (gS rfl (gS rfl (gS rfl (gS rfl (gS rfl g0)))))) (gS rfl (gS rfl (gS rfl (gS rfl (gS rfl g0))))) (gS rfl (gS rfl (gS rfl (gS rfl g0)))) (gS rfl (gS rfl (gS rfl g0))) g0 (fun g => ?_)
                              exact hK16 (l[i].2.length - ((j + 1))) _ _ (by omega) ⟨g, (j + 1), _, _, _, rfl, rfl, by omega, hT, ho, hJ3, hha, nc10, k10⟩)))
                    · skip
                      
                      have hjl : j = l[i].2.length := by have := of_decide_eq_false cB2; omega
                      rw [hjl, List.take_length] at hJ2
                      refine c_exit ?_
                      refine hQ15 _ _ _ (in_exit ?_)
                      refine hQ8 _ _ _ (in_normal ?_)
                      refine hK7 _ _ ?_
                      refine fg4 0 9 10 11 (gS rfl (gS rfl (gS rfl (gS rfl (gS rfl (gS rfl (gS rfl (gS rfl g0)))))))) (gS rfl (gS rfl (gS rfl (gS rfl (gS rfl (gS rfl g0)))))) (gS rfl (gS rfl (gS rfl (gS rfl (gS rfl g0))))) (gS rfl (gS rfl (gS rfl (gS rfl g0)))) (fun g => ?_)
                      exact (by
                        refine c_region ?_
                        refine l_step (y_add (et g0 rfl) rfl (addIN (y := 1) ?_)) ?_
                        omega
                        refine l_step (y_moveV (et g0 rfl)) ?_
                        refine l_nil ?_
                        refine fK4 0 9 10 11 (gS rfl (gS rfl (gS rfl (gS rfl (gS rfl g0))))) (gS rfl (gS rfl (gS rfl (gS rfl g0)))) (gS rfl (gS rfl (gS rfl g0))) g0 (fun g => ?_)
                        exact hK3 (l.length - ((i + 1))) _ _ (by omega) ⟨g, (i + 1), _, _, _, rfl, rfl, by omega, hT, ho, by have hk9 := keys_take hil; exact ((hJ.trans hJ2).ex (fun A => (lstF_take hil A).symm)).le (by omega) (by omega) (by omega) (by omega) (by omega)⟩)))))
        · skip
          
          have hil : i = l.length := by have := of_decide_eq_false cB1; omega
          subst hil
          rw [List.take_length] at hJ
          refine c_exit ?_
          refine hQ2 _ _ _ (in_exit ?_)
          refine end0 rfl ?_
          exact ⟨rfl, _, _, _, hT, ho, hJ⟩))
end Go.Proofs.YgvaawGreat
