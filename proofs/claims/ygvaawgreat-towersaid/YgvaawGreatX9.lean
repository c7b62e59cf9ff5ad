import Derived.Test.YgvaawGreatX8
set_option maxRecDepth 100000
set_option maxHeartbeats 4000000
set_option linter.unusedSimpArgs false
set_option linter.unusedVariables false
namespace Go.Proofs.YgvaawGreat
open Go
theorem wv_row32 {w : World} {b o x : Nat} (h : Row w b o (bL (be 32 x))) : WV w.heap.size w (.slice (some ⟨b, o, none⟩) 32 32) (be 32 x) :=
  ⟨be_lt 32 x, .inr ⟨b, o, 32, by rw [length_be], (be_head 31 x).elim fun _ hv => h.blt hv, by rw [length_be]; exact Nat.le_refl _, by decide, h⟩⟩
theorem law_wordsMeet {s0 s1 : Nat} {H : Store} {sa ta : Option Addr} {sc tc : Nat} {xs ys : List Nat} (w : World) (hA : RV P_word 32 s0 H w (.slice sa xs.length sc) xs) (hB : RV P_word 32 s1 H w (.slice ta ys.length tc) ys) (hl : xs.length < 9223372036854775807) (hs0 : s0 ≤ w.heap.size) (hs1 : s1 ≤ w.heap.size) :
    Ret 41 [.slice sa xs.length sc, .slice ta ys.length tc] w (fun v w' => v = .bool (decide (xs = ys)) ∧ Up w w') := by
  refine enter (n := 27) Hvaa.func41 rfl rfl (Nat.le_of_ble_eq_true rfl) ?_
  have U := Up.refl w
  refine c_seq (fun K1 hK1 => ?_)
  exact (by
    refine c_region ?_
    refine l_step y_assignC ?_
    refine l_nil ?_
    refine hK1 _ _ ?_
    refine fg2 1 0 (gS rfl (gS rfl g0)) (gS rfl g0) (fun g => ?_)
    refine c_seq (fun K2 hK2 => ?_)
    refine c_seq (fun K3 hK3 => ?_)
    exact (by
      refine c_region ?_
      refine l_step (y_moveV (et g0 rfl)) ?_
      refine l_step (y_len Hvaa.underlying29 (et g0 rfl)) ?_
      refine l_step (y_moveV (et (gS rfl (gS rfl (gS rfl g0))) rfl)) ?_
      refine l_step (y_len Hvaa.underlying29 (et g0 rfl)) ?_
      refine l_step (y_neq (et (gS rfl (gS rfl g0)) rfl) (et g0 rfl)) ?_
      refine l_nil ?_
      refine hK3 _ _ ?_
      refine fg3 1 0 10 (gS rfl (gS rfl (gS rfl (gS rfl (gS rfl (gS rfl g0)))))) (gS rfl (gS rfl (gS rfl (gS rfl (gS rfl g0))))) g0 (fun g => ?_)
      refine c_cond (et g0 rfl) (fun cB1 => ?_) (fun cB1 => ?_)
      · skip
        
        have hne : xs.length ≠ ys.length := by have := of_decide_eq_true cB1; omega
        refine c_seq (fun K5 hK5 => ?_)
        exact (by
          refine c_region ?_
          refine l_step y_assignC ?_
          refine l_nil ?_
          refine hK5 _ _ ?_
          refine fg1 4 g0 (fun g => ?_)
          refine c_ret ?_
          repeat with_reducible refine then_ret ?_
          refine ret1 rfl (res_tmp (et g0 rfl)) ?_
          exact ⟨by rw [decide_eq_false (fun e => hne (by rw [e]))], U⟩)
      · skip
        
        have hne : xs.length = ys.length := by have := of_decide_eq_false cB1; omega
        refine c_skip ?_
        refine hK2 _ _ ?_
        refine fg2 1 0 (gS rfl (gS rfl g0)) (gS rfl g0) (fun g => ?_)
        refine c_seq (fun K6 hK6 => ?_)
        refine c_seq (fun K7 hK7 => ?_)
        exact (by
          refine c_region ?_
          refine l_step (y_moveV (et g0 rfl)) ?_
          refine l_step (y_len Hvaa.underlying29 (et g0 rfl)) ?_
          refine l_step y_moveC ?_
          refine l_nil ?_
          refine hK7 _ _ ?_
          refine fg4 1 0 12 13 (gS rfl (gS rfl (gS rfl (gS rfl g0)))) (gS rfl (gS rfl (gS rfl g0))) (gS rfl g0) g0 (fun g => ?_)
          refine c_block (fun Q8 hQ8 => ?_)
          refine fg4 0 1 12 13 (gS rfl (gS rfl g0)) (gS rfl (gS rfl (gS rfl g0))) (gS rfl g0) g0 (fun g => ?_)
          refine c_loop (fun k_ s_ W9 => ∃ (g : Nat → Value) (i : Nat), s_ = (upd (upd (upd (upd g 0 (.slice sa xs.length sc)) 1 (.slice ta ys.length tc)) 12 (.int .i64 (xs.length : Nat))) 13 (.int .i64 (i : Nat))) ∧ xs.length - i = k_ ∧ (i ≤ xs.length) ∧ (∀ j, j < i → xs[j]? = ys[j]?) ∧ Ch (fun k => False) w W9) (xs.length - (0)) ?_ ?_
          · exact ⟨g, 0, rfl, rfl, Nat.zero_le _, fun j hj => absurd hj (Nat.not_lt_zero _), Ch.refl _ _⟩
          · skip
            intro k_ s_ W9 hI K9 hK9
            obtain ⟨g, i, rfl, rfl, hi, hall, V9⟩ := hI
            replace hA := hA.ch V9 (by first | exact fun h => h | exact fun _ h => h.elim | exact fun _ _ h => h)
            replace hB := hB.ch V9 (by first | exact fun h => h | exact fun _ h => h.elim | exact fun _ _ h => h)
            replace U := U.cc V9 (by intro b hb; first | exact hb.elim | omega | (simp at hb ⊢; omega))
            refine c_seq (fun K10 hK10 => ?_)
            exact (by
              refine c_region ?_
              refine l_step (y_lss (et g0 rfl) (et (gS rfl g0) rfl)) ?_
              refine l_nil ?_
              refine hK10 _ _ ?_
              refine c_seq (fun K11 hK11 => ?_)
              refine c_cond (et g0 rfl) (fun cB2 => ?_) (fun cB2 => ?_)
              · skip
                
                have hil : i < xs.length := by have := of_decide_eq_true cB2; omega
                refine c_skip ?_
                refine hK11 _ _ ?_
                refine fg4 0 1 12 13 (gS rfl (gS rfl (gS rfl (gS rfl g0)))) (gS rfl (gS rfl (gS rfl g0))) (gS rfl (gS rfl g0)) (gS rfl g0) (fun g => ?_)
                refine c_seq (fun K13 hK13 => ?_)
                refine c_block (fun Q14 hQ14 => ?_)
                refine c_seq (fun K15 hK15 => ?_)
                exact (by
                  refine c_region ?_
                  refine l_step (y_moveV (et g0 rfl)) ?_
                  refine l_step (y_assignV (et g0 rfl)) ?_
                  refine l_nil ?_
                  refine hK15 _ _ ?_
                  refine fg5 0 1 12 13 5 (gS rfl (gS rfl (gS rfl (gS rfl (gS rfl g0))))) (gS rfl (gS rfl (gS rfl (gS rfl g0)))) (gS rfl (gS rfl (gS rfl g0))) (gS rfl (gS rfl g0)) g0 (fun g => ?_)
                  refine c_seq (fun K16 hK16 => ?_)
                  exact (by
                    refine c_draw Up 10 [(0, true), (1, true), (2, true), (3, true), (4, true), (5, true), (6, true), (7, true), (8, false), (9, true)] (by kernel_rfl) (fun w17 hu => ⟨Up.refl _, ?_⟩)
                    replace hA := hA.up hu
                    replace hB := hB.up hu
                    replace U := U.tr hu
                    replace V9 := V9.tr hu
                    have SU := Up.refl w17
                    refine p_step (by exact rfl) (y_moveV (et (gS rfl (gS rfl (gS rfl (gS rfl g0)))) rfl)) ?_
                    refine p_step (by exact rfl) (y_moveV (et (gS rfl g0) rfl)) ?_
                    obtain ⟨bAq, oAq, rAq, eAq, rowA, lenAq, hpA, hwA⟩ := hA.row (i := i) (by omega)
                    rw [hpA] at rowA
                    refine p_step (by exact rfl) (y_idxSa eAq Hvaa.underlying29 sz_28 (et (gS rfl g0) rfl) (et g0 rfl) ?_) ?_
                    omega
                    refine p_step (by exact rfl) (y_slA000 Hvaa.underlying28 sz_5 (et g0 rfl) ) ?_
                    refine p_step (by exact rfl) (y_moveV (et (gS rfl (gS rfl (gS rfl (gS rfl (gS rfl (gS rfl (gS rfl g0))))))) rfl)) ?_
                    refine p_step (by exact rfl) (y_moveV (et (gS rfl (gS rfl (gS rfl (gS rfl (gS rfl g0))))) rfl)) ?_
                    obtain ⟨bBq, oBq, rBq, eBq, rowB, lenBq, hpB, hwB⟩ := hB.row (i := i) (by omega)
                    rw [hpB] at rowB
                    refine p_step (by exact rfl) (y_idxSa eBq Hvaa.underlying29 sz_28 (et (gS rfl g0) rfl) (et g0 rfl) ?_) ?_
                    omega
                    refine p_step (by exact rfl) (y_slA000 Hvaa.underlying28 sz_5 (et g0 rfl) ) ?_
                    refine p_eff (by exact rfl) (e_callV cal_40 (aC (et (gS rfl (gS rfl (gS rfl (gS rfl g0)))) rfl) (aC (et g0 rfl) aN)) (law_equalBytes _ (wv_row32 rowA) (wv_row32 rowB))) (fun v18 w18 h18 => ?_)
                    obtain ⟨rfl, u18⟩ := h18
                    replace hA := hA.up u18
                    replace hB := hB.up u18
                    replace U := U.tr u18
                    replace V9 := V9.tr u18
                    refine ⟨.inr (SU.tr u18), ?_⟩
                    replace SU := SU.tr u18
                    refine p_step (by exact rfl) (y_not (et g0 rfl)) ?_
                    refine p_nil ?_
                    refine hK16 _ _ ?_
                    refine fg5 0 1 12 13 25 (gS rfl (gS rfl (gS rfl (gS rfl (gS rfl (gS rfl (gS rfl (gS rfl (gS rfl (gS rfl (gS rfl (gS rfl (gS rfl (gS rfl g0)))))))))))))) (gS rfl (gS rfl (gS rfl (gS rfl (gS rfl (gS rfl (gS rfl (gS rfl (gS rfl (gS rfl (gS rfl (gS rfl (gS rfl g0))))))))))))) (gS rfl (gS rfl (gS rfl (gS rfl (gS rfl (gS rfl (gS rfl (gS rfl (gS rfl (gS rfl (gS rfl (gS rfl g0)))))))))))) (gS rfl (gS rfl (gS rfl (gS rfl (gS rfl (gS rfl (gS rfl (gS rfl (gS rfl (gS rfl (gS rfl g0))))))))))) g0 (fun g => ?_)
                    refine c_cond (et g0 rfl) (fun cB3 => ?_) (fun cB3 => ?_)
                    · skip
                      
                      have hdf : be 32 xs[i] ≠ be 32 ys[i] := by simpa using cB3
                      refine c_seq (fun K20 hK20 => ?_)
                      exact (by
                        refine c_region ?_
                        refine l_step y_assignC ?_
                        refine l_nil ?_
                        refine hK20 _ _ ?_
                        refine fg1 4 g0 (fun g => ?_)
                        refine c_ret ?_
                        refine hQ14 _ _ _ (in_ret ?_)
                        refine hQ8 _ _ _ (in_ret ?_)
                        repeat with_reducible refine then_ret ?_
                        refine ret1 rfl (res_tmp (et g0 rfl)) ?_
                        exact ⟨by rw [decide_eq_false (fun e => hdf (by subst e; rfl))], U⟩)
                    · skip
                      
                      have heq : xs[i] = ys[i] := (be_inj (W256_pow ▸ hwA) (W256_pow ▸ hwB)).1 (by simpa using cB3)
                      refine c_skip ?_
                      refine hQ14 _ _ _ (in_normal ?_)
                      refine hK13 _ _ ?_
                      refine fg4 0 1 12 13 (gS rfl (gS rfl (gS rfl (gS rfl g0)))) (gS rfl (gS rfl (gS rfl g0))) (gS rfl (gS rfl g0)) (gS rfl g0) (fun g => ?_)
                      refine c_region ?_
                      refine l_step (y_add (et g0 rfl) rfl (addIN (y := 1) ?_)) ?_
                      omega
                      refine l_step (y_moveV (et g0 rfl)) ?_
                      refine l_nil ?_
                      refine fK4 0 1 12 13 (gS rfl (gS rfl (gS rfl (gS rfl (gS rfl g0))))) (gS rfl (gS rfl (gS rfl (gS rfl g0)))) (gS rfl (gS rfl (gS rfl g0))) g0 (fun g => ?_)
                      exact hK9 (xs.length - ((i + 1))) _ _ (by omega) ⟨g, (i + 1), rfl, rfl, by omega, fun j hj => (show j < i ∨ j = i by omega).elim (hall j) (fun e => by rw [e, List.getElem?_eq_getElem hil, List.getElem?_eq_getElem (by omega), heq]), V9⟩))
              · skip
                
                have hil : i = xs.length := by have := of_decide_eq_false cB2; omega
                refine c_exit ?_
                refine hQ8 _ _ _ (in_exit ?_)
                refine hK6 _ _ ?_
                refine fg0 (fun g => ?_)
                refine c_seq (fun K21 hK21 => ?_)
                exact (by
                  refine c_region ?_
                  refine l_step y_assignC ?_
                  refine l_nil ?_
                  refine hK21 _ _ ?_
                  refine c_ret ?_
                  repeat with_reducible refine then_ret ?_
                  refine ret1 rfl (res_tmp (et g0 rfl)) ?_
                  exact ⟨by rw [decide_eq_true (List.ext_getElem? fun j => (Nat.lt_or_ge j i).elim (hall j) (fun h9 => by rw [List.getElem?_eq_none (by omega), List.getElem?_eq_none (by omega)]))], U⟩)))))
end Go.Proofs.YgvaawGreat
