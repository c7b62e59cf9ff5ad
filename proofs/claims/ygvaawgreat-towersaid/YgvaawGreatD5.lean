import Derived.Test.YgvaawGreatD4
set_option maxRecDepth 100000
set_option linter.unusedSimpArgs false
set_option linter.unusedVariables false
namespace Go.Proofs.YgvaawGreat
open Go
theorem val_snoc_lt (l m : List Nat) (x y : Nat) (hl : l.length = m.length) (hd : Dig 18446744073709551616 l) (hd2 : Dig 18446744073709551616 m) (h : val 18446744073709551616 (l ++ [x]) < val 18446744073709551616 (m ++ [y])) : x ≤ y ∧ (x = y → val 18446744073709551616 l < val 18446744073709551616 m) := by
  rw [val_snoc, val_snoc, hl] at h
  have h2 := val_lt hd2
  constructor
  · rcases Nat.lt_or_ge y x with h1 | h1
    · have h3 : 18446744073709551616 ^ m.length * (y + 1) ≤ 18446744073709551616 ^ m.length * x := Nat.mul_le_mul_left _ h1
      rw [Nat.mul_add, Nat.mul_one] at h3
      omega
    · exact h1
  · rintro rfl; omega
theorem midHolds_spec (b capu bv capv lu lv z x0 top : Nat) (L M1 V0 RV : List Nat) (w : World) (hlu : lu = L.length + (M1.length + 1) + z) (hl : lu < 100) (hlv : lv = V0.length + 1 + RV.length) (hlv2 : lv < 100) (hml : M1.length = V0.length + 1) (hdm : Dig 18446744073709551616 M1) (hdv : Dig 18446744073709551616 (V0 ++ [top])) (htop : 9223372036854775808 ≤ top) (hmv : val 18446744073709551616 M1 < val 18446744073709551616 (V0 ++ [top])) (kB : Blk w b (uL (L ++ ((x0 :: M1) ++ List.replicate z 0))).toArray) (kC : Blk w bv (uL ((V0 ++ [top]) ++ RV)).toArray) :
    Ret 424 [.slice (some ⟨b, 0, none⟩) lu capu, .slice (some ⟨bv, 0, none⟩) lv capv, .int .u8 ((V0.length + 1 : Nat) : Int), .int .u8 L.length] w (fun v w' => v = .bool true ∧ Up w w') := by
  refine enter (n := 64) Hvaa.func424 rfl rfl (Nat.le_of_ble_eq_true rfl) ?_
  have U := Up.refl w
  refine c_seq (fun K1 hK1 => ?_)
  refine c_region ?_
  refine l_step y_assignC ?_
  refine l_nil ?_
  refine hK1 _ _ ?_
  refine fg4 3 2 1 0 (gS rfl (gS rfl (gS rfl (gS rfl g0)))) (gS rfl (gS rfl (gS rfl g0))) (gS rfl (gS rfl g0)) (gS rfl g0) (fun g => ?_)
  refine c_seq (fun K2 hK2 => ?_)
  refine c_seq (fun K3 hK3 => ?_)
  refine c_region ?_
  refine l_step (y_moveV (et (gS rfl g0) rfl)) ?_
  refine l_step (y_moveV (et (gS rfl (gS rfl (gS rfl g0))) rfl)) ?_
  refine l_step (y_sub (et g0 rfl) rfl (wrapU_subN (b := 1) uk8 ?_ ?_)) ?_
  omega
  omega
  refine l_step (y_idxS Hvaa.underlying317 sz_26 (et (gS rfl (gS rfl g0)) rfl) (et g0 rfl) ?_ ?_) ?_
  exact Int.natCast_nonneg _
  omega
  refine l_step (y_load1 one_26 (et g0 rfl) (at1 ((show Blk _ bv (uL (V0 ++ top :: RV)).toArray from (by simpa using kC)).cell (uL_get V0 top _ _ (by first | (simp; done) | (simp; omega)))))) ?_
  refine l_step (y_shr (et g0 rfl) rfl (by decide) (shr64C 63 9223372036854775808 (by decide) rfl)) ?_
  refine l_step (y_eql (et g0 rfl) rfl) ?_
  refine l_nil ?_
  refine hK3 _ _ ?_
  refine fg5 3 2 1 0 17 (gS rfl (gS rfl (gS rfl (gS rfl (gS rfl (gS rfl (gS rfl (gS rfl (gS rfl (gS rfl g0)))))))))) (gS rfl (gS rfl (gS rfl (gS rfl (gS rfl (gS rfl (gS rfl (gS rfl (gS rfl g0))))))))) (gS rfl (gS rfl (gS rfl (gS rfl (gS rfl (gS rfl (gS rfl (gS rfl g0)))))))) (gS rfl (gS rfl (gS rfl (gS rfl (gS rfl (gS rfl (gS rfl g0))))))) g0 (fun g => ?_)
  refine c_false (et g0 rfl) (by ((try simp only []); exact decide_eq_false (by omega))) ?_
  refine c_skip ?_
  refine hK2 _ _ ?_
  refine fg4 3 2 1 0 (gS rfl (gS rfl (gS rfl (gS rfl g0)))) (gS rfl (gS rfl (gS rfl g0))) (gS rfl (gS rfl g0)) (gS rfl g0) (fun g => ?_)
  refine c_seq (fun K5 hK5 => ?_)
  refine c_seq (fun K6 hK6 => ?_)
  refine c_region ?_
  refine l_step (y_moveV (et (gS rfl (gS rfl (gS rfl g0))) rfl)) ?_
  refine l_step (y_conv Hvaa.underlying5 Hvaa.underlying3 (et g0 rfl) (wrapIN ?_)) ?_
  omega
  refine l_step (y_moveV (et (gS rfl (gS rfl (gS rfl (gS rfl g0)))) rfl)) ?_
  refine l_step (y_conv Hvaa.underlying5 Hvaa.underlying3 (et g0 rfl) (wrapIN ?_)) ?_
  omega
  refine l_step (y_add (et (gS rfl (gS rfl g0)) rfl) (et g0 rfl) (addIN ?_)) ?_
  omega
  refine l_step (y_add (et g0 rfl) rfl (addIN (y := 1) ?_)) ?_
  omega
  refine l_step (y_assignV (et g0 rfl)) ?_
  refine l_nil ?_
  refine hK6 _ _ ?_
  refine fg5 3 2 1 0 9 (gS rfl (gS rfl (gS rfl (gS rfl (gS rfl (gS rfl (gS rfl (gS rfl (gS rfl (gS rfl g0)))))))))) (gS rfl (gS rfl (gS rfl (gS rfl (gS rfl (gS rfl (gS rfl (gS rfl (gS rfl g0))))))))) (gS rfl (gS rfl (gS rfl (gS rfl (gS rfl (gS rfl (gS rfl (gS rfl g0)))))))) (gS rfl (gS rfl (gS rfl (gS rfl (gS rfl (gS rfl (gS rfl g0))))))) g0 (fun g => ?_)
  refine c_block (fun Q7 hQ7 => ?_)
  refine fg5 0 1 2 3 9 (gS rfl g0) (gS rfl (gS rfl g0)) (gS rfl (gS rfl (gS rfl g0))) (gS rfl (gS rfl (gS rfl (gS rfl g0)))) g0 (fun g => ?_)
  refine c_loop (fun k_ s_ W8 => ∃ (g : Nat → Value) (i : Nat), s_ = (upd (upd (upd (upd (upd g 0 (.slice (some ⟨b, 0, none⟩) lu capu)) 1 (.slice (some ⟨bv, 0, none⟩) lv capv)) 2 (.int .u8 ((V0.length + 1 : Nat) : Int))) 3 (.int .u8 (L.length : Nat))) 9 (.int .i64 ((L.length + (V0.length + 1) + 1 + i : Nat) : Int))) ∧ z - i = k_ ∧ (i ≤ z) ∧ Ch (fun k => False) w W8) (z - (0)) ?_ ?_
  · exact ⟨g, 0, rfl, rfl, Nat.zero_le _, Ch.refl _ _⟩
  · skip
    intro k_ s_ W8 hI K8 hK8
    obtain ⟨g, i, rfl, rfl, hi, V8⟩ := hI
    replace kB := kB.ch V8 (by exact fun h => h)
    replace kC := kC.ch V8 (by exact fun h => h)
    replace U := U.cc V8 (by intro b hb; first | exact hb.elim | omega | (simp at hb ⊢; omega))
    refine c_seq (fun K9 hK9 => ?_)
    refine c_seq (fun K10 hK10 => ?_)
    refine c_region ?_
    refine l_step (y_moveV (et g0 rfl)) ?_
    refine l_step (y_moveV (et (gS rfl (gS rfl (gS rfl (gS rfl (gS rfl g0))))) rfl)) ?_
    refine l_step (y_len Hvaa.underlying317 (et g0 rfl)) ?_
    refine l_step (y_lss (et (gS rfl (gS rfl g0)) rfl) (et g0 rfl)) ?_
    refine l_nil ?_
    refine hK10 _ _ ?_
    refine fg6 0 1 2 3 9 27 (gS rfl (gS rfl (gS rfl (gS rfl (gS rfl (gS rfl (gS rfl (gS rfl g0)))))))) (gS rfl (gS rfl (gS rfl (gS rfl (gS rfl (gS rfl (gS rfl g0))))))) (gS rfl (gS rfl (gS rfl (gS rfl (gS rfl (gS rfl g0)))))) (gS rfl (gS rfl (gS rfl (gS rfl (gS rfl g0))))) (gS rfl (gS rfl (gS rfl (gS rfl g0)))) g0 (fun g => ?_)
    refine c_cond (et g0 rfl) (fun cB2 => ?_) (fun cB2 => ?_)
    · skip
      
      have hiz : i < z := by have := of_decide_eq_true cB2; omega
      obtain ⟨za, zb, hz2⟩ : ∃ a b : List Nat, List.replicate z 0 = a ++ 0 :: b ∧ a.length = i := ⟨List.replicate i 0, List.replicate (z - i - 1) 0, by rw [← List.replicate_succ, List.replicate_append_replicate]; congr 1; omega, by simp⟩
      refine c_skip ?_
      refine hK9 _ _ ?_
      refine fg5 0 1 2 3 9 (gS rfl (gS rfl (gS rfl (gS rfl (gS rfl g0))))) (gS rfl (gS rfl (gS rfl (gS rfl g0)))) (gS rfl (gS rfl (gS rfl g0))) (gS rfl (gS rfl g0)) (gS rfl g0) (fun g => ?_)
      refine c_seq (fun K12 hK12 => ?_)
      refine c_block (fun Q13 hQ13 => ?_)
      refine c_seq (fun K14 hK14 => ?_)
      refine c_region ?_
      refine l_step (y_moveV (et (gS rfl (gS rfl (gS rfl (gS rfl g0)))) rfl)) ?_
      refine l_step (y_moveV (et (gS rfl g0) rfl)) ?_
      refine l_step (y_idxS Hvaa.underlying317 sz_26 (et (gS rfl g0) rfl) (et g0 rfl) ?_ ?_) ?_
      exact Int.natCast_nonneg _
      omega
      refine l_step (y_load1 one_26 (et g0 rfl) (at1 ((show Blk _ b (uL ((L ++ (x0 :: M1) ++ za) ++ 0 :: zb)).toArray from (by rw [hz2.1] at kB; simpa using kB)).cell (uL_get (L ++ (x0 :: M1) ++ za) 0 _ _ (by first | (simp [hz2.2]; done) | (simp [hz2.2]; omega)))))) ?_
      refine l_step (y_neq (et g0 rfl) rfl) ?_
      refine l_nil ?_
      refine hK14 _ _ ?_
      refine fg6 0 1 2 3 9 34 (gS rfl (gS rfl (gS rfl (gS rfl (gS rfl (gS rfl (gS rfl (gS rfl (gS rfl g0))))))))) (gS rfl (gS rfl (gS rfl (gS rfl (gS rfl (gS rfl (gS rfl (gS rfl g0)))))))) (gS rfl (gS rfl (gS rfl (gS rfl (gS rfl (gS rfl (gS rfl g0))))))) (gS rfl (gS rfl (gS rfl (gS rfl (gS rfl (gS rfl g0)))))) (gS rfl (gS rfl (gS rfl (gS rfl (gS rfl g0))))) g0 (fun g => ?_)
      refine c_false (et g0 rfl) (by rfl) ?_
      refine c_skip ?_
      refine hQ13 _ _ _ (in_normal ?_)
      refine hK12 _ _ ?_
      refine fg5 0 1 2 3 9 (gS rfl (gS rfl (gS rfl (gS rfl (gS rfl g0))))) (gS rfl (gS rfl (gS rfl (gS rfl g0)))) (gS rfl (gS rfl (gS rfl g0))) (gS rfl (gS rfl g0)) (gS rfl g0) (fun g => ?_)
      refine c_region ?_
      refine l_step (y_moveV (et g0 rfl)) ?_
      refine l_step (y_add (et g0 rfl) rfl (addIN (y := 1) ?_)) ?_
      omega
      refine l_step (y_assignV (et g0 rfl)) ?_
      refine l_nil ?_
      refine fK5 0 1 2 3 9 (gS rfl (gS rfl (gS rfl (gS rfl (gS rfl (gS rfl (gS rfl g0))))))) (gS rfl (gS rfl (gS rfl (gS rfl (gS rfl (gS rfl g0)))))) (gS rfl (gS rfl (gS rfl (gS rfl (gS rfl g0))))) (gS rfl (gS rfl (gS rfl (gS rfl g0)))) g0 (fun g => ?_)
      exact hK8 (z - (i + 1)) _ _ (by omega) ⟨g, i + 1, rfl, rfl, by omega, V8⟩
    · skip
      
      have hiz : i = z := by have := of_decide_eq_false cB2; omega
      refine c_exit ?_
      refine hQ7 _ _ _ (in_exit ?_)
      refine hK5 _ _ ?_
      refine fg4 0 1 2 3 (gS rfl (gS rfl (gS rfl (gS rfl (gS rfl g0))))) (gS rfl (gS rfl (gS rfl (gS rfl g0)))) (gS rfl (gS rfl (gS rfl g0))) (gS rfl (gS rfl g0)) (fun g => ?_)
      refine c_seq (fun K16 hK16 => ?_)
      refine c_seq (fun K17 hK17 => ?_)
      refine c_region ?_
      refine l_step (y_moveV (et (gS rfl g0) rfl)) ?_
      refine l_step (y_assignV (et g0 rfl)) ?_
      refine l_nil ?_
      refine hK17 _ _ ?_
      refine fg4 0 1 3 10 (gS rfl (gS rfl (gS rfl (gS rfl (gS rfl g0))))) (gS rfl (gS rfl (gS rfl (gS rfl g0)))) (gS rfl (gS rfl g0)) g0 (fun g => ?_)
      refine c_block (fun Q18 hQ18 => ?_)
      refine fg4 0 1 3 10 (gS rfl (gS rfl (gS rfl g0))) (gS rfl (gS rfl g0)) (gS rfl g0) g0 (fun g => ?_)
      have e1 : ((V0.length + 1 : Nat) : Int) = ((M1.length : Nat) : Int) := by rw [hml]
      rw [e1]
      refine c_loop (fun k_ s_ W19 => ∃ (g : Nat → Value) (P Q T : List Nat), s_ = (upd (upd (upd (upd g 0 (.slice (some ⟨b, 0, none⟩) lu capu)) 1 (.slice (some ⟨bv, 0, none⟩) lv capv)) 3 (.int .u8 (L.length : Nat))) 10 (.int .u8 (P.length : Nat))) ∧ P.length = k_ ∧ (P ++ T = M1) ∧ (Q ++ T = V0 ++ [top]) ∧ (P.length = Q.length) ∧ (val 18446744073709551616 P < val 18446744073709551616 Q) ∧ Ch (fun k => False) W8 W19) ((M1).length) ?_ ?_
      · exact ⟨g, M1, (V0 ++ [top]), [], rfl, rfl, by simp, by simp, by simp [hml], hmv, Ch.refl _ _⟩
      · skip
        intro k_ s_ W19 hI K19 hK19
        obtain ⟨g, P, Q, T, rfl, rfl, hP, hQ, hPQ, hv, V19⟩ := hI
        replace kB := kB.ch V19 (by exact fun h => h)
        replace kC := kC.ch V19 (by exact fun h => h)
        replace U := U.cc V19 (by intro b hb; first | exact hb.elim | omega | (simp at hb ⊢; omega))
        have hlen := congrArg List.length hP
        simp only [List.length_append] at hlen
        have hdP : Dig 18446744073709551616 (P ++ T) := hP ▸ hdm
        have hdQ : Dig 18446744073709551616 (Q ++ T) := hQ ▸ hdv
        refine c_seq (fun K20 hK20 => ?_)
        refine c_seq (fun K21 hK21 => ?_)
        refine c_region ?_
        refine l_step (y_moveV (et g0 rfl)) ?_
        refine l_step (y_gtr (et g0 rfl) rfl) ?_
        refine l_nil ?_
        refine hK21 _ _ ?_
        refine fg5 0 1 3 10 37 (gS rfl (gS rfl (gS rfl (gS rfl (gS rfl g0))))) (gS rfl (gS rfl (gS rfl (gS rfl g0)))) (gS rfl (gS rfl (gS rfl g0))) (gS rfl (gS rfl g0)) g0 (fun g => ?_)
        refine c_cond (et g0 rfl) (fun cB4 => ?_) (fun cB4 => ?_)
        · skip
          
          obtain ⟨P', x, rfl⟩ := snoc_of_len (l := P) (by have := of_decide_eq_true cB4; omega)
          obtain ⟨Q', y, rfl⟩ := snoc_of_len (l := Q) (by rw [← hPQ]; simp)
          have hPQ2 : P'.length = Q'.length := by simpa using hPQ
          have hlt := val_snoc_lt P' Q' x y hPQ2 hdP.left.left hdQ.left.left hv
          simp only [List.length_append, List.length_cons, List.length_nil] at hlen
          refine c_skip ?_
          refine hK20 _ _ ?_
          refine fg4 0 1 3 10 (gS rfl (gS rfl (gS rfl (gS rfl g0)))) (gS rfl (gS rfl (gS rfl g0))) (gS rfl (gS rfl g0)) (gS rfl g0) (fun g => ?_)
          refine c_seq (fun K23 hK23 => ?_)
          refine c_block (fun Q24 hQ24 => ?_)
          refine c_seq (fun K25 hK25 => ?_)
          refine c_draw Up 12 [(0, true), (1, true), (2, true), (3, true), (4, true), (5, true), (6, true), (7, true), (8, true), (9, true), (10, true), (11, true)] (by kernel_rfl) (fun w26 hu => ⟨Up.refl _, ?_⟩)
          replace kB := kB.up hu
          replace kC := kC.up hu
          replace U := U.tr hu
          replace V19 := V19.tr hu
          have SU := Up.refl w26
          refine p_step (by exact rfl) (y_moveV (et (gS rfl (gS rfl (gS rfl g0))) rfl)) ?_
          refine p_step (by exact rfl) (y_moveV (et (gS rfl (gS rfl g0)) rfl)) ?_
          refine p_step (by exact rfl) (y_moveV (et (gS rfl (gS rfl g0)) rfl)) ?_
          refine p_step (by exact rfl) (y_add (et (gS rfl g0) rfl) (et g0 rfl) (wrapU_addN uk8 ?_)) ?_
          (simp; omega)
          refine p_step (by exact rfl) (y_idxS Hvaa.underlying317 sz_26 (et (gS rfl (gS rfl (gS rfl g0))) rfl) (et g0 rfl) ?_ ?_) ?_
          exact Int.natCast_nonneg _
          (simp; omega)
          refine p_step (by exact rfl) (y_load1 one_26 (et g0 rfl) (atS ((show Blk _ b (uL ((L ++ x0 :: P') ++ x :: (T ++ List.replicate z 0))).toArray from (by rw [← hP] at kB; simpa using kB)).cell (uL_get (L ++ x0 :: P') x _ _ (by first | (simp [hPQ2]; done) | (simp [hPQ2]; omega)))))) ?_
          refine p_step (by exact rfl) (y_moveV (et (gS rfl (gS rfl (gS rfl (gS rfl (gS rfl (gS rfl (gS rfl (gS rfl g0)))))))) rfl)) ?_
          refine p_step (by exact rfl) (y_moveV (et (gS rfl (gS rfl (gS rfl (gS rfl (gS rfl (gS rfl (gS rfl g0))))))) rfl)) ?_
          refine p_step (by exact rfl) (y_sub (et g0 rfl) rfl (wrapU_subN (b := 1) uk8 ?_ ?_)) ?_
          simp
          (simp; omega)
          refine p_step (by exact rfl) (y_idxS Hvaa.underlying317 sz_26 (et (gS rfl (gS rfl g0)) rfl) (et g0 rfl) ?_ ?_) ?_
          exact Int.natCast_nonneg _
          (simp; omega)
          refine p_step (by exact rfl) (y_load1 one_26 (et g0 rfl) (atS ((show Blk _ bv (uL (Q' ++ y :: (T ++ RV))).toArray from (by rw [← hQ] at kC; simpa using kC)).cell (uL_get Q' y _ _ (by first | (simp [hPQ2]; done) | (simp [hPQ2]; omega)))))) ?_
          refine p_step (by exact rfl) (y_neq (et (gS rfl (gS rfl (gS rfl (gS rfl (gS rfl g0))))) rfl) (et g0 rfl)) ?_
          refine p_nil ?_
          refine hK25 _ _ ?_
          refine fg5 0 1 3 10 51 (gS rfl (gS rfl (gS rfl (gS rfl (gS rfl (gS rfl (gS rfl (gS rfl (gS rfl (gS rfl (gS rfl (gS rfl (gS rfl (gS rfl (gS rfl g0))))))))))))))) (gS rfl (gS rfl (gS rfl (gS rfl (gS rfl (gS rfl (gS rfl (gS rfl (gS rfl (gS rfl (gS rfl (gS rfl (gS rfl (gS rfl g0)))))))))))))) (gS rfl (gS rfl (gS rfl (gS rfl (gS rfl (gS rfl (gS rfl (gS rfl (gS rfl (gS rfl (gS rfl (gS rfl (gS rfl g0))))))))))))) (gS rfl (gS rfl (gS rfl (gS rfl (gS rfl (gS rfl (gS rfl (gS rfl (gS rfl (gS rfl (gS rfl (gS rfl g0)))))))))))) g0 (fun g => ?_)
          refine c_cond (et g0 rfl) (fun cB5 => ?_) (fun cB5 => ?_)
          · skip
            
            have hne : x ≠ y := by have := of_decide_eq_true cB5; omega
            refine c_seq (fun K28 hK28 => ?_)
            refine c_draw Up 13 [(0, true), (1, true), (2, true), (3, true), (4, true), (5, true), (6, true), (7, true), (8, true), (9, true), (10, true), (11, true), (12, true)] (by kernel_rfl) (fun w29 hu => ⟨Up.refl _, ?_⟩)
            replace kB := kB.up hu
            replace kC := kC.up hu
            replace U := U.tr hu
            replace V19 := V19.tr hu
            have SU := Up.refl w29
            refine p_step (by exact rfl) (y_moveV (et (gS rfl (gS rfl (gS rfl (gS rfl g0)))) rfl)) ?_
            refine p_step (by exact rfl) (y_moveV (et (gS rfl (gS rfl (gS rfl g0))) rfl)) ?_
            refine p_step (by exact rfl) (y_moveV (et (gS rfl (gS rfl (gS rfl g0))) rfl)) ?_
            refine p_step (by exact rfl) (y_add (et (gS rfl g0) rfl) (et g0 rfl) (wrapU_addN uk8 ?_)) ?_
            (simp; omega)
            refine p_step (by exact rfl) (y_idxS Hvaa.underlying317 sz_26 (et (gS rfl (gS rfl (gS rfl g0))) rfl) (et g0 rfl) ?_ ?_) ?_
            exact Int.natCast_nonneg _
            (simp; omega)
            refine p_step (by exact rfl) (y_load1 one_26 (et g0 rfl) (atS ((show Blk _ b (uL ((L ++ x0 :: P') ++ x :: (T ++ List.replicate z 0))).toArray from (by rw [← hP] at kB; simpa using kB)).cell (uL_get (L ++ x0 :: P') x _ _ (by first | (simp [hPQ2]; done) | (simp [hPQ2]; omega)))))) ?_
            refine p_step (by exact rfl) (y_moveV (et (gS rfl (gS rfl (gS rfl (gS rfl (gS rfl (gS rfl (gS rfl (gS rfl (gS rfl g0))))))))) rfl)) ?_
            refine p_step (by exact rfl) (y_moveV (et (gS rfl (gS rfl (gS rfl (gS rfl (gS rfl (gS rfl (gS rfl (gS rfl g0)))))))) rfl)) ?_
            refine p_step (by exact rfl) (y_sub (et g0 rfl) rfl (wrapU_subN (b := 1) uk8 ?_ ?_)) ?_
            simp
            (simp; omega)
            refine p_step (by exact rfl) (y_idxS Hvaa.underlying317 sz_26 (et (gS rfl (gS rfl g0)) rfl) (et g0 rfl) ?_ ?_) ?_
            exact Int.natCast_nonneg _
            (simp; omega)
            refine p_step (by exact rfl) (y_load1 one_26 (et g0 rfl) (atS ((show Blk _ bv (uL (Q' ++ y :: (T ++ RV))).toArray from (by rw [← hQ] at kC; simpa using kC)).cell (uL_get Q' y _ _ (by first | (simp [hPQ2]; done) | (simp [hPQ2]; omega)))))) ?_
            refine p_step (by exact rfl) (y_lss (et (gS rfl (gS rfl (gS rfl (gS rfl (gS rfl g0))))) rfl) (et g0 rfl)) ?_
            refine p_step (by exact rfl) (y_assignV (et g0 rfl)) ?_
            refine p_nil ?_
            refine hK28 _ _ ?_
            refine fg1 8 g0 (fun g => ?_)
            refine c_ret ?_
            refine hQ24 _ _ _ (in_ret ?_)
            refine hQ18 _ _ _ (in_ret ?_)
            refine ret1 rfl (res_tmp (et g0 rfl)) ?_
            refine ⟨?_, U⟩
            exact congrArg Value.bool (decide_eq_true (by omega))
          · skip
            
            have hxy : x = y := by have := of_decide_eq_false cB5; omega
            subst hxy
            refine c_skip ?_
            refine hQ24 _ _ _ (in_normal ?_)
            refine hK23 _ _ ?_
            refine fg4 0 1 3 10 (gS rfl (gS rfl (gS rfl (gS rfl g0)))) (gS rfl (gS rfl (gS rfl g0))) (gS rfl (gS rfl g0)) (gS rfl g0) (fun g => ?_)
            refine c_region ?_
            refine l_step (y_moveV (et g0 rfl)) ?_
            refine l_step (y_sub (et g0 rfl) rfl ((wrapU_subN (b := 1) uk8 ?_ ?_).trans (castE (show (P' ++ [x]).length - 1 = P'.length by simp)))) ?_
            simp
            (simp; omega)
            refine l_step (y_assignV (et g0 rfl)) ?_
            refine l_nil ?_
            refine fK4 0 1 3 10 (gS rfl (gS rfl (gS rfl (gS rfl (gS rfl (gS rfl g0)))))) (gS rfl (gS rfl (gS rfl (gS rfl (gS rfl g0))))) (gS rfl (gS rfl (gS rfl (gS rfl g0)))) g0 (fun g => ?_)
            exact hK19 ((P').length) _ _ (by simp) ⟨g, P', Q', (x :: T), rfl, rfl, by simpa using hP, by simpa using hQ, by simpa using hPQ, hlt.2 rfl, V19⟩
        · skip
          
          exfalso
          have hP0 : P = [] := List.eq_nil_of_length_eq_zero (by have := of_decide_eq_false cB4; omega)
          subst hP0
          have hQ0 : Q = [] := List.eq_nil_of_length_eq_zero (by rw [← hPQ]; rfl)
          subst hQ0
          exact absurd hv (Nat.lt_irrefl _)
end Go.Proofs.YgvaawGreat
