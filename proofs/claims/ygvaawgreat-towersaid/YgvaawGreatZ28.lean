import Derived.Test.YgvaawGreatZ27
set_option maxRecDepth 100000
set_option maxHeartbeats 4000000
set_option linter.unusedSimpArgs false
set_option linter.unusedVariables false
namespace Go.Proofs.YgvaawGreat
open Go
theorem nc_T (l : List Nat) : ncT l = (ncE l - 1) + (if 32 < lnV l 1 then 8 * (lnV l 1 - 32) else 0) := by
  unfold ncT
  by_cases h : 1 < ncE l
  · rw [if_pos h]
  · rw [if_neg h, show ncE l - 1 = 0 by omega]
theorem ncX_lt {l : List Nat} (hd : Dig 256 l) : (ofBE (cutN l (96 + lnV l 0) (min (lnV l 1) 32))) < W256 := Nat.lt_of_lt_of_le (cut_lt hd _ _) (Nat.pow_le_pow_right (n := 256) (i := min (lnV l 1) 32) (j := 32) (by decide) (by omega))
theorem ncE_0 {l : List Nat} (h : IsLimbs (ofBE (cutN l (96 + lnV l 0) (min (lnV l 1) 32))) 0) : ncE l = 0 := by
  have h2 := h.2.1
  rw [Nat.pow_zero] at h2
  unfold ncE
  rw [show (ofBE (cutN l (96 + lnV l 0) (min (lnV l 1) 32))) = 0 by omega]
  rfl
theorem ncE_k {l : List Nat} {k : Nat} (h : IsLimbs (ofBE (cutN l (96 + lnV l 0) (min (lnV l 1) 32))) k) (hk : k ≠ 0) : ncE l = 64 * (k - 1) + bitLen (limb (ofBE (cutN l (96 + lnV l 0) (min (lnV l 1) 32))) (k - 1)) := bl_limbs _ _ h hk
theorem lim_bl (n k : Nat) : bitLen (limb n k) ≤ 64 := bl_le _ 64 (limb_lt _ _)
theorem nc_mul {a t : Nat} (h : a ≤ 8) (ht : t ≤ 600) : a * a * max t 1 ≤ 38400 := by
  have h1 := Nat.mul_le_mul h h
  exact Nat.le_trans (Nat.mul_le_mul h1 (show max t 1 ≤ 600 by omega)) (by decide)
theorem m_modexp (bb be_ bm xb xe xm : Nat) (w : World) (hb : xb < 256 ^ 64) (he : xe < 256 ^ 64) (hm : xm < 256 ^ 64) (kB : Blk w bb (uL ((List.range 8).map (limb xb))).toArray) (kE : Blk w be_ (uL ((List.range 8).map (limb xe))).toArray) (kM : Blk w bm (uL ((List.range 8).map (limb xm))).toArray) :
    Ret 262 [.pointer (some ⟨bb, 0, none⟩), .pointer (some ⟨be_, 0, none⟩), .pointer (some ⟨bm, 0, none⟩)] w (fun v w' => v = .agg (uL ((List.range 8).map (limb (mexp xb xe xm)))).toArray ∧ Up w w') := by
  have hp : (256 : Nat) ^ 64 = 18446744073709551616 ^ 8 := by rw [show (18446744073709551616 : Nat) = 256 ^ 8 from rfl, ← Nat.pow_mul]
  have h1 : ∀ x, x < 256 ^ 64 → val 18446744073709551616 ((List.range 8).map (limb x)) = x := fun x hx => by rw [val_limbs, Nat.mod_eq_of_lt (by rw [← hp]; exact hx)]
  refine (modexp_spec bb be_ bm xm _ _ _ w (by simp) (by simp) (by simp) (dig_limbs _ _) (dig_limbs _ _) (dig_limbs _ _) (h1 xm hm) kB kE kM).mono fun v w' hv => ?_
  obtain ⟨R, e1, e2, e3, e4, e5⟩ := hv
  rw [h1 xb hb, h1 xe he] at e4
  have e6 := limbs_eq e2 e3
  rw [e4] at e6
  rw [← e6]
  exact ⟨e1, e5⟩
theorem idx336 (w : World) (k : Nat) : ∀ i : Nat, i < 8 → (Instr.index 336 (.agg (uL ((List.range 8).map (limb k))).toArray) (.int .i64 (i : Nat))).run Hvaa.prog w = .ok (.int .u64 (limb k i : Nat)) w
  | 0, _ => by kernel_rfl
  | 1, _ => by kernel_rfl
  | 2, _ => by kernel_rfl
  | 3, _ => by kernel_rfl
  | 4, _ => by kernel_rfl
  | 5, _ => by kernel_rfl
  | 6, _ => by kernel_rfl
  | 7, _ => by kernel_rfl
  | _ + 8, h => absurd h (by omega)
theorem be_drop {k p : Nat} (h : k ≤ 64) : (be 64 p).drop (64 - k) = be k p := by
  have h1 := be_split (64 - k) k p
  rw [show 64 - k + k = 64 by omega] at h1
  rw [h1, List.drop_append_of_le_length (by rw [length_be]; omega), List.drop_eq_nil_of_le (by rw [length_be]; omega), List.nil_append]
theorem cut_lt64 {l : List Nat} (hd : Dig 256 l) (off : Nat) {n : Nat} (h : n ≤ 64) : ofBE (cutN l off n) < 256 ^ 64 := Nat.lt_of_lt_of_le (cut_lt hd _ _) (Nat.pow_le_pow_right (by decide) h)
theorem m_nativeCost {w : World} (s0 : Nat) {a : Option Addr} {c : Nat} {l : List Nat} (hW : WV s0 w (.slice a l.length c) l) (hs0 : s0 ≤ w.heap.size) (hl : l.length ≤ 717280) (k : Nat) (hk : k < 256) :
    Ret 184 [.int .u8 (k : Nat), (.slice a l.length c)] w (fun v w' => v = .tuple #[.int .u64 (ncN k l : Nat), .bool (ncOk k l)] ∧ Up w w') := by
  obtain ⟨_, _, e9, hcl9, hcm9⟩ := hW.val
  cases e9
  refine enter (n := 82) Hvaa.func184 rfl rfl (Nat.le_of_ble_eq_true rfl) ?_
  have U := Up.refl w
  refine c_seq (fun K1 hK1 => ?_)
  exact (by
    refine c_region ?_
    refine l_step y_assignC ?_
    refine l_step y_assignC ?_
    refine l_nil ?_
    refine hK1 _ _ ?_
    refine fg2 1 0 (gS rfl (gS rfl (gS rfl g0))) (gS rfl (gS rfl g0)) (fun g => ?_)
    refine c_seq (fun K2 hK2 => ?_)
    refine c_seq (fun K3 hK3 => ?_)
    exact (by
      refine c_region ?_
      refine l_step (y_moveV (et g0 rfl)) ?_
      refine l_nil ?_
      refine hK3 _ _ ?_
      refine fg2 1 15 (gS rfl (gS rfl g0)) g0 (fun g => ?_)
      refine c_block (fun Q4 hQ4 => ?_)
      refine c_seq (fun K5 hK5 => ?_)
      exact (by
        refine c_region ?_
        refine l_step (y_eql (et g0 rfl) rfl) ?_
        refine l_step (y_assignV (et g0 rfl)) ?_
        refine l_nil ?_
        refine hK5 _ _ ?_
        refine fg3 1 15 16 (gS rfl (gS rfl (gS rfl g0))) (gS rfl (gS rfl g0)) g0 (fun g => ?_)
        refine c_cond (et g0 rfl) (fun cB1 => ?_) (fun cB1 => ?_)
        · skip
          
          have e1 : k = 4 := by have := of_decide_eq_true cB1; omega
          refine c_seq (fun K7 hK7 => ?_)
          exact (by
            refine c_region ?_
            refine l_step (y_moveV (et (gS rfl (gS rfl g0)) rfl)) ?_
            refine l_step (y_len Hvaa.underlying38 (et g0 rfl)) ?_
            refine l_step (y_conv Hvaa.underlying3 Hvaa.underlying26 (et g0 rfl) (wrapU_id uk64 ?_)) ?_
            omega
            refine l_eff (e_callV cal_167 (aC (et g0 rfl) aN) (words_lo l.length _ (by omega))) (fun v8 w8 h8 => ?_)
            obtain ⟨rfl, u8⟩ := h8
            replace hW := hW.up u8
            replace U := U.tr u8
            refine l_step (y_mul rfl (et g0 rfl) (wrapU_mulN (a := 3) uk64 ?_)) ?_
            (unfold wordsN; omega)
            refine l_step (y_add rfl (et g0 rfl) (wrapU_addN (a := 15) uk64 ?_)) ?_
            (unfold wordsN; omega)
            refine l_step (y_assignV (et g0 rfl)) ?_
            refine l_step y_assignC ?_
            refine l_nil ?_
            refine hK7 _ _ ?_
            refine fg2 4 5 (gS rfl g0) g0 (fun g => ?_)
            refine c_ret ?_
            refine hQ4 _ _ _ (in_ret ?_)
            repeat with_reducible refine then_ret ?_
            refine ret2 rfl (res_tmp (et (gS rfl g0) rfl)) (res_tmp (et g0 rfl)) ?_
            have h9 : ncN k l = 15 + 3 * wordsN l.length := by rw [ncN, if_pos e1]
            rw [h9, show ncOk k l = true by rw [ncOk, e1]; rfl]
            exact ⟨rfl, U⟩)
        · skip
          
          have e1 : k ≠ 4 := by have := of_decide_eq_false cB1; omega
          refine c_seq (fun K9 hK9 => ?_)
          exact (by
            refine c_region ?_
            refine l_step (y_eql (et (gS rfl g0) rfl) rfl) ?_
            refine l_step (y_assignV (et g0 rfl)) ?_
            refine l_nil ?_
            refine hK9 _ _ ?_
            refine fg2 1 24 (gS rfl (gS rfl (gS rfl (gS rfl g0)))) g0 (fun g => ?_)
            refine c_cond (et g0 rfl) (fun cB2 => ?_) (fun cB2 => ?_)
            · skip
              
              have e2 : k = 5 := by have := of_decide_eq_true cB2; omega
              refine c_seq (fun K11 hK11 => ?_)
              exact (by
                refine c_region ?_
                refine l_step (y_moveV (et (gS rfl g0) rfl)) ?_
                refine l_eff (e_callV cal_250 (aC (et g0 rfl) aN) (m_lengths s0 hW (Nat.le_trans hs0 (by first | exact Nat.le_refl _ | exact U.size)) (by omega))) (fun v12 w12 h12 => ?_)
                obtain ⟨rfl, u12⟩ := h12
                replace hW := hW.up u12
                replace U := U.tr u12
                have ln0 := lnV_le l 0 (by decide)
                have ln1 := lnV_le l 1 (by decide)
                have ln2 := lnV_le l 2 (by decide)
                refine l_step (y_moveV (et g0 rfl)) ?_
                refine l_step (y_ext (et g0 rfl) rfl) ?_
                refine l_step (y_ext (et (gS rfl g0) rfl) rfl) ?_
                refine l_step (y_ext (et (gS rfl (gS rfl g0)) rfl) rfl) ?_
                refine l_step (y_ext (et (gS rfl (gS rfl (gS rfl g0))) rfl) rfl) ?_
                refine l_step (y_assignV (et (gS rfl (gS rfl (gS rfl g0))) rfl)) ?_
                refine l_step (y_assignV (et (gS rfl (gS rfl (gS rfl g0))) rfl)) ?_
                refine l_step (y_assignV (et (gS rfl (gS rfl (gS rfl g0))) rfl)) ?_
                refine l_step (y_assignV (et (gS rfl (gS rfl (gS rfl g0))) rfl)) ?_
                refine l_nil ?_
                refine hK11 _ _ ?_
                refine fg5 1 6 7 8 9 (gS rfl (gS rfl (gS rfl (gS rfl (gS rfl (gS rfl (gS rfl (gS rfl (gS rfl (gS rfl (gS rfl (gS rfl g0)))))))))))) (gS rfl (gS rfl (gS rfl g0))) (gS rfl (gS rfl g0)) (gS rfl g0) g0 (fun g => ?_)
                refine c_seq (fun K13 hK13 => ?_)
                refine c_seq (fun K14 hK14 => ?_)
                exact (by
                  refine c_region ?_
                  refine l_step (y_moveV (et g0 rfl)) ?_
                  refine l_step (y_not (et g0 rfl)) ?_
                  refine l_nil ?_
                  refine hK14 _ _ ?_
                  refine fg5 1 6 7 8 34 (gS rfl (gS rfl (gS rfl (gS rfl (gS rfl (gS rfl g0)))))) (gS rfl (gS rfl (gS rfl (gS rfl (gS rfl g0))))) (gS rfl (gS rfl (gS rfl (gS rfl g0)))) (gS rfl (gS rfl (gS rfl g0))) g0 (fun g => ?_)
                  refine c_cond (et g0 rfl) (fun cB3 => ?_) (fun cB3 => ?_)
                  · skip
                    simp only [Bool.not_eq_true', Bool.not_eq_false'] at cB3
                    refine c_seq (fun K16 hK16 => ?_)
                    exact (by
                      refine c_region ?_
                      refine l_step y_assignC ?_
                      refine l_step y_assignC ?_
                      refine l_nil ?_
                      refine hK16 _ _ ?_
                      refine fg2 4 5 (gS rfl g0) g0 (fun g => ?_)
                      refine c_ret ?_
                      refine hQ4 _ _ _ (in_ret ?_)
                      repeat with_reducible refine then_ret ?_
                      refine ret2 rfl (res_tmp (et (gS rfl g0) rfl)) (res_tmp (et g0 rfl)) ?_
                      have h9 : ncN k l = 0 := by rw [ncN, if_neg e1, if_neg (by rw [cB3]; exact fun h => by cases h.2)]
                      rw [h9, show ncOk k l = false by rw [ncOk, decide_eq_false e1, cB3, Bool.and_false]; rfl]
                      exact ⟨rfl, U⟩)
                  · skip
                    simp only [Bool.not_eq_true', Bool.not_eq_false'] at cB3
                    refine c_skip ?_
                    refine hK13 _ _ ?_
                    refine fg4 1 6 7 8 (gS rfl (gS rfl (gS rfl (gS rfl g0)))) (gS rfl (gS rfl (gS rfl g0))) (gS rfl (gS rfl g0)) (gS rfl g0) (fun g => ?_)
                    refine c_seq (fun K17 hK17 => ?_)
                    exact (by
                      refine c_region ?_
                      refine l_step (y_moveV (et (gS rfl (gS rfl g0)) rfl)) ?_
                      refine l_step (y_moveV (et (gS rfl g0) rfl)) ?_
                      refine l_step (y_maxN (et (gS rfl g0) rfl) (et g0 rfl)) ?_
                      refine l_step (y_conv Hvaa.underlying3 Hvaa.underlying26 (et g0 rfl) (wrapU_id uk64 ?_)) ?_
                      omega
                      refine l_step (y_add (et g0 rfl) rfl (wrapU_addN (b := 7) uk64 ?_)) ?_
                      omega
                      refine l_step (y_quo (et g0 rfl) rfl (by decide) (quoU (b := 8) uk64 ?_)) ?_
                      omega
                      refine l_step (y_assignV (et g0 rfl)) ?_
                      refine l_nil ?_
                      refine hK17 _ _ ?_
                      refine fg4 1 6 7 10 (gS rfl (gS rfl (gS rfl (gS rfl (gS rfl (gS rfl (gS rfl (gS rfl (gS rfl (gS rfl g0)))))))))) (gS rfl (gS rfl (gS rfl (gS rfl (gS rfl (gS rfl (gS rfl (gS rfl (gS rfl g0))))))))) (gS rfl (gS rfl (gS rfl (gS rfl (gS rfl (gS rfl (gS rfl (gS rfl g0)))))))) g0 (fun g => ?_)
                      refine c_seq (fun K18 hK18 => ?_)
                      exact (by
                        refine c_region ?_
                        refine l_eff (e_alloc zr_27) (fun v19 w19 h19 => ?_)
                        obtain ⟨b19, rfl, n19⟩ := h19
                        have f19 : w.heap.size ≤ b19 := Nat.le_trans U.size n19.fresh
                        replace hW := hW.up n19.up
                        replace U := U.tr n19.up
                        have k19 := n19.blk
                        replace k19 : Blk w19 b19 (bL (List.replicate 32 0)).toArray := k19
                        refine l_nil ?_
                        refine hK18 _ _ ?_
                        refine c_seq (fun K20 hK20 => ?_)
                        exact (by
                          refine c_region ?_
                          refine l_step (y_slA000 Hvaa.underlying27 sz_5 (et g0 rfl) ) ?_
                          refine l_step (y_moveV (et (gS rfl (gS rfl (gS rfl (gS rfl (gS rfl g0))))) rfl)) ?_
                          refine l_step (y_moveV (et (gS rfl (gS rfl (gS rfl (gS rfl (gS rfl g0))))) rfl)) ?_
                          refine l_step (y_add rfl (et g0 rfl) (addIN (x := 96) ?_)) ?_
                          omega
                          refine l_step (y_moveV (et (gS rfl (gS rfl (gS rfl (gS rfl (gS rfl (gS rfl g0)))))) rfl)) ?_
                          refine l_step (y_minN (b := 32) (et g0 rfl) rfl) ?_
                          refine l_eff (e_callV cal_251 (aC (et (gS rfl (gS rfl (gS rfl (gS rfl (gS rfl g0))))) rfl) (aC (et (gS rfl (gS rfl (gS rfl (gS rfl g0)))) rfl) (aC (et (gS rfl (gS rfl g0)) rfl) (aC (et g0 rfl) aN)))) (m_part s0 b19 32 (96 + lnV l 0) (min (lnV l 1) 32) hW (by omega) k19 (Nat.le_trans hs0 f19) (by decide) (by omega) (by omega))) (fun v21 w21 h21 => ?_)
                          obtain ⟨rfl, kb21, x21⟩ := h21
                          replace hW := hW.ch x21 (by first | omega | (intro q hq; omega))
                          replace k19 := kb21
                          replace U := U.cc x21 (by intro b hb; first | exact hb ▸ f19 | omega)
                          refine l_nil ?_
                          refine hK20 _ _ ?_
                          refine fg3 7 10 11 (gS rfl (gS rfl (gS rfl (gS rfl (gS rfl (gS rfl (gS rfl (gS rfl (gS rfl g0))))))))) (gS rfl (gS rfl (gS rfl (gS rfl (gS rfl (gS rfl (gS rfl (gS rfl g0)))))))) (gS rfl (gS rfl (gS rfl (gS rfl (gS rfl (gS rfl (gS rfl g0))))))) (fun g => ?_)
                          refine c_seq (fun K22 hK22 => ?_)
                          exact (by
                            refine c_region ?_
                            refine l_step (y_loadB agg_27 sz_27 (et g0 rfl) (by rw [List.size_toArray, length_bL, length_be]) (at1B k19)) ?_
                            refine l_eff (e_callV cal_83 (aC (et g0 rfl) aN) (fromBytes_spec _ _)) (fun v23 w23 h23 => ?_)
                            obtain ⟨rfl, u23⟩ := h23
                            replace k19 := k19.up u23
                            replace hW := hW.up u23
                            replace U := U.tr u23
                            refine l_eff (e_alloc zr_65) (fun v24 w24 h24 => ?_)
                            obtain ⟨b24, rfl, n24⟩ := h24
                            have d19_24 : b19 < b24 := Nat.lt_of_lt_of_le k19.lt n24.fresh
                            have f24 : w.heap.size ≤ b24 := Nat.le_trans U.size n24.fresh
                            replace k19 := k19.up n24.up
                            replace hW := hW.up n24.up
                            replace U := U.tr n24.up
                            have k24 := n24.blk
                            obtain ⟨zs24, hz24, k24⟩ : ∃ cs : Array Value, cs.size = 4 ∧ Blk w24 b24 cs := ⟨_, rfl, k24⟩
                            refine l_effN (e_store sz_65 (et g0 rfl) (cellsV (et (gS rfl g0) rfl) rfl) rfl (by exact one_uL _) k24 (by (first | (rw [hz24]; exact Nat.le_refl _) | (rw [List.size_toArray, wL_len]; exact Nat.le_refl _)))) (fun v25 w25 h25 => ?_)
                            obtain ⟨rfl, x25⟩ := h25
                            replace k19 := k19.ch x25.ch (by omega)
                            replace hW := hW.ch x25.ch (by first | omega | (first | omega | (intro q hq; omega)))
                            replace k24 := x25.blk.full (by first | (rw [hz24]; rfl) | (rw [List.size_toArray, wL_len, wL_len]))
                            replace U := U.st x25 f24
                            refine l_nil ?_
                            refine hK22 _ _ ?_
                            refine fg3 7 10 12 (gS rfl (gS rfl (gS rfl (gS rfl (gS rfl g0))))) (gS rfl (gS rfl (gS rfl (gS rfl g0)))) g0 (fun g => ?_)
                            refine c_seq (fun K26 hK26 => ?_)
                            exact (by
                              refine c_region ?_
                              refine l_step y_assignC ?_
                              refine l_nil ?_
                              refine hK26 _ _ ?_
                              refine c_seq (fun K27 hK27 => ?_)
                              refine c_seq (fun K28 hK28 => ?_)
                              exact (by
                                refine c_region ?_
                                refine l_step (y_loadB agg_65 sz_65 (et (gS rfl g0) rfl) rfl (at1B k24)) ?_
                                refine l_eff (e_callV cal_252 (aC (et g0 rfl) aN) (wLimbs_spec _ _ (ncX_lt hW.dig))) (fun v29 w29 h29 => ?_)
                                obtain ⟨lk, rfl, il, u29⟩ := h29
                                replace k19 := k19.up u29
                                replace k24 := k24.up u29
                                replace hW := hW.up u29
                                replace U := U.tr u29
                                have hlk := il.1
                                refine l_step (y_assignV (et g0 rfl)) ?_
                                refine l_nil ?_
                                refine hK28 _ _ ?_
                                refine fg5 7 10 12 13 14 (gS rfl (gS rfl (gS rfl (gS rfl (gS rfl (gS rfl g0)))))) (gS rfl (gS rfl (gS rfl (gS rfl (gS rfl g0))))) (gS rfl (gS rfl (gS rfl (gS rfl g0)))) (gS rfl (gS rfl (gS rfl g0))) g0 (fun g => ?_)
                                refine c_seq (fun K30 hK30 => ?_)
                                exact (by
                                  refine c_region ?_
                                  refine l_step (y_moveV (et g0 rfl)) ?_
                                  refine l_step (y_gtr (et g0 rfl) rfl) ?_
                                  refine l_nil ?_
                                  refine hK30 _ _ ?_
                                  refine fg6 7 10 12 13 14 53 (gS rfl (gS rfl (gS rfl (gS rfl (gS rfl (gS rfl g0)))))) (gS rfl (gS rfl (gS rfl (gS rfl (gS rfl g0))))) (gS rfl (gS rfl (gS rfl (gS rfl g0)))) (gS rfl (gS rfl (gS rfl g0))) (gS rfl (gS rfl g0)) g0 (fun g => ?_)
                                  refine c_cond (et g0 rfl) (fun cB4 => ?_) (fun cB4 => ?_)
                                  · skip
                                    
                                    have e4 : lk ≠ 0 := by have := of_decide_eq_true cB4; omega
                                    have hE := ncE_k il e4
                                    have hb6 := lim_bl (ofBE (cutN l (96 + lnV l 0) (min (lnV l 1) 32))) (lk - 1)
                                    have hb7 := bl_pos _ (limb_top_ne _ _ il e4)
                                    exact (by
                                      refine c_region ?_
                                      refine l_step (y_moveV (et (gS rfl g0) rfl)) ?_
                                      refine l_step (y_sub (et g0 rfl) rfl (wrapU_subN (b := 1) uk8 ?_ ?_)) ?_
                                      omega
                                      omega
                                      refine l_step (y_conv Hvaa.underlying5 Hvaa.underlying26 (et g0 rfl) (wrapU_id uk64 ?_)) ?_
                                      omega
                                      refine l_step (y_mul rfl (et g0 rfl) (wrapU_mulN (a := 64) uk64 ?_)) ?_
                                      omega
                                      refine l_step (y_moveV (et (gS rfl (gS rfl (gS rfl (gS rfl (gS rfl g0))))) rfl)) ?_
                                      refine l_step (y_sub (et g0 rfl) rfl (wrapU_subN (b := 1) uk8 ?_ ?_)) ?_
                                      omega
                                      omega
                                      refine l_step (y_idxA Hvaa.underlying65 sz_26 (et (gS rfl (gS rfl (gS rfl (gS rfl (gS rfl (gS rfl (gS rfl (gS rfl (gS rfl g0))))))))) rfl) (et g0 rfl) ?_ ?_) ?_
                                      omega
                                      omega
                                      refine l_step (y_load1 one_26 (et g0 rfl) (at1 (k24.cell (wV_getE (ofBE (cutN l (96 + lnV l 0) (min (lnV l 1) 32))) _ (lk - 1) (by omega) (by omega))))) ?_
                                      refine l_eff (e_callV cal_253 (aC (et g0 rfl) aN) (len64_spec _ _ (limb_lt _ _))) (fun v32 w32 h32 => ?_)
                                      obtain ⟨rfl, u32⟩ := h32
                                      replace k19 := k19.up u32
                                      replace k24 := k24.up u32
                                      replace hW := hW.up u32
                                      replace U := U.tr u32
                                      refine l_step (y_conv Hvaa.underlying3 Hvaa.underlying26 (et g0 rfl) (wrapU_id uk64 ?_)) ?_
                                      omega
                                      refine l_step (y_add (et (gS rfl (gS rfl (gS rfl (gS rfl (gS rfl (gS rfl g0)))))) rfl) (et g0 rfl) (wrapU_addN uk64 ?_)) ?_
                                      omega
                                      refine l_step (y_sub (et g0 rfl) rfl (wrapU_subN (b := 1) uk64 ?_ ?_)) ?_
                                      omega
                                      omega
                                      refine l_step (y_assignV (et g0 rfl)) ?_
                                      refine l_nil ?_
                                      refine hK27 _ _ ?_
                                      refine fg3 7 10 13 (gS rfl (gS rfl (gS rfl (gS rfl (gS rfl (gS rfl (gS rfl (gS rfl (gS rfl (gS rfl (gS rfl (gS rfl (gS rfl (gS rfl (gS rfl (gS rfl (gS rfl (gS rfl g0)))))))))))))))))) (gS rfl (gS rfl (gS rfl (gS rfl (gS rfl (gS rfl (gS rfl (gS rfl (gS rfl (gS rfl (gS rfl (gS rfl (gS rfl (gS rfl (gS rfl (gS rfl (gS rfl g0))))))))))))))))) g0 (fun g => ?_)
                                      refine c_seq (fun K33 hK33 => ?_)
                                      refine c_seq (fun K34 hK34 => ?_)
                                      exact (by
                                        refine c_region ?_
                                        refine l_step (y_moveV (et (gS rfl (gS rfl g0)) rfl)) ?_
                                        refine l_step (y_gtr (et g0 rfl) rfl) ?_
                                        refine l_nil ?_
                                        refine hK34 _ _ ?_
                                        refine fg4 7 10 13 67 (gS rfl (gS rfl (gS rfl (gS rfl g0)))) (gS rfl (gS rfl (gS rfl g0))) (gS rfl (gS rfl g0)) g0 (fun g => ?_)
                                        refine c_cond (et g0 rfl) (fun cB5 => ?_) (fun cB5 => ?_)
                                        · skip
                                          
                                          have e5 : 32 < lnV l 1 := by have := of_decide_eq_true cB5; omega
                                          exact (by
                                            refine c_region ?_
                                            refine l_step (y_moveV (et (gS rfl g0) rfl)) ?_
                                            refine l_step (y_moveV (et (gS rfl (gS rfl (gS rfl (gS rfl g0)))) rfl)) ?_
                                            refine l_step (y_sub (et g0 rfl) rfl (subIN (y := 32) ?_ ?_)) ?_
                                            omega
                                            omega
                                            refine l_step (y_conv Hvaa.underlying3 Hvaa.underlying26 (et g0 rfl) (wrapU_id uk64 ?_)) ?_
                                            omega
                                            refine l_step (y_mul rfl (et g0 rfl) (wrapU_mulN (a := 8) uk64 ?_)) ?_
                                            omega
                                            refine l_step (y_add (et (gS rfl (gS rfl (gS rfl (gS rfl g0)))) rfl) (et g0 rfl) (wrapU_addN uk64 ?_)) ?_
                                            omega
                                            refine l_step (y_assignV (et g0 rfl)) ?_
                                            refine l_nil ?_
                                            refine hK33 _ _ ?_
                                            refine fg2 10 13 (gS rfl (gS rfl (gS rfl (gS rfl (gS rfl (gS rfl (gS rfl (gS rfl (gS rfl g0))))))))) g0 (fun g => ?_)
                                            refine c_seq (fun K36 hK36 => ?_)
                                            exact (by
                                              refine c_region ?_
                                              refine l_step (y_moveV (et (gS rfl g0) rfl)) ?_
                                              refine l_step (y_moveV (et (gS rfl (gS rfl g0)) rfl)) ?_
                                              have hw8 : (max (lnV l 0) (lnV l 2) + 7) / 8 ≤ 8 := by omega
                                              have hww := Nat.mul_le_mul hw8 hw8
                                              refine l_step (y_mul (et (gS rfl g0) rfl) (et g0 rfl) (wrapU_mulN uk64 ?_)) ?_
                                              exact Nat.lt_of_le_of_lt hww (by decide)
                                              refine l_step (y_moveV (et (gS rfl (gS rfl (gS rfl g0))) rfl)) ?_
                                              refine l_step (y_maxN (b := 1) (et g0 rfl) rfl) ?_
                                              refine l_step (y_mul (et (gS rfl (gS rfl g0)) rfl) (et g0 rfl) (wrapU_mulN uk64 ?_)) ?_
                                              exact Nat.lt_of_le_of_lt (nc_mul hw8 (by omega)) (by decide)
                                              refine l_step (y_quo (et g0 rfl) rfl (by decide) (quoU (b := 3) uk64 ?_)) ?_
                                              exact Nat.lt_of_le_of_lt (nc_mul hw8 (by omega)) (by decide)
                                              refine l_step (y_maxN (a := 200) rfl (et g0 rfl)) ?_
                                              refine l_step (y_assignV (et g0 rfl)) ?_
                                              refine l_step y_assignC ?_
                                              refine l_nil ?_
                                              refine hK36 _ _ ?_
                                              refine fg2 4 5 (gS rfl g0) g0 (fun g => ?_)
                                              refine c_ret ?_
                                              refine hQ4 _ _ _ (in_ret ?_)
                                              repeat with_reducible refine then_ret ?_
                                              refine ret2 rfl (res_tmp (et (gS rfl g0) rfl)) (res_tmp (et g0 rfl)) ?_
                                              have eT : ncT l = 64 * (lk - 1) + bitLen (limb (ofBE (cutN l (96 + lnV l 0) (min (lnV l 1) 32))) (lk - 1)) - 1 + 8 * (lnV l 1 - 32) := by rw [nc_T, hE, if_pos e5]
                                              have h9 : ncN k l = max 200 (ncW l * ncW l * max (ncT l) 1 / 3) := by rw [ncN, if_neg e1, if_pos ⟨e2, cB3⟩]
                                              rw [h9, show ncOk k l = true by rw [ncOk, decide_eq_false e1, decide_eq_true e2, cB3]; rfl, eT]
                                              exact ⟨rfl, U⟩))
                                        · skip
                                          
                                          have e5 : ¬ 32 < lnV l 1 := by have := of_decide_eq_false cB5; omega
                                          refine c_skip ?_
                                          refine hK33 _ _ ?_
                                          refine fg2 10 13 (gS rfl (gS rfl g0)) (gS rfl g0) (fun g => ?_)
                                          refine c_seq (fun K37 hK37 => ?_)
                                          exact (by
                                            refine c_region ?_
                                            refine l_step (y_moveV (et (gS rfl g0) rfl)) ?_
                                            refine l_step (y_moveV (et (gS rfl (gS rfl g0)) rfl)) ?_
                                            have hw8 : (max (lnV l 0) (lnV l 2) + 7) / 8 ≤ 8 := by omega
                                            have hww := Nat.mul_le_mul hw8 hw8
                                            refine l_step (y_mul (et (gS rfl g0) rfl) (et g0 rfl) (wrapU_mulN uk64 ?_)) ?_
                                            exact Nat.lt_of_le_of_lt hww (by decide)
                                            refine l_step (y_moveV (et (gS rfl (gS rfl (gS rfl g0))) rfl)) ?_
                                            refine l_step (y_maxN (b := 1) (et g0 rfl) rfl) ?_
                                            refine l_step (y_mul (et (gS rfl (gS rfl g0)) rfl) (et g0 rfl) (wrapU_mulN uk64 ?_)) ?_
                                            exact Nat.lt_of_le_of_lt (nc_mul hw8 (by omega)) (by decide)
                                            refine l_step (y_quo (et g0 rfl) rfl (by decide) (quoU (b := 3) uk64 ?_)) ?_
                                            exact Nat.lt_of_le_of_lt (nc_mul hw8 (by omega)) (by decide)
                                            refine l_step (y_maxN (a := 200) rfl (et g0 rfl)) ?_
                                            refine l_step (y_assignV (et g0 rfl)) ?_
                                            refine l_step y_assignC ?_
                                            refine l_nil ?_
                                            refine hK37 _ _ ?_
                                            refine fg2 4 5 (gS rfl g0) g0 (fun g => ?_)
                                            refine c_ret ?_
                                            refine hQ4 _ _ _ (in_ret ?_)
                                            repeat with_reducible refine then_ret ?_
                                            refine ret2 rfl (res_tmp (et (gS rfl g0) rfl)) (res_tmp (et g0 rfl)) ?_
                                            have eT : ncT l = 64 * (lk - 1) + bitLen (limb (ofBE (cutN l (96 + lnV l 0) (min (lnV l 1) 32))) (lk - 1)) - 1 := by rw [nc_T, hE, if_neg e5]; try omega
                                            have h9 : ncN k l = max 200 (ncW l * ncW l * max (ncT l) 1 / 3) := by rw [ncN, if_neg e1, if_pos ⟨e2, cB3⟩]
                                            rw [h9, show ncOk k l = true by rw [ncOk, decide_eq_false e1, decide_eq_true e2, cB3]; rfl, eT]
                                            exact ⟨rfl, U⟩)))
                                  · skip
                                    
                                    have e4 : lk = 0 := by have := of_decide_eq_false cB4; omega
                                    subst e4
                                    have hE := ncE_0 il
                                    refine c_skip ?_
                                    refine hK27 _ _ ?_
                                    refine fg3 7 10 13 (gS rfl (gS rfl (gS rfl (gS rfl (gS rfl g0))))) (gS rfl (gS rfl (gS rfl (gS rfl g0)))) (gS rfl (gS rfl g0)) (fun g => ?_)
                                    refine c_seq (fun K38 hK38 => ?_)
                                    refine c_seq (fun K39 hK39 => ?_)
                                    exact (by
                                      refine c_region ?_
                                      refine l_step (y_moveV (et (gS rfl (gS rfl g0)) rfl)) ?_
                                      refine l_step (y_gtr (et g0 rfl) rfl) ?_
                                      refine l_nil ?_
                                      refine hK39 _ _ ?_
                                      refine fg4 7 10 13 67 (gS rfl (gS rfl (gS rfl (gS rfl g0)))) (gS rfl (gS rfl (gS rfl g0))) (gS rfl (gS rfl g0)) g0 (fun g => ?_)
                                      refine c_cond (et g0 rfl) (fun cB5 => ?_) (fun cB5 => ?_)
                                      · skip
                                        
                                        have e5 : 32 < lnV l 1 := by have := of_decide_eq_true cB5; omega
                                        exact (by
                                          refine c_region ?_
                                          refine l_step (y_moveV (et (gS rfl g0) rfl)) ?_
                                          refine l_step (y_moveV (et (gS rfl (gS rfl (gS rfl (gS rfl g0)))) rfl)) ?_
                                          refine l_step (y_sub (et g0 rfl) rfl (subIN (y := 32) ?_ ?_)) ?_
                                          omega
                                          omega
                                          refine l_step (y_conv Hvaa.underlying3 Hvaa.underlying26 (et g0 rfl) (wrapU_id uk64 ?_)) ?_
                                          omega
                                          refine l_step (y_mul rfl (et g0 rfl) (wrapU_mulN (a := 8) uk64 ?_)) ?_
                                          omega
                                          refine l_step (y_add (et (gS rfl (gS rfl (gS rfl (gS rfl g0)))) rfl) (et g0 rfl) (wrapU_addN (a := 0) uk64 ?_)) ?_
                                          omega
                                          refine l_step (y_assignV (et g0 rfl)) ?_
                                          refine l_nil ?_
                                          refine hK38 _ _ ?_
                                          refine fg2 10 13 (gS rfl (gS rfl (gS rfl (gS rfl (gS rfl (gS rfl (gS rfl (gS rfl (gS rfl g0))))))))) g0 (fun g => ?_)
                                          refine c_seq (fun K41 hK41 => ?_)
                                          exact (by
                                            refine c_region ?_
                                            refine l_step (y_moveV (et (gS rfl g0) rfl)) ?_
                                            refine l_step (y_moveV (et (gS rfl (gS rfl g0)) rfl)) ?_
                                            have hw8 : (max (lnV l 0) (lnV l 2) + 7) / 8 ≤ 8 := by omega
                                            have hww := Nat.mul_le_mul hw8 hw8
                                            refine l_step (y_mul (et (gS rfl g0) rfl) (et g0 rfl) (wrapU_mulN uk64 ?_)) ?_
                                            exact Nat.lt_of_le_of_lt hww (by decide)
                                            refine l_step (y_moveV (et (gS rfl (gS rfl (gS rfl g0))) rfl)) ?_
                                            refine l_step (y_maxN (b := 1) (et g0 rfl) rfl) ?_
                                            refine l_step (y_mul (et (gS rfl (gS rfl g0)) rfl) (et g0 rfl) (wrapU_mulN uk64 ?_)) ?_
                                            exact Nat.lt_of_le_of_lt (nc_mul hw8 (by omega)) (by decide)
                                            refine l_step (y_quo (et g0 rfl) rfl (by decide) (quoU (b := 3) uk64 ?_)) ?_
                                            exact Nat.lt_of_le_of_lt (nc_mul hw8 (by omega)) (by decide)
                                            refine l_step (y_maxN (a := 200) rfl (et g0 rfl)) ?_
                                            refine l_step (y_assignV (et g0 rfl)) ?_
                                            refine l_step y_assignC ?_
                                            refine l_nil ?_
                                            refine hK41 _ _ ?_
                                            refine fg2 4 5 (gS rfl g0) g0 (fun g => ?_)
                                            refine c_ret ?_
                                            refine hQ4 _ _ _ (in_ret ?_)
                                            repeat with_reducible refine then_ret ?_
                                            refine ret2 rfl (res_tmp (et (gS rfl g0) rfl)) (res_tmp (et g0 rfl)) ?_
                                            have eT : ncT l = 0 + 8 * (lnV l 1 - 32) := by rw [nc_T, hE, if_pos e5]; try omega
                                            have h9 : ncN k l = max 200 (ncW l * ncW l * max (ncT l) 1 / 3) := by rw [ncN, if_neg e1, if_pos ⟨e2, cB3⟩]
                                            rw [h9, show ncOk k l = true by rw [ncOk, decide_eq_false e1, decide_eq_true e2, cB3]; rfl, eT]
                                            exact ⟨rfl, U⟩))
                                      · skip
                                        
                                        have e5 : ¬ 32 < lnV l 1 := by have := of_decide_eq_false cB5; omega
                                        refine c_skip ?_
                                        refine hK38 _ _ ?_
                                        refine fg2 10 13 (gS rfl (gS rfl g0)) (gS rfl g0) (fun g => ?_)
                                        refine c_seq (fun K42 hK42 => ?_)
                                        exact (by
                                          refine c_region ?_
                                          refine l_step (y_moveV (et (gS rfl g0) rfl)) ?_
                                          refine l_step (y_moveV (et (gS rfl (gS rfl g0)) rfl)) ?_
                                          have hw8 : (max (lnV l 0) (lnV l 2) + 7) / 8 ≤ 8 := by omega
                                          have hww := Nat.mul_le_mul hw8 hw8
                                          refine l_step (y_mul (et (gS rfl g0) rfl) (et g0 rfl) (wrapU_mulN uk64 ?_)) ?_
                                          exact Nat.lt_of_le_of_lt hww (by decide)
                                          refine l_step (y_moveV (et (gS rfl (gS rfl (gS rfl g0))) rfl)) ?_
                                          refine l_step (y_maxN (a := 0) (b := 1) (et g0 rfl) rfl) ?_
                                          refine l_step (y_mul (et (gS rfl (gS rfl g0)) rfl) (et g0 rfl) (wrapU_mulN uk64 ?_)) ?_
                                          exact Nat.lt_of_le_of_lt (nc_mul hw8 (by omega)) (by decide)
                                          refine l_step (y_quo (et g0 rfl) rfl (by decide) (quoU (b := 3) uk64 ?_)) ?_
                                          exact Nat.lt_of_le_of_lt (nc_mul hw8 (by omega)) (by decide)
                                          refine l_step (y_maxN (a := 200) rfl (et g0 rfl)) ?_
                                          refine l_step (y_assignV (et g0 rfl)) ?_
                                          refine l_step y_assignC ?_
                                          refine l_nil ?_
                                          refine hK42 _ _ ?_
                                          refine fg2 4 5 (gS rfl g0) g0 (fun g => ?_)
                                          refine c_ret ?_
                                          refine hQ4 _ _ _ (in_ret ?_)
                                          repeat with_reducible refine then_ret ?_
                                          refine ret2 rfl (res_tmp (et (gS rfl g0) rfl)) (res_tmp (et g0 rfl)) ?_
                                          have eT : ncT l = 0 := by rw [nc_T, hE, if_neg e5]; try omega
                                          have h9 : ncN k l = max 200 (ncW l * ncW l * max (ncT l) 1 / 3) := by rw [ncN, if_neg e1, if_pos ⟨e2, cB3⟩]
                                          rw [h9, show ncOk k l = true by rw [ncOk, decide_eq_false e1, decide_eq_true e2, cB3]; rfl, eT]
                                          exact ⟨rfl, U⟩)))))))))))
            · skip
              
              have e2 : k ≠ 5 := by have := of_decide_eq_false cB2; omega
              refine c_skip ?_
              refine hQ4 _ _ _ (in_normal ?_)
              refine hK2 _ _ ?_
              refine fg0 (fun g => ?_)
              refine c_seq (fun K43 hK43 => ?_)
              exact (by
                refine c_region ?_
                refine l_step y_assignC ?_
                refine l_step y_assignC ?_
                refine l_nil ?_
                refine hK43 _ _ ?_
                refine c_ret ?_
                repeat with_reducible refine then_ret ?_
                refine ret2 rfl (res_tmp (et (gS rfl g0) rfl)) (res_tmp (et g0 rfl)) ?_
                have h9 : ncN k l = 0 := by rw [ncN, if_neg e1, if_neg (by omega)]
                rw [h9, show ncOk k l = false by rw [ncOk, decide_eq_false e1, decide_eq_false e2]; rfl]
                exact ⟨rfl, U⟩)))))
theorem m_nativeRun {w : World} {H : Store} (hF : Fz w H) {la : Option Addr} {lc : Nat} {l : List Nat} (hB : BV H (.slice la l.length lc) l) (hl : l.length ≤ 717280) (k : Nat) (hk : k < 256) :
    Ret 187 [.int .u8 (k : Nat), .slice la l.length lc] w (fun v w' => ∃ H', Go No w H w' H' ∧ BV H' v (nrN k l)) := by
  refine enter (n := 69) Hvaa.func187 rfl rfl (Nat.le_of_ble_eq_true rfl) ?_
  have U := Up.refl w
  have G : Go (No) w H w H := Go.refl hF
  refine c_seq (fun K1 hK1 => ?_)
  exact (by
    refine c_region ?_
    refine l_step y_assignC ?_
    refine l_nil ?_
    refine hK1 _ _ ?_
    refine fg2 1 0 (gS rfl (gS rfl g0)) (gS rfl g0) (fun g => ?_)
    refine c_seq (fun K2 hK2 => ?_)
    refine c_seq (fun K3 hK3 => ?_)
    exact (by
      refine c_region ?_
      refine l_step (y_moveV (et g0 rfl)) ?_
      refine l_step (y_eql (et g0 rfl) rfl) ?_
      refine l_nil ?_
      refine hK3 _ _ ?_
      refine fg3 1 0 17 (gS rfl (gS rfl (gS rfl g0))) (gS rfl (gS rfl g0)) g0 (fun g => ?_)
      refine c_cond (et g0 rfl) (fun cB1 => ?_) (fun cB1 => ?_)
      · skip
        
        have e1 : k = 4 := by have := of_decide_eq_true cB1; omega
        refine c_seq (fun K5 hK5 => ?_)
        exact (by
          refine c_region ?_
          refine l_step (y_moveV (et (gS rfl (gS rfl g0)) rfl)) ?_
          refine l_eff (e_callV cal_260 (aC (et g0 rfl) aN) (mach_copied _ lc la l _ _ hF (hB.wv hF) (Nat.le_refl _) (by omega))) (fun v6 w6 h6 => ?_)
          obtain ⟨H6, g6, b6⟩ := h6
          have hlew6 := g6.le
          replace hB := hB.mono hlew6
          replace U := U.tr g6.up
          replace G := G.tr g6
          replace hF := g6.fz
          refine l_step (y_assignV (et g0 rfl)) ?_
          refine l_nil ?_
          refine hK5 _ _ ?_
          refine fg1 4 g0 (fun g => ?_)
          refine c_ret ?_
          repeat with_reducible refine then_ret ?_
          refine ret1 rfl (res_tmp (et g0 rfl)) ?_
          have e2 : nrN k l = l := by rw [nrN, if_pos e1]
          rw [e2]
          exact ⟨_, G, b6⟩)
      · skip
        
        have e1 : k ≠ 4 := by have := of_decide_eq_false cB1; omega
        refine c_skip ?_
        refine hK2 _ _ ?_
        refine fg2 1 0 (gS rfl (gS rfl g0)) (gS rfl g0) (fun g => ?_)
        refine c_seq (fun K7 hK7 => ?_)
        exact (by
          refine c_region ?_
          refine l_step (y_moveV (et (gS rfl g0) rfl)) ?_
          refine l_eff (e_callV cal_250 (aC (et g0 rfl) aN) (m_lengths _ (hB.wv hF) (Nat.le_refl _) (by omega))) (fun v8 w8 h8 => ?_)
          obtain ⟨rfl, u8⟩ := h8
          replace G := G.tr (Go.ofUp hF u8)
          replace hF := hF.up u8
          replace U := U.tr u8
          have ln0 := lnV_le l 0 (by decide)
          have ln1 := lnV_le l 1 (by decide)
          have ln2 := lnV_le l 2 (by decide)
          refine l_step (y_moveV (et g0 rfl)) ?_
          refine l_step (y_ext (et g0 rfl) rfl) ?_
          refine l_step (y_ext (et (gS rfl g0) rfl) rfl) ?_
          refine l_step (y_ext (et (gS rfl (gS rfl g0)) rfl) rfl) ?_
          refine l_step (y_ext (et (gS rfl (gS rfl (gS rfl g0))) rfl) rfl) ?_
          refine l_step (y_assignV (et (gS rfl (gS rfl (gS rfl g0))) rfl)) ?_
          refine l_step (y_assignV (et (gS rfl (gS rfl (gS rfl g0))) rfl)) ?_
          refine l_step (y_assignV (et (gS rfl (gS rfl (gS rfl g0))) rfl)) ?_
          refine l_step (y_assignV (et (gS rfl (gS rfl (gS rfl g0))) rfl)) ?_
          refine l_nil ?_
          refine hK7 _ _ ?_
          refine fg6 1 0 5 6 7 8 (gS rfl (gS rfl (gS rfl (gS rfl (gS rfl (gS rfl (gS rfl (gS rfl (gS rfl (gS rfl (gS rfl (gS rfl g0)))))))))))) (gS rfl (gS rfl (gS rfl (gS rfl (gS rfl (gS rfl (gS rfl (gS rfl (gS rfl (gS rfl (gS rfl g0))))))))))) (gS rfl (gS rfl (gS rfl g0))) (gS rfl (gS rfl g0)) (gS rfl g0) g0 (fun g => ?_)
          refine c_seq (fun K9 hK9 => ?_)
          refine c_seq (fun K10 hK10 => ?_)
          exact (by
            refine c_region ?_
            refine l_step (y_moveV (et (gS rfl (gS rfl (gS rfl (gS rfl g0)))) rfl)) ?_
            refine l_step (y_neq (et g0 rfl) rfl) ?_
            refine l_step (y_moveV (et g0 rfl)) ?_
            refine l_gpure (j := 2) (t := 29) (by exact rfl) (by exact rfl) (et g0 rfl) rfl (fun hc => (y_moveV (et (gS rfl (gS rfl (gS rfl g0))) rfl))) ?_
            refine l_gpure (j := 2) (t := 29) (by exact rfl) (by exact rfl) (et (gS rfl g0) rfl) rfl (fun hc => (y_not (et (cT g0 hc) rfl))) ?_
            refine l_step (y_pickO (et (gS rfl (gS rfl g0)) rfl) rfl (et g0 rfl)) ?_
            refine l_step (y_moveV (et g0 rfl)) ?_
            refine l_gpure (j := 6) (t := 33) (by exact rfl) (by exact rfl) (et g0 rfl) rfl (fun hc => (y_moveV (et (gS rfl (gS rfl (gS rfl (gS rfl (gS rfl (gS rfl (gS rfl (gS rfl g0)))))))) rfl))) ?_
            refine l_gpure (j := 6) (t := 33) (by exact rfl) (by exact rfl) (et (gS rfl g0) rfl) rfl (fun hc => (y_eql (et (cT g0 hc) rfl) rfl)) ?_
            refine l_step (y_pickO (et (gS rfl (gS rfl g0)) rfl) rfl (et g0 rfl)) ?_
            refine l_nil ?_
            refine hK10 _ _ ?_
            refine fg5 1 5 6 7 36 (gS rfl (gS rfl (gS rfl (gS rfl (gS rfl (gS rfl (gS rfl (gS rfl (gS rfl (gS rfl (gS rfl (gS rfl (gS rfl (gS rfl (gS rfl g0))))))))))))))) (gS rfl (gS rfl (gS rfl (gS rfl (gS rfl (gS rfl (gS rfl (gS rfl (gS rfl (gS rfl (gS rfl (gS rfl (gS rfl g0))))))))))))) (gS rfl (gS rfl (gS rfl (gS rfl (gS rfl (gS rfl (gS rfl (gS rfl (gS rfl (gS rfl (gS rfl (gS rfl g0)))))))))))) (gS rfl (gS rfl (gS rfl (gS rfl (gS rfl (gS rfl (gS rfl (gS rfl (gS rfl (gS rfl (gS rfl g0))))))))))) g0 (fun g => ?_)
            refine c_cond (et g0 rfl) (fun cB2 => ?_) (fun cB2 => ?_)
            · skip
              simp only [Bool.or_eq_true, Bool.or_eq_false_iff, Bool.not_eq_true', Bool.not_eq_false', decide_eq_true_eq, decide_eq_false_iff_not, Decidable.not_not] at cB2
              refine c_seq (fun K12 hK12 => ?_)
              exact (by
                refine c_region ?_
                refine l_step y_assignC ?_
                refine l_nil ?_
                refine hK12 _ _ ?_
                refine fg1 4 g0 (fun g => ?_)
                refine c_ret ?_
                repeat with_reducible refine then_ret ?_
                refine ret1 rfl (res_tmp (et g0 rfl)) ?_
                have e2 : nrN k l = [] := by
                  by_cases hh : k = 5 ∧ lnOk l = true
                  · have h0 : lnV l 2 = 0 := by
                      rcases cB2 with (h9 | h9) | h9
                      · exact absurd hh.1 (by omega)
                      · rw [hh.2] at h9; cases h9
                      · omega
                    rw [nrN, if_neg e1, if_pos hh, h0]; rfl
                  · rw [nrN, if_neg e1, if_neg hh]
                rw [e2]
                exact ⟨_, G, BV.nil _⟩)
            · skip
              simp only [Bool.or_eq_true, Bool.or_eq_false_iff, Bool.not_eq_true', Bool.not_eq_false', decide_eq_true_eq, decide_eq_false_iff_not, Decidable.not_not] at cB2
              refine c_skip ?_
              refine hK9 _ _ ?_
              refine fg4 1 5 6 7 (gS rfl (gS rfl (gS rfl (gS rfl g0)))) (gS rfl (gS rfl (gS rfl g0))) (gS rfl (gS rfl g0)) (gS rfl g0) (fun g => ?_)
              refine c_seq (fun K13 hK13 => ?_)
              exact (by
                refine c_region ?_
                refine l_step (y_moveV (et (gS rfl (gS rfl (gS rfl g0))) rfl)) ?_
                refine l_step (y_moveV (et (gS rfl (gS rfl (gS rfl g0))) rfl)) ?_
                refine l_eff (e_callV cal_261 (aC (et (gS rfl g0) rfl) (aC (v := .int .i64 ((96 : Nat) : Int)) rfl (aC (et g0 rfl) aN))) (m_operand _ (hB.wv hF) (Nat.le_refl _) (by omega) 96 (lnV l 0) (by decide) (by omega))) (fun v14 w14 h14 => ?_)
                obtain ⟨rfl, u14⟩ := h14
                replace G := G.tr (Go.ofUp hF u14)
                replace hF := hF.up u14
                replace U := U.tr u14
                refine l_eff (e_alloc zr_336) (fun v15 w15 h15 => ?_)
                obtain ⟨b15, rfl, n15⟩ := h15
                have f15 : w.heap.size ≤ b15 := Nat.le_trans U.size n15.fresh
                have nb15 := hF.nb n15.fresh
                replace G := G.tr (Go.ofUp hF n15.up)
                replace hF := hF.up n15.up
                replace U := U.tr n15.up
                have k15 := n15.blk
                obtain ⟨zs15, hz15, k15⟩ : ∃ cs : Array Value, cs.size = 8 ∧ Blk w15 b15 cs := ⟨_, rfl, k15⟩
                refine l_effN (e_store sz_336 (et g0 rfl) (cellsV (et (gS rfl g0) rfl) rfl) rfl (by exact one_uL _) k15 (by (rw [hz15]; exact Nat.le_refl _))) (fun v16 w16 h16 => ?_)
                obtain ⟨rfl, x16⟩ := h16
                replace k15 := x16.blk.full (by rw [hz15]; rfl)
                replace G := G.wr x16 (by first | exact .inr f15 | omega | (simp; omega)) nb15
                replace hF := G.fz
                replace U := U.st x16 f15
                refine l_nil ?_
                refine hK13 _ _ ?_
                refine fg5 1 5 6 7 9 (gS rfl (gS rfl (gS rfl (gS rfl (gS rfl (gS rfl (gS rfl g0))))))) (gS rfl (gS rfl (gS rfl (gS rfl (gS rfl (gS rfl g0)))))) (gS rfl (gS rfl (gS rfl (gS rfl (gS rfl g0))))) (gS rfl (gS rfl (gS rfl (gS rfl g0)))) g0 (fun g => ?_)
                refine c_seq (fun K17 hK17 => ?_)
                exact (by
                  refine c_region ?_
                  refine l_step (y_moveV (et (gS rfl (gS rfl (gS rfl (gS rfl g0)))) rfl)) ?_
                  refine l_step (y_moveV (et (gS rfl (gS rfl (gS rfl (gS rfl g0)))) rfl)) ?_
                  refine l_step (y_add rfl (et g0 rfl) (addIN (x := 96) ?_)) ?_
                  omega
                  refine l_step (y_moveV (et (gS rfl (gS rfl (gS rfl (gS rfl (gS rfl g0))))) rfl)) ?_
                  refine l_eff (e_callV cal_261 (aC (et (gS rfl (gS rfl (gS rfl g0))) rfl) (aC (et (gS rfl g0) rfl) (aC (et g0 rfl) aN))) (m_operand _ (hB.wv hF) (Nat.le_refl _) (by omega) (96 + lnV l 0) (lnV l 1) (by omega) (by omega))) (fun v18 w18 h18 => ?_)
                  obtain ⟨rfl, u18⟩ := h18
                  replace G := G.tr (Go.ofUp hF u18)
                  replace hF := hF.up u18
                  replace k15 := k15.up u18
                  replace U := U.tr u18
                  refine l_eff (e_alloc zr_336) (fun v19 w19 h19 => ?_)
                  obtain ⟨b19, rfl, n19⟩ := h19
                  have d15_19 : b15 < b19 := Nat.lt_of_lt_of_le k15.lt n19.fresh
                  have f19 : w.heap.size ≤ b19 := Nat.le_trans U.size n19.fresh
                  have nb19 := hF.nb n19.fresh
                  replace G := G.tr (Go.ofUp hF n19.up)
                  replace hF := hF.up n19.up
                  replace k15 := k15.up n19.up
                  replace U := U.tr n19.up
                  have k19 := n19.blk
                  obtain ⟨zs19, hz19, k19⟩ : ∃ cs : Array Value, cs.size = 8 ∧ Blk w19 b19 cs := ⟨_, rfl, k19⟩
                  refine l_effN (e_store sz_336 (et g0 rfl) (cellsV (et (gS rfl g0) rfl) rfl) rfl (by exact one_uL _) k19 (by (rw [hz19]; exact Nat.le_refl _))) (fun v20 w20 h20 => ?_)
                  obtain ⟨rfl, x20⟩ := h20
                  replace k15 := k15.ch x20.ch (by omega)
                  replace k19 := x20.blk.full (by rw [hz19]; rfl)
                  replace G := G.wr x20 (by first | exact .inr f19 | omega | (simp; omega)) nb19
                  replace hF := G.fz
                  replace U := U.st x20 f19
                  refine l_nil ?_
                  refine hK17 _ _ ?_
                  refine fg6 1 5 6 7 9 10 (gS rfl (gS rfl (gS rfl (gS rfl (gS rfl (gS rfl (gS rfl (gS rfl (gS rfl (gS rfl g0)))))))))) (gS rfl (gS rfl (gS rfl (gS rfl (gS rfl (gS rfl (gS rfl (gS rfl (gS rfl g0))))))))) (gS rfl (gS rfl (gS rfl (gS rfl (gS rfl (gS rfl (gS rfl (gS rfl g0)))))))) (gS rfl (gS rfl (gS rfl (gS rfl (gS rfl (gS rfl (gS rfl g0))))))) (gS rfl (gS rfl (gS rfl (gS rfl (gS rfl (gS rfl g0)))))) g0 (fun g => ?_)
                  refine c_seq (fun K21 hK21 => ?_)
                  exact (by
                    refine c_region ?_
                    refine l_step (y_moveV (et (gS rfl (gS rfl (gS rfl (gS rfl (gS rfl g0))))) rfl)) ?_
                    refine l_step (y_moveV (et (gS rfl (gS rfl (gS rfl (gS rfl (gS rfl g0))))) rfl)) ?_
                    refine l_step (y_add rfl (et g0 rfl) (addIN (x := 96) ?_)) ?_
                    omega
                    refine l_step (y_moveV (et (gS rfl (gS rfl (gS rfl (gS rfl (gS rfl (gS rfl g0)))))) rfl)) ?_
                    refine l_step (y_add (et (gS rfl g0) rfl) (et g0 rfl) (addIN ?_)) ?_
                    omega
                    refine l_step (y_moveV (et (gS rfl (gS rfl (gS rfl (gS rfl (gS rfl (gS rfl (gS rfl g0))))))) rfl)) ?_
                    refine l_eff (e_callV cal_261 (aC (et (gS rfl (gS rfl (gS rfl (gS rfl (gS rfl g0))))) rfl) (aC (et (gS rfl g0) rfl) (aC (et g0 rfl) aN))) (m_operand _ (hB.wv hF) (Nat.le_refl _) (by omega) (96 + lnV l 0 + lnV l 1) (lnV l 2) (by omega) (by omega))) (fun v22 w22 h22 => ?_)
                    obtain ⟨rfl, u22⟩ := h22
                    replace G := G.tr (Go.ofUp hF u22)
                    replace hF := hF.up u22
                    replace k15 := k15.up u22
                    replace k19 := k19.up u22
                    replace U := U.tr u22
                    refine l_eff (e_alloc zr_336) (fun v23 w23 h23 => ?_)
                    obtain ⟨b23, rfl, n23⟩ := h23
                    have d15_23 : b15 < b23 := Nat.lt_of_lt_of_le k15.lt n23.fresh
                    have d19_23 : b19 < b23 := Nat.lt_of_lt_of_le k19.lt n23.fresh
                    have f23 : w.heap.size ≤ b23 := Nat.le_trans U.size n23.fresh
                    have nb23 := hF.nb n23.fresh
                    replace G := G.tr (Go.ofUp hF n23.up)
                    replace hF := hF.up n23.up
                    replace k15 := k15.up n23.up
                    replace k19 := k19.up n23.up
                    replace U := U.tr n23.up
                    have k23 := n23.blk
                    obtain ⟨zs23, hz23, k23⟩ : ∃ cs : Array Value, cs.size = 8 ∧ Blk w23 b23 cs := ⟨_, rfl, k23⟩
                    refine l_effN (e_store sz_336 (et g0 rfl) (cellsV (et (gS rfl g0) rfl) rfl) rfl (by exact one_uL _) k23 (by (rw [hz23]; exact Nat.le_refl _))) (fun v24 w24 h24 => ?_)
                    obtain ⟨rfl, x24⟩ := h24
                    replace k15 := k15.ch x24.ch (by omega)
                    replace k19 := k19.ch x24.ch (by omega)
                    replace k23 := x24.blk.full (by rw [hz23]; rfl)
                    replace G := G.wr x24 (by first | exact .inr f23 | omega | (simp; omega)) nb23
                    replace hF := G.fz
                    replace U := U.st x24 f23
                    refine l_nil ?_
                    refine hK21 _ _ ?_
                    refine fg4 7 9 10 11 (gS rfl (gS rfl (gS rfl (gS rfl (gS rfl (gS rfl (gS rfl (gS rfl (gS rfl (gS rfl g0)))))))))) (gS rfl (gS rfl (gS rfl (gS rfl (gS rfl (gS rfl (gS rfl (gS rfl (gS rfl g0))))))))) (gS rfl (gS rfl (gS rfl (gS rfl (gS rfl (gS rfl (gS rfl (gS rfl g0)))))))) g0 (fun g => ?_)
                    refine c_seq (fun K25 hK25 => ?_)
                    exact (by
                      refine c_region ?_
                      refine l_eff (e_callV cal_262 (aC (et (gS rfl (gS rfl g0)) rfl) (aC (et (gS rfl g0) rfl) (aC (et g0 rfl) aN))) (m_modexp b15 b19 b23 (nrB l) (nrE l) (nrM l) _ (cut_lt64 hB.dig _ ln0) (cut_lt64 hB.dig _ ln1) (cut_lt64 hB.dig _ ln2) k15 k19 k23)) (fun v26 w26 h26 => ?_)
                      obtain ⟨rfl, u26⟩ := h26
                      replace G := G.tr (Go.ofUp hF u26)
                      replace hF := hF.up u26
                      replace k15 := k15.up u26
                      replace k19 := k19.up u26
                      replace k23 := k23.up u26
                      replace U := U.tr u26
                      refine l_eff (e_alloc zr_336) (fun v27 w27 h27 => ?_)
                      obtain ⟨b27, rfl, n27⟩ := h27
                      have d15_27 : b15 < b27 := Nat.lt_of_lt_of_le k15.lt n27.fresh
                      have d19_27 : b19 < b27 := Nat.lt_of_lt_of_le k19.lt n27.fresh
                      have d23_27 : b23 < b27 := Nat.lt_of_lt_of_le k23.lt n27.fresh
                      have f27 : w.heap.size ≤ b27 := Nat.le_trans U.size n27.fresh
                      have nb27 := hF.nb n27.fresh
                      replace G := G.tr (Go.ofUp hF n27.up)
                      replace hF := hF.up n27.up
                      replace k15 := k15.up n27.up
                      replace k19 := k19.up n27.up
                      replace k23 := k23.up n27.up
                      replace U := U.tr n27.up
                      have k27 := n27.blk
                      obtain ⟨zs27, hz27, k27⟩ : ∃ cs : Array Value, cs.size = 8 ∧ Blk w27 b27 cs := ⟨_, rfl, k27⟩
                      refine l_effN (e_store sz_336 (et g0 rfl) (cellsV (et (gS rfl g0) rfl) rfl) rfl (by exact one_uL _) k27 (by (rw [hz27]; exact Nat.le_refl _))) (fun v28 w28 h28 => ?_)
                      obtain ⟨rfl, x28⟩ := h28
                      replace k15 := k15.ch x28.ch (by omega)
                      replace k19 := k19.ch x28.ch (by omega)
                      replace k23 := k23.ch x28.ch (by omega)
                      replace k27 := x28.blk.full (by rw [hz27]; rfl)
                      replace G := G.wr x28 (by first | exact .inr f27 | omega | (simp; omega)) nb27
                      replace hF := G.fz
                      replace U := U.st x28 f27
                      refine l_nil ?_
                      refine hK25 _ _ ?_
                      refine fg2 7 12 (gS rfl (gS rfl (gS rfl (gS rfl (gS rfl g0))))) g0 (fun g => ?_)
                      refine c_seq (fun K29 hK29 => ?_)
                      exact (by
                        refine c_region ?_
                        refine l_eff (e_alloc zr_340) (fun v30 w30 h30 => ?_)
                        obtain ⟨b30, rfl, n30⟩ := h30
                        have d15_30 : b15 < b30 := Nat.lt_of_lt_of_le k15.lt n30.fresh
                        have d19_30 : b19 < b30 := Nat.lt_of_lt_of_le k19.lt n30.fresh
                        have d23_30 : b23 < b30 := Nat.lt_of_lt_of_le k23.lt n30.fresh
                        have d27_30 : b27 < b30 := Nat.lt_of_lt_of_le k27.lt n30.fresh
                        have f30 : w.heap.size ≤ b30 := Nat.le_trans U.size n30.fresh
                        have nb30 := hF.nb n30.fresh
                        replace G := G.tr (Go.ofUp hF n30.up)
                        replace hF := hF.up n30.up
                        replace k15 := k15.up n30.up
                        replace k19 := k19.up n30.up
                        replace k23 := k23.up n30.up
                        replace k27 := k27.up n30.up
                        replace U := U.tr n30.up
                        have k30 := n30.blk
                        replace k30 : Blk w30 b30 (bL (List.replicate 64 0)).toArray := k30
                        rw [← be_zero, show (0 : Nat) = mexp (nrB l) (nrE l) (nrM l) % 18446744073709551616 ^ 0 by rw [Nat.pow_zero, Nat.mod_one]] at k30
                        refine l_nil ?_
                        refine hK29 _ _ ?_
                        refine c_seq (fun K31 hK31 => ?_)
                        refine c_seq (fun K32 hK32 => ?_)
                        exact (by
                          refine c_region ?_
                          refine l_step (y_loadB agg_336 sz_336 (et (gS rfl g0) rfl) rfl (at1B k27)) ?_
                          refine l_step y_moveC ?_
                          refine l_nil ?_
                          refine hK32 _ _ ?_
                          refine fg4 7 13 53 54 (gS rfl (gS rfl (gS rfl (gS rfl g0)))) (gS rfl (gS rfl g0)) (gS rfl g0) g0 (fun g => ?_)
                          refine c_block (fun Q33 hQ33 => ?_)
                          refine fg4 7 13 53 54 (gS rfl (gS rfl (gS rfl g0))) (gS rfl (gS rfl g0)) (gS rfl g0) g0 (fun g => ?_)
                          refine c_loop (fun k_ s_ W34 => ∃ (g : Nat → Value) (Hk34 : Store) (i : Nat), s_ = (upd (upd (upd (upd g 7 (.int .i64 (lnV l 2 : Nat))) 13 (.pointer (some ⟨b30, 0, none⟩))) 53 (.agg (uL ((List.range 8).map (limb (mexp (nrB l) (nrE l) (nrM l))))).toArray)) 54 (.int .i64 (i : Nat))) ∧ 8 - i = k_ ∧ (i ≤ 8) ∧ Blk W34 b30 ((bL (be 64 (mexp (nrB l) (nrE l) (nrM l) % 18446744073709551616 ^ i))).toArray) ∧ Go (fun k => k = b30) w30 H W34 Hk34) (8 - (0)) ?_ ?_
                          · exact ⟨g, _, 0, rfl, rfl, by omega, k30, Go.refl hF⟩
                          · skip
                            intro k_ s_ W34 hI K34 hK34
                            obtain ⟨g, Hk34, i, rfl, rfl, hi, nk30, V34⟩ := hI
                            have hle34 := V34.le
                            replace nb15 := V34.nb nb15 k15.lt
                            replace nb19 := V34.nb nb19 k19.lt
                            replace nb23 := V34.nb nb23 k23.lt
                            replace nb27 := V34.nb nb27 k27.lt
                            replace nb30 := V34.nb nb30 k30.lt
                            replace hB := hB.mono hle34
                            replace G := G.trans V34 (by intro b hb; first | exact hb.elim | omega | (simp at hb ⊢; omega))
                            replace hF := V34.fz
                            replace k15 := k15.ch V34.ch (by omega)
                            replace k19 := k19.ch V34.ch (by omega)
                            replace k23 := k23.ch V34.ch (by omega)
                            replace k27 := k27.ch V34.ch (by omega)
                            replace k30 := nk30
                            replace U := U.cc V34.ch (by intro b hb; first | exact hb.elim | omega | (simp at hb ⊢; omega))
                            refine c_seq (fun K35 hK35 => ?_)
                            exact (by
                              refine c_region ?_
                              refine l_step (y_lss (et g0 rfl) rfl) ?_
                              refine l_nil ?_
                              refine hK35 _ _ ?_
                              refine c_seq (fun K36 hK36 => ?_)
                              refine c_cond (et g0 rfl) (fun cB3 => ?_) (fun cB3 => ?_)
                              · skip
                                
                                have hi3 : i < 8 := by have := of_decide_eq_true cB3; omega
                                refine c_skip ?_
                                refine hK36 _ _ ?_
                                refine fg4 7 13 53 54 (gS rfl (gS rfl (gS rfl (gS rfl g0)))) (gS rfl (gS rfl (gS rfl g0))) (gS rfl (gS rfl g0)) (gS rfl g0) (fun g => ?_)
                                refine c_seq (fun K38 hK38 => ?_)
                                refine c_block (fun Q39 hQ39 => ?_)
                                refine c_seq (fun K40 hK40 => ?_)
                                exact (by
                                  refine c_region ?_
                                  refine l_step (y_moveV (et g0 rfl)) ?_
                                  refine l_step (y_idxV (et (gS rfl (gS rfl g0)) rfl) (et (gS rfl g0) rfl) (fun w => idx336 w _ i hi3)) ?_
                                  refine l_step (y_assignV (et (gS rfl g0) rfl)) ?_
                                  refine l_step (y_assignV (et (gS rfl g0) rfl)) ?_
                                  refine l_nil ?_
                                  refine hK40 _ _ ?_
                                  refine fg6 7 13 53 54 14 15 (gS rfl (gS rfl (gS rfl (gS rfl (gS rfl (gS rfl (gS rfl g0))))))) (gS rfl (gS rfl (gS rfl (gS rfl (gS rfl (gS rfl g0)))))) (gS rfl (gS rfl (gS rfl (gS rfl (gS rfl g0))))) (gS rfl (gS rfl (gS rfl (gS rfl g0)))) (gS rfl g0) g0 (fun g => ?_)
                                  refine c_region ?_
                                  refine l_step (y_slA000 Hvaa.underlying340 sz_5 (et (gS rfl (gS rfl (gS rfl (gS rfl g0)))) rfl) ) ?_
                                  refine l_step (y_moveV (et (gS rfl (gS rfl g0)) rfl)) ?_
                                  refine l_step (y_mul rfl (et g0 rfl) (mulIN (x := 8) ?_)) ?_
                                  omega
                                  refine l_step (y_sub rfl (et g0 rfl) (subIN (x := 56) ?_ ?_)) ?_
                                  omega
                                  omega
                                  refine l_step (y_moveV (et (gS rfl (gS rfl (gS rfl (gS rfl g0)))) rfl)) ?_
                                  refine l_eff (e_callV cal_158 (aC (et (gS rfl (gS rfl (gS rfl (gS rfl g0)))) rfl) (aC (et (gS rfl g0) rfl) (aC (et g0 rfl) aN))) (putbe64_l b30 0 64 64 (56 - 8 * i) _ _ _ (by omega) (by omega) (by omega) (by rw [List.size_toArray, length_bL, length_be]; decide) (limb_lt _ _) k30)) (fun v41 w41 h41 => ?_)
                                  obtain ⟨rfl, kb41, x41⟩ := h41
                                  replace G := G.chs x41 (by intro b hb; first | omega | exact .inl hb | (simp at hb ⊢; omega)) (by intro q hq; first | (subst hq; assumption) | (simp only at hq; first | (subst hq; assumption) | (rcases hq with rfl | rfl <;> assumption)))
                                  replace V34 := V34.chs x41 (by intro b hb; first | omega | exact .inl hb | (simp at hb ⊢; omega)) (by intro q hq; first | (subst hq; assumption) | (simp only at hq; first | (subst hq; assumption) | (rcases hq with rfl | rfl <;> assumption)))
                                  replace hF := G.fz
                                  replace k15 := k15.ch x41 (by omega)
                                  replace k19 := k19.ch x41 (by omega)
                                  replace k23 := k23.ch x41 (by omega)
                                  replace k27 := k27.ch x41 (by omega)
                                  replace k30 := kb41
                                  replace U := U.cc x41 (by intro b hb; first | exact hb ▸ f30 | omega)
                                  rw [show 0 + (56 - 8 * i) = 56 - 8 * i by omega, be64_put hi3] at k30
                                  refine l_nil ?_
                                  refine hQ39 _ _ _ (in_normal ?_)
                                  refine hK38 _ _ ?_
                                  refine fg4 7 13 53 54 (gS rfl (gS rfl (gS rfl (gS rfl (gS rfl (gS rfl (gS rfl (gS rfl (gS rfl (gS rfl (gS rfl g0))))))))))) (gS rfl (gS rfl (gS rfl (gS rfl (gS rfl (gS rfl (gS rfl (gS rfl (gS rfl (gS rfl g0)))))))))) (gS rfl (gS rfl (gS rfl (gS rfl (gS rfl (gS rfl (gS rfl (gS rfl (gS rfl g0))))))))) (gS rfl (gS rfl (gS rfl (gS rfl (gS rfl (gS rfl (gS rfl (gS rfl g0)))))))) (fun g => ?_)
                                  refine c_region ?_
                                  exact (by
                                    refine l_step (y_add (et g0 rfl) rfl (addIN (y := 1) ?_)) ?_
                                    omega
                                    refine l_step (y_moveV (et g0 rfl)) ?_
                                    refine l_nil ?_
                                    refine fK4 7 13 53 54 (gS rfl (gS rfl (gS rfl (gS rfl (gS rfl g0))))) (gS rfl (gS rfl (gS rfl (gS rfl g0)))) (gS rfl (gS rfl (gS rfl g0))) g0 (fun g => ?_)
                                    exact hK34 (8 - ((i + 1))) _ _ (by omega) ⟨g, _, (i + 1), rfl, rfl, by omega, k30, V34⟩))
                              · skip
                                
                                have hi3 : i = 8 := by have := of_decide_eq_false cB3; omega
                                subst hi3
                                refine c_exit ?_
                                refine hQ33 _ _ _ (in_exit ?_)
                                refine hK31 _ _ ?_
                                refine fg2 7 13 (gS rfl (gS rfl (gS rfl (gS rfl g0)))) (gS rfl (gS rfl (gS rfl g0))) (fun g => ?_)
                                refine c_seq (fun K42 hK42 => ?_)
                                exact (by
                                  refine c_region ?_
                                  refine l_step (y_moveV (et (gS rfl g0) rfl)) ?_
                                  refine l_step (y_sub rfl (et g0 rfl) (subIN (x := 64) ?_ ?_)) ?_
                                  omega
                                  omega
                                  have hlt9 : mexp (nrB l) (nrE l) (nrM l) % 18446744073709551616 ^ 8 = mexp (nrB l) (nrE l) (nrM l) := Nat.mod_eq_of_lt (by rw [show (18446744073709551616 : Nat) ^ 8 = 256 ^ 64 from rfl]; exact mexp_bd (cut_lt64 hB.dig _ ln2))
                                  rw [hlt9] at k30
                                  refine l_step (y_slA100 Hvaa.underlying340 sz_5 (et (gS rfl (gS rfl g0)) rfl) (et g0 rfl) ?_ ?_ ?_) ?_
                                  omega
                                  omega
                                  omega
                                  have hw8 : WV W34.heap.size W34 (.slice (some ⟨b30, 0 + (64 - lnV l 2) * 1, none⟩) ((be 64 (mexp (nrB l) (nrE l) (nrM l))).drop (64 - lnV l 2)).length (64 - (64 - lnV l 2))) ((be 64 (mexp (nrB l) (nrE l) (nrM l))).drop (64 - lnV l 2)) := by
                                    rw [List.length_drop]
                                    exact WV.drop0 (k := 64 - lnV l 2) (WV.ofBlk (l := be 64 (mexp (nrB l) (nrE l) (nrM l))) (r := []) (c := 64) (by rw [show bL [] = [] from rfl, List.append_nil]; exact k30) (be_lt _ _) k30.lt (by rw [length_be]; exact Nat.le_refl _) (by decide)) (by rw [length_be]; omega)
                                  have hC8 := mach_copied _ _ _ _ _ _ hF hw8 (Nat.le_refl _) (by rw [List.length_drop, length_be]; omega)
                                  rw [List.length_drop, length_be] at hC8
                                  refine l_eff (e_callV cal_260 (aC (et g0 rfl) aN) hC8) (fun v43 w43 h43 => ?_)
                                  obtain ⟨H43, g43, b43⟩ := h43
                                  have hlew43 := g43.le
                                  replace nb15 := g43.nb nb15 k15.lt
                                  replace nb19 := g43.nb nb19 k19.lt
                                  replace nb23 := g43.nb nb23 k23.lt
                                  replace nb27 := g43.nb nb27 k27.lt
                                  replace nb30 := g43.nb nb30 k30.lt
                                  replace hB := hB.mono hlew43
                                  replace k15 := k15.up g43.up
                                  replace k19 := k19.up g43.up
                                  replace k23 := k23.up g43.up
                                  replace k27 := k27.up g43.up
                                  replace k30 := k30.up g43.up
                                  replace U := U.tr g43.up
                                  replace G := G.tr g43
                                  replace hF := g43.fz
                                  exact (by
                                    refine l_step (y_assignV (et g0 rfl)) ?_
                                    refine l_nil ?_
                                    refine hK42 _ _ ?_
                                    refine fg1 4 g0 (fun g => ?_)
                                    refine c_ret ?_
                                    repeat with_reducible refine then_ret ?_
                                    refine ret1 rfl (res_tmp (et g0 rfl)) ?_
                                    have e2 : nrN k l = be (lnV l 2) (mexp (nrB l) (nrE l) (nrM l)) := by rw [nrN, if_neg e1, if_pos ⟨by omega, cB2.1.2⟩]
                                    rw [e2, ← be_drop ln2]
                                    exact ⟨_, G, b43⟩)))))))))))))
end Go.Proofs.YgvaawGreat
