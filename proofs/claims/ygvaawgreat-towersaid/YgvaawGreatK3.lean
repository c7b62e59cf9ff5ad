import Derived.Test.YgvaawGreatK2
set_option maxRecDepth 100000
set_option maxHeartbeats 4000000
set_option linter.unusedSimpArgs false
set_option linter.unusedVariables false
namespace Go.Proofs.YgvaawGreat
open Go
def regN : Nat → List Bool
  | 0 => [true, false, false, false, false, false, false, false]
  | t + 1 => turnL (regN t)
theorem reg8 (t : Nat) : ∃ a0 a1 a2 a3 a4 a5 a6 a7, regN t = [a0, a1, a2, a3, a4, a5, a6, a7] := by
  induction t with
  | zero => exact ⟨_, _, _, _, _, _, _, _, rfl⟩
  | succ t ih =>
    obtain ⟨a0, a1, a2, a3, a4, a5, a6, a7, h⟩ := ih
    exact ⟨_, _, _, _, _, _, _, _, by rw [regN, h]; rfl⟩
def conN (i : Nat) : Nat → Nat
  | 0 => 0
  | j + 1 => if (regN (7 * i + j)).headD false = true then conN i j ||| 1 * 2 ^ (2 ^ j - 1) % 18446744073709551616 else conN i j
theorem con_lt (i j : Nat) : conN i j < 18446744073709551616 := by
  induction j with
  | zero => exact (show 0 < 18446744073709551616 by decide)
  | succ j ih =>
    rw [conN]
    split
    · exact Nat.or_lt_two_pow (n := 64) ih (Nat.mod_lt _ (by decide))
    · exact ih
theorem con_rc {i : Nat} (h : i < 24) : conN i 7 = kRC i := by
  have : ∀ x : Fin 24, conN x.1 7 = kRC x.1 := by decide
  exact this ⟨i, h⟩
theorem one_oL (l : List Bool) : ∀ v ∈ oL l, v.one1 = true := by
  intro v hv
  obtain ⟨b, _, rfl⟩ := List.mem_map.1 hv
  rfl
theorem shlI {j : Nat} (h : j ≤ 6) : IntKind.u64.wrap ((1 : Int) * 2 ^ (min ((j : Int)).toNat IntKind.u64.bits)) = ((2 ^ j : Nat) : Int) := by
  have : ∀ x : Fin 7, IntKind.u64.wrap ((1 : Int) * 2 ^ (min ((x.1 : Int)).toNat IntKind.u64.bits)) = ((2 ^ x.1 : Nat) : Int) := by decide
  exact this ⟨j, by omega⟩
theorem bld473 (w : World) : (Instr.build 473 [(0, Value.bool true)].toArray).run Hvaa.prog w = .ok (.agg (oL (regN 0)).toArray) w := by kernel_rfl
theorem p2j {j : Nat} (h : j ≤ 6) : 1 ≤ 2 ^ j ∧ 2 ^ j ≤ 64 := by
  have : ∀ x : Fin 7, 1 ≤ 2 ^ x.1 ∧ 2 ^ x.1 ≤ 64 := by decide
  exact this ⟨j, by omega⟩
theorem km_const (i : Nat) (w : World) (hi : i < 256) :
    Ret 415 [.int .u8 i] w (fun v w' => v = .int .u64 ((if i < 24 then kRC i else 0 : Nat)) ∧ Up w w') := by
  refine enter (n := 32) Hvaa.func415 rfl rfl (Nat.le_of_ble_eq_true rfl) ?_
  have U := Up.refl w
  refine c_seq (fun K1 hK1 => ?_)
  exact (by
    refine c_region ?_
    refine l_step y_assignC ?_
    refine l_nil ?_
    refine hK1 _ _ ?_
    refine fg1 0 (gS rfl g0) (fun g => ?_)
    refine c_seq (fun K2 hK2 => ?_)
    refine c_seq (fun K3 hK3 => ?_)
    exact (by
      refine c_region ?_
      refine l_step (y_moveV (et g0 rfl)) ?_
      refine l_step (y_geq (et g0 rfl) rfl) ?_
      refine l_nil ?_
      refine hK3 _ _ ?_
      refine fg2 0 8 (gS rfl (gS rfl g0)) g0 (fun g => ?_)
      refine c_cond (et g0 rfl) (fun cB1 => ?_) (fun cB1 => ?_)
      · skip
        
        have hi24 : ¬ i < 24 := by have := of_decide_eq_true cB1; omega
        refine c_seq (fun K5 hK5 => ?_)
        exact (by
          refine c_region ?_
          refine l_step y_assignC ?_
          refine l_nil ?_
          refine hK5 _ _ ?_
          refine fg1 2 g0 (fun g => ?_)
          refine c_ret ?_
          repeat with_reducible refine then_ret ?_
          refine ret1 rfl (res_tmp (et g0 rfl)) ?_
          exact ⟨by rw [if_neg hi24]; rfl, U⟩)
      · skip
        
        have hi24 : i < 24 := by have := of_decide_eq_false cB1; omega
        refine c_skip ?_
        refine hK2 _ _ ?_
        refine fg1 0 (gS rfl g0) (fun g => ?_)
        refine c_seq (fun K6 hK6 => ?_)
        exact (by
          refine c_region ?_
          refine l_step (y_bld (bC rfl bN) bld473) ?_
          refine l_eff (e_alloc zr_473) (fun v7 w7 h7 => ?_)
          obtain ⟨b7, rfl, n7⟩ := h7
          have f7 : w.heap.size ≤ b7 := Nat.le_trans U.size n7.fresh
          replace U := U.tr n7.up
          have k7 := n7.blk
          refine l_effN (e_store sz_473 (et g0 rfl) (cellsV (et (gS rfl g0) rfl) rfl) rfl (by exact one_oL _) k7 (by exact Nat.le_of_ble_eq_true rfl)) (fun v8 w8 h8 => ?_)
          obtain ⟨rfl, x8⟩ := h8
          replace k7 := x8.blk.full rfl
          replace U := U.st x8 f7
          replace k7 : Blk w8 b7 (oL (regN 0)).toArray := k7
          refine l_nil ?_
          refine hK6 _ _ ?_
          refine fg2 0 3 (gS rfl (gS rfl g0)) g0 (fun g => ?_)
          refine c_seq (fun K9 hK9 => ?_)
          refine c_seq (fun K10 hK10 => ?_)
          exact (by
            refine c_region ?_
            refine l_step y_assignC ?_
            refine l_nil ?_
            refine hK10 _ _ ?_
            refine c_block (fun Q11 hQ11 => ?_)
            refine fg3 0 3 4 (gS rfl (gS rfl g0)) (gS rfl g0) g0 (fun g => ?_)
            refine c_loop (fun k_ s_ W12 => ∃ (g : Nat → Value) (t : Nat), s_ = (upd (upd (upd g 0 (.int .u8 (i : Nat))) 3 (.pointer (some ⟨b7, 0, none⟩))) 4 (.int .i64 (t : Nat))) ∧ 7 * i - t = k_ ∧ (t ≤ 7 * i) ∧ Blk W12 b7 ((oL (regN t)).toArray) ∧ Ch (fun k => k = b7) w8 W12) (7 * i - (0)) ?_ ?_
            · exact ⟨g, 0, rfl, rfl, Nat.zero_le _, k7, Ch.refl _ _⟩
            · skip
              intro k_ s_ W12 hI K12 hK12
              obtain ⟨g, t, rfl, rfl, ht, nk7, V12⟩ := hI
              replace k7 := nk7
              replace U := U.cc V12 (by intro b hb; first | exact hb.elim | omega | (simp at hb ⊢; omega))
              refine c_seq (fun K13 hK13 => ?_)
              refine c_seq (fun K14 hK14 => ?_)
              exact (by
                refine c_region ?_
                refine l_step (y_moveV (et g0 rfl)) ?_
                refine l_step (y_moveV (et (gS rfl (gS rfl (gS rfl g0))) rfl)) ?_
                refine l_step (y_conv Hvaa.underlying5 Hvaa.underlying3 (et g0 rfl) (wrapIN ?_)) ?_
                omega
                refine l_step (y_mul rfl (et g0 rfl) (mulIN (x := 7) ?_)) ?_
                omega
                refine l_step (y_lss (et (gS rfl (gS rfl (gS rfl g0))) rfl) (et g0 rfl)) ?_
                refine l_nil ?_
                refine hK14 _ _ ?_
                refine fg4 0 3 4 14 (gS rfl (gS rfl (gS rfl (gS rfl (gS rfl (gS rfl (gS rfl g0))))))) (gS rfl (gS rfl (gS rfl (gS rfl (gS rfl (gS rfl g0)))))) (gS rfl (gS rfl (gS rfl (gS rfl (gS rfl g0))))) g0 (fun g => ?_)
                refine c_cond (et g0 rfl) (fun cB2 => ?_) (fun cB2 => ?_)
                · skip
                  
                  have htl : t < 7 * i := by have := of_decide_eq_true cB2; omega
                  refine c_skip ?_
                  refine hK13 _ _ ?_
                  refine fg3 0 3 4 (gS rfl (gS rfl (gS rfl g0))) (gS rfl (gS rfl g0)) (gS rfl g0) (fun g => ?_)
                  refine c_seq (fun K16 hK16 => ?_)
                  refine c_block (fun Q17 hQ17 => ?_)
                  exact (by
                    refine c_region ?_
                    obtain ⟨a0, a1, a2, a3, a4, a5, a6, a7, hreg⟩ := reg8 (t)
                    rw [hreg] at k7
                    refine l_eff (e_callV cal_422 (aC (et (gS rfl g0) rfl) aN) (km_turn _ _ _ _ _ _ _ _ _ _ k7)) (fun v18 w18 h18 => ?_)
                    obtain ⟨rfl, c18, kx18⟩ := h18
                    replace k7 := (by rw [← hreg] at kx18; exact kx18)
                    replace V12 := V12.cc c18 (by intro b hb; first | omega | (simp at hb ⊢; omega) | (have := hOo.lim b hb.symm; omega))
                    replace U := U.cc c18 (by intro b hb; first | exact hb ▸ f7 | omega)
                    refine l_nil ?_
                    refine hQ17 _ _ _ (in_normal ?_)
                    refine hK16 _ _ ?_
                    refine fg3 0 3 4 (gS rfl (gS rfl (gS rfl g0))) (gS rfl (gS rfl g0)) (gS rfl g0) (fun g => ?_)
                    refine c_region ?_
                    refine l_step (y_moveV (et g0 rfl)) ?_
                    refine l_step (y_add (et g0 rfl) rfl (addIN (y := 1) ?_)) ?_
                    omega
                    refine l_step (y_assignV (et g0 rfl)) ?_
                    refine l_nil ?_
                    refine fK3 0 3 4 (gS rfl (gS rfl (gS rfl (gS rfl (gS rfl g0))))) (gS rfl (gS rfl (gS rfl (gS rfl g0)))) g0 (fun g => ?_)
                    exact hK12 (7 * i - ((t + 1))) _ _ (by omega) ⟨g, (t + 1), rfl, rfl, by omega, k7, V12⟩)
                · skip
                  
                  have htl : t = 7 * i := by have := of_decide_eq_false cB2; omega
                  subst htl
                  refine c_exit ?_
                  refine hQ11 _ _ _ (in_exit ?_)
                  refine hK9 _ _ ?_
                  refine fg1 3 (gS rfl (gS rfl g0)) (fun g => ?_)
                  refine c_seq (fun K19 hK19 => ?_)
                  exact (by
                    refine c_region ?_
                    refine l_step y_assignC ?_
                    refine l_nil ?_
                    refine hK19 _ _ ?_
                    refine c_seq (fun K20 hK20 => ?_)
                    refine c_seq (fun K21 hK21 => ?_)
                    exact (by
                      refine c_region ?_
                      refine l_step y_assignC ?_
                      refine l_nil ?_
                      refine hK21 _ _ ?_
                      refine c_block (fun Q22 hQ22 => ?_)
                      refine fg3 3 5 6 (gS rfl (gS rfl g0)) (gS rfl g0) g0 (fun g => ?_)
                      refine c_loop (fun k_ s_ W23 => ∃ (g : Nat → Value) (c j : Nat), s_ = (upd (upd (upd g 3 (.pointer (some ⟨b7, 0, none⟩))) 5 (.int .u64 (c : Nat))) 6 (.int .i64 (j : Nat))) ∧ 7 - j = k_ ∧ (j ≤ 7) ∧ (c = conN i j) ∧ Blk W23 b7 ((oL (regN (7 * i + j))).toArray) ∧ Ch (fun k => k = b7) W12 W23) (7 - (0)) ?_ ?_
                      · exact ⟨g, 0, 0, rfl, rfl, Nat.zero_le _, rfl, k7, Ch.refl _ _⟩
                      · skip
                        intro k_ s_ W23 hI K23 hK23
                        obtain ⟨g, c, j, rfl, rfl, hj, hc, nk7, V23⟩ := hI
                        replace k7 := nk7
                        replace U := U.cc V23 (by intro b hb; first | exact hb.elim | omega | (simp at hb ⊢; omega))
                        refine c_seq (fun K24 hK24 => ?_)
                        refine c_seq (fun K25 hK25 => ?_)
                        exact (by
                          refine c_region ?_
                          refine l_step (y_moveV (et g0 rfl)) ?_
                          refine l_step (y_leq (et g0 rfl) rfl) ?_
                          refine l_nil ?_
                          refine hK25 _ _ ?_
                          refine fg4 3 5 6 19 (gS rfl (gS rfl (gS rfl (gS rfl g0)))) (gS rfl (gS rfl (gS rfl g0))) (gS rfl (gS rfl g0)) g0 (fun g => ?_)
                          refine c_cond (et g0 rfl) (fun cB3 => ?_) (fun cB3 => ?_)
                          · skip
                            
                            have hjl : j ≤ 6 := by have := of_decide_eq_true cB3; omega
                            have hp2 := p2j hjl
                            have hcl := con_lt i j
                            obtain ⟨a0, a1, a2, a3, a4, a5, a6, a7, hreg⟩ := reg8 (7 * i + j)
                            rw [hreg] at k7
                            refine c_skip ?_
                            refine hK24 _ _ ?_
                            refine fg3 3 5 6 (gS rfl (gS rfl (gS rfl g0))) (gS rfl (gS rfl g0)) (gS rfl g0) (fun g => ?_)
                            refine c_seq (fun K27 hK27 => ?_)
                            refine c_block (fun Q28 hQ28 => ?_)
                            refine c_seq (fun K29 hK29 => ?_)
                            refine c_seq (fun K30 hK30 => ?_)
                            exact (by
                              refine c_region ?_
                              refine l_step (y_idxAC 0 0 Hvaa.underlying473 sz_4 (et (gS rfl (gS rfl g0)) rfl) rfl rfl rfl) ?_
                              refine l_step (y_load1 one_4 (et g0 rfl) (at1 (k7.cell (oL_get (m := [a0, a1, a2, a3, a4, a5, a6, a7]) rfl)))) ?_
                              refine l_nil ?_
                              refine hK30 _ _ ?_
                              refine fg4 3 5 6 23 (gS rfl (gS rfl (gS rfl (gS rfl g0)))) (gS rfl (gS rfl (gS rfl g0))) (gS rfl (gS rfl g0)) g0 (fun g => ?_)
                              refine c_cond (et g0 rfl) (fun cB4 => ?_) (fun cB4 => ?_)
                              · skip
                                
                                exact (by
                                  refine c_region ?_
                                  refine l_step (y_moveV (et (gS rfl (gS rfl g0)) rfl)) ?_
                                  refine l_step (y_moveV (et (gS rfl (gS rfl g0)) rfl)) ?_
                                  refine l_step (y_shl rfl (et g0 rfl) ?_ (shlI hjl)) ?_
                                  omega
                                  refine l_step (y_sub (et g0 rfl) rfl (wrapU_subN (b := 1) uk64 ?_ ?_)) ?_
                                  omega
                                  omega
                                  refine l_step (y_shl rfl (et g0 rfl) ?_ (shl_nat (a := 1) uk64 (c := 2 ^ j - 1) (by show _ ≤ 64; omega))) ?_
                                  omega
                                  refine l_step (y_or uk64 (et (gS rfl (gS rfl (gS rfl (gS rfl g0)))) rfl) (et g0 rfl) ?_ ?_) ?_
                                  (rw [hc]; exact hcl)
                                  exact Nat.mod_lt _ (by decide)
                                  refine l_step (y_assignV (et g0 rfl)) ?_
                                  refine l_nil ?_
                                  refine hK29 _ _ ?_
                                  refine fg3 3 5 6 (gS rfl (gS rfl (gS rfl (gS rfl (gS rfl (gS rfl (gS rfl (gS rfl (gS rfl (gS rfl g0)))))))))) g0 (gS rfl (gS rfl (gS rfl (gS rfl (gS rfl (gS rfl (gS rfl (gS rfl g0)))))))) (fun g => ?_)
                                  refine c_region ?_
                                  refine l_eff (e_callV cal_422 (aC (et (gS rfl (gS rfl g0)) rfl) aN) (km_turn _ _ _ _ _ _ _ _ _ _ k7)) (fun v32 w32 h32 => ?_)
                                  obtain ⟨rfl, c32, kx32⟩ := h32
                                  replace k7 := (by rw [← hreg] at kx32; exact kx32)
                                  replace V23 := V23.cc c32 (by intro b hb; first | omega | (simp at hb ⊢; omega) | (have := hOo.lim b hb.symm; omega))
                                  replace U := U.cc c32 (by intro b hb; first | exact hb ▸ f7 | omega)
                                  refine l_nil ?_
                                  refine hQ28 _ _ _ (in_normal ?_)
                                  refine hK27 _ _ ?_
                                  refine fg3 3 5 6 (gS rfl (gS rfl (gS rfl g0))) (gS rfl (gS rfl g0)) (gS rfl g0) (fun g => ?_)
                                  refine c_region ?_
                                  refine l_step (y_moveV (et g0 rfl)) ?_
                                  refine l_step (y_add (et g0 rfl) rfl (addIN (y := 1) ?_)) ?_
                                  omega
                                  exact (by
                                    refine l_step (y_assignV (et g0 rfl)) ?_
                                    refine l_nil ?_
                                    refine fK3 3 5 6 (gS rfl (gS rfl (gS rfl (gS rfl (gS rfl g0))))) (gS rfl (gS rfl (gS rfl (gS rfl g0)))) g0 (fun g => ?_)
                                    exact hK23 (7 - ((j + 1))) _ _ (by omega) ⟨g, _, (j + 1), rfl, rfl, by omega, by rw [conN, hreg, if_pos (show List.headD [a0, a1, a2, a3, a4, a5, a6, a7] false = true from cB4), hc], k7, V23⟩))
                              · skip
                                
                                refine c_skip ?_
                                refine hK29 _ _ ?_
                                refine fg3 3 5 6 (gS rfl (gS rfl (gS rfl g0))) (gS rfl (gS rfl g0)) (gS rfl g0) (fun g => ?_)
                                refine c_region ?_
                                refine l_eff (e_callV cal_422 (aC (et (gS rfl (gS rfl g0)) rfl) aN) (km_turn _ _ _ _ _ _ _ _ _ _ k7)) (fun v33 w33 h33 => ?_)
                                obtain ⟨rfl, c33, kx33⟩ := h33
                                replace k7 := (by rw [← hreg] at kx33; exact kx33)
                                replace V23 := V23.cc c33 (by intro b hb; first | omega | (simp at hb ⊢; omega) | (have := hOo.lim b hb.symm; omega))
                                replace U := U.cc c33 (by intro b hb; first | exact hb ▸ f7 | omega)
                                refine l_nil ?_
                                refine hQ28 _ _ _ (in_normal ?_)
                                refine hK27 _ _ ?_
                                refine fg3 3 5 6 (gS rfl (gS rfl (gS rfl g0))) (gS rfl (gS rfl g0)) (gS rfl g0) (fun g => ?_)
                                refine c_region ?_
                                refine l_step (y_moveV (et g0 rfl)) ?_
                                refine l_step (y_add (et g0 rfl) rfl (addIN (y := 1) ?_)) ?_
                                omega
                                refine l_step (y_assignV (et g0 rfl)) ?_
                                refine l_nil ?_
                                refine fK3 3 5 6 (gS rfl (gS rfl (gS rfl (gS rfl (gS rfl g0))))) (gS rfl (gS rfl (gS rfl (gS rfl g0)))) g0 (fun g => ?_)
                                exact hK23 (7 - ((j + 1))) _ _ (by omega) ⟨g, _, (j + 1), rfl, rfl, by omega, by rw [conN, hreg, if_neg (by rw [show List.headD [a0, a1, a2, a3, a4, a5, a6, a7] false = a0 from rfl, cB4]; decide), hc], k7, V23⟩)
                          · skip
                            
                            have hjl : j = 7 := by have := of_decide_eq_false cB3; omega
                            subst hjl
                            refine c_exit ?_
                            refine hQ22 _ _ _ (in_exit ?_)
                            refine hK20 _ _ ?_
                            refine fg1 5 (gS rfl (gS rfl g0)) (fun g => ?_)
                            refine c_seq (fun K34 hK34 => ?_)
                            exact (by
                              refine c_region ?_
                              refine l_step (y_moveV (et g0 rfl)) ?_
                              refine l_step (y_assignV (et g0 rfl)) ?_
                              refine l_nil ?_
                              refine hK34 _ _ ?_
                              refine fg1 2 g0 (fun g => ?_)
                              refine c_ret ?_
                              repeat with_reducible refine then_ret ?_
                              refine ret1 rfl (res_tmp (et g0 rfl)) ?_
                              exact ⟨by rw [if_pos hi24, hc, con_rc hi24], U⟩)))))))))
end Go.Proofs.YgvaawGreat
