import Derived.Test.YgvaawGreatZ25
set_option maxRecDepth 100000
set_option maxHeartbeats 4000000
set_option linter.unusedSimpArgs false
set_option linter.unusedVariables false
namespace Go.Proofs.YgvaawGreat
open Go
theorem Row.eq9 {w : World} {b o o' : Nat} {l : List Value} (h : Row w b o l) (e : o' = o) : Row w b o' l := by subst e; exact h
theorem m_opBlk64 {w : World} {H : Store} {col : Nat → Nat} {bc : Nat} {cs : Array Value} {V : EV} {s : YSt} {sn : List Nat} {sv : List AW} {ms : List (List Nat)} {c : Nat} {low : List YF} {f : YF} (hE : EX w H col bc cs V s sn sv ms c) (hs : s.frames = low ++ [f]) (hp : s.phase = 1) (hq : opcN f = 64) (hpc9 : f.pc < 512) (htk9 : 1 ≤ f.stack.length) :
    Ret 196 [.pointer (some ⟨bc, 0, none⟩)] w (fun v w' => v = .tuple #[] ∧ ∃ cs', XT w H col w' H col bc cs' V { s with frames := low ++ [ansN f 1 (bvN s 64 (argN f.stack 0))] } sn sv ms c) := by
  obtain ⟨n9, hn9, hR⟩ := hE.topF hs
  have hB := hE.fbT hs
  have h6 := hE.six hs
  have htop := hE.cTop hs
  have hphs := hE.cPh hp
  have hbp := hB.pc
  have hbs := hB.stk
  have hbg := hB.gas
  have hbc9 := hB.code
  have hnw := hE.vl.new
  have hfz := hE.vl.fz
  have hcC := hE.vl.colC
  have hbc0 := hE.vl.kC.lt
  have hX := XT.refl hE
  obtain ⟨eha, ehc, eCo, eNu, eRa, eCh, eBf, eHs, eHv⟩ := hE.lx.env.ex
  have eo := hE.lx.env.ok
  have eo1 := eo.time
  have eo2 := eo.number
  have eo3 := eo.gasLimit
  have eo4 := eo.hashes
  refine enter (n := 121) Hvaa.func196 rfl rfl (Nat.le_of_ble_eq_true rfl) ?_
  have U : Ch (fun _ => True) w w := Ch.refl _ w
  refine c_seq (fun K1 hK1 => ?_)
  exact (by
    refine c_region ?_
    refine l_step (y_moveV (et g0 rfl)) ?_
    refine l_eff (e_callV cal_183 (aC (et g0 rfl) aN) (m_running hX.ex hs hp)) (fun v2 w2 h2 => ?_)
    obtain ⟨rfl, u2⟩ := h2
    replace hX := hX.up u2
    replace U := U.tr u2
    refine l_step (y_assignV (et g0 rfl)) ?_
    refine l_nil ?_
    refine hK1 _ _ ?_
    refine fg2 0 2 (gS rfl (gS rfl (gS rfl g0))) g0 (fun g => ?_)
    refine c_seq (fun K3 hK3 => ?_)
    refine c_seq (fun K4 hK4 => ?_)
    exact (by
      refine c_region ?_
      refine l_step (y_moveV (et g0 rfl)) ?_
      refine l_step (y_eqlNil Hvaa.underlying276 (et g0 rfl) rfl) ?_
      refine l_nil ?_
      refine hK4 _ _ ?_
      refine fg3 0 2 11 (gS rfl (gS rfl (gS rfl g0))) (gS rfl (gS rfl g0)) g0 (fun g => ?_)
      refine c_false (et g0 rfl) rfl ?_
      refine c_skip ?_
      refine hK3 _ _ ?_
      refine fg2 0 2 (gS rfl (gS rfl g0)) (gS rfl g0) (fun g => ?_)
      refine c_seq (fun K6 hK6 => ?_)
      exact (by
        refine c_region ?_
        refine l_step (y_bld bN bld65_z) ?_
        refine l_eff (e_alloc zr_65) (fun v7 w7 h7 => ?_)
        obtain ⟨b7, rfl, n7⟩ := h7
        have f7 : w.heap.size ≤ b7 := Nat.le_trans U.size n7.fresh
        replace hX := hX.up n7.up
        replace U := U.tr n7.up
        have k7 := n7.blk
        obtain ⟨zs7, hz7, k7⟩ : ∃ cs : Array Value, cs.size = 4 ∧ Blk w7 b7 cs := ⟨_, rfl, k7⟩
        have nc7 : col b7 = 0 := hnw _ f7
        refine l_effN (e_store sz_65 (et g0 rfl) (cellsV (et (gS rfl g0) rfl) rfl) rfl (by exact one_uL _) k7 (by (first | (rw [hz7]; exact Nat.le_refl _) | (rw [List.size_toArray, wL_len]; exact Nat.le_refl _)))) (fun v8 w8 h8 => ?_)
        obtain ⟨rfl, x8⟩ := h8
        replace hX := hX.ch x8.ch (by first | omega | (intro b hb; first | (subst hb; first | exact ⟨by omega, fun hh => by have := hfz.lt hh; omega, by omega⟩ | exact ⟨by omega, by assumption, by omega⟩) | (rcases hb with hb | hb <;> (subst hb; first | exact ⟨by omega, fun hh => by have := hfz.lt hh; omega, by omega⟩ | exact ⟨by omega, by assumption, by omega⟩))))
        replace k7 := x8.blk.full (by first | (rw [hz7]; rfl) | (rw [List.size_toArray, wL_len, wL_len]))
        replace U := U.st x8 (.inr f7)
        refine l_nil ?_
        refine hK6 _ _ ?_
        refine fg3 0 2 3 (gS rfl (gS rfl (gS rfl g0))) (gS rfl (gS rfl g0)) g0 (fun g => ?_)
        refine c_seq (fun K9 hK9 => ?_)
        exact (by
          refine c_region ?_
          refine l_step y_assignC ?_
          refine l_nil ?_
          refine hK9 _ _ ?_
          refine c_seq (fun K10 hK10 => ?_)
          refine c_seq (fun K11 hK11 => ?_)
          exact (by
            refine c_region ?_
            refine l_step (y_moveV (et (gS rfl (gS rfl (gS rfl g0))) rfl)) ?_
            refine l_eff (e_callV cal_108 (aC (et g0 rfl) aN) (m_opcode hX.ex hs hp)) (fun v12 w12 h12 => ?_)
            obtain ⟨rfl, u12⟩ := h12
            replace k7 := k7.up u12
            replace hX := hX.up u12
            replace U := U.tr u12
            refine l_nil ?_
            refine hK11 _ _ ?_
            refine fg5 0 2 3 4 14 (gS rfl (gS rfl (gS rfl (gS rfl (gS rfl g0))))) (gS rfl (gS rfl (gS rfl (gS rfl g0)))) (gS rfl (gS rfl (gS rfl g0))) (gS rfl (gS rfl g0)) g0 (fun g => ?_)
            refine c_block (fun Q13 hQ13 => ?_)
            refine c_seq (fun K14 hK14 => ?_)
            exact (by
              refine c_region ?_
              refine l_step (y_eql (et g0 rfl) rfl) ?_
              refine l_step (y_assignV (et g0 rfl)) ?_
              refine l_nil ?_
              refine hK14 _ _ ?_
              refine fg6 0 2 3 4 14 15 (gS rfl (gS rfl (gS rfl (gS rfl (gS rfl (gS rfl g0)))))) (gS rfl (gS rfl (gS rfl (gS rfl (gS rfl g0))))) (gS rfl (gS rfl (gS rfl (gS rfl g0)))) (gS rfl (gS rfl (gS rfl g0))) (gS rfl (gS rfl g0)) g0 (fun g => ?_)
              refine c_true (et g0 rfl) (by (exact decide_eq_true (by omega))) ?_
              refine c_seq (fun K16 hK16 => ?_)
              exact (by
                refine c_region ?_
                refine l_step y_assignC ?_
                refine l_nil ?_
                refine hK16 _ _ ?_
                refine fg4 0 2 3 4 (gS rfl (gS rfl (gS rfl (gS rfl (gS rfl (gS rfl g0)))))) (gS rfl (gS rfl (gS rfl (gS rfl (gS rfl g0))))) (gS rfl (gS rfl (gS rfl (gS rfl g0)))) g0 (fun g => ?_)
                refine c_seq (fun K17 hK17 => ?_)
                exact (by
                  refine c_region ?_
                  refine l_step (y_moveV (et (gS rfl (gS rfl (gS rfl g0))) rfl)) ?_
                  refine l_step (y_moveV (et (gS rfl (gS rfl (gS rfl g0))) rfl)) ?_
                  refine l_eff (e_callV cal_264 (aC (et (gS rfl g0) rfl) (aC (et g0 rfl) (aC (v := .int .i64 ((0 : Nat) : Int)) rfl aN))) (m_arg hX.ex hs hp (by first | exact hpf | rfl) _ (by decide))) (fun v18 w18 h18 => ?_)
                  obtain ⟨rfl, u18⟩ := h18
                  replace k7 := k7.up u18
                  replace hX := hX.up u18
                  replace U := U.tr u18
                  refine l_eff (e_callV cal_300 (aC (et g0 rfl) aN) (wU64_lo _ _ (argN_lt hB _))) (fun v19 w19 h19 => ?_)
                  obtain ⟨rfl, u19⟩ := h19
                  replace k7 := k7.up u19
                  replace hX := hX.up u19
                  replace U := U.tr u19
                  refine l_step (y_moveV (et g0 rfl)) ?_
                  refine l_step (y_ext (et g0 rfl) rfl) ?_
                  refine l_step (y_ext (et (gS rfl g0) rfl) rfl) ?_
                  refine l_step (y_assignV (et (gS rfl g0) rfl)) ?_
                  refine l_step (y_assignV (et (gS rfl g0) rfl)) ?_
                  refine l_nil ?_
                  refine hK17 _ _ ?_
                  refine fg6 0 2 3 4 5 6 (gS rfl (gS rfl (gS rfl (gS rfl (gS rfl (gS rfl (gS rfl (gS rfl (gS rfl (gS rfl (gS rfl (gS rfl g0)))))))))))) (gS rfl (gS rfl (gS rfl (gS rfl (gS rfl (gS rfl (gS rfl (gS rfl (gS rfl (gS rfl (gS rfl g0))))))))))) (gS rfl (gS rfl (gS rfl (gS rfl (gS rfl (gS rfl (gS rfl (gS rfl (gS rfl (gS rfl g0)))))))))) (gS rfl (gS rfl (gS rfl (gS rfl (gS rfl (gS rfl (gS rfl (gS rfl (gS rfl g0))))))))) (gS rfl g0) g0 (fun g => ?_)
                  refine c_seq (fun K20 hK20 => ?_)
                  exact (by
                    refine c_region ?_
                    refine l_step (y_moveV (et g0 rfl)) ?_
                    refine l_step (y_moveV (et g0 rfl)) ?_
                    refine gsplitL (i := 25) g0 (fun q21 => ?_) (fun q21 => ?_)
                    · skip
                      have hx64 : (argN f.stack 0) < 18446744073709551616 := of_decide_eq_true q21
                      have hlo : lo64 (argN f.stack 0) = (argN f.stack 0) := if_pos hx64
                      refine l_gstep (j := 1) (t := 25) (by exact rfl) (by exact rfl) (et g0 rfl) (by decide) (y_moveV (et (gS rfl (gS rfl (gS rfl (gS rfl g0)))) rfl)) ?_
                      refine l_gstep (j := 1) (t := 25) (by exact rfl) (by exact rfl) (et (gS rfl g0) rfl) (by decide) (y_moveV (et (gS rfl (gS rfl (gS rfl (gS rfl (gS rfl (gS rfl (gS rfl (gS rfl (gS rfl g0))))))))) rfl)) ?_
                      refine l_gstep (j := 1) (t := 25) (by exact rfl) (by exact rfl) (et (gS rfl (gS rfl g0)) rfl) (by decide) (y_nil (et g0 rfl)) ?_
                      refine l_gstep (j := 1) (t := 25) (by exact rfl) (by exact rfl) (et (gS rfl (gS rfl (gS rfl g0))) rfl) (by decide) (y_fld fld_75_6 (et g0 rfl)) ?_
                      refine l_gstep (j := 1) (t := 25) (by exact rfl) (by exact rfl) (et (gS rfl (gS rfl (gS rfl (gS rfl g0)))) rfl) (by decide) (y_fld fld_31_1 (et g0 rfl)) ?_
                      refine l_gstep (j := 1) (t := 25) (by exact rfl) (by exact rfl) (et (gS rfl (gS rfl (gS rfl (gS rfl (gS rfl g0))))) rfl) (by decide) (y_load1 one_26 (et g0 rfl) (at1 (hX.ex.vl.c1 (eNu 0 _ rfl) (by omega)))) ?_
                      refine l_gstep (j := 1) (t := 25) (by exact rfl) (by exact rfl) (et (gS rfl (gS rfl (gS rfl (gS rfl (gS rfl (gS rfl g0)))))) rfl) (by decide) (y_lss (et (gS rfl (gS rfl (gS rfl (gS rfl (gS rfl g0))))) rfl) (et g0 rfl)) ?_
                      refine l_step (y_pickT (et (gS rfl (gS rfl (gS rfl (gS rfl (gS rfl (gS rfl (gS rfl g0))))))) rfl) (et g0 rfl)) ?_
                      refine l_nil ?_
                      refine hK20 _ _ ?_
                      refine fg6 0 2 3 4 5 33 (gS rfl (gS rfl (gS rfl (gS rfl (gS rfl (gS rfl (gS rfl (gS rfl (gS rfl (gS rfl (gS rfl (gS rfl (gS rfl (gS rfl (gS rfl (gS rfl g0)))))))))))))))) (gS rfl (gS rfl (gS rfl (gS rfl (gS rfl (gS rfl (gS rfl (gS rfl (gS rfl (gS rfl (gS rfl (gS rfl (gS rfl (gS rfl (gS rfl g0))))))))))))))) (gS rfl (gS rfl (gS rfl (gS rfl (gS rfl (gS rfl (gS rfl (gS rfl (gS rfl (gS rfl (gS rfl (gS rfl (gS rfl (gS rfl g0)))))))))))))) (gS rfl (gS rfl (gS rfl (gS rfl (gS rfl (gS rfl (gS rfl (gS rfl (gS rfl (gS rfl (gS rfl (gS rfl (gS rfl g0))))))))))))) (gS rfl (gS rfl (gS rfl (gS rfl (gS rfl (gS rfl (gS rfl (gS rfl (gS rfl (gS rfl (gS rfl (gS rfl g0)))))))))))) g0 (fun g => ?_)
                      refine c_cond (et g0 rfl) (fun cB3 => ?_) (fun cB3 => ?_)
                      · skip
                        
                        have h3 : (argN f.stack 0) + 1 ≤ s.env.number := by have := of_decide_eq_true cB3; omega
                        refine c_seq (fun K23 hK23 => ?_)
                        exact (by
                          refine c_region ?_
                          refine l_step (y_moveV (et (gS rfl (gS rfl (gS rfl (gS rfl (gS rfl g0))))) rfl)) ?_
                          refine l_step (y_nil (et g0 rfl)) ?_
                          refine l_step (y_fld fld_75_6 (et g0 rfl)) ?_
                          refine l_step (y_fld fld_31_1 (et g0 rfl)) ?_
                          refine l_step (y_load1 one_26 (et g0 rfl) (at1 (hX.ex.vl.c1 (eNu 0 _ rfl) (by omega)))) ?_
                          refine l_step (y_moveV (et (gS rfl (gS rfl (gS rfl (gS rfl (gS rfl (gS rfl g0)))))) rfl)) ?_
                          refine l_step (y_sub (et (gS rfl g0) rfl) (et g0 rfl) (wrapU_subN uk64 ?_ ?_)) ?_
                          omega
                          omega
                          refine l_step (y_sub (et g0 rfl) rfl (wrapU_subN (b := 1) uk64 ?_ ?_)) ?_
                          omega
                          omega
                          refine l_step (y_assignV (et g0 rfl)) ?_
                          refine l_nil ?_
                          refine hK23 _ _ ?_
                          refine fg5 0 2 3 4 7 (gS rfl (gS rfl (gS rfl (gS rfl (gS rfl (gS rfl (gS rfl (gS rfl (gS rfl (gS rfl (gS rfl (gS rfl (gS rfl (gS rfl g0)))))))))))))) (gS rfl (gS rfl (gS rfl (gS rfl (gS rfl (gS rfl (gS rfl (gS rfl (gS rfl (gS rfl (gS rfl (gS rfl (gS rfl g0))))))))))))) (gS rfl (gS rfl (gS rfl (gS rfl (gS rfl (gS rfl (gS rfl (gS rfl (gS rfl (gS rfl (gS rfl (gS rfl g0)))))))))))) (gS rfl (gS rfl (gS rfl (gS rfl (gS rfl (gS rfl (gS rfl (gS rfl (gS rfl (gS rfl (gS rfl g0))))))))))) g0 (fun g => ?_)
                          refine c_seq (fun K24 hK24 => ?_)
                          exact (by
                            refine c_region ?_
                            refine l_step (y_moveV (et g0 rfl)) ?_
                            refine l_step (y_moveV (et (gS rfl (gS rfl (gS rfl (gS rfl (gS rfl g0))))) rfl)) ?_
                            refine l_step (y_nil (et g0 rfl)) ?_
                            refine l_step (y_fld fld_75_6 (et g0 rfl)) ?_
                            refine l_step (y_fld fld_31_7 (et g0 rfl)) ?_
                            refine l_step (y_load1 one_29 (et g0 rfl) (at1 (hX.ex.vl.c1 (eHs 0 _ rfl) (by omega)))) ?_
                            refine l_step (y_len Hvaa.underlying29 (et g0 rfl)) ?_
                            refine l_step (y_conv Hvaa.underlying3 Hvaa.underlying26 (et g0 rfl) (wrapU_id uk64 ?_)) ?_
                            omega
                            refine l_step (y_lss (et (gS rfl (gS rfl (gS rfl (gS rfl (gS rfl (gS rfl (gS rfl g0))))))) rfl) (et g0 rfl)) ?_
                            refine l_nil ?_
                            refine hK24 _ _ ?_
                            refine fg6 0 2 3 4 7 50 (gS rfl (gS rfl (gS rfl (gS rfl (gS rfl (gS rfl (gS rfl (gS rfl (gS rfl (gS rfl (gS rfl (gS rfl (gS rfl g0))))))))))))) (gS rfl (gS rfl (gS rfl (gS rfl (gS rfl (gS rfl (gS rfl (gS rfl (gS rfl (gS rfl (gS rfl (gS rfl g0)))))))))))) (gS rfl (gS rfl (gS rfl (gS rfl (gS rfl (gS rfl (gS rfl (gS rfl (gS rfl (gS rfl (gS rfl g0))))))))))) (gS rfl (gS rfl (gS rfl (gS rfl (gS rfl (gS rfl (gS rfl (gS rfl (gS rfl (gS rfl g0)))))))))) (gS rfl (gS rfl (gS rfl (gS rfl (gS rfl (gS rfl (gS rfl (gS rfl (gS rfl g0))))))))) g0 (fun g => ?_)
                            refine c_cond (et g0 rfl) (fun cB4 => ?_) (fun cB4 => ?_)
                            · skip
                              
                              have h4 : (s.env.number - ((argN f.stack 0) + 1)) < s.env.hashes.length := by have := of_decide_eq_true cB4; omega
                              exact (by
                                refine c_region ?_
                                refine l_step (y_moveV (et (gS rfl (gS rfl (gS rfl (gS rfl (gS rfl g0))))) rfl)) ?_
                                refine l_step (y_nil (et g0 rfl)) ?_
                                refine l_step (y_fld fld_75_6 (et g0 rfl)) ?_
                                refine l_step (y_fld fld_31_7 (et g0 rfl)) ?_
                                refine l_step (y_load1 one_29 (et g0 rfl) (at1 (hX.ex.vl.c1 (eHs 0 _ rfl) (by omega)))) ?_
                                refine l_step (y_moveV (et (gS rfl (gS rfl (gS rfl (gS rfl (gS rfl (gS rfl g0)))))) rfl)) ?_
                                obtain ⟨hb9, ho9, hr9, hae9, hrw9, hrl9, hP9⟩ := eHv.row hX.ex.vl.fz h4
                                subst hae9
                                rw [hP9.1] at hrw9
                                refine l_step (y_idxS Hvaa.underlying29 sz_28 (et (gS rfl g0) rfl) (et g0 rfl) ?_ ?_) ?_
                                omega
                                omega
                                refine l_step (y_loadR agg_28 sz_28 (et g0 rfl) (by rw [length_bL, length_be]) (at1R (Row.eq9 hrw9 (by omega)))) ?_
                                refine l_eff (e_callV cal_83 (aC (et g0 rfl) aN) (fromBytes_spec _ _)) (fun v26 w26 h26 => ?_)
                                obtain ⟨rfl, u26⟩ := h26
                                replace k7 := k7.up u26
                                replace hX := hX.up u26
                                replace U := U.tr u26
                                refine l_effN (e_store sz_65 (et (gS rfl (gS rfl (gS rfl (gS rfl (gS rfl (gS rfl (gS rfl (gS rfl (gS rfl (gS rfl (gS rfl (gS rfl g0)))))))))))) rfl) (cellsV (et g0 rfl) rfl) rfl (by exact one_uL _) k7 (by (first | (rw [hz7]; exact Nat.le_refl _) | (rw [List.size_toArray, wL_len]; exact Nat.le_refl _)))) (fun v27 w27 h27 => ?_)
                                obtain ⟨rfl, x27⟩ := h27
                                replace hX := hX.ch x27.ch (by first | omega | (intro b hb; first | (subst hb; first | exact ⟨by omega, fun hh => by have := hfz.lt hh; omega, by omega⟩ | exact ⟨by omega, by assumption, by omega⟩) | (rcases hb with hb | hb <;> (subst hb; first | exact ⟨by omega, fun hh => by have := hfz.lt hh; omega, by omega⟩ | exact ⟨by omega, by assumption, by omega⟩))))
                                replace k7 := x27.blk.full (by first | (rw [hz7]; rfl) | (rw [List.size_toArray, wL_len, wL_len]))
                                replace U := U.st x27 (.inr f7)
                                refine l_nil ?_
                                refine hQ13 _ _ _ (in_normal ?_)
                                refine hK10 _ _ ?_
                                refine fg4 0 2 3 4 (gS rfl (gS rfl (gS rfl (gS rfl (gS rfl (gS rfl (gS rfl (gS rfl (gS rfl (gS rfl (gS rfl (gS rfl (gS rfl (gS rfl g0)))))))))))))) (gS rfl (gS rfl (gS rfl (gS rfl (gS rfl (gS rfl (gS rfl (gS rfl (gS rfl (gS rfl (gS rfl (gS rfl (gS rfl g0))))))))))))) (gS rfl (gS rfl (gS rfl (gS rfl (gS rfl (gS rfl (gS rfl (gS rfl (gS rfl (gS rfl (gS rfl (gS rfl g0)))))))))))) (gS rfl (gS rfl (gS rfl (gS rfl (gS rfl (gS rfl (gS rfl (gS rfl (gS rfl (gS rfl (gS rfl g0))))))))))) (fun g => ?_)
                                refine c_region ?_
                                refine l_step (y_moveV (et (gS rfl (gS rfl (gS rfl g0))) rfl)) ?_
                                refine l_step (y_moveV (et (gS rfl (gS rfl (gS rfl g0))) rfl)) ?_
                                exact (by
                                  refine l_step (y_moveV (et (gS rfl (gS rfl g0)) rfl)) ?_
                                  refine l_step (y_loadB agg_65 sz_65 (et (gS rfl (gS rfl (gS rfl (gS rfl g0)))) rfl) rfl (at1B k7)) ?_
                                  have hx8 := hP9.2
                                  refine l_eff (e_callV cal_259 (aC (et (gS rfl (gS rfl (gS rfl g0))) rfl) (aC (et (gS rfl (gS rfl g0)) rfl) (aC (et (gS rfl g0) rfl) (aC rfl (aC (et g0 rfl) (aC (v := .int .u16 ((1 : Nat) : Int)) rfl aN)))))) (m_settle1 hX.ex hs hp rfl 1 _ 1 (by omega) hx8 (by omega) (by omega))) (fun v28 w28 h28 => ?_)
                                  obtain ⟨rfl, cs28, y28⟩ := h28
                                  replace k7 := k7.ch y28.et.go.ch (by intro hm; (have e0 := hm); omega)
                                  replace hX := hX.trans y28
                                  replace U := U.cc y28.et.go.ch (by intro b hb; exact .inl trivial)
                                  refine l_nil ?_
                                  refine end0 rfl ?_
                                  have e9 : bvN s 64 (argN f.stack 0) = s.env.hashes[(s.env.number - ((argN f.stack 0) + 1))] := by
                                    unfold bvN
                                    rw [if_pos rfl, if_pos h3, if_pos h4, List.getElem?_eq_getElem h4]
                                    rfl
                                  rw [set_ans, ← e9] at hX
                                  exact ⟨rfl, _, hX⟩))
                            · skip
                              
                              have h4 : ¬ (s.env.number - ((argN f.stack 0) + 1)) < s.env.hashes.length := by have := of_decide_eq_false cB4; omega
                              refine c_skip ?_
                              refine hQ13 _ _ _ (in_normal ?_)
                              refine hK10 _ _ ?_
                              refine fg4 0 2 3 4 (gS rfl (gS rfl (gS rfl (gS rfl (gS rfl g0))))) (gS rfl (gS rfl (gS rfl (gS rfl g0)))) (gS rfl (gS rfl (gS rfl g0))) (gS rfl (gS rfl g0)) (fun g => ?_)
                              refine c_region ?_
                              refine l_step (y_moveV (et (gS rfl (gS rfl (gS rfl g0))) rfl)) ?_
                              refine l_step (y_moveV (et (gS rfl (gS rfl (gS rfl g0))) rfl)) ?_
                              refine l_step (y_moveV (et (gS rfl (gS rfl g0)) rfl)) ?_
                              refine l_step (y_loadB agg_65 sz_65 (et (gS rfl (gS rfl (gS rfl (gS rfl g0)))) rfl) rfl (at1B k7)) ?_
                              have hx8 : 0 < W256 := by decide
                              refine l_eff (e_callV cal_259 (aC (et (gS rfl (gS rfl (gS rfl g0))) rfl) (aC (et (gS rfl (gS rfl g0)) rfl) (aC (et (gS rfl g0) rfl) (aC rfl (aC (et g0 rfl) (aC (v := .int .u16 ((1 : Nat) : Int)) rfl aN)))))) (m_settle1 hX.ex hs hp rfl 1 _ 1 (by omega) hx8 (by omega) (by omega))) (fun v29 w29 h29 => ?_)
                              obtain ⟨rfl, cs29, y29⟩ := h29
                              replace k7 := k7.ch y29.et.go.ch (by intro hm; (have e0 := hm); omega)
                              replace hX := hX.trans y29
                              replace U := U.cc y29.et.go.ch (by intro b hb; exact .inl trivial)
                              refine l_nil ?_
                              refine end0 rfl ?_
                              have e9 : bvN s 64 (argN f.stack 0) = 0 := by
                                unfold bvN
                                rw [if_pos rfl, if_pos h3, if_neg h4]
                              rw [set_ans, ← e9] at hX
                              exact ⟨rfl, _, hX⟩))
                      · skip
                        
                        have h3 : ¬ (argN f.stack 0) + 1 ≤ s.env.number := by have := of_decide_eq_false cB3; omega
                        refine c_skip ?_
                        refine hQ13 _ _ _ (in_normal ?_)
                        refine hK10 _ _ ?_
                        refine fg4 0 2 3 4 (gS rfl (gS rfl (gS rfl (gS rfl (gS rfl g0))))) (gS rfl (gS rfl (gS rfl (gS rfl g0)))) (gS rfl (gS rfl (gS rfl g0))) (gS rfl (gS rfl g0)) (fun g => ?_)
                        refine c_region ?_
                        refine l_step (y_moveV (et (gS rfl (gS rfl (gS rfl g0))) rfl)) ?_
                        refine l_step (y_moveV (et (gS rfl (gS rfl (gS rfl g0))) rfl)) ?_
                        refine l_step (y_moveV (et (gS rfl (gS rfl g0)) rfl)) ?_
                        refine l_step (y_loadB agg_65 sz_65 (et (gS rfl (gS rfl (gS rfl (gS rfl g0)))) rfl) rfl (at1B k7)) ?_
                        have hx8 : 0 < W256 := by decide
                        refine l_eff (e_callV cal_259 (aC (et (gS rfl (gS rfl (gS rfl g0))) rfl) (aC (et (gS rfl (gS rfl g0)) rfl) (aC (et (gS rfl g0) rfl) (aC rfl (aC (et g0 rfl) (aC (v := .int .u16 ((1 : Nat) : Int)) rfl aN)))))) (m_settle1 hX.ex hs hp rfl 1 _ 1 (by omega) hx8 (by omega) (by omega))) (fun v30 w30 h30 => ?_)
                        obtain ⟨rfl, cs30, y30⟩ := h30
                        replace k7 := k7.ch y30.et.go.ch (by intro hm; (have e0 := hm); omega)
                        replace hX := hX.trans y30
                        replace U := U.cc y30.et.go.ch (by intro b hb; exact .inl trivial)
                        refine l_nil ?_
                        refine end0 rfl ?_
                        have e9 : bvN s 64 (argN f.stack 0) = 0 := by
                          unfold bvN
                          rw [if_pos rfl, if_neg h3]
                        rw [set_ans, ← e9] at hX
                        exact ⟨rfl, _, hX⟩
                    · skip
                      have hx64 : ¬ (argN f.stack 0) < 18446744073709551616 := of_decide_eq_false q21
                      refine l_gskip (j := 1) (t := 25) (by exact rfl) (by exact rfl) (et g0 rfl) (by decide) (by decide) ?_
                      refine l_gskip (j := 1) (t := 25) (by exact rfl) (by exact rfl) (et (gS rfl g0) rfl) (by decide) (by decide) ?_
                      refine l_gskip (j := 1) (t := 25) (by exact rfl) (by exact rfl) (et (gS rfl (gS rfl g0)) rfl) (by decide) (by decide) ?_
                      refine l_gskip (j := 1) (t := 25) (by exact rfl) (by exact rfl) (et (gS rfl (gS rfl (gS rfl g0))) rfl) (by decide) (by decide) ?_
                      refine l_gskip (j := 1) (t := 25) (by exact rfl) (by exact rfl) (et (gS rfl (gS rfl (gS rfl (gS rfl g0)))) rfl) (by decide) (by decide) ?_
                      refine l_gskip (j := 1) (t := 25) (by exact rfl) (by exact rfl) (et (gS rfl (gS rfl (gS rfl (gS rfl (gS rfl g0))))) rfl) (by decide) (by decide) ?_
                      refine l_gskip (j := 1) (t := 25) (by exact rfl) (by exact rfl) (et (gS rfl (gS rfl (gS rfl (gS rfl (gS rfl (gS rfl g0)))))) rfl) (by decide) (by decide) ?_
                      refine l_step (y_pickF (et (gS rfl (gS rfl (gS rfl (gS rfl (gS rfl (gS rfl (gS rfl g0))))))) rfl) rfl) ?_
                      refine l_nil ?_
                      refine hK20 _ _ ?_
                      refine fg6 0 2 3 4 5 33 (gS rfl (gS rfl (gS rfl (gS rfl (gS rfl (gS rfl (gS rfl (gS rfl (gS rfl (gS rfl (gS rfl (gS rfl (gS rfl (gS rfl (gS rfl (gS rfl g0)))))))))))))))) (gS rfl (gS rfl (gS rfl (gS rfl (gS rfl (gS rfl (gS rfl (gS rfl (gS rfl (gS rfl (gS rfl (gS rfl (gS rfl (gS rfl (gS rfl g0))))))))))))))) (gS rfl (gS rfl (gS rfl (gS rfl (gS rfl (gS rfl (gS rfl (gS rfl (gS rfl (gS rfl (gS rfl (gS rfl (gS rfl (gS rfl g0)))))))))))))) (gS rfl (gS rfl (gS rfl (gS rfl (gS rfl (gS rfl (gS rfl (gS rfl (gS rfl (gS rfl (gS rfl (gS rfl (gS rfl g0))))))))))))) (gS rfl (gS rfl (gS rfl (gS rfl (gS rfl (gS rfl (gS rfl (gS rfl (gS rfl (gS rfl (gS rfl (gS rfl g0)))))))))))) g0 (fun g => ?_)
                      refine c_false (et g0 rfl) rfl ?_
                      refine c_skip ?_
                      refine hQ13 _ _ _ (in_normal ?_)
                      refine hK10 _ _ ?_
                      refine fg4 0 2 3 4 (gS rfl (gS rfl (gS rfl (gS rfl (gS rfl g0))))) (gS rfl (gS rfl (gS rfl (gS rfl g0)))) (gS rfl (gS rfl (gS rfl g0))) (gS rfl (gS rfl g0)) (fun g => ?_)
                      exact (by
                        refine c_region ?_
                        refine l_step (y_moveV (et (gS rfl (gS rfl (gS rfl g0))) rfl)) ?_
                        refine l_step (y_moveV (et (gS rfl (gS rfl (gS rfl g0))) rfl)) ?_
                        refine l_step (y_moveV (et (gS rfl (gS rfl g0)) rfl)) ?_
                        refine l_step (y_loadB agg_65 sz_65 (et (gS rfl (gS rfl (gS rfl (gS rfl g0)))) rfl) rfl (at1B k7)) ?_
                        have hx8 : 0 < W256 := by decide
                        refine l_eff (e_callV cal_259 (aC (et (gS rfl (gS rfl (gS rfl g0))) rfl) (aC (et (gS rfl (gS rfl g0)) rfl) (aC (et (gS rfl g0) rfl) (aC rfl (aC (et g0 rfl) (aC (v := .int .u16 ((1 : Nat) : Int)) rfl aN)))))) (m_settle1 hX.ex hs hp rfl 1 _ 1 (by omega) hx8 (by omega) (by omega))) (fun v32 w32 h32 => ?_)
                        obtain ⟨rfl, cs32, y32⟩ := h32
                        replace k7 := k7.ch y32.et.go.ch (by intro hm; (have e0 := hm); omega)
                        replace hX := hX.trans y32
                        replace U := U.cc y32.et.go.ch (by intro b hb; exact .inl trivial)
                        refine l_nil ?_
                        refine end0 rfl ?_
                        have e9 : bvN s 64 (argN f.stack 0) = 0 := by
                          unfold bvN
                          rw [if_pos rfl, if_neg (by omega)]
                        rw [set_ans, ← e9] at hX
                        exact ⟨rfl, _, hX⟩))))))))))
end Go.Proofs.YgvaawGreat
