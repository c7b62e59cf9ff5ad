import Derived.Test.YgvaawGreatZ12
set_option maxRecDepth 100000
set_option maxHeartbeats 4000000
set_option linter.unusedSimpArgs false
set_option linter.unusedVariables false
namespace Go.Proofs.YgvaawGreat
open Go
theorem m_u64 (n : Nat) (w : World) (h : n < 18446744073709551616) : Ret 300 [wV n] w (fun v w' => v = .tuple #[.int .u64 (n : Nat), .bool true] ∧ Up w w') := by
  have h1 := wU64_lo n w (Nat.lt_trans h (by decide))
  rw [show lo64 n = n from if_pos h, decide_eq_true h] at h1
  exact h1
theorem bld65_w (a : Nat) (ha : a < 18446744073709551616) (w : World) : (Instr.build 65 [(0, .int .u64 (a : Int))].toArray).run Hvaa.prog w = .ok (wV a) w := by
  rw [bld65_1]
  have h0 : limb a 0 = a := by unfold limb; rw [Nat.pow_zero, Nat.div_one]; exact Nat.mod_eq_of_lt ha
  have hi : ∀ i, 1 ≤ i → limb a i = 0 := fun i hi => by
    unfold limb
    rw [Nat.div_eq_of_lt]
    exact Nat.lt_of_lt_of_le ha (Nat.le_self_pow (by omega) _)
  have e : wL a = uL [a, 0, 0, 0] := by
    unfold wL
    rw [h0, hi 1 (by decide), hi 2 (by decide), hi 3 (by decide)]
  rw [show wV a = Value.agg (wL a).toArray from rfl, e]
def depG (g : Nat) (l : List Nat) : Nat × Nat := if 256 < l.length then (0, 10) else if 0 < l.length ∧ l[0]?.getD 0 = 239 then (0, 11) else if g < 200 * l.length then (0, 2) else (g - 200 * l.length, 0)
theorem dep_eq (f : YF) (l : List Nat) : depN f l = depG f.gas l := rfl
theorem m_deposit {w : World} (gz s0 : Nat) (hg : gz < 18446744073709551616) {a : Option Addr} {c : Nat} {l : List Nat} (hW : WV s0 w (.slice a l.length c) l) (hl : l.length ≤ 717280) :
    Ret 254 [.int .u64 (gz : Nat), .slice a l.length c] w (fun v w' => v = .tuple #[.int .u64 ((depG gz l).1 : Nat), .int .u8 ((depG gz l).2 : Nat)] ∧ Up w w') := by
  refine enter (n := 32) Hvaa.func254 rfl rfl (Nat.le_of_ble_eq_true rfl) ?_
  have U := Up.refl w
  refine c_seq (fun K1 hK1 => ?_)
  exact (by
    refine c_region ?_
    refine l_step y_assignC ?_
    refine l_step y_assignC ?_
    refine l_nil ?_
    refine hK1 _ _ ?_
    refine fg2 1 0 (gS rfl (gS rfl (gS rfl g0))) (gS rfl (gS rfl g0)) (fun g => ?_)
    refine c_seq (fun K2 hK2 => ?_)
    exact (by
      refine c_region ?_
      refine l_step (y_moveV (et (gS rfl g0) rfl)) ?_
      refine l_step (y_len Hvaa.underlying38 (et g0 rfl)) ?_
      refine l_step (y_conv Hvaa.underlying3 Hvaa.underlying26 (et g0 rfl) (wrapU_id uk64 ?_)) ?_
      omega
      refine l_step (y_mul rfl (et g0 rfl) (wrapU_mulN (a := 200) uk64 ?_)) ?_
      omega
      refine l_step (y_assignV (et g0 rfl)) ?_
      refine l_nil ?_
      refine hK2 _ _ ?_
      refine fg3 1 0 6 (gS rfl (gS rfl (gS rfl (gS rfl (gS rfl (gS rfl g0)))))) (gS rfl (gS rfl (gS rfl (gS rfl (gS rfl g0))))) g0 (fun g => ?_)
      refine c_seq (fun K3 hK3 => ?_)
      refine c_block (fun Q4 hQ4 => ?_)
      refine c_seq (fun K5 hK5 => ?_)
      exact (by
        refine c_region ?_
        refine l_step (y_moveV (et (gS rfl (gS rfl g0)) rfl)) ?_
        refine l_step (y_len Hvaa.underlying38 (et g0 rfl)) ?_
        refine l_step (y_gtr (et g0 rfl) rfl) ?_
        refine l_step (y_assignV (et g0 rfl)) ?_
        refine l_nil ?_
        refine hK5 _ _ ?_
        refine fg4 1 0 6 11 (gS rfl (gS rfl (gS rfl (gS rfl (gS rfl (gS rfl g0)))))) (gS rfl (gS rfl (gS rfl (gS rfl (gS rfl g0))))) (gS rfl (gS rfl (gS rfl (gS rfl g0)))) g0 (fun g => ?_)
        refine c_cond (et g0 rfl) (fun cB1 => ?_) (fun cB1 => ?_)
        · skip
          
          have h1 : 256 < l.length := by have := of_decide_eq_true cB1; omega
          refine c_seq (fun K7 hK7 => ?_)
          exact (by
            refine c_region ?_
            refine l_step y_assignC ?_
            refine l_step y_assignC ?_
            refine l_nil ?_
            refine hK7 _ _ ?_
            refine fg2 4 5 (gS rfl g0) g0 (fun g => ?_)
            refine c_ret ?_
            refine hQ4 _ _ _ (in_ret ?_)
            repeat with_reducible refine then_ret ?_
            refine ret2 rfl (res_tmp (et (gS rfl g0) rfl)) (res_tmp (et g0 rfl)) ?_
            exact ⟨by unfold depG; rw [if_pos h1]; rfl, U⟩)
        · skip
          
          have h1 : ¬ 256 < l.length := by have := of_decide_eq_false cB1; omega
          refine c_seq (fun K8 hK8 => ?_)
          exact (by
            refine c_region ?_
            refine l_step (y_moveV (et (gS rfl (gS rfl (gS rfl g0))) rfl)) ?_
            refine l_step (y_len Hvaa.underlying38 (et g0 rfl)) ?_
            refine l_step (y_gtr (et g0 rfl) rfl) ?_
            refine l_step (y_moveV (et g0 rfl)) ?_
            refine gsplitL (i := 19) g0 (fun q9 => ?_) (fun q9 => ?_)
            · skip
              have hl0 : 0 < l.length := by have := of_decide_eq_true q9; omega
              refine l_gstep (j := 3) (t := 19) (by exact rfl) (by exact rfl) (et g0 rfl) (by decide) (y_moveV (et (gS rfl (gS rfl (gS rfl (gS rfl (gS rfl (gS rfl (gS rfl (gS rfl g0)))))))) rfl)) ?_
              obtain ⟨db9, do9, hca9, hdb9, hdr9⟩ := hW.at hl0
              subst hca9
              refine l_gstep (j := 3) (t := 19) (by exact rfl) (by exact rfl) (et (gS rfl g0) rfl) (by decide) (y_idxS Hvaa.underlying38 sz_5 (et g0 rfl) rfl ?_ ?_) ?_
              omega
              omega
              obtain ⟨db8, do8, hca8, hdb8, hdr8⟩ := hW.at hl0
              cases hca8
              refine l_gstep (j := 3) (t := 19) (by exact rfl) (by exact rfl) (et (gS rfl (gS rfl g0)) rfl) (by decide) (y_load1 one_5 (et g0 rfl) (at1 (show _ = _ from row_byte hdr8 hl0))) ?_
              refine l_gstep (j := 3) (t := 19) (by exact rfl) (by exact rfl) (et (gS rfl (gS rfl (gS rfl g0))) rfl) (by decide) (y_eql (et g0 rfl) rfl) ?_
              refine l_step (y_pickT (et (gS rfl (gS rfl (gS rfl (gS rfl g0)))) rfl) (et g0 rfl)) ?_
              refine l_step (y_assignV (et g0 rfl)) ?_
              refine l_nil ?_
              refine hK8 _ _ ?_
              refine fg3 0 6 15 (gS rfl (gS rfl (gS rfl (gS rfl (gS rfl (gS rfl (gS rfl (gS rfl (gS rfl (gS rfl (gS rfl (gS rfl (gS rfl g0))))))))))))) (gS rfl (gS rfl (gS rfl (gS rfl (gS rfl (gS rfl (gS rfl (gS rfl (gS rfl (gS rfl (gS rfl (gS rfl g0)))))))))))) g0 (fun g => ?_)
              refine c_cond (et g0 rfl) (fun cB2 => ?_) (fun cB2 => ?_)
              · skip
                
                have h2 : 0 < l.length ∧ l[0]?.getD 0 = 239 := ⟨hl0, by rw [List.getElem?_eq_getElem hl0]; show l[0] = 239; have := of_decide_eq_true cB2; omega⟩
                refine c_seq (fun K11 hK11 => ?_)
                exact (by
                  refine c_region ?_
                  refine l_step y_assignC ?_
                  refine l_step y_assignC ?_
                  refine l_nil ?_
                  refine hK11 _ _ ?_
                  refine fg2 4 5 (gS rfl g0) g0 (fun g => ?_)
                  refine c_ret ?_
                  refine hQ4 _ _ _ (in_ret ?_)
                  repeat with_reducible refine then_ret ?_
                  refine ret2 rfl (res_tmp (et (gS rfl g0) rfl)) (res_tmp (et g0 rfl)) ?_
                  exact ⟨by unfold depG; rw [if_neg h1, if_pos h2]; rfl, U⟩)
              · skip
                
                have h2 : ¬ (0 < l.length ∧ l[0]?.getD 0 = 239) := fun h => by
                  have h9 := h.2
                  rw [List.getElem?_eq_getElem hl0] at h9
                  have h9 : l[0] = 239 := h9
                  have := of_decide_eq_false cB2
                  omega
                refine c_seq (fun K12 hK12 => ?_)
                exact (by
                  refine c_region ?_
                  refine l_step (y_moveV (et (gS rfl g0) rfl)) ?_
                  refine l_step (y_moveV (et (gS rfl (gS rfl (gS rfl g0))) rfl)) ?_
                  refine l_step (y_gtr (et (gS rfl g0) rfl) (et g0 rfl)) ?_
                  refine l_step (y_assignV (et g0 rfl)) ?_
                  refine l_nil ?_
                  refine hK12 _ _ ?_
                  refine fg3 0 6 25 (gS rfl (gS rfl (gS rfl (gS rfl (gS rfl (gS rfl g0)))))) (gS rfl (gS rfl (gS rfl (gS rfl (gS rfl g0))))) g0 (fun g => ?_)
                  refine c_cond (et g0 rfl) (fun cB3 => ?_) (fun cB3 => ?_)
                  · skip
                    
                    have h3 : gz < 200 * l.length := by have := of_decide_eq_true cB3; omega
                    refine c_seq (fun K14 hK14 => ?_)
                    exact (by
                      refine c_region ?_
                      refine l_step y_assignC ?_
                      refine l_step y_assignC ?_
                      refine l_nil ?_
                      refine hK14 _ _ ?_
                      refine fg2 4 5 (gS rfl g0) g0 (fun g => ?_)
                      refine c_ret ?_
                      refine hQ4 _ _ _ (in_ret ?_)
                      repeat with_reducible refine then_ret ?_
                      refine ret2 rfl (res_tmp (et (gS rfl g0) rfl)) (res_tmp (et g0 rfl)) ?_
                      exact ⟨by unfold depG; rw [if_neg h1, if_neg h2, if_pos h3]; rfl, U⟩)
                  · skip
                    
                    have h3 : ¬ gz < 200 * l.length := by have := of_decide_eq_false cB3; omega
                    refine c_skip ?_
                    refine hQ4 _ _ _ (in_normal ?_)
                    refine hK3 _ _ ?_
                    refine fg2 0 6 (gS rfl (gS rfl g0)) (gS rfl g0) (fun g => ?_)
                    refine c_seq (fun K15 hK15 => ?_)
                    exact (by
                      refine c_region ?_
                      refine l_step (y_moveV (et (gS rfl g0) rfl)) ?_
                      refine l_step (y_moveV (et (gS rfl g0) rfl)) ?_
                      refine l_step (y_sub (et (gS rfl g0) rfl) (et g0 rfl) (wrapU_subN uk64 ?_ ?_)) ?_
                      omega
                      omega
                      refine l_step (y_assignV (et g0 rfl)) ?_
                      refine l_step y_assignC ?_
                      refine l_nil ?_
                      refine hK15 _ _ ?_
                      refine fg2 4 5 (gS rfl g0) g0 (fun g => ?_)
                      refine c_ret ?_
                      repeat with_reducible refine then_ret ?_
                      refine ret2 rfl (res_tmp (et (gS rfl g0) rfl)) (res_tmp (et g0 rfl)) ?_
                      exact ⟨by unfold depG; rw [if_neg h1, if_neg h2, if_neg h3]; rfl, U⟩))
            · skip
              have hl0 : ¬ 0 < l.length := by have := of_decide_eq_false q9; omega
              refine l_gskip (j := 3) (t := 19) (by exact rfl) (by exact rfl) (et g0 rfl) (by decide) (by decide) ?_
              refine l_gskip (j := 3) (t := 19) (by exact rfl) (by exact rfl) (et (gS rfl g0) rfl) (by decide) (by decide) ?_
              refine l_gskip (j := 3) (t := 19) (by exact rfl) (by exact rfl) (et (gS rfl (gS rfl g0)) rfl) (by decide) (by decide) ?_
              refine l_gskip (j := 3) (t := 19) (by exact rfl) (by exact rfl) (et (gS rfl (gS rfl (gS rfl g0))) rfl) (by decide) (by decide) ?_
              refine l_step (y_pickF (et (gS rfl (gS rfl (gS rfl (gS rfl g0)))) rfl) rfl) ?_
              refine l_step (y_assignV (et g0 rfl)) ?_
              refine l_nil ?_
              refine hK8 _ _ ?_
              refine fg3 0 6 15 (gS rfl (gS rfl (gS rfl (gS rfl (gS rfl (gS rfl (gS rfl (gS rfl (gS rfl (gS rfl (gS rfl (gS rfl (gS rfl g0))))))))))))) (gS rfl (gS rfl (gS rfl (gS rfl (gS rfl (gS rfl (gS rfl (gS rfl (gS rfl (gS rfl (gS rfl (gS rfl g0)))))))))))) g0 (fun g => ?_)
              refine c_false (et g0 rfl) rfl ?_
              refine c_seq (fun K17 hK17 => ?_)
              exact (by
                refine c_region ?_
                refine l_step (y_moveV (et (gS rfl g0) rfl)) ?_
                refine l_step (y_moveV (et (gS rfl (gS rfl (gS rfl g0))) rfl)) ?_
                refine l_step (y_gtr (et (gS rfl g0) rfl) (et g0 rfl)) ?_
                refine l_step (y_assignV (et g0 rfl)) ?_
                refine l_nil ?_
                refine hK17 _ _ ?_
                refine fg3 0 6 25 (gS rfl (gS rfl (gS rfl (gS rfl (gS rfl (gS rfl g0)))))) (gS rfl (gS rfl (gS rfl (gS rfl (gS rfl g0))))) g0 (fun g => ?_)
                refine c_cond (et g0 rfl) (fun cB3 => ?_) (fun cB3 => ?_)
                · skip
                  
                  have h3 : gz < 200 * l.length := by have := of_decide_eq_true cB3; omega
                  refine c_seq (fun K19 hK19 => ?_)
                  exact (by
                    refine c_region ?_
                    refine l_step y_assignC ?_
                    refine l_step y_assignC ?_
                    refine l_nil ?_
                    refine hK19 _ _ ?_
                    refine fg2 4 5 (gS rfl g0) g0 (fun g => ?_)
                    refine c_ret ?_
                    refine hQ4 _ _ _ (in_ret ?_)
                    repeat with_reducible refine then_ret ?_
                    refine ret2 rfl (res_tmp (et (gS rfl g0) rfl)) (res_tmp (et g0 rfl)) ?_
                    exact ⟨by unfold depG; rw [if_neg h1, if_neg (fun h => hl0 h.1), if_pos h3]; rfl, U⟩)
                · skip
                  
                  have h3 : ¬ gz < 200 * l.length := by have := of_decide_eq_false cB3; omega
                  refine c_skip ?_
                  refine hQ4 _ _ _ (in_normal ?_)
                  refine hK3 _ _ ?_
                  refine fg2 0 6 (gS rfl (gS rfl g0)) (gS rfl g0) (fun g => ?_)
                  refine c_seq (fun K20 hK20 => ?_)
                  exact (by
                    refine c_region ?_
                    refine l_step (y_moveV (et (gS rfl g0) rfl)) ?_
                    refine l_step (y_moveV (et (gS rfl g0) rfl)) ?_
                    refine l_step (y_sub (et (gS rfl g0) rfl) (et g0 rfl) (wrapU_subN uk64 ?_ ?_)) ?_
                    omega
                    omega
                    refine l_step (y_assignV (et g0 rfl)) ?_
                    refine l_step y_assignC ?_
                    refine l_nil ?_
                    refine hK20 _ _ ?_
                    refine fg2 4 5 (gS rfl g0) g0 (fun g => ?_)
                    refine c_ret ?_
                    repeat with_reducible refine then_ret ?_
                    refine ret2 rfl (res_tmp (et (gS rfl g0) rfl)) (res_tmp (et g0 rfl)) ?_
                    exact ⟨by unfold depG; rw [if_neg h1, if_neg (fun h => hl0 h.1), if_neg h3]; rfl, U⟩))))))
theorem m_opDup {w : World} {H : Store} {col : Nat → Nat} {bc : Nat} {cs : Array Value} {V : EV} {s : YSt} {sn : List Nat} {sv : List AW} {ms : List (List Nat)} {c : Nat} {low : List YF} {f : YF} (hE : EX w H col bc cs V s sn sv ms c) (hs : s.frames = low ++ [f]) (hp : s.phase = 1) {q : Nat} (hq : opcN f = q) (hpc9 : f.pc < 512) (hqq : 128 ≤ q ∧ q ≤ 143) (hlt9 : f.stack.length < 64) :
    Ret 317 [.pointer (some ⟨bc, 0, none⟩)] w (fun v w' => v = .tuple #[] ∧ ∃ cs', XT w H col w' H col bc cs' V { s with frames := low ++ [ansN f 0 (argN f.stack (q - 128))] } sn sv ms c) := by
  obtain ⟨n9, hn9, hR⟩ := hE.topF hs
  have hB := hE.fbT hs
  have h6 := hE.six hs
  have htop := hE.cTop hs
  have hphs := hE.cPh hp
  have hbp := hB.pc
  have hbs := hB.stk
  have hbg := hB.gas
  have hbc9 := hB.code
  have hnw := hE.vl.new
  have hfz := hE.vl.fz
  have hcC := hE.vl.colC
  have hbc0 := hE.vl.kC.lt
  have hX := XT.refl hE
  subst hq
  refine enter (n := 17) Hvaa.func317 rfl rfl (Nat.le_of_ble_eq_true rfl) ?_
  have U : Ch (fun _ => True) w w := Ch.refl _ w
  refine c_seq (fun K1 hK1 => ?_)
  exact (by
    refine c_region ?_
    refine l_step (y_moveV (et g0 rfl)) ?_
    refine l_eff (e_callV cal_183 (aC (et g0 rfl) aN) (m_running hX.ex hs hp)) (fun v2 w2 h2 => ?_)
    obtain ⟨rfl, u2⟩ := h2
    replace hX := hX.up u2
    replace U := U.tr u2
    refine l_step (y_assignV (et g0 rfl)) ?_
    refine l_nil ?_
    refine hK1 _ _ ?_
    refine fg2 0 2 (gS rfl (gS rfl (gS rfl g0))) g0 (fun g => ?_)
    refine c_seq (fun K3 hK3 => ?_)
    exact (by
      refine c_region ?_
      refine l_step (y_moveV (et g0 rfl)) ?_
      refine l_step (y_neqNil9 Hvaa.underlying276 (et g0 rfl) rfl) ?_
      refine l_nil ?_
      refine hK3 _ _ ?_
      refine fg3 0 2 6 (gS rfl (gS rfl (gS rfl g0))) (gS rfl (gS rfl g0)) g0 (fun g => ?_)
      refine c_true (et g0 rfl) (by rfl) ?_
      exact (by
        refine c_region ?_
        refine l_step (y_moveV (et (gS rfl (gS rfl g0)) rfl)) ?_
        refine l_step (y_moveV (et (gS rfl (gS rfl g0)) rfl)) ?_
        refine l_step (y_moveV (et (gS rfl (gS rfl (gS rfl (gS rfl g0)))) rfl)) ?_
        refine l_step (y_moveV (et (gS rfl (gS rfl (gS rfl (gS rfl g0)))) rfl)) ?_
        refine l_step (y_moveV (et (gS rfl (gS rfl (gS rfl (gS rfl (gS rfl (gS rfl g0)))))) rfl)) ?_
        refine l_eff (e_callV cal_108 (aC (et g0 rfl) aN) (m_opcode hX.ex hs hp)) (fun v5 w5 h5 => ?_)
        obtain ⟨rfl, u5⟩ := h5
        replace hX := hX.up u5
        replace U := U.tr u5
        refine l_step (y_sub (et g0 rfl) rfl (wrapU_subN (b := 128) uk8 ?_ ?_)) ?_
        omega
        omega
        refine l_step (y_conv Hvaa.underlying5 Hvaa.underlying3 (et g0 rfl) (wrap_i64 ?_ ?_)) ?_
        omega
        omega
        refine l_eff (e_callV cal_264 (aC (et (gS rfl (gS rfl (gS rfl (gS rfl (gS rfl g0))))) rfl) (aC (et (gS rfl (gS rfl (gS rfl (gS rfl g0)))) rfl) (aC (et g0 rfl) aN))) (m_arg hX.ex hs hp (by first | exact hpf | rfl) _ (by omega))) (fun v6 w6 h6 => ?_)
        obtain ⟨rfl, u6⟩ := h6
        replace hX := hX.up u6
        replace U := U.tr u6
        refine l_eff (e_callV cal_259 (aC (et (gS rfl (gS rfl (gS rfl (gS rfl (gS rfl (gS rfl (gS rfl (gS rfl g0)))))))) rfl) (aC (et (gS rfl (gS rfl (gS rfl (gS rfl (gS rfl (gS rfl (gS rfl g0))))))) rfl) (aC (v := .int .u16 ((0 : Nat) : Int)) rfl (aC rfl (aC (et g0 rfl) (aC (v := .int .u16 ((1 : Nat) : Int)) rfl aN)))))) (m_settle1 hX.ex hs hp rfl 0 _ 1 (by omega) (argN_lt hB _) (by omega) (by omega))) (fun v7 w7 h7 => ?_)
        obtain ⟨rfl, cs7, y7⟩ := h7
        replace hX := hX.trans y7
        replace U := U.cc y7.et.go.ch (by intro b hb; exact .inl trivial)
        refine l_nil ?_
        refine end0 rfl ?_
        exact ⟨rfl, _, hX⟩)))
end Go.Proofs.YgvaawGreat
