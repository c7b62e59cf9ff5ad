import Derived.Test.YgvaawGreatZ5
set_option maxRecDepth 100000
set_option maxHeartbeats 4000000
set_option linter.unusedSimpArgs false
set_option linter.unusedVariables false
namespace Go.Proofs.YgvaawGreat
open Go
structure RbL (l : List Nat) (q : Nat) : Prop where
  h1 : q = 32 ∨ (160 ≤ q ∧ q ≤ 164) → argN l 1 ≤ 717280
  h2 : q = 55 ∨ q = 57 ∨ q = 62 ∨ q = 94 ∨ q = 240 ∨ q = 245 → argN l 2 ≤ 717280
  h3 : q = 60 → argN l 3 ≤ 717280
theorem rb_len {l : List Nat} {q : Nat} (h : rbN l q = true) : RbL l q := by
  have key : ∀ a n, reachB a n = true → n ≤ 717280 := fun a n h => by
    unfold reachB at h
    have := of_decide_eq_true h
    omega
  refine ⟨fun hq => ?_, fun hq => ?_, fun hq => ?_⟩
  · unfold rbN at h
    rw [if_pos (by omega)] at h
    exact key _ _ h
  · unfold rbN at h
    rw [if_neg (by omega)] at h
    by_cases h1 : q = 55 ∨ q = 57 ∨ q = 62
    · rw [if_pos h1] at h
      exact key _ _ h
    · rw [if_neg h1, if_neg (by omega), if_neg (by omega), if_neg (by omega)] at h
      by_cases h2 : q = 94
      · rw [if_pos h2, Bool.and_eq_true] at h
        exact key _ _ h.1
      · rw [if_neg h2, if_pos (by omega)] at h
        exact key _ _ h
  · unfold rbN at h
    rw [if_neg (by omega), if_neg (by omega), if_pos hq] at h
    exact key _ _ h
theorem lo_le {n : Nat} (h : n ≤ 717280) : lo64 n ≤ 717280 := by
  unfold lo64
  split
  · exact h
  · exact Nat.zero_le _
theorem wd_le {n : Nat} (h : n ≤ 717280) : wordsN n ≤ 22415 := by unfold wordsN; omega
theorem acc_le (l : List Nat) (a : Nat) : accessN l a ≤ 2600 := by
  unfold accessN
  split <;> omega
theorem cp_le {n : Nat} (h : n ≤ 717280) : copyN n ≤ 67245 := by unfold copyN wordsN; omega
theorem m_dynamic {w : World} {H : Store} {col : Nat → Nat} {bc : Nat} {cs : Array Value} {V : EV} {s : YSt} {sn : List Nat} {sv : List AW} {ms : List (List Nat)} {c : Nat} {low : List YF} {f : YF} (hE : EX w H col bc cs V s sn sv ms c) (hs : s.frames = low ++ [f]) (hp : s.phase = 1) {pf : Nat} (hpf : pf = 1803 + 65 * low.length) (q : Nat) (hq : q < 256) (hrb : rbN f.stack q = true) :
    Ret 269 [.pointer (some ⟨bc, 0, none⟩), .pointer (some ⟨bc, pf, none⟩), .int .u8 (q : Nat)] w (fun v w' => v = .int .u64 (dynN s f q : Nat) ∧ Up w w') := by
  obtain ⟨n9, hn9, hR⟩ := hE.topF hs
  have hB := hE.fbT hs
  have h6 := hE.six hs
  have htop := hE.cTop hs
  have hphs := hE.cPh hp
  have hbp := hB.pc
  have hbs := hB.stk
  have hbg := hB.gas
  have hbc9 := hB.code
  have hnw := hE.vl.new
  have hfz := hE.vl.fz
  have hcC := hE.vl.colC
  have hbc0 := hE.vl.kC.lt
  have hRb := rb_len hrb
  have hba9 := argN_lt hB 1
  refine enter (n := 156) Hvaa.func269 rfl rfl (Nat.le_of_ble_eq_true rfl) ?_
  have U := Up.refl w
  refine c_seq (fun K1 hK1 => ?_)
  exact (by
    refine c_region ?_
    refine l_step y_assignC ?_
    refine l_nil ?_
    refine hK1 _ _ ?_
    refine fg3 2 1 0 (gS rfl (gS rfl (gS rfl g0))) (gS rfl (gS rfl g0)) (gS rfl g0) (fun g => ?_)
    refine c_seq (fun K2 hK2 => ?_)
    refine c_seq (fun K3 hK3 => ?_)
    exact (by
      refine c_region ?_
      refine l_step (y_moveV (et (gS rfl (gS rfl g0)) rfl)) ?_
      refine l_nil ?_
      refine hK3 _ _ ?_
      refine c_block (fun Q4 hQ4 => ?_)
      refine c_seq (fun K5 hK5 => ?_)
      exact (by
        refine c_region ?_
        refine l_step (y_eql (et g0 rfl) rfl) ?_
        refine l_step (y_assignV (et g0 rfl)) ?_
        refine l_nil ?_
        refine hK5 _ _ ?_
        refine fg5 2 1 0 12 13 (gS rfl (gS rfl (gS rfl (gS rfl (gS rfl g0))))) (gS rfl (gS rfl (gS rfl (gS rfl g0)))) (gS rfl (gS rfl (gS rfl g0))) (gS rfl (gS rfl g0)) g0 (fun g => ?_)
        refine c_cond (et g0 rfl) (fun cB1 => ?_) (fun cB1 => ?_)
        · skip
          
          have hq1 : q = 10 := by have := of_decide_eq_true cB1; omega
          refine c_seq (fun K7 hK7 => ?_)
          exact (by
            refine c_region ?_
            refine l_step (y_moveV (et (gS rfl (gS rfl g0)) rfl)) ?_
            refine l_step (y_moveV (et (gS rfl (gS rfl (gS rfl (gS rfl g0)))) rfl)) ?_
            refine l_eff (e_callV cal_264 (aC (et (gS rfl g0) rfl) (aC (et g0 rfl) (aC (v := .int .i64 ((1 : Nat) : Int)) rfl aN))) (m_arg hE hs hp (by first | exact hpf | rfl) _ (by decide))) (fun v8 w8 h8 => ?_)
            obtain ⟨rfl, u8⟩ := h8
            replace hE := hE.up u8
            replace U := U.tr u8
            refine l_eff (e_callV cal_364 (aC (et g0 rfl) aN) (mach_expCost _ _ (by first | exact argN_lt hB _ | exact hB.value | assumption | decide | exact Nat.mod_lt _ (by decide)))) (fun v9 w9 h9 => ?_)
            obtain ⟨rfl, u9⟩ := h9
            replace hE := hE.up u9
            replace U := U.tr u9
            refine l_step (y_sub (et g0 rfl) rfl (wrapU_subN (b := 10) uk64 ?_ ?_)) ?_
            omega
            (have h9 := nbytes_le hba9; omega)
            refine l_step (y_assignV (et g0 rfl)) ?_
            refine l_nil ?_
            refine hK7 _ _ ?_
            refine fg1 6 g0 (fun g => ?_)
            refine c_ret ?_
            refine hQ4 _ _ _ (in_ret ?_)
            repeat with_reducible refine then_ret ?_
            refine ret1 rfl (res_tmp (et g0 rfl)) ?_
            refine ⟨?_, U⟩
            unfold dynN
            rw [if_pos (by omega)] <;> first | rfl | (congr 2; omega))
        · skip
          
          have hq1 : q ≠ 10 := by have := of_decide_eq_false cB1; omega
          refine c_seq (fun K10 hK10 => ?_)
          exact (by
            refine c_region ?_
            refine l_step (y_eql (et (gS rfl g0) rfl) rfl) ?_
            refine l_step (y_assignV (et g0 rfl)) ?_
            refine l_nil ?_
            refine hK10 _ _ ?_
            refine fg5 2 1 0 12 20 (gS rfl (gS rfl (gS rfl (gS rfl (gS rfl (gS rfl g0)))))) (gS rfl (gS rfl (gS rfl (gS rfl (gS rfl g0))))) (gS rfl (gS rfl (gS rfl (gS rfl g0)))) (gS rfl (gS rfl (gS rfl g0))) g0 (fun g => ?_)
            refine c_cond (et g0 rfl) (fun cB2 => ?_) (fun cB2 => ?_)
            · skip
              
              have hq2 : q = 32 := by have := of_decide_eq_true cB2; omega
              refine c_seq (fun K12 hK12 => ?_)
              exact (by
                refine c_region ?_
                refine l_step (y_moveV (et (gS rfl (gS rfl g0)) rfl)) ?_
                refine l_step (y_moveV (et (gS rfl (gS rfl (gS rfl (gS rfl g0)))) rfl)) ?_
                refine l_eff (e_callV cal_264 (aC (et (gS rfl g0) rfl) (aC (et g0 rfl) (aC (v := .int .i64 ((1 : Nat) : Int)) rfl aN))) (m_arg hE hs hp (by first | exact hpf | rfl) _ (by decide))) (fun v13 w13 h13 => ?_)
                obtain ⟨rfl, u13⟩ := h13
                replace hE := hE.up u13
                replace U := U.tr u13
                refine l_eff (e_callV cal_365 (aC (et g0 rfl) aN) (mach_length _ _ (by first | exact argN_lt hB _ | exact hB.value | assumption | decide | exact Nat.mod_lt _ (by decide)))) (fun v14 w14 h14 => ?_)
                obtain ⟨rfl, u14⟩ := h14
                replace hE := hE.up u14
                replace U := U.tr u14
                refine l_eff (e_callV cal_167 (aC (et g0 rfl) aN) (words_lo _ _ (by have h9 := (lo_le (hRb.h1 (by omega))); omega))) (fun v15 w15 h15 => ?_)
                obtain ⟨rfl, u15⟩ := h15
                replace hE := hE.up u15
                replace U := U.tr u15
                refine l_step (y_mul rfl (et g0 rfl) (wrapU_mulN (a := 6) uk64 ?_)) ?_
                (have h9 := wd_le (lo_le (hRb.h1 (by omega))); omega)
                refine l_step (y_assignV (et g0 rfl)) ?_
                refine l_nil ?_
                refine hK12 _ _ ?_
                refine fg1 6 g0 (fun g => ?_)
                refine c_ret ?_
                refine hQ4 _ _ _ (in_ret ?_)
                repeat with_reducible refine then_ret ?_
                refine ret1 rfl (res_tmp (et g0 rfl)) ?_
                refine ⟨?_, U⟩
                unfold dynN
                rw [if_neg (by omega), if_pos (by omega)] <;> first | rfl | (congr 2; omega))
            · skip
              
              have hq2 : q ≠ 32 := by have := of_decide_eq_false cB2; omega
              refine c_seq (fun K16 hK16 => ?_)
              refine c_seq (fun K17 hK17 => ?_)
              exact (by
                refine c_region ?_
                refine l_step (y_eql (et (gS rfl g0) rfl) rfl) ?_
                refine l_step (y_assignV (et g0 rfl)) ?_
                refine l_nil ?_
                refine hK17 _ _ ?_
                refine fg5 2 1 0 12 28 (gS rfl (gS rfl (gS rfl (gS rfl (gS rfl (gS rfl g0)))))) (gS rfl (gS rfl (gS rfl (gS rfl (gS rfl g0))))) (gS rfl (gS rfl (gS rfl (gS rfl g0)))) (gS rfl (gS rfl (gS rfl g0))) g0 (fun g => ?_)
                refine c_cond (et g0 rfl) (fun cB3 => ?_) (fun cB3 => ?_)
                · skip
                  
                  have hq3 : q = 55 := by have := of_decide_eq_true cB3; omega
                  refine c_skip ?_
                  refine hK16 _ _ ?_
                  refine c_true (et g0 rfl) (by assumption) ?_
                  refine c_seq (fun K20 hK20 => ?_)
                  exact (by
                    refine c_region ?_
                    refine l_step (y_moveV (et (gS rfl (gS rfl g0)) rfl)) ?_
                    refine l_step (y_moveV (et (gS rfl (gS rfl (gS rfl (gS rfl g0)))) rfl)) ?_
                    refine l_eff (e_callV cal_264 (aC (et (gS rfl g0) rfl) (aC (et g0 rfl) (aC (v := .int .i64 ((2 : Nat) : Int)) rfl aN))) (m_arg hE hs hp (by first | exact hpf | rfl) _ (by decide))) (fun v21 w21 h21 => ?_)
                    obtain ⟨rfl, u21⟩ := h21
                    replace hE := hE.up u21
                    replace U := U.tr u21
                    refine l_eff (e_callV cal_365 (aC (et g0 rfl) aN) (mach_length _ _ (by first | exact argN_lt hB _ | exact hB.value | assumption | decide | exact Nat.mod_lt _ (by decide)))) (fun v22 w22 h22 => ?_)
                    obtain ⟨rfl, u22⟩ := h22
                    replace hE := hE.up u22
                    replace U := U.tr u22
                    refine l_eff (e_callV cal_366 (aC (et g0 rfl) aN) (mach_copyCost _ _ (by have h9 := (lo_le (hRb.h2 (by omega))); omega))) (fun v23 w23 h23 => ?_)
                    obtain ⟨rfl, u23⟩ := h23
                    replace hE := hE.up u23
                    replace U := U.tr u23
                    refine l_step (y_assignV (et g0 rfl)) ?_
                    refine l_nil ?_
                    refine hK20 _ _ ?_
                    refine fg1 6 g0 (fun g => ?_)
                    refine c_ret ?_
                    refine hQ4 _ _ _ (in_ret ?_)
                    repeat with_reducible refine then_ret ?_
                    refine ret1 rfl (res_tmp (et g0 rfl)) ?_
                    refine ⟨?_, U⟩
                    unfold dynN
                    rw [if_neg (by omega), if_neg (by omega), if_pos (by omega)] <;> first | rfl | (congr 2; omega))
                · skip
                  
                  have hq3 : q ≠ 55 := by have := of_decide_eq_false cB3; omega
                  refine c_seq (fun K24 hK24 => ?_)
                  exact (by
                    refine c_region ?_
                    refine l_step (y_eql (et (gS rfl g0) rfl) rfl) ?_
                    refine l_step (y_assignV (et g0 rfl)) ?_
                    refine l_nil ?_
                    refine hK24 _ _ ?_
                    refine fg5 2 1 0 12 28 (gS rfl (gS rfl (gS rfl (gS rfl (gS rfl (gS rfl g0)))))) (gS rfl (gS rfl (gS rfl (gS rfl (gS rfl g0))))) (gS rfl (gS rfl (gS rfl (gS rfl g0)))) (gS rfl (gS rfl (gS rfl g0))) g0 (fun g => ?_)
                    refine c_cond (et g0 rfl) (fun cB4 => ?_) (fun cB4 => ?_)
                    · skip
                      
                      have hq4 : q = 57 := by have := of_decide_eq_true cB4; omega
                      refine c_skip ?_
                      refine hK16 _ _ ?_
                      refine c_true (et g0 rfl) (by assumption) ?_
                      refine c_seq (fun K27 hK27 => ?_)
                      exact (by
                        refine c_region ?_
                        refine l_step (y_moveV (et (gS rfl (gS rfl g0)) rfl)) ?_
                        refine l_step (y_moveV (et (gS rfl (gS rfl (gS rfl (gS rfl g0)))) rfl)) ?_
                        refine l_eff (e_callV cal_264 (aC (et (gS rfl g0) rfl) (aC (et g0 rfl) (aC (v := .int .i64 ((2 : Nat) : Int)) rfl aN))) (m_arg hE hs hp (by first | exact hpf | rfl) _ (by decide))) (fun v28 w28 h28 => ?_)
                        obtain ⟨rfl, u28⟩ := h28
                        replace hE := hE.up u28
                        replace U := U.tr u28
                        refine l_eff (e_callV cal_365 (aC (et g0 rfl) aN) (mach_length _ _ (by first | exact argN_lt hB _ | exact hB.value | assumption | decide | exact Nat.mod_lt _ (by decide)))) (fun v29 w29 h29 => ?_)
                        obtain ⟨rfl, u29⟩ := h29
                        replace hE := hE.up u29
                        replace U := U.tr u29
                        refine l_eff (e_callV cal_366 (aC (et g0 rfl) aN) (mach_copyCost _ _ (by have h9 := (lo_le (hRb.h2 (by omega))); omega))) (fun v30 w30 h30 => ?_)
                        obtain ⟨rfl, u30⟩ := h30
                        replace hE := hE.up u30
                        replace U := U.tr u30
                        refine l_step (y_assignV (et g0 rfl)) ?_
                        refine l_nil ?_
                        refine hK27 _ _ ?_
                        refine fg1 6 g0 (fun g => ?_)
                        refine c_ret ?_
                        refine hQ4 _ _ _ (in_ret ?_)
                        repeat with_reducible refine then_ret ?_
                        refine ret1 rfl (res_tmp (et g0 rfl)) ?_
                        refine ⟨?_, U⟩
                        unfold dynN
                        rw [if_neg (by omega), if_neg (by omega), if_pos (by omega)] <;> first | rfl | (congr 2; omega))
                    · skip
                      
                      have hq4 : q ≠ 57 := by have := of_decide_eq_false cB4; omega
                      refine c_seq (fun K31 hK31 => ?_)
                      exact (by
                        refine c_region ?_
                        refine l_step (y_eql (et (gS rfl g0) rfl) rfl) ?_
                        refine l_step (y_assignV (et g0 rfl)) ?_
                        refine l_nil ?_
                        refine hK31 _ _ ?_
                        refine fg5 2 1 0 12 28 (gS rfl (gS rfl (gS rfl (gS rfl (gS rfl (gS rfl g0)))))) (gS rfl (gS rfl (gS rfl (gS rfl (gS rfl g0))))) (gS rfl (gS rfl (gS rfl (gS rfl g0)))) (gS rfl (gS rfl (gS rfl g0))) g0 (fun g => ?_)
                        refine c_cond (et g0 rfl) (fun cB5 => ?_) (fun cB5 => ?_)
                        · skip
                          
                          have hq5 : q = 62 := by have := of_decide_eq_true cB5; omega
                          refine c_skip ?_
                          refine hK16 _ _ ?_
                          refine c_true (et g0 rfl) (by assumption) ?_
                          refine c_seq (fun K34 hK34 => ?_)
                          exact (by
                            refine c_region ?_
                            refine l_step (y_moveV (et (gS rfl (gS rfl g0)) rfl)) ?_
                            refine l_step (y_moveV (et (gS rfl (gS rfl (gS rfl (gS rfl g0)))) rfl)) ?_
                            refine l_eff (e_callV cal_264 (aC (et (gS rfl g0) rfl) (aC (et g0 rfl) (aC (v := .int .i64 ((2 : Nat) : Int)) rfl aN))) (m_arg hE hs hp (by first | exact hpf | rfl) _ (by decide))) (fun v35 w35 h35 => ?_)
                            obtain ⟨rfl, u35⟩ := h35
                            replace hE := hE.up u35
                            replace U := U.tr u35
                            refine l_eff (e_callV cal_365 (aC (et g0 rfl) aN) (mach_length _ _ (by first | exact argN_lt hB _ | exact hB.value | assumption | decide | exact Nat.mod_lt _ (by decide)))) (fun v36 w36 h36 => ?_)
                            obtain ⟨rfl, u36⟩ := h36
                            replace hE := hE.up u36
                            replace U := U.tr u36
                            refine l_eff (e_callV cal_366 (aC (et g0 rfl) aN) (mach_copyCost _ _ (by have h9 := (lo_le (hRb.h2 (by omega))); omega))) (fun v37 w37 h37 => ?_)
                            obtain ⟨rfl, u37⟩ := h37
                            replace hE := hE.up u37
                            replace U := U.tr u37
                            refine l_step (y_assignV (et g0 rfl)) ?_
                            refine l_nil ?_
                            refine hK34 _ _ ?_
                            refine fg1 6 g0 (fun g => ?_)
                            refine c_ret ?_
                            refine hQ4 _ _ _ (in_ret ?_)
                            repeat with_reducible refine then_ret ?_
                            refine ret1 rfl (res_tmp (et g0 rfl)) ?_
                            refine ⟨?_, U⟩
                            unfold dynN
                            rw [if_neg (by omega), if_neg (by omega), if_pos (by omega)] <;> first | rfl | (congr 2; omega))
                        · skip
                          
                          have hq5 : q ≠ 62 := by have := of_decide_eq_false cB5; omega
                          refine c_region ?_
                          refine l_step (y_eql (et (gS rfl g0) rfl) rfl) ?_
                          refine l_step (y_assignV (et g0 rfl)) ?_
                          refine l_nil ?_
                          refine hK16 _ _ ?_
                          refine fg5 2 1 0 12 28 (gS rfl (gS rfl (gS rfl (gS rfl (gS rfl (gS rfl g0)))))) (gS rfl (gS rfl (gS rfl (gS rfl (gS rfl g0))))) (gS rfl (gS rfl (gS rfl (gS rfl g0)))) (gS rfl (gS rfl (gS rfl g0))) g0 (fun g => ?_)
                          refine c_cond (et g0 rfl) (fun cB6 => ?_) (fun cB6 => ?_)
                          · skip
                            
                            have hq6 : q = 94 := by have := of_decide_eq_true cB6; omega
                            refine c_seq (fun K39 hK39 => ?_)
                            exact (by
                              refine c_region ?_
                              refine l_step (y_moveV (et (gS rfl (gS rfl g0)) rfl)) ?_
                              refine l_step (y_moveV (et (gS rfl (gS rfl (gS rfl (gS rfl g0)))) rfl)) ?_
                              refine l_eff (e_callV cal_264 (aC (et (gS rfl g0) rfl) (aC (et g0 rfl) (aC (v := .int .i64 ((2 : Nat) : Int)) rfl aN))) (m_arg hE hs hp (by first | exact hpf | rfl) _ (by decide))) (fun v40 w40 h40 => ?_)
                              obtain ⟨rfl, u40⟩ := h40
                              replace hE := hE.up u40
                              replace U := U.tr u40
                              refine l_eff (e_callV cal_365 (aC (et g0 rfl) aN) (mach_length _ _ (by first | exact argN_lt hB _ | exact hB.value | assumption | decide | exact Nat.mod_lt _ (by decide)))) (fun v41 w41 h41 => ?_)
                              obtain ⟨rfl, u41⟩ := h41
                              replace hE := hE.up u41
                              replace U := U.tr u41
                              refine l_eff (e_callV cal_366 (aC (et g0 rfl) aN) (mach_copyCost _ _ (by have h9 := (lo_le (hRb.h2 (by omega))); omega))) (fun v42 w42 h42 => ?_)
                              obtain ⟨rfl, u42⟩ := h42
                              replace hE := hE.up u42
                              replace U := U.tr u42
                              refine l_step (y_assignV (et g0 rfl)) ?_
                              refine l_nil ?_
                              refine hK39 _ _ ?_
                              refine fg1 6 g0 (fun g => ?_)
                              refine c_ret ?_
                              refine hQ4 _ _ _ (in_ret ?_)
                              repeat with_reducible refine then_ret ?_
                              refine ret1 rfl (res_tmp (et g0 rfl)) ?_
                              refine ⟨?_, U⟩
                              unfold dynN
                              rw [if_neg (by omega), if_neg (by omega), if_pos (by omega)] <;> first | rfl | (congr 2; omega))
                          · skip
                            
                            have hq6 : q ≠ 94 := by have := of_decide_eq_false cB6; omega
                            refine c_seq (fun K43 hK43 => ?_)
                            refine c_seq (fun K44 hK44 => ?_)
                            exact (by
                              refine c_region ?_
                              refine l_step (y_eql (et (gS rfl g0) rfl) rfl) ?_
                              refine l_step (y_assignV (et g0 rfl)) ?_
                              refine l_nil ?_
                              refine hK44 _ _ ?_
                              refine fg5 2 1 0 12 38 (gS rfl (gS rfl (gS rfl (gS rfl (gS rfl (gS rfl g0)))))) (gS rfl (gS rfl (gS rfl (gS rfl (gS rfl g0))))) (gS rfl (gS rfl (gS rfl (gS rfl g0)))) (gS rfl (gS rfl (gS rfl g0))) g0 (fun g => ?_)
                              refine c_cond (et g0 rfl) (fun cB7 => ?_) (fun cB7 => ?_)
                              · skip
                                
                                have hq7 : q = 49 := by have := of_decide_eq_true cB7; omega
                                refine c_skip ?_
                                refine hK43 _ _ ?_
                                refine c_true (et g0 rfl) (by assumption) ?_
                                refine c_seq (fun K47 hK47 => ?_)
                                exact (by
                                  refine c_region ?_
                                  refine l_step (y_moveV (et (gS rfl (gS rfl g0)) rfl)) ?_
                                  refine l_step (y_moveV (et (gS rfl (gS rfl (gS rfl g0))) rfl)) ?_
                                  refine l_step (y_moveV (et (gS rfl (gS rfl (gS rfl (gS rfl (gS rfl g0))))) rfl)) ?_
                                  refine l_eff (e_callV cal_264 (aC (et (gS rfl g0) rfl) (aC (et g0 rfl) (aC (v := .int .i64 ((0 : Nat) : Int)) rfl aN))) (m_arg hE hs hp (by first | exact hpf | rfl) _ (by decide))) (fun v48 w48 h48 => ?_)
                                  obtain ⟨rfl, u48⟩ := h48
                                  replace hE := hE.up u48
                                  replace U := U.tr u48
                                  refine l_eff (e_callV cal_367 (aC (et (gS rfl (gS rfl (gS rfl g0))) rfl) (aC (et g0 rfl) aN)) (m_access hE hs hp _ (by first | exact argN_lt hB _ | exact hB.value | assumption | decide | exact Nat.mod_lt _ (by decide)))) (fun v49 w49 h49 => ?_)
                                  obtain ⟨rfl, u49⟩ := h49
                                  replace hE := hE.up u49
                                  replace U := U.tr u49
                                  refine l_step (y_assignV (et g0 rfl)) ?_
                                  refine l_nil ?_
                                  refine hK47 _ _ ?_
                                  refine fg1 6 g0 (fun g => ?_)
                                  refine c_ret ?_
                                  refine hQ4 _ _ _ (in_ret ?_)
                                  repeat with_reducible refine then_ret ?_
                                  refine ret1 rfl (res_tmp (et g0 rfl)) ?_
                                  refine ⟨?_, U⟩
                                  unfold dynN
                                  rw [if_neg (by omega), if_neg (by omega), if_neg (by omega), if_pos (by omega)] <;> first | rfl | (congr 2; omega))
                              · skip
                                
                                have hq7 : q ≠ 49 := by have := of_decide_eq_false cB7; omega
                                refine c_seq (fun K50 hK50 => ?_)
                                exact (by
                                  refine c_region ?_
                                  refine l_step (y_eql (et (gS rfl g0) rfl) rfl) ?_
                                  refine l_step (y_assignV (et g0 rfl)) ?_
                                  refine l_nil ?_
                                  refine hK50 _ _ ?_
                                  refine fg5 2 1 0 12 38 (gS rfl (gS rfl (gS rfl (gS rfl (gS rfl (gS rfl g0)))))) (gS rfl (gS rfl (gS rfl (gS rfl (gS rfl g0))))) (gS rfl (gS rfl (gS rfl (gS rfl g0)))) (gS rfl (gS rfl (gS rfl g0))) g0 (fun g => ?_)
                                  refine c_cond (et g0 rfl) (fun cB8 => ?_) (fun cB8 => ?_)
                                  · skip
                                    
                                    have hq8 : q = 59 := by have := of_decide_eq_true cB8; omega
                                    refine c_skip ?_
                                    refine hK43 _ _ ?_
                                    refine c_true (et g0 rfl) (by assumption) ?_
                                    refine c_seq (fun K53 hK53 => ?_)
                                    exact (by
                                      refine c_region ?_
                                      refine l_step (y_moveV (et (gS rfl (gS rfl g0)) rfl)) ?_
                                      refine l_step (y_moveV (et (gS rfl (gS rfl (gS rfl g0))) rfl)) ?_
                                      refine l_step (y_moveV (et (gS rfl (gS rfl (gS rfl (gS rfl (gS rfl g0))))) rfl)) ?_
                                      refine l_eff (e_callV cal_264 (aC (et (gS rfl g0) rfl) (aC (et g0 rfl) (aC (v := .int .i64 ((0 : Nat) : Int)) rfl aN))) (m_arg hE hs hp (by first | exact hpf | rfl) _ (by decide))) (fun v54 w54 h54 => ?_)
                                      obtain ⟨rfl, u54⟩ := h54
                                      replace hE := hE.up u54
                                      replace U := U.tr u54
                                      refine l_eff (e_callV cal_367 (aC (et (gS rfl (gS rfl (gS rfl g0))) rfl) (aC (et g0 rfl) aN)) (m_access hE hs hp _ (by first | exact argN_lt hB _ | exact hB.value | assumption | decide | exact Nat.mod_lt _ (by decide)))) (fun v55 w55 h55 => ?_)
                                      obtain ⟨rfl, u55⟩ := h55
                                      replace hE := hE.up u55
                                      replace U := U.tr u55
                                      refine l_step (y_assignV (et g0 rfl)) ?_
                                      refine l_nil ?_
                                      refine hK53 _ _ ?_
                                      refine fg1 6 g0 (fun g => ?_)
                                      refine c_ret ?_
                                      refine hQ4 _ _ _ (in_ret ?_)
                                      repeat with_reducible refine then_ret ?_
                                      refine ret1 rfl (res_tmp (et g0 rfl)) ?_
                                      refine ⟨?_, U⟩
                                      unfold dynN
                                      rw [if_neg (by omega), if_neg (by omega), if_neg (by omega), if_pos (by omega)] <;> first | rfl | (congr 2; omega))
                                  · skip
                                    
                                    have hq8 : q ≠ 59 := by have := of_decide_eq_false cB8; omega
                                    refine c_region ?_
                                    refine l_step (y_eql (et (gS rfl g0) rfl) rfl) ?_
                                    refine l_step (y_assignV (et g0 rfl)) ?_
                                    refine l_nil ?_
                                    refine hK43 _ _ ?_
                                    refine fg5 2 1 0 12 38 (gS rfl (gS rfl (gS rfl (gS rfl (gS rfl (gS rfl g0)))))) (gS rfl (gS rfl (gS rfl (gS rfl (gS rfl g0))))) (gS rfl (gS rfl (gS rfl (gS rfl g0)))) (gS rfl (gS rfl (gS rfl g0))) g0 (fun g => ?_)
                                    refine c_cond (et g0 rfl) (fun cB9 => ?_) (fun cB9 => ?_)
                                    · skip
                                      
                                      have hq9 : q = 63 := by have := of_decide_eq_true cB9; omega
                                      refine c_seq (fun K57 hK57 => ?_)
                                      exact (by
                                        refine c_region ?_
                                        refine l_step (y_moveV (et (gS rfl (gS rfl g0)) rfl)) ?_
                                        refine l_step (y_moveV (et (gS rfl (gS rfl (gS rfl g0))) rfl)) ?_
                                        refine l_step (y_moveV (et (gS rfl (gS rfl (gS rfl (gS rfl (gS rfl g0))))) rfl)) ?_
                                        refine l_eff (e_callV cal_264 (aC (et (gS rfl g0) rfl) (aC (et g0 rfl) (aC (v := .int .i64 ((0 : Nat) : Int)) rfl aN))) (m_arg hE hs hp (by first | exact hpf | rfl) _ (by decide))) (fun v58 w58 h58 => ?_)
                                        obtain ⟨rfl, u58⟩ := h58
                                        replace hE := hE.up u58
                                        replace U := U.tr u58
                                        refine l_eff (e_callV cal_367 (aC (et (gS rfl (gS rfl (gS rfl g0))) rfl) (aC (et g0 rfl) aN)) (m_access hE hs hp _ (by first | exact argN_lt hB _ | exact hB.value | assumption | decide | exact Nat.mod_lt _ (by decide)))) (fun v59 w59 h59 => ?_)
                                        obtain ⟨rfl, u59⟩ := h59
                                        replace hE := hE.up u59
                                        replace U := U.tr u59
                                        refine l_step (y_assignV (et g0 rfl)) ?_
                                        refine l_nil ?_
                                        refine hK57 _ _ ?_
                                        refine fg1 6 g0 (fun g => ?_)
                                        refine c_ret ?_
                                        refine hQ4 _ _ _ (in_ret ?_)
                                        repeat with_reducible refine then_ret ?_
                                        refine ret1 rfl (res_tmp (et g0 rfl)) ?_
                                        refine ⟨?_, U⟩
                                        unfold dynN
                                        rw [if_neg (by omega), if_neg (by omega), if_neg (by omega), if_pos (by omega)] <;> first | rfl | (congr 2; omega))
                                    · skip
                                      
                                      have hq9 : q ≠ 63 := by have := of_decide_eq_false cB9; omega
                                      refine c_seq (fun K60 hK60 => ?_)
                                      exact (by
                                        refine c_region ?_
                                        refine l_step (y_eql (et (gS rfl g0) rfl) rfl) ?_
                                        refine l_step (y_assignV (et g0 rfl)) ?_
                                        refine l_nil ?_
                                        refine hK60 _ _ ?_
                                        refine fg5 2 1 0 12 47 (gS rfl (gS rfl (gS rfl (gS rfl (gS rfl (gS rfl g0)))))) (gS rfl (gS rfl (gS rfl (gS rfl (gS rfl g0))))) (gS rfl (gS rfl (gS rfl (gS rfl g0)))) (gS rfl (gS rfl (gS rfl g0))) g0 (fun g => ?_)
                                        refine c_cond (et g0 rfl) (fun cB10 => ?_) (fun cB10 => ?_)
                                        · skip
                                          
                                          have hq10 : q = 60 := by have := of_decide_eq_true cB10; omega
                                          refine c_seq (fun K62 hK62 => ?_)
                                          exact (by
                                            refine c_region ?_
                                            refine l_step (y_moveV (et (gS rfl (gS rfl g0)) rfl)) ?_
                                            refine l_step (y_moveV (et (gS rfl (gS rfl (gS rfl g0))) rfl)) ?_
                                            refine l_step (y_moveV (et (gS rfl (gS rfl (gS rfl (gS rfl (gS rfl g0))))) rfl)) ?_
                                            refine l_eff (e_callV cal_264 (aC (et (gS rfl g0) rfl) (aC (et g0 rfl) (aC (v := .int .i64 ((0 : Nat) : Int)) rfl aN))) (m_arg hE hs hp (by first | exact hpf | rfl) _ (by decide))) (fun v63 w63 h63 => ?_)
                                            obtain ⟨rfl, u63⟩ := h63
                                            replace hE := hE.up u63
                                            replace U := U.tr u63
                                            refine l_eff (e_callV cal_367 (aC (et (gS rfl (gS rfl (gS rfl g0))) rfl) (aC (et g0 rfl) aN)) (m_access hE hs hp _ (by first | exact argN_lt hB _ | exact hB.value | assumption | decide | exact Nat.mod_lt _ (by decide)))) (fun v64 w64 h64 => ?_)
                                            obtain ⟨rfl, u64⟩ := h64
                                            replace hE := hE.up u64
                                            replace U := U.tr u64
                                            refine l_step (y_moveV (et (gS rfl (gS rfl (gS rfl (gS rfl (gS rfl (gS rfl (gS rfl g0))))))) rfl)) ?_
                                            refine l_step (y_moveV (et (gS rfl (gS rfl (gS rfl (gS rfl (gS rfl (gS rfl (gS rfl (gS rfl (gS rfl g0))))))))) rfl)) ?_
                                            refine l_eff (e_callV cal_264 (aC (et (gS rfl g0) rfl) (aC (et g0 rfl) (aC (v := .int .i64 ((3 : Nat) : Int)) rfl aN))) (m_arg hE hs hp (by first | exact hpf | rfl) _ (by decide))) (fun v65 w65 h65 => ?_)
                                            obtain ⟨rfl, u65⟩ := h65
                                            replace hE := hE.up u65
                                            replace U := U.tr u65
                                            refine l_eff (e_callV cal_365 (aC (et g0 rfl) aN) (mach_length _ _ (by first | exact argN_lt hB _ | exact hB.value | assumption | decide | exact Nat.mod_lt _ (by decide)))) (fun v66 w66 h66 => ?_)
                                            obtain ⟨rfl, u66⟩ := h66
                                            replace hE := hE.up u66
                                            replace U := U.tr u66
                                            refine l_eff (e_callV cal_366 (aC (et g0 rfl) aN) (mach_copyCost _ _ (by have h9 := (lo_le (hRb.h3 (by omega))); omega))) (fun v67 w67 h67 => ?_)
                                            obtain ⟨rfl, u67⟩ := h67
                                            replace hE := hE.up u67
                                            replace U := U.tr u67
                                            refine l_step (y_add (et (gS rfl (gS rfl (gS rfl (gS rfl (gS rfl g0))))) rfl) (et g0 rfl) (wrapU_addN uk64 ?_)) ?_
                                            (have h9 := cp_le (lo_le (hRb.h3 (by omega))); have h8 := acc_le s.now.warmA (argN f.stack 0 % A160); omega)
                                            refine l_step (y_assignV (et g0 rfl)) ?_
                                            refine l_nil ?_
                                            refine hK62 _ _ ?_
                                            refine fg1 6 g0 (fun g => ?_)
                                            refine c_ret ?_
                                            refine hQ4 _ _ _ (in_ret ?_)
                                            repeat with_reducible refine then_ret ?_
                                            refine ret1 rfl (res_tmp (et g0 rfl)) ?_
                                            refine ⟨?_, U⟩
                                            unfold dynN
                                            rw [if_neg (by omega), if_neg (by omega), if_neg (by omega), if_neg (by omega), if_pos (by omega)] <;> first | rfl | (congr 2; omega))
                                        · skip
                                          
                                          have hq10 : q ≠ 60 := by have := of_decide_eq_false cB10; omega
                                          refine c_seq (fun K68 hK68 => ?_)
                                          refine c_seq (fun K69 hK69 => ?_)
                                          exact (by
                                            refine c_region ?_
                                            refine l_step (y_eql (et (gS rfl g0) rfl) rfl) ?_
                                            refine l_step (y_assignV (et g0 rfl)) ?_
                                            refine l_nil ?_
                                            refine hK69 _ _ ?_
                                            refine fg5 2 1 0 12 60 (gS rfl (gS rfl (gS rfl (gS rfl (gS rfl (gS rfl g0)))))) (gS rfl (gS rfl (gS rfl (gS rfl (gS rfl g0))))) (gS rfl (gS rfl (gS rfl (gS rfl g0)))) (gS rfl (gS rfl (gS rfl g0))) g0 (fun g => ?_)
                                            refine c_cond (et g0 rfl) (fun cB11 => ?_) (fun cB11 => ?_)
                                            · skip
                                              
                                              have hq11 : q = 160 := by have := of_decide_eq_true cB11; omega
                                              refine c_skip ?_
                                              refine hK68 _ _ ?_
                                              refine c_true (et g0 rfl) (by assumption) ?_
                                              refine c_seq (fun K72 hK72 => ?_)
                                              exact (by
                                                refine c_region ?_
                                                refine l_step (y_moveV (et (gS rfl (gS rfl g0)) rfl)) ?_
                                                refine l_step (y_moveV (et (gS rfl (gS rfl (gS rfl (gS rfl g0)))) rfl)) ?_
                                                refine l_eff (e_callV cal_264 (aC (et (gS rfl g0) rfl) (aC (et g0 rfl) (aC (v := .int .i64 ((1 : Nat) : Int)) rfl aN))) (m_arg hE hs hp (by first | exact hpf | rfl) _ (by decide))) (fun v73 w73 h73 => ?_)
                                                obtain ⟨rfl, u73⟩ := h73
                                                replace hE := hE.up u73
                                                replace U := U.tr u73
                                                refine l_eff (e_callV cal_365 (aC (et g0 rfl) aN) (mach_length _ _ (by first | exact argN_lt hB _ | exact hB.value | assumption | decide | exact Nat.mod_lt _ (by decide)))) (fun v74 w74 h74 => ?_)
                                                obtain ⟨rfl, u74⟩ := h74
                                                replace hE := hE.up u74
                                                replace U := U.tr u74
                                                refine l_step (y_mul rfl (et g0 rfl) (wrapU_mulN (a := 8) uk64 ?_)) ?_
                                                (have h9 := (lo_le (hRb.h1 (by omega))); omega)
                                                refine l_step (y_assignV (et g0 rfl)) ?_
                                                refine l_nil ?_
                                                refine hK72 _ _ ?_
                                                refine fg1 6 g0 (fun g => ?_)
                                                refine c_ret ?_
                                                refine hQ4 _ _ _ (in_ret ?_)
                                                repeat with_reducible refine then_ret ?_
                                                refine ret1 rfl (res_tmp (et g0 rfl)) ?_
                                                refine ⟨?_, U⟩
                                                unfold dynN
                                                rw [if_neg (by omega), if_neg (by omega), if_neg (by omega), if_neg (by omega), if_neg (by omega), if_pos (by omega)] <;> first | rfl | (congr 2; omega))
                                            · skip
                                              
                                              have hq11 : q ≠ 160 := by have := of_decide_eq_false cB11; omega
                                              refine c_seq (fun K75 hK75 => ?_)
                                              exact (by
                                                refine c_region ?_
                                                refine l_step (y_eql (et (gS rfl g0) rfl) rfl) ?_
                                                refine l_step (y_assignV (et g0 rfl)) ?_
                                                refine l_nil ?_
                                                refine hK75 _ _ ?_
                                                refine fg5 2 1 0 12 60 (gS rfl (gS rfl (gS rfl (gS rfl (gS rfl (gS rfl g0)))))) (gS rfl (gS rfl (gS rfl (gS rfl (gS rfl g0))))) (gS rfl (gS rfl (gS rfl (gS rfl g0)))) (gS rfl (gS rfl (gS rfl g0))) g0 (fun g => ?_)
                                                refine c_cond (et g0 rfl) (fun cB12 => ?_) (fun cB12 => ?_)
                                                · skip
                                                  
                                                  have hq12 : q = 161 := by have := of_decide_eq_true cB12; omega
                                                  refine c_skip ?_
                                                  refine hK68 _ _ ?_
                                                  refine c_true (et g0 rfl) (by assumption) ?_
                                                  refine c_seq (fun K78 hK78 => ?_)
                                                  exact (by
                                                    refine c_region ?_
                                                    refine l_step (y_moveV (et (gS rfl (gS rfl g0)) rfl)) ?_
                                                    refine l_step (y_moveV (et (gS rfl (gS rfl (gS rfl (gS rfl g0)))) rfl)) ?_
                                                    refine l_eff (e_callV cal_264 (aC (et (gS rfl g0) rfl) (aC (et g0 rfl) (aC (v := .int .i64 ((1 : Nat) : Int)) rfl aN))) (m_arg hE hs hp (by first | exact hpf | rfl) _ (by decide))) (fun v79 w79 h79 => ?_)
                                                    obtain ⟨rfl, u79⟩ := h79
                                                    replace hE := hE.up u79
                                                    replace U := U.tr u79
                                                    refine l_eff (e_callV cal_365 (aC (et g0 rfl) aN) (mach_length _ _ (by first | exact argN_lt hB _ | exact hB.value | assumption | decide | exact Nat.mod_lt _ (by decide)))) (fun v80 w80 h80 => ?_)
                                                    obtain ⟨rfl, u80⟩ := h80
                                                    replace hE := hE.up u80
                                                    replace U := U.tr u80
                                                    refine l_step (y_mul rfl (et g0 rfl) (wrapU_mulN (a := 8) uk64 ?_)) ?_
                                                    (have h9 := (lo_le (hRb.h1 (by omega))); omega)
                                                    refine l_step (y_assignV (et g0 rfl)) ?_
                                                    refine l_nil ?_
                                                    refine hK78 _ _ ?_
                                                    refine fg1 6 g0 (fun g => ?_)
                                                    refine c_ret ?_
                                                    refine hQ4 _ _ _ (in_ret ?_)
                                                    repeat with_reducible refine then_ret ?_
                                                    refine ret1 rfl (res_tmp (et g0 rfl)) ?_
                                                    refine ⟨?_, U⟩
                                                    unfold dynN
                                                    rw [if_neg (by omega), if_neg (by omega), if_neg (by omega), if_neg (by omega), if_neg (by omega), if_pos (by omega)] <;> first | rfl | (congr 2; omega))
                                                · skip
                                                  
                                                  have hq12 : q ≠ 161 := by have := of_decide_eq_false cB12; omega
                                                  refine c_seq (fun K81 hK81 => ?_)
                                                  exact (by
                                                    refine c_region ?_
                                                    refine l_step (y_eql (et (gS rfl g0) rfl) rfl) ?_
                                                    refine l_step (y_assignV (et g0 rfl)) ?_
                                                    refine l_nil ?_
                                                    refine hK81 _ _ ?_
                                                    refine fg5 2 1 0 12 60 (gS rfl (gS rfl (gS rfl (gS rfl (gS rfl (gS rfl g0)))))) (gS rfl (gS rfl (gS rfl (gS rfl (gS rfl g0))))) (gS rfl (gS rfl (gS rfl (gS rfl g0)))) (gS rfl (gS rfl (gS rfl g0))) g0 (fun g => ?_)
                                                    refine c_cond (et g0 rfl) (fun cB13 => ?_) (fun cB13 => ?_)
                                                    · skip
                                                      
                                                      have hq13 : q = 162 := by have := of_decide_eq_true cB13; omega
                                                      refine c_skip ?_
                                                      refine hK68 _ _ ?_
                                                      refine c_true (et g0 rfl) (by assumption) ?_
                                                      refine c_seq (fun K84 hK84 => ?_)
                                                      exact (by
                                                        refine c_region ?_
                                                        refine l_step (y_moveV (et (gS rfl (gS rfl g0)) rfl)) ?_
                                                        refine l_step (y_moveV (et (gS rfl (gS rfl (gS rfl (gS rfl g0)))) rfl)) ?_
                                                        refine l_eff (e_callV cal_264 (aC (et (gS rfl g0) rfl) (aC (et g0 rfl) (aC (v := .int .i64 ((1 : Nat) : Int)) rfl aN))) (m_arg hE hs hp (by first | exact hpf | rfl) _ (by decide))) (fun v85 w85 h85 => ?_)
                                                        obtain ⟨rfl, u85⟩ := h85
                                                        replace hE := hE.up u85
                                                        replace U := U.tr u85
                                                        refine l_eff (e_callV cal_365 (aC (et g0 rfl) aN) (mach_length _ _ (by first | exact argN_lt hB _ | exact hB.value | assumption | decide | exact Nat.mod_lt _ (by decide)))) (fun v86 w86 h86 => ?_)
                                                        obtain ⟨rfl, u86⟩ := h86
                                                        replace hE := hE.up u86
                                                        replace U := U.tr u86
                                                        refine l_step (y_mul rfl (et g0 rfl) (wrapU_mulN (a := 8) uk64 ?_)) ?_
                                                        (have h9 := (lo_le (hRb.h1 (by omega))); omega)
                                                        refine l_step (y_assignV (et g0 rfl)) ?_
                                                        refine l_nil ?_
                                                        refine hK84 _ _ ?_
                                                        refine fg1 6 g0 (fun g => ?_)
                                                        refine c_ret ?_
                                                        refine hQ4 _ _ _ (in_ret ?_)
                                                        repeat with_reducible refine then_ret ?_
                                                        refine ret1 rfl (res_tmp (et g0 rfl)) ?_
                                                        refine ⟨?_, U⟩
                                                        unfold dynN
                                                        rw [if_neg (by omega), if_neg (by omega), if_neg (by omega), if_neg (by omega), if_neg (by omega), if_pos (by omega)] <;> first | rfl | (congr 2; omega))
                                                    · skip
                                                      
                                                      have hq13 : q ≠ 162 := by have := of_decide_eq_false cB13; omega
                                                      refine c_seq (fun K87 hK87 => ?_)
                                                      exact (by
                                                        refine c_region ?_
                                                        refine l_step (y_eql (et (gS rfl g0) rfl) rfl) ?_
                                                        refine l_step (y_assignV (et g0 rfl)) ?_
                                                        refine l_nil ?_
                                                        refine hK87 _ _ ?_
                                                        refine fg5 2 1 0 12 60 (gS rfl (gS rfl (gS rfl (gS rfl (gS rfl (gS rfl g0)))))) (gS rfl (gS rfl (gS rfl (gS rfl (gS rfl g0))))) (gS rfl (gS rfl (gS rfl (gS rfl g0)))) (gS rfl (gS rfl (gS rfl g0))) g0 (fun g => ?_)
                                                        refine c_cond (et g0 rfl) (fun cB14 => ?_) (fun cB14 => ?_)
                                                        · skip
                                                          
                                                          have hq14 : q = 163 := by have := of_decide_eq_true cB14; omega
                                                          refine c_skip ?_
                                                          refine hK68 _ _ ?_
                                                          refine c_true (et g0 rfl) (by assumption) ?_
                                                          refine c_seq (fun K90 hK90 => ?_)
                                                          exact (by
                                                            refine c_region ?_
                                                            refine l_step (y_moveV (et (gS rfl (gS rfl g0)) rfl)) ?_
                                                            refine l_step (y_moveV (et (gS rfl (gS rfl (gS rfl (gS rfl g0)))) rfl)) ?_
                                                            refine l_eff (e_callV cal_264 (aC (et (gS rfl g0) rfl) (aC (et g0 rfl) (aC (v := .int .i64 ((1 : Nat) : Int)) rfl aN))) (m_arg hE hs hp (by first | exact hpf | rfl) _ (by decide))) (fun v91 w91 h91 => ?_)
                                                            obtain ⟨rfl, u91⟩ := h91
                                                            replace hE := hE.up u91
                                                            replace U := U.tr u91
                                                            refine l_eff (e_callV cal_365 (aC (et g0 rfl) aN) (mach_length _ _ (by first | exact argN_lt hB _ | exact hB.value | assumption | decide | exact Nat.mod_lt _ (by decide)))) (fun v92 w92 h92 => ?_)
                                                            obtain ⟨rfl, u92⟩ := h92
                                                            replace hE := hE.up u92
                                                            replace U := U.tr u92
                                                            refine l_step (y_mul rfl (et g0 rfl) (wrapU_mulN (a := 8) uk64 ?_)) ?_
                                                            (have h9 := (lo_le (hRb.h1 (by omega))); omega)
                                                            refine l_step (y_assignV (et g0 rfl)) ?_
                                                            refine l_nil ?_
                                                            refine hK90 _ _ ?_
                                                            refine fg1 6 g0 (fun g => ?_)
                                                            refine c_ret ?_
                                                            refine hQ4 _ _ _ (in_ret ?_)
                                                            repeat with_reducible refine then_ret ?_
                                                            refine ret1 rfl (res_tmp (et g0 rfl)) ?_
                                                            refine ⟨?_, U⟩
                                                            unfold dynN
                                                            rw [if_neg (by omega), if_neg (by omega), if_neg (by omega), if_neg (by omega), if_neg (by omega), if_pos (by omega)] <;> first | rfl | (congr 2; omega))
                                                        · skip
                                                          
                                                          have hq14 : q ≠ 163 := by have := of_decide_eq_false cB14; omega
                                                          refine c_region ?_
                                                          refine l_step (y_eql (et (gS rfl g0) rfl) rfl) ?_
                                                          refine l_step (y_assignV (et g0 rfl)) ?_
                                                          refine l_nil ?_
                                                          refine hK68 _ _ ?_
                                                          refine fg5 2 1 0 12 60 (gS rfl (gS rfl (gS rfl (gS rfl (gS rfl (gS rfl g0)))))) (gS rfl (gS rfl (gS rfl (gS rfl (gS rfl g0))))) (gS rfl (gS rfl (gS rfl (gS rfl g0)))) (gS rfl (gS rfl (gS rfl g0))) g0 (fun g => ?_)
                                                          refine c_cond (et g0 rfl) (fun cB15 => ?_) (fun cB15 => ?_)
                                                          · skip
                                                            
                                                            have hq15 : q = 164 := by have := of_decide_eq_true cB15; omega
                                                            refine c_seq (fun K94 hK94 => ?_)
                                                            exact (by
                                                              refine c_region ?_
                                                              refine l_step (y_moveV (et (gS rfl (gS rfl g0)) rfl)) ?_
                                                              refine l_step (y_moveV (et (gS rfl (gS rfl (gS rfl (gS rfl g0)))) rfl)) ?_
                                                              refine l_eff (e_callV cal_264 (aC (et (gS rfl g0) rfl) (aC (et g0 rfl) (aC (v := .int .i64 ((1 : Nat) : Int)) rfl aN))) (m_arg hE hs hp (by first | exact hpf | rfl) _ (by decide))) (fun v95 w95 h95 => ?_)
                                                              obtain ⟨rfl, u95⟩ := h95
                                                              replace hE := hE.up u95
                                                              replace U := U.tr u95
                                                              refine l_eff (e_callV cal_365 (aC (et g0 rfl) aN) (mach_length _ _ (by first | exact argN_lt hB _ | exact hB.value | assumption | decide | exact Nat.mod_lt _ (by decide)))) (fun v96 w96 h96 => ?_)
                                                              obtain ⟨rfl, u96⟩ := h96
                                                              replace hE := hE.up u96
                                                              replace U := U.tr u96
                                                              refine l_step (y_mul rfl (et g0 rfl) (wrapU_mulN (a := 8) uk64 ?_)) ?_
                                                              (have h9 := (lo_le (hRb.h1 (by omega))); omega)
                                                              refine l_step (y_assignV (et g0 rfl)) ?_
                                                              refine l_nil ?_
                                                              refine hK94 _ _ ?_
                                                              refine fg1 6 g0 (fun g => ?_)
                                                              refine c_ret ?_
                                                              refine hQ4 _ _ _ (in_ret ?_)
                                                              repeat with_reducible refine then_ret ?_
                                                              refine ret1 rfl (res_tmp (et g0 rfl)) ?_
                                                              refine ⟨?_, U⟩
                                                              unfold dynN
                                                              rw [if_neg (by omega), if_neg (by omega), if_neg (by omega), if_neg (by omega), if_neg (by omega), if_pos (by omega)] <;> first | rfl | (congr 2; omega))
                                                          · skip
                                                            
                                                            have hq15 : q ≠ 164 := by have := of_decide_eq_false cB15; omega
                                                            refine c_seq (fun K97 hK97 => ?_)
                                                            exact (by
                                                              refine c_region ?_
                                                              refine l_step (y_eql (et (gS rfl g0) rfl) rfl) ?_
                                                              refine l_step (y_assignV (et g0 rfl)) ?_
                                                              refine l_nil ?_
                                                              refine hK97 _ _ ?_
                                                              refine fg5 2 1 0 12 71 (gS rfl (gS rfl (gS rfl (gS rfl (gS rfl (gS rfl g0)))))) (gS rfl (gS rfl (gS rfl (gS rfl (gS rfl g0))))) (gS rfl (gS rfl (gS rfl (gS rfl g0)))) (gS rfl (gS rfl (gS rfl g0))) g0 (fun g => ?_)
                                                              refine c_cond (et g0 rfl) (fun cB16 => ?_) (fun cB16 => ?_)
                                                              · skip
                                                                
                                                                have hq16 : q = 84 := by have := of_decide_eq_true cB16; omega
                                                                refine c_seq (fun K99 hK99 => ?_)
                                                                refine c_seq (fun K100 hK100 => ?_)
                                                                exact (by
                                                                  refine c_draw Up 11 [(0, true), (1, true), (2, true), (3, true), (4, true), (5, true), (6, true), (7, true), (8, true), (9, true), (10, false), (11, false)] (by kernel_rfl) (fun w101 hu => ⟨Up.refl _, ?_⟩)
                                                                  replace hE := hE.up hu
                                                                  replace U := U.tr hu
                                                                  have SU := Up.refl w101
                                                                  refine p_step (by exact rfl) (y_moveV (et (gS rfl (gS rfl g0)) rfl)) ?_
                                                                  refine p_step (by exact rfl) (y_nil (et g0 rfl)) ?_
                                                                  refine p_step (by exact rfl) (y_fld fld_75_0 (et g0 rfl)) ?_
                                                                  refine p_step (by exact rfl) (y_load1 one_59 (et g0 rfl) (atS (hE.vl.c1 hE.lx.pS rfl))) ?_
                                                                  refine p_step (by exact rfl) (y_moveV (et (gS rfl (gS rfl (gS rfl (gS rfl (gS rfl (gS rfl (gS rfl g0))))))) rfl)) ?_
                                                                  refine p_step (by exact rfl) (y_nil (et g0 rfl)) ?_
                                                                  refine p_step (by exact rfl) (y_fld fld_71_9 (et g0 rfl)) ?_
                                                                  refine p_step (by exact rfl) (y_loadR agg_25 sz_25 (et g0 rfl) (by rw [length_bL, length_be]) (atSR (hE.vl.kC.rowO hR.r2 (by omega)))) ?_
                                                                  refine p_step (by exact rfl) (y_moveV (et (gS rfl (gS rfl (gS rfl (gS rfl (gS rfl (gS rfl (gS rfl (gS rfl (gS rfl (gS rfl g0)))))))))) rfl)) ?_
                                                                  refine p_step (by exact rfl) (y_moveV (et (gS rfl (gS rfl (gS rfl (gS rfl (gS rfl (gS rfl (gS rfl (gS rfl (gS rfl (gS rfl (gS rfl (gS rfl g0)))))))))))) rfl)) ?_
                                                                  refine p_eff (by exact rfl) (e_callV cal_264 (aC (et (gS rfl g0) rfl) (aC (et g0 rfl) (aC (v := .int .i64 ((0 : Nat) : Int)) rfl aN))) (m_arg hE hs hp (by first | exact hpf | rfl) _ (by decide))) (fun v102 w102 h102 => ?_)
                                                                  obtain ⟨rfl, u102⟩ := h102
                                                                  replace hE := hE.up u102
                                                                  replace U := U.tr u102
                                                                  refine ⟨.inr (SU.tr u102), ?_⟩
                                                                  replace SU := SU.tr u102
                                                                  refine p_eff (by exact rfl) (e_callV cal_174 (aC (et (gS rfl (gS rfl (gS rfl (gS rfl (gS rfl (gS rfl (gS rfl g0))))))) rfl) (aC (et (gS rfl (gS rfl (gS rfl g0))) rfl) (aC (et g0 rfl) aN))) (v_isWarmSlot hE.vl hE.ok _ _ (by first | exact Nat.mod_lt _ A160_pos | exact hB.self | exact hB.caller | assumption) (by first | exact argN_lt hB _ | exact hB.value | assumption | decide | exact Nat.mod_lt _ (by decide)))) (fun v103 w103 h103 => ?_)
                                                                  obtain ⟨rfl, u103⟩ := h103
                                                                  replace hE := hE.up u103
                                                                  replace U := U.tr u103
                                                                  refine ⟨.inl rfl, ?_⟩
                                                                  refine p_nil ?_
                                                                  refine hK100 _ _ ?_
                                                                  refine fg1 84 g0 (fun g => ?_)
                                                                  refine c_cond (et g0 rfl) (fun cB17 => ?_) (fun cB17 => ?_)
                                                                  · skip
                                                                    
                                                                    rw [hE.ws] at cB17
                                                                    have hw9 := of_decide_eq_true cB17
                                                                    refine c_seq (fun K105 hK105 => ?_)
                                                                    exact (by
                                                                      refine c_region ?_
                                                                      refine l_step y_assignC ?_
                                                                      refine l_nil ?_
                                                                      refine hK105 _ _ ?_
                                                                      refine fg1 6 g0 (fun g => ?_)
                                                                      refine c_ret ?_
                                                                      refine hQ4 _ _ _ (in_ret ?_)
                                                                      repeat with_reducible refine then_ret ?_
                                                                      refine ret1 rfl (res_tmp (et g0 rfl)) ?_
                                                                      refine ⟨?_, U⟩
                                                                      unfold dynN
                                                                      rw [if_neg (by omega), if_neg (by omega), if_neg (by omega), if_neg (by omega), if_neg (by omega), if_neg (by omega), if_pos (by omega), if_pos (show (f.self, yKey f) ∈ s.now.warmS from hw9)] <;> first | rfl | (congr 2; omega))
                                                                  · skip
                                                                    
                                                                    rw [hE.ws] at cB17
                                                                    have hw9 := of_decide_eq_false cB17
                                                                    refine c_skip ?_
                                                                    refine hK99 _ _ ?_
                                                                    refine fg0 (fun g => ?_)
                                                                    refine c_seq (fun K106 hK106 => ?_)
                                                                    exact (by
                                                                      refine c_region ?_
                                                                      refine l_step y_assignC ?_
                                                                      refine l_nil ?_
                                                                      refine hK106 _ _ ?_
                                                                      refine c_ret ?_
                                                                      refine hQ4 _ _ _ (in_ret ?_)
                                                                      repeat with_reducible refine then_ret ?_
                                                                      refine ret1 rfl (res_tmp (et g0 rfl)) ?_
                                                                      refine ⟨?_, U⟩
                                                                      unfold dynN
                                                                      rw [if_neg (by omega), if_neg (by omega), if_neg (by omega), if_neg (by omega), if_neg (by omega), if_neg (by omega), if_pos (by omega), if_neg (show ¬ (f.self, yKey f) ∈ s.now.warmS from hw9)] <;> first | rfl | (congr 2; omega)))
                                                              · skip
                                                                
                                                                have hq16 : q ≠ 84 := by have := of_decide_eq_false cB16; omega
                                                                refine c_seq (fun K107 hK107 => ?_)
                                                                exact (by
                                                                  refine c_region ?_
                                                                  refine l_step (y_eql (et (gS rfl g0) rfl) rfl) ?_
                                                                  refine l_step (y_assignV (et g0 rfl)) ?_
                                                                  refine l_nil ?_
                                                                  refine hK107 _ _ ?_
                                                                  refine fg5 2 1 0 12 85 (gS rfl (gS rfl (gS rfl (gS rfl (gS rfl (gS rfl g0)))))) (gS rfl (gS rfl (gS rfl (gS rfl (gS rfl g0))))) (gS rfl (gS rfl (gS rfl (gS rfl g0)))) (gS rfl (gS rfl (gS rfl g0))) g0 (fun g => ?_)
                                                                  refine c_cond (et g0 rfl) (fun cB18 => ?_) (fun cB18 => ?_)
                                                                  · skip
                                                                    
                                                                    have hq18 : q = 85 := by have := of_decide_eq_true cB18; omega
                                                                    refine c_seq (fun K109 hK109 => ?_)
                                                                    exact (by
                                                                      refine c_region ?_
                                                                      refine l_step (y_moveV (et (gS rfl (gS rfl g0)) rfl)) ?_
                                                                      refine l_step (y_moveV (et (gS rfl (gS rfl (gS rfl (gS rfl g0)))) rfl)) ?_
                                                                      refine l_eff (e_callV cal_368 (aC (et (gS rfl g0) rfl) (aC (et g0 rfl) aN)) (m_sstore hE hs hp (by first | exact hpf | rfl))) (fun v110 w110 h110 => ?_)
                                                                      obtain ⟨rfl, u110⟩ := h110
                                                                      replace hE := hE.up u110
                                                                      replace U := U.tr u110
                                                                      refine l_step (y_moveV (et g0 rfl)) ?_
                                                                      refine l_step (y_ext (et g0 rfl) rfl) ?_
                                                                      refine l_step (y_ext (et (gS rfl g0) rfl) rfl) ?_
                                                                      refine l_step (y_ext (et (gS rfl (gS rfl g0)) rfl) rfl) ?_
                                                                      refine l_step (y_assignV (et (gS rfl (gS rfl g0)) rfl)) ?_
                                                                      refine l_step (y_assignV (et (gS rfl (gS rfl g0)) rfl)) ?_
                                                                      refine l_step (y_assignV (et (gS rfl (gS rfl g0)) rfl)) ?_
                                                                      refine l_nil ?_
                                                                      refine hK109 _ _ ?_
                                                                      refine fg1 7 (gS rfl (gS rfl g0)) (fun g => ?_)
                                                                      refine c_seq (fun K111 hK111 => ?_)
                                                                      exact (by
                                                                        refine c_region ?_
                                                                        refine l_step (y_moveV (et g0 rfl)) ?_
                                                                        refine l_step (y_assignV (et g0 rfl)) ?_
                                                                        refine l_nil ?_
                                                                        refine hK111 _ _ ?_
                                                                        refine fg1 6 g0 (fun g => ?_)
                                                                        refine c_ret ?_
                                                                        refine hQ4 _ _ _ (in_ret ?_)
                                                                        repeat with_reducible refine then_ret ?_
                                                                        refine ret1 rfl (res_tmp (et g0 rfl)) ?_
                                                                        refine ⟨?_, U⟩
                                                                        unfold dynN
                                                                        rw [if_neg (by omega), if_neg (by omega), if_neg (by omega), if_neg (by omega), if_neg (by omega), if_neg (by omega), if_neg (by omega), if_pos (by omega)] <;> first | rfl | (congr 2; omega)))
                                                                  · skip
                                                                    
                                                                    have hq18 : q ≠ 85 := by have := of_decide_eq_false cB18; omega
                                                                    refine c_seq (fun K112 hK112 => ?_)
                                                                    exact (by
                                                                      refine c_region ?_
                                                                      refine l_step (y_eql (et (gS rfl g0) rfl) rfl) ?_
                                                                      refine l_step (y_assignV (et g0 rfl)) ?_
                                                                      refine l_nil ?_
                                                                      refine hK112 _ _ ?_
                                                                      refine fg5 2 1 0 12 95 (gS rfl (gS rfl (gS rfl (gS rfl (gS rfl (gS rfl g0)))))) (gS rfl (gS rfl (gS rfl (gS rfl (gS rfl g0))))) (gS rfl (gS rfl (gS rfl (gS rfl g0)))) (gS rfl (gS rfl (gS rfl g0))) g0 (fun g => ?_)
                                                                      refine c_cond (et g0 rfl) (fun cB19 => ?_) (fun cB19 => ?_)
                                                                      · skip
                                                                        
                                                                        have hq19 : q = 240 := by have := of_decide_eq_true cB19; omega
                                                                        refine c_seq (fun K114 hK114 => ?_)
                                                                        exact (by
                                                                          refine c_region ?_
                                                                          refine l_step (y_moveV (et (gS rfl (gS rfl g0)) rfl)) ?_
                                                                          refine l_step (y_moveV (et (gS rfl (gS rfl (gS rfl (gS rfl g0)))) rfl)) ?_
                                                                          refine l_eff (e_callV cal_264 (aC (et (gS rfl g0) rfl) (aC (et g0 rfl) (aC (v := .int .i64 ((2 : Nat) : Int)) rfl aN))) (m_arg hE hs hp (by first | exact hpf | rfl) _ (by decide))) (fun v115 w115 h115 => ?_)
                                                                          obtain ⟨rfl, u115⟩ := h115
                                                                          replace hE := hE.up u115
                                                                          replace U := U.tr u115
                                                                          refine l_eff (e_callV cal_365 (aC (et g0 rfl) aN) (mach_length _ _ (by first | exact argN_lt hB _ | exact hB.value | assumption | decide | exact Nat.mod_lt _ (by decide)))) (fun v116 w116 h116 => ?_)
                                                                          obtain ⟨rfl, u116⟩ := h116
                                                                          replace hE := hE.up u116
                                                                          replace U := U.tr u116
                                                                          refine l_eff (e_callV cal_167 (aC (et g0 rfl) aN) (words_lo _ _ (by have h9 := (lo_le (hRb.h2 (by omega))); omega))) (fun v117 w117 h117 => ?_)
                                                                          obtain ⟨rfl, u117⟩ := h117
                                                                          replace hE := hE.up u117
                                                                          replace U := U.tr u117
                                                                          refine l_step (y_mul rfl (et g0 rfl) (wrapU_mulN (a := 2) uk64 ?_)) ?_
                                                                          (have h9 := wd_le (lo_le (hRb.h2 (by omega))); omega)
                                                                          refine l_step (y_assignV (et g0 rfl)) ?_
                                                                          refine l_nil ?_
                                                                          refine hK114 _ _ ?_
                                                                          refine fg1 6 g0 (fun g => ?_)
                                                                          refine c_ret ?_
                                                                          refine hQ4 _ _ _ (in_ret ?_)
                                                                          repeat with_reducible refine then_ret ?_
                                                                          refine ret1 rfl (res_tmp (et g0 rfl)) ?_
                                                                          refine ⟨?_, U⟩
                                                                          unfold dynN
                                                                          rw [if_neg (by omega), if_neg (by omega), if_neg (by omega), if_neg (by omega), if_neg (by omega), if_neg (by omega), if_neg (by omega), if_neg (by omega), if_pos (by omega)] <;> first | rfl | (congr 2; omega))
                                                                      · skip
                                                                        
                                                                        have hq19 : q ≠ 240 := by have := of_decide_eq_false cB19; omega
                                                                        refine c_seq (fun K118 hK118 => ?_)
                                                                        exact (by
                                                                          refine c_region ?_
                                                                          refine l_step (y_eql (et (gS rfl g0) rfl) rfl) ?_
                                                                          refine l_step (y_assignV (et g0 rfl)) ?_
                                                                          refine l_nil ?_
                                                                          refine hK118 _ _ ?_
                                                                          refine fg5 2 1 0 12 103 (gS rfl (gS rfl (gS rfl (gS rfl (gS rfl (gS rfl g0)))))) (gS rfl (gS rfl (gS rfl (gS rfl (gS rfl g0))))) (gS rfl (gS rfl (gS rfl (gS rfl g0)))) (gS rfl (gS rfl (gS rfl g0))) g0 (fun g => ?_)
                                                                          refine c_cond (et g0 rfl) (fun cB20 => ?_) (fun cB20 => ?_)
                                                                          · skip
                                                                            
                                                                            have hq20 : q = 245 := by have := of_decide_eq_true cB20; omega
                                                                            refine c_seq (fun K120 hK120 => ?_)
                                                                            exact (by
                                                                              refine c_region ?_
                                                                              refine l_step (y_moveV (et (gS rfl (gS rfl g0)) rfl)) ?_
                                                                              refine l_step (y_moveV (et (gS rfl (gS rfl (gS rfl (gS rfl g0)))) rfl)) ?_
                                                                              refine l_eff (e_callV cal_264 (aC (et (gS rfl g0) rfl) (aC (et g0 rfl) (aC (v := .int .i64 ((2 : Nat) : Int)) rfl aN))) (m_arg hE hs hp (by first | exact hpf | rfl) _ (by decide))) (fun v121 w121 h121 => ?_)
                                                                              obtain ⟨rfl, u121⟩ := h121
                                                                              replace hE := hE.up u121
                                                                              replace U := U.tr u121
                                                                              refine l_eff (e_callV cal_365 (aC (et g0 rfl) aN) (mach_length _ _ (by first | exact argN_lt hB _ | exact hB.value | assumption | decide | exact Nat.mod_lt _ (by decide)))) (fun v122 w122 h122 => ?_)
                                                                              obtain ⟨rfl, u122⟩ := h122
                                                                              replace hE := hE.up u122
                                                                              replace U := U.tr u122
                                                                              refine l_eff (e_callV cal_167 (aC (et g0 rfl) aN) (words_lo _ _ (by have h9 := (lo_le (hRb.h2 (by omega))); omega))) (fun v123 w123 h123 => ?_)
                                                                              obtain ⟨rfl, u123⟩ := h123
                                                                              replace hE := hE.up u123
                                                                              replace U := U.tr u123
                                                                              refine l_step (y_mul rfl (et g0 rfl) (wrapU_mulN (a := 8) uk64 ?_)) ?_
                                                                              (have h9 := wd_le (lo_le (hRb.h2 (by omega))); omega)
                                                                              refine l_step (y_assignV (et g0 rfl)) ?_
                                                                              refine l_nil ?_
                                                                              refine hK120 _ _ ?_
                                                                              refine fg1 6 g0 (fun g => ?_)
                                                                              refine c_ret ?_
                                                                              refine hQ4 _ _ _ (in_ret ?_)
                                                                              repeat with_reducible refine then_ret ?_
                                                                              refine ret1 rfl (res_tmp (et g0 rfl)) ?_
                                                                              refine ⟨?_, U⟩
                                                                              unfold dynN
                                                                              rw [if_neg (by omega), if_neg (by omega), if_neg (by omega), if_neg (by omega), if_neg (by omega), if_neg (by omega), if_neg (by omega), if_neg (by omega), if_neg (by omega), if_pos (by omega)] <;> first | rfl | (congr 2; omega))
                                                                          · skip
                                                                            
                                                                            have hq20 : q ≠ 245 := by have := of_decide_eq_false cB20; omega
                                                                            refine c_seq (fun K124 hK124 => ?_)
                                                                            refine c_seq (fun K125 hK125 => ?_)
                                                                            exact (by
                                                                              refine c_region ?_
                                                                              refine l_step (y_eql (et (gS rfl g0) rfl) rfl) ?_
                                                                              refine l_step (y_assignV (et g0 rfl)) ?_
                                                                              refine l_nil ?_
                                                                              refine hK125 _ _ ?_
                                                                              refine fg5 2 1 0 12 111 (gS rfl (gS rfl (gS rfl (gS rfl (gS rfl (gS rfl g0)))))) (gS rfl (gS rfl (gS rfl (gS rfl (gS rfl g0))))) (gS rfl (gS rfl (gS rfl (gS rfl g0)))) (gS rfl (gS rfl (gS rfl g0))) g0 (fun g => ?_)
                                                                              refine c_cond (et g0 rfl) (fun cB21 => ?_) (fun cB21 => ?_)
                                                                              · skip
                                                                                
                                                                                have hq21 : q = 244 := by have := of_decide_eq_true cB21; omega
                                                                                refine c_skip ?_
                                                                                refine hK124 _ _ ?_
                                                                                refine c_true (et g0 rfl) (by assumption) ?_
                                                                                refine c_seq (fun K128 hK128 => ?_)
                                                                                exact (by
                                                                                  refine c_region ?_
                                                                                  refine l_step (y_moveV (et (gS rfl (gS rfl g0)) rfl)) ?_
                                                                                  refine l_step (y_moveV (et (gS rfl (gS rfl (gS rfl g0))) rfl)) ?_
                                                                                  refine l_step (y_moveV (et (gS rfl (gS rfl (gS rfl (gS rfl (gS rfl g0))))) rfl)) ?_
                                                                                  refine l_eff (e_callV cal_264 (aC (et (gS rfl g0) rfl) (aC (et g0 rfl) (aC (v := .int .i64 ((1 : Nat) : Int)) rfl aN))) (m_arg hE hs hp (by first | exact hpf | rfl) _ (by decide))) (fun v129 w129 h129 => ?_)
                                                                                  obtain ⟨rfl, u129⟩ := h129
                                                                                  replace hE := hE.up u129
                                                                                  replace U := U.tr u129
                                                                                  refine l_eff (e_callV cal_367 (aC (et (gS rfl (gS rfl (gS rfl g0))) rfl) (aC (et g0 rfl) aN)) (m_access hE hs hp _ (by first | exact argN_lt hB _ | exact hB.value | assumption | decide | exact Nat.mod_lt _ (by decide)))) (fun v130 w130 h130 => ?_)
                                                                                  obtain ⟨rfl, u130⟩ := h130
                                                                                  replace hE := hE.up u130
                                                                                  replace U := U.tr u130
                                                                                  refine l_step (y_assignV (et g0 rfl)) ?_
                                                                                  refine l_nil ?_
                                                                                  refine hK128 _ _ ?_
                                                                                  refine fg1 6 g0 (fun g => ?_)
                                                                                  refine c_ret ?_
                                                                                  refine hQ4 _ _ _ (in_ret ?_)
                                                                                  repeat with_reducible refine then_ret ?_
                                                                                  refine ret1 rfl (res_tmp (et g0 rfl)) ?_
                                                                                  refine ⟨?_, U⟩
                                                                                  unfold dynN
                                                                                  rw [if_neg (by omega), if_neg (by omega), if_neg (by omega), if_neg (by omega), if_neg (by omega), if_neg (by omega), if_neg (by omega), if_neg (by omega), if_neg (by omega), if_neg (by omega), if_pos (by omega)] <;> first | rfl | (congr 2; omega))
                                                                              · skip
                                                                                
                                                                                have hq21 : q ≠ 244 := by have := of_decide_eq_false cB21; omega
                                                                                refine c_region ?_
                                                                                refine l_step (y_eql (et (gS rfl g0) rfl) rfl) ?_
                                                                                refine l_step (y_assignV (et g0 rfl)) ?_
                                                                                refine l_nil ?_
                                                                                refine hK124 _ _ ?_
                                                                                refine fg5 2 1 0 12 111 (gS rfl (gS rfl (gS rfl (gS rfl (gS rfl (gS rfl g0)))))) (gS rfl (gS rfl (gS rfl (gS rfl (gS rfl g0))))) (gS rfl (gS rfl (gS rfl (gS rfl g0)))) (gS rfl (gS rfl (gS rfl g0))) g0 (fun g => ?_)
                                                                                refine c_cond (et g0 rfl) (fun cB22 => ?_) (fun cB22 => ?_)
                                                                                · skip
                                                                                  
                                                                                  have hq22 : q = 250 := by have := of_decide_eq_true cB22; omega
                                                                                  refine c_seq (fun K132 hK132 => ?_)
                                                                                  exact (by
                                                                                    refine c_region ?_
                                                                                    refine l_step (y_moveV (et (gS rfl (gS rfl g0)) rfl)) ?_
                                                                                    refine l_step (y_moveV (et (gS rfl (gS rfl (gS rfl g0))) rfl)) ?_
                                                                                    refine l_step (y_moveV (et (gS rfl (gS rfl (gS rfl (gS rfl (gS rfl g0))))) rfl)) ?_
                                                                                    refine l_eff (e_callV cal_264 (aC (et (gS rfl g0) rfl) (aC (et g0 rfl) (aC (v := .int .i64 ((1 : Nat) : Int)) rfl aN))) (m_arg hE hs hp (by first | exact hpf | rfl) _ (by decide))) (fun v133 w133 h133 => ?_)
                                                                                    obtain ⟨rfl, u133⟩ := h133
                                                                                    replace hE := hE.up u133
                                                                                    replace U := U.tr u133
                                                                                    refine l_eff (e_callV cal_367 (aC (et (gS rfl (gS rfl (gS rfl g0))) rfl) (aC (et g0 rfl) aN)) (m_access hE hs hp _ (by first | exact argN_lt hB _ | exact hB.value | assumption | decide | exact Nat.mod_lt _ (by decide)))) (fun v134 w134 h134 => ?_)
                                                                                    obtain ⟨rfl, u134⟩ := h134
                                                                                    replace hE := hE.up u134
                                                                                    replace U := U.tr u134
                                                                                    refine l_step (y_assignV (et g0 rfl)) ?_
                                                                                    refine l_nil ?_
                                                                                    refine hK132 _ _ ?_
                                                                                    refine fg1 6 g0 (fun g => ?_)
                                                                                    refine c_ret ?_
                                                                                    refine hQ4 _ _ _ (in_ret ?_)
                                                                                    repeat with_reducible refine then_ret ?_
                                                                                    refine ret1 rfl (res_tmp (et g0 rfl)) ?_
                                                                                    refine ⟨?_, U⟩
                                                                                    unfold dynN
                                                                                    rw [if_neg (by omega), if_neg (by omega), if_neg (by omega), if_neg (by omega), if_neg (by omega), if_neg (by omega), if_neg (by omega), if_neg (by omega), if_neg (by omega), if_neg (by omega), if_pos (by omega)] <;> first | rfl | (congr 2; omega))
                                                                                · skip
                                                                                  
                                                                                  have hq22 : q ≠ 250 := by have := of_decide_eq_false cB22; omega
                                                                                  refine c_seq (fun K135 hK135 => ?_)
                                                                                  exact (by
                                                                                    refine c_region ?_
                                                                                    refine l_step (y_eql (et (gS rfl g0) rfl) rfl) ?_
                                                                                    refine l_step (y_assignV (et g0 rfl)) ?_
                                                                                    refine l_nil ?_
                                                                                    refine hK135 _ _ ?_
                                                                                    refine fg5 2 1 0 12 119 (gS rfl (gS rfl (gS rfl (gS rfl (gS rfl (gS rfl g0)))))) (gS rfl (gS rfl (gS rfl (gS rfl (gS rfl g0))))) (gS rfl (gS rfl (gS rfl (gS rfl g0)))) (gS rfl (gS rfl (gS rfl g0))) g0 (fun g => ?_)
                                                                                    refine c_cond (et g0 rfl) (fun cB23 => ?_) (fun cB23 => ?_)
                                                                                    · skip
                                                                                      
                                                                                      have hq23 : q = 255 := by have := of_decide_eq_true cB23; omega
                                                                                      refine c_seq (fun K137 hK137 => ?_)
                                                                                      exact (by
                                                                                        refine c_region ?_
                                                                                        refine l_step (y_moveV (et (gS rfl (gS rfl g0)) rfl)) ?_
                                                                                        refine l_step (y_moveV (et (gS rfl (gS rfl (gS rfl (gS rfl g0)))) rfl)) ?_
                                                                                        refine l_eff (e_callV cal_369 (aC (et (gS rfl g0) rfl) (aC (et g0 rfl) aN)) (m_destroyCost hE hs hp (by first | exact hpf | rfl))) (fun v138 w138 h138 => ?_)
                                                                                        obtain ⟨rfl, u138⟩ := h138
                                                                                        replace hE := hE.up u138
                                                                                        replace U := U.tr u138
                                                                                        refine l_step (y_assignV (et g0 rfl)) ?_
                                                                                        refine l_nil ?_
                                                                                        refine hK137 _ _ ?_
                                                                                        refine fg1 6 g0 (fun g => ?_)
                                                                                        refine c_ret ?_
                                                                                        refine hQ4 _ _ _ (in_ret ?_)
                                                                                        repeat with_reducible refine then_ret ?_
                                                                                        refine ret1 rfl (res_tmp (et g0 rfl)) ?_
                                                                                        refine ⟨?_, U⟩
                                                                                        unfold dynN
                                                                                        rw [if_neg (by omega), if_neg (by omega), if_neg (by omega), if_neg (by omega), if_neg (by omega), if_neg (by omega), if_neg (by omega), if_neg (by omega), if_neg (by omega), if_neg (by omega), if_neg (by omega), if_pos (by omega)] <;> first | rfl | (congr 2; omega))
                                                                                    · skip
                                                                                      
                                                                                      have hq23 : q ≠ 255 := by have := of_decide_eq_false cB23; omega
                                                                                      refine c_seq (fun K139 hK139 => ?_)
                                                                                      refine c_seq (fun K140 hK140 => ?_)
                                                                                      exact (by
                                                                                        refine c_region ?_
                                                                                        refine l_step (y_eql (et (gS rfl g0) rfl) rfl) ?_
                                                                                        refine l_step (y_assignV (et g0 rfl)) ?_
                                                                                        refine l_nil ?_
                                                                                        refine hK140 _ _ ?_
                                                                                        refine fg5 2 1 0 12 124 (gS rfl (gS rfl (gS rfl (gS rfl (gS rfl (gS rfl g0)))))) (gS rfl (gS rfl (gS rfl (gS rfl (gS rfl g0))))) (gS rfl (gS rfl (gS rfl (gS rfl g0)))) (gS rfl (gS rfl (gS rfl g0))) g0 (fun g => ?_)
                                                                                        refine c_cond (et g0 rfl) (fun cB24 => ?_) (fun cB24 => ?_)
                                                                                        · skip
                                                                                          
                                                                                          have hq24 : q = 241 := by have := of_decide_eq_true cB24; omega
                                                                                          refine c_skip ?_
                                                                                          refine hK139 _ _ ?_
                                                                                          refine fg4 2 1 0 124 (gS rfl (gS rfl (gS rfl (gS rfl g0)))) (gS rfl (gS rfl (gS rfl g0))) (gS rfl (gS rfl g0)) g0 (fun g => ?_)
                                                                                          refine c_true (et g0 rfl) (by assumption) ?_
                                                                                          refine c_seq (fun K143 hK143 => ?_)
                                                                                          exact (by
                                                                                            refine c_region ?_
                                                                                            refine l_step (y_moveV (et (gS rfl g0) rfl)) ?_
                                                                                            refine l_step (y_moveV (et (gS rfl (gS rfl g0)) rfl)) ?_
                                                                                            refine l_step (y_moveV (et (gS rfl (gS rfl (gS rfl (gS rfl g0)))) rfl)) ?_
                                                                                            refine l_eff (e_callV cal_264 (aC (et (gS rfl g0) rfl) (aC (et g0 rfl) (aC (v := .int .i64 ((1 : Nat) : Int)) rfl aN))) (m_arg hE hs hp (by first | exact hpf | rfl) _ (by decide))) (fun v144 w144 h144 => ?_)
                                                                                            obtain ⟨rfl, u144⟩ := h144
                                                                                            replace hE := hE.up u144
                                                                                            replace U := U.tr u144
                                                                                            refine l_eff (e_callV cal_367 (aC (et (gS rfl (gS rfl (gS rfl g0))) rfl) (aC (et g0 rfl) aN)) (m_access hE hs hp _ (by first | exact argN_lt hB _ | exact hB.value | assumption | decide | exact Nat.mod_lt _ (by decide)))) (fun v145 w145 h145 => ?_)
                                                                                            obtain ⟨rfl, u145⟩ := h145
                                                                                            replace hE := hE.up u145
                                                                                            replace U := U.tr u145
                                                                                            refine l_step (y_assignV (et g0 rfl)) ?_
                                                                                            refine l_nil ?_
                                                                                            refine hK143 _ _ ?_
                                                                                            refine fg4 2 1 0 10 (gS rfl (gS rfl (gS rfl (gS rfl (gS rfl (gS rfl (gS rfl (gS rfl (gS rfl g0))))))))) (gS rfl (gS rfl (gS rfl (gS rfl (gS rfl (gS rfl (gS rfl (gS rfl g0)))))))) (gS rfl (gS rfl (gS rfl (gS rfl (gS rfl (gS rfl (gS rfl g0))))))) g0 (fun g => ?_)
                                                                                            refine c_seq (fun K146 hK146 => ?_)
                                                                                            refine c_seq (fun K147 hK147 => ?_)
                                                                                            exact (by
                                                                                              refine c_region ?_
                                                                                              refine l_step (y_moveV (et (gS rfl g0) rfl)) ?_
                                                                                              refine l_step (y_moveV (et (gS rfl (gS rfl (gS rfl g0))) rfl)) ?_
                                                                                              refine l_eff (e_callV cal_264 (aC (et (gS rfl g0) rfl) (aC (et g0 rfl) (aC (v := .int .i64 ((2 : Nat) : Int)) rfl aN))) (m_arg hE hs hp (by first | exact hpf | rfl) _ (by decide))) (fun v148 w148 h148 => ?_)
                                                                                              obtain ⟨rfl, u148⟩ := h148
                                                                                              replace hE := hE.up u148
                                                                                              replace U := U.tr u148
                                                                                              refine l_eff (e_alloc zr_65) (fun v149 w149 h149 => ?_)
                                                                                              obtain ⟨b149, rfl, n149⟩ := h149
                                                                                              have f149 : w.heap.size ≤ b149 := Nat.le_trans U.size n149.fresh
                                                                                              replace hE := hE.up n149.up
                                                                                              replace U := U.tr n149.up
                                                                                              have k149 := n149.blk
                                                                                              obtain ⟨zs149, hz149, k149⟩ : ∃ cs : Array Value, cs.size = 4 ∧ Blk w149 b149 cs := ⟨_, rfl, k149⟩
                                                                                              refine l_effN (e_store sz_65 (et g0 rfl) (cellsV (et (gS rfl g0) rfl) rfl) rfl (by exact one_uL _) k149 (by (rw [hz149]; exact Nat.le_refl _))) (fun v150 w150 h150 => ?_)
                                                                                              obtain ⟨rfl, x150⟩ := h150
                                                                                              replace hE := hE.ch x150.ch (by first | omega | (intro b hb; first | (subst hb; exact ⟨hnw _ (by omega), fun hh => by have := hfz.lt hh; omega⟩) | (rcases hb with hb | hb <;> (subst hb; exact ⟨hnw _ (by omega), fun hh => by have := hfz.lt hh; omega⟩))))
                                                                                              replace k149 := x150.blk.full (by rw [hz149]; rfl)
                                                                                              replace U := U.st x150 f149
                                                                                              refine l_nil ?_
                                                                                              refine hK147 _ _ ?_
                                                                                              refine fg5 2 1 0 10 11 (gS rfl (gS rfl (gS rfl (gS rfl (gS rfl (gS rfl (gS rfl g0))))))) (gS rfl (gS rfl (gS rfl (gS rfl (gS rfl (gS rfl g0)))))) (gS rfl (gS rfl (gS rfl (gS rfl (gS rfl g0))))) (gS rfl (gS rfl (gS rfl (gS rfl g0)))) g0 (fun g => ?_)
                                                                                              refine c_seq (fun K151 hK151 => ?_)
                                                                                              exact (by
                                                                                                refine c_region ?_
                                                                                                refine l_step (y_loadB agg_65 sz_65 (et g0 rfl) rfl (at1B k149)) ?_
                                                                                                refine l_eff (e_callV cal_78 (aC (et g0 rfl) aN) (isZero_spec _ _ (by first | exact argN_lt hB _ | exact hB.value | assumption | decide | exact Nat.mod_lt _ (by decide)))) (fun v152 w152 h152 => ?_)
                                                                                                obtain ⟨rfl, u152⟩ := h152
                                                                                                replace k149 := k149.up u152
                                                                                                replace hE := hE.up u152
                                                                                                replace U := U.tr u152
                                                                                                refine l_step (y_not (et g0 rfl)) ?_
                                                                                                refine l_nil ?_
                                                                                                refine hK151 _ _ ?_
                                                                                                refine fg5 2 1 0 10 137 (gS rfl (gS rfl (gS rfl (gS rfl (gS rfl (gS rfl (gS rfl g0))))))) (gS rfl (gS rfl (gS rfl (gS rfl (gS rfl (gS rfl g0)))))) (gS rfl (gS rfl (gS rfl (gS rfl (gS rfl g0))))) (gS rfl (gS rfl (gS rfl (gS rfl g0)))) g0 (fun g => ?_)
                                                                                                refine c_cond (et g0 rfl) (fun cB26 => ?_) (fun cB26 => ?_)
                                                                                                · skip
                                                                                                  
                                                                                                  have hv9 : argN f.stack 2 ≠ 0 := by simpa using cB26
                                                                                                  refine c_seq (fun K154 hK154 => ?_)
                                                                                                  exact (by
                                                                                                    refine c_region ?_
                                                                                                    refine l_step (y_moveV (et (gS rfl g0) rfl)) ?_
                                                                                                    refine l_step (y_add (et g0 rfl) rfl (wrapU_addN (b := 9000) uk64 ?_)) ?_
                                                                                                    (have h8 := acc_le s.now.warmA (argN f.stack 1 % A160); omega)
                                                                                                    refine l_step (y_assignV (et g0 rfl)) ?_
                                                                                                    refine l_nil ?_
                                                                                                    refine hK154 _ _ ?_
                                                                                                    refine fg4 2 1 0 10 (gS rfl (gS rfl (gS rfl (gS rfl (gS rfl (gS rfl (gS rfl g0))))))) (gS rfl (gS rfl (gS rfl (gS rfl (gS rfl (gS rfl g0)))))) (gS rfl (gS rfl (gS rfl (gS rfl (gS rfl g0))))) g0 (fun g => ?_)
                                                                                                    refine c_seq (fun K155 hK155 => ?_)
                                                                                                    exact (by
                                                                                                      refine c_draw Up 13 [(0, true), (1, true), (2, true), (3, true), (4, true), (5, true), (6, true), (7, true), (8, true), (9, false), (10, false), (11, false), (12, true)] (by kernel_rfl) (fun w156 hu => ⟨Up.refl _, ?_⟩)
                                                                                                      replace k149 := k149.up hu
                                                                                                      replace hE := hE.up hu
                                                                                                      replace U := U.tr hu
                                                                                                      have SU := Up.refl w156
                                                                                                      refine p_step (by exact rfl) (y_moveV (et (gS rfl (gS rfl (gS rfl g0))) rfl)) ?_
                                                                                                      refine p_step (by exact rfl) (y_eql (et g0 rfl) rfl) ?_
                                                                                                      refine p_step (by exact rfl) (y_moveV (et g0 rfl)) ?_
                                                                                                      refine gsplitP (i := 142) g0 (fun q157 => ?_) (fun q157 => ?_)
                                                                                                      · skip
                                                                                                        have hq41 : q = 241 := by have := of_decide_eq_true q157; omega
                                                                                                        refine p_gstep (j := 2) (t := 142) (by exact rfl) (by exact rfl) (by exact rfl) (et g0 rfl) rfl (y_moveV (et (gS rfl (gS rfl (gS rfl (gS rfl (gS rfl g0))))) rfl)) ?_
                                                                                                        refine p_gstep (j := 2) (t := 142) (by exact rfl) (by exact rfl) (by exact rfl) (et (gS rfl g0) rfl) rfl (y_nil (et g0 rfl)) ?_
                                                                                                        refine p_gstep (j := 2) (t := 142) (by exact rfl) (by exact rfl) (by exact rfl) (et (gS rfl (gS rfl g0)) rfl) rfl (y_fld fld_75_0 (et g0 rfl)) ?_
                                                                                                        refine p_gstep (j := 2) (t := 142) (by exact rfl) (by exact rfl) (by exact rfl) (et (gS rfl (gS rfl (gS rfl g0))) rfl) rfl (y_load1 one_59 (et g0 rfl) (atS (hE.vl.c1 hE.lx.pS rfl))) ?_
                                                                                                        refine p_gstep (j := 2) (t := 142) (by exact rfl) (by exact rfl) (by exact rfl) (et (gS rfl (gS rfl (gS rfl (gS rfl g0)))) rfl) rfl (y_moveV (et (gS rfl (gS rfl (gS rfl (gS rfl (gS rfl (gS rfl (gS rfl (gS rfl (gS rfl g0))))))))) rfl)) ?_
                                                                                                        refine p_gstep (j := 2) (t := 142) (by exact rfl) (by exact rfl) (by exact rfl) (et (gS rfl (gS rfl (gS rfl (gS rfl (gS rfl g0))))) rfl) rfl (y_moveV (et (gS rfl (gS rfl (gS rfl (gS rfl (gS rfl (gS rfl (gS rfl (gS rfl (gS rfl (gS rfl (gS rfl g0))))))))))) rfl)) ?_
                                                                                                        refine p_geff (j := 2) (t := 142) (by exact rfl) (by exact rfl) (by exact rfl) (et (gS rfl (gS rfl (gS rfl (gS rfl (gS rfl (gS rfl g0)))))) rfl) rfl (e_callV cal_264 (aC (et (gS rfl g0) rfl) (aC (et g0 rfl) (aC (v := .int .i64 ((1 : Nat) : Int)) rfl aN))) (m_arg hE hs hp (by first | exact hpf | rfl) _ (by decide))) (fun v158 w158 h158 => ?_)
                                                                                                        obtain ⟨rfl, u158⟩ := h158
                                                                                                        replace k149 := k149.up u158
                                                                                                        replace hE := hE.up u158
                                                                                                        replace U := U.tr u158
                                                                                                        refine ⟨.inr (SU.tr u158), ?_⟩
                                                                                                        replace SU := SU.tr u158
                                                                                                        refine p_geff (j := 2) (t := 142) (by exact rfl) (by exact rfl) (by exact rfl) (et (gS rfl (gS rfl (gS rfl (gS rfl (gS rfl (gS rfl (gS rfl g0))))))) rfl) rfl (e_callV cal_293 (aC (et g0 rfl) aN) (mach_addrOf _ _ (by first | exact argN_lt hB _ | exact hB.value | assumption | decide | exact Nat.mod_lt _ (by decide)))) (fun v159 w159 h159 => ?_)
                                                                                                        obtain ⟨rfl, u159⟩ := h159
                                                                                                        replace k149 := k149.up u159
                                                                                                        replace hE := hE.up u159
                                                                                                        replace U := U.tr u159
                                                                                                        refine ⟨.inr (SU.tr u159), ?_⟩
                                                                                                        replace SU := SU.tr u159
                                                                                                        refine p_geff (j := 2) (t := 142) (by exact rfl) (by exact rfl) (by exact rfl) (et (gS rfl (gS rfl (gS rfl (gS rfl (gS rfl (gS rfl (gS rfl (gS rfl g0)))))))) rfl) rfl (e_callV cal_295 (aC (et (gS rfl (gS rfl (gS rfl (gS rfl g0)))) rfl) (aC (et g0 rfl) aN)) (v_isEmpty hE.vl hE.ok _ (by first | exact Nat.mod_lt _ A160_pos | exact hB.self | exact hB.caller | assumption))) (fun v160 w160 h160 => ?_)
                                                                                                        obtain ⟨rfl, u160⟩ := h160
                                                                                                        replace k149 := k149.up u160
                                                                                                        replace hE := hE.up u160
                                                                                                        replace U := U.tr u160
                                                                                                        refine ⟨.inr (SU.tr u160), ?_⟩
                                                                                                        replace SU := SU.tr u160
                                                                                                        refine p_step (by exact rfl) (y_pickT (et (gS rfl (gS rfl (gS rfl (gS rfl (gS rfl (gS rfl (gS rfl (gS rfl (gS rfl g0))))))))) rfl) (et g0 rfl)) ?_
                                                                                                        refine p_nil ?_
                                                                                                        refine hK155 _ _ ?_
                                                                                                        refine fg2 10 152 (gS rfl (gS rfl (gS rfl (gS rfl (gS rfl (gS rfl (gS rfl (gS rfl (gS rfl (gS rfl (gS rfl (gS rfl (gS rfl (gS rfl g0)))))))))))))) g0 (fun g => ?_)
                                                                                                        refine c_cond (et g0 rfl) (fun cB27 => ?_) (fun cB27 => ?_)
                                                                                                        · skip
                                                                                                          
                                                                                                          exact (by
                                                                                                            refine c_region ?_
                                                                                                            refine l_step (y_moveV (et (gS rfl g0) rfl)) ?_
                                                                                                            refine l_step (y_add (et g0 rfl) rfl (wrapU_addN (b := 25000) uk64 ?_)) ?_
                                                                                                            (have h8 := acc_le s.now.warmA (argN f.stack 1 % A160); omega)
                                                                                                            refine l_step (y_assignV (et g0 rfl)) ?_
                                                                                                            refine l_nil ?_
                                                                                                            refine hK146 _ _ ?_
                                                                                                            refine fg1 10 g0 (fun g => ?_)
                                                                                                            refine c_seq (fun K162 hK162 => ?_)
                                                                                                            exact (by
                                                                                                              refine c_region ?_
                                                                                                              refine l_step (y_moveV (et g0 rfl)) ?_
                                                                                                              refine l_step (y_assignV (et g0 rfl)) ?_
                                                                                                              refine l_nil ?_
                                                                                                              refine hK162 _ _ ?_
                                                                                                              refine fg1 6 g0 (fun g => ?_)
                                                                                                              refine c_ret ?_
                                                                                                              refine hQ4 _ _ _ (in_ret ?_)
                                                                                                              repeat with_reducible refine then_ret ?_
                                                                                                              refine ret1 rfl (res_tmp (et g0 rfl)) ?_
                                                                                                              refine ⟨?_, U⟩
                                                                                                              unfold dynN
                                                                                                              rw [if_neg (by omega), if_neg (by omega), if_neg (by omega), if_neg (by omega), if_neg (by omega), if_neg (by omega), if_neg (by omega), if_neg (by omega), if_neg (by omega), if_neg (by omega), if_neg (by omega), if_neg (by omega), if_pos (by omega), if_pos hv9, if_pos (show q = 241 ∧ _ from ⟨hq41, by rw [← hE.em]; exact cB27⟩)] <;> first | rfl | (congr 2; omega)))
                                                                                                        · skip
                                                                                                          
                                                                                                          refine c_skip ?_
                                                                                                          refine hK146 _ _ ?_
                                                                                                          refine fg1 10 (gS rfl g0) (fun g => ?_)
                                                                                                          refine c_seq (fun K163 hK163 => ?_)
                                                                                                          exact (by
                                                                                                            refine c_region ?_
                                                                                                            refine l_step (y_moveV (et g0 rfl)) ?_
                                                                                                            refine l_step (y_assignV (et g0 rfl)) ?_
                                                                                                            refine l_nil ?_
                                                                                                            refine hK163 _ _ ?_
                                                                                                            refine fg1 6 g0 (fun g => ?_)
                                                                                                            refine c_ret ?_
                                                                                                            refine hQ4 _ _ _ (in_ret ?_)
                                                                                                            repeat with_reducible refine then_ret ?_
                                                                                                            refine ret1 rfl (res_tmp (et g0 rfl)) ?_
                                                                                                            refine ⟨?_, U⟩
                                                                                                            unfold dynN
                                                                                                            rw [if_neg (by omega), if_neg (by omega), if_neg (by omega), if_neg (by omega), if_neg (by omega), if_neg (by omega), if_neg (by omega), if_neg (by omega), if_neg (by omega), if_neg (by omega), if_neg (by omega), if_neg (by omega), if_pos (by omega), if_pos hv9, if_neg (show ¬ (q = 241 ∧ _) from fun h9 => by rw [← hE.em] at h9; have h8 := cB27; exact absurd (h8.symm.trans h9.2) Bool.false_ne_true)] <;> first | rfl | (congr 2; omega))
                                                                                                      · skip
                                                                                                        have hq41 : q ≠ 241 := by have := of_decide_eq_false q157; omega
                                                                                                        refine p_gskip (j := 2) (t := 142) (by exact rfl) (by exact rfl) (by exact rfl) (et g0 rfl) rfl rfl ?_
                                                                                                        refine p_gskip (j := 2) (t := 142) (by exact rfl) (by exact rfl) (by exact rfl) (et (gS rfl g0) rfl) rfl rfl ?_
                                                                                                        refine p_gskip (j := 2) (t := 142) (by exact rfl) (by exact rfl) (by exact rfl) (et (gS rfl (gS rfl g0)) rfl) rfl rfl ?_
                                                                                                        refine p_gskip (j := 2) (t := 142) (by exact rfl) (by exact rfl) (by exact rfl) (et (gS rfl (gS rfl (gS rfl g0))) rfl) rfl rfl ?_
                                                                                                        refine p_gskip (j := 2) (t := 142) (by exact rfl) (by exact rfl) (by exact rfl) (et (gS rfl (gS rfl (gS rfl (gS rfl g0)))) rfl) rfl rfl ?_
                                                                                                        refine p_gskip (j := 2) (t := 142) (by exact rfl) (by exact rfl) (by exact rfl) (et (gS rfl (gS rfl (gS rfl (gS rfl (gS rfl g0))))) rfl) rfl rfl ?_
                                                                                                        refine p_geskip (j := 2) (t := 142) (by exact rfl) (by exact rfl) (by exact rfl) (et (gS rfl (gS rfl (gS rfl (gS rfl (gS rfl (gS rfl g0)))))) rfl) rfl rfl ⟨.inr SU, ?_⟩
                                                                                                        refine p_geskip (j := 2) (t := 142) (by exact rfl) (by exact rfl) (by exact rfl) (et (gS rfl (gS rfl (gS rfl (gS rfl (gS rfl (gS rfl (gS rfl g0))))))) rfl) rfl rfl ⟨.inr SU, ?_⟩
                                                                                                        refine p_geskip (j := 2) (t := 142) (by exact rfl) (by exact rfl) (by exact rfl) (et (gS rfl (gS rfl (gS rfl (gS rfl (gS rfl (gS rfl (gS rfl (gS rfl g0)))))))) rfl) rfl rfl ⟨.inr SU, ?_⟩
                                                                                                        refine p_step (by exact rfl) (y_pickF (et (gS rfl (gS rfl (gS rfl (gS rfl (gS rfl (gS rfl (gS rfl (gS rfl (gS rfl g0))))))))) rfl) rfl) ?_
                                                                                                        refine p_nil ?_
                                                                                                        refine hK155 _ _ ?_
                                                                                                        refine fg2 10 152 (gS rfl (gS rfl (gS rfl (gS rfl (gS rfl (gS rfl (gS rfl (gS rfl (gS rfl (gS rfl (gS rfl (gS rfl (gS rfl (gS rfl g0)))))))))))))) g0 (fun g => ?_)
                                                                                                        refine c_false (et g0 rfl) rfl ?_
                                                                                                        refine c_skip ?_
                                                                                                        refine hK146 _ _ ?_
                                                                                                        refine fg1 10 (gS rfl g0) (fun g => ?_)
                                                                                                        refine c_seq (fun K165 hK165 => ?_)
                                                                                                        exact (by
                                                                                                          refine c_region ?_
                                                                                                          refine l_step (y_moveV (et g0 rfl)) ?_
                                                                                                          refine l_step (y_assignV (et g0 rfl)) ?_
                                                                                                          refine l_nil ?_
                                                                                                          refine hK165 _ _ ?_
                                                                                                          refine fg1 6 g0 (fun g => ?_)
                                                                                                          refine c_ret ?_
                                                                                                          refine hQ4 _ _ _ (in_ret ?_)
                                                                                                          repeat with_reducible refine then_ret ?_
                                                                                                          refine ret1 rfl (res_tmp (et g0 rfl)) ?_
                                                                                                          refine ⟨?_, U⟩
                                                                                                          unfold dynN
                                                                                                          rw [if_neg (by omega), if_neg (by omega), if_neg (by omega), if_neg (by omega), if_neg (by omega), if_neg (by omega), if_neg (by omega), if_neg (by omega), if_neg (by omega), if_neg (by omega), if_neg (by omega), if_neg (by omega), if_pos (by omega), if_pos hv9, if_neg (show ¬ (q = 241 ∧ _) from fun h9 => hq41 h9.1)] <;> first | rfl | (congr 2; omega))))
                                                                                                · skip
                                                                                                  
                                                                                                  have hv9 : argN f.stack 2 = 0 := by simpa using cB26
                                                                                                  refine c_skip ?_
                                                                                                  refine hK146 _ _ ?_
                                                                                                  refine fg1 10 (gS rfl g0) (fun g => ?_)
                                                                                                  refine c_seq (fun K166 hK166 => ?_)
                                                                                                  exact (by
                                                                                                    refine c_region ?_
                                                                                                    refine l_step (y_moveV (et g0 rfl)) ?_
                                                                                                    refine l_step (y_assignV (et g0 rfl)) ?_
                                                                                                    refine l_nil ?_
                                                                                                    refine hK166 _ _ ?_
                                                                                                    refine fg1 6 g0 (fun g => ?_)
                                                                                                    refine c_ret ?_
                                                                                                    refine hQ4 _ _ _ (in_ret ?_)
                                                                                                    repeat with_reducible refine then_ret ?_
                                                                                                    refine ret1 rfl (res_tmp (et g0 rfl)) ?_
                                                                                                    refine ⟨?_, U⟩
                                                                                                    unfold dynN
                                                                                                    rw [if_neg (by omega), if_neg (by omega), if_neg (by omega), if_neg (by omega), if_neg (by omega), if_neg (by omega), if_neg (by omega), if_neg (by omega), if_neg (by omega), if_neg (by omega), if_neg (by omega), if_neg (by omega), if_pos (by omega), if_neg (show ¬ argN f.stack 2 ≠ 0 from fun h => h hv9), Nat.add_zero] <;> first | rfl | (congr 2; omega)))))
                                                                                        · skip
                                                                                          
                                                                                          have hq24 : q ≠ 241 := by have := of_decide_eq_false cB24; omega
                                                                                          refine c_region ?_
                                                                                          refine l_step (y_eql (et (gS rfl g0) rfl) rfl) ?_
                                                                                          refine l_step (y_assignV (et g0 rfl)) ?_
                                                                                          refine l_nil ?_
                                                                                          refine hK139 _ _ ?_
                                                                                          refine fg4 2 1 0 124 (gS rfl (gS rfl (gS rfl (gS rfl (gS rfl (gS rfl g0)))))) (gS rfl (gS rfl (gS rfl (gS rfl (gS rfl g0))))) (gS rfl (gS rfl (gS rfl (gS rfl g0)))) g0 (fun g => ?_)
                                                                                          refine c_cond (et g0 rfl) (fun cB25 => ?_) (fun cB25 => ?_)
                                                                                          · skip
                                                                                            
                                                                                            have hq25 : q = 242 := by have := of_decide_eq_true cB25; omega
                                                                                            refine c_seq (fun K168 hK168 => ?_)
                                                                                            exact (by
                                                                                              refine c_region ?_
                                                                                              refine l_step (y_moveV (et (gS rfl g0) rfl)) ?_
                                                                                              refine l_step (y_moveV (et (gS rfl (gS rfl g0)) rfl)) ?_
                                                                                              refine l_step (y_moveV (et (gS rfl (gS rfl (gS rfl (gS rfl g0)))) rfl)) ?_
                                                                                              refine l_eff (e_callV cal_264 (aC (et (gS rfl g0) rfl) (aC (et g0 rfl) (aC (v := .int .i64 ((1 : Nat) : Int)) rfl aN))) (m_arg hE hs hp (by first | exact hpf | rfl) _ (by decide))) (fun v169 w169 h169 => ?_)
                                                                                              obtain ⟨rfl, u169⟩ := h169
                                                                                              replace hE := hE.up u169
                                                                                              replace U := U.tr u169
                                                                                              refine l_eff (e_callV cal_367 (aC (et (gS rfl (gS rfl (gS rfl g0))) rfl) (aC (et g0 rfl) aN)) (m_access hE hs hp _ (by first | exact argN_lt hB _ | exact hB.value | assumption | decide | exact Nat.mod_lt _ (by decide)))) (fun v170 w170 h170 => ?_)
                                                                                              obtain ⟨rfl, u170⟩ := h170
                                                                                              replace hE := hE.up u170
                                                                                              replace U := U.tr u170
                                                                                              refine l_step (y_assignV (et g0 rfl)) ?_
                                                                                              refine l_nil ?_
                                                                                              refine hK168 _ _ ?_
                                                                                              refine fg4 2 1 0 10 (gS rfl (gS rfl (gS rfl (gS rfl (gS rfl (gS rfl (gS rfl (gS rfl (gS rfl g0))))))))) (gS rfl (gS rfl (gS rfl (gS rfl (gS rfl (gS rfl (gS rfl (gS rfl g0)))))))) (gS rfl (gS rfl (gS rfl (gS rfl (gS rfl (gS rfl (gS rfl g0))))))) g0 (fun g => ?_)
                                                                                              refine c_seq (fun K171 hK171 => ?_)
                                                                                              refine c_seq (fun K172 hK172 => ?_)
                                                                                              exact (by
                                                                                                refine c_region ?_
                                                                                                refine l_step (y_moveV (et (gS rfl g0) rfl)) ?_
                                                                                                refine l_step (y_moveV (et (gS rfl (gS rfl (gS rfl g0))) rfl)) ?_
                                                                                                refine l_eff (e_callV cal_264 (aC (et (gS rfl g0) rfl) (aC (et g0 rfl) (aC (v := .int .i64 ((2 : Nat) : Int)) rfl aN))) (m_arg hE hs hp (by first | exact hpf | rfl) _ (by decide))) (fun v173 w173 h173 => ?_)
                                                                                                obtain ⟨rfl, u173⟩ := h173
                                                                                                replace hE := hE.up u173
                                                                                                replace U := U.tr u173
                                                                                                refine l_eff (e_alloc zr_65) (fun v174 w174 h174 => ?_)
                                                                                                obtain ⟨b174, rfl, n174⟩ := h174
                                                                                                have f174 : w.heap.size ≤ b174 := Nat.le_trans U.size n174.fresh
                                                                                                replace hE := hE.up n174.up
                                                                                                replace U := U.tr n174.up
                                                                                                have k174 := n174.blk
                                                                                                obtain ⟨zs174, hz174, k174⟩ : ∃ cs : Array Value, cs.size = 4 ∧ Blk w174 b174 cs := ⟨_, rfl, k174⟩
                                                                                                refine l_effN (e_store sz_65 (et g0 rfl) (cellsV (et (gS rfl g0) rfl) rfl) rfl (by exact one_uL _) k174 (by (rw [hz174]; exact Nat.le_refl _))) (fun v175 w175 h175 => ?_)
                                                                                                obtain ⟨rfl, x175⟩ := h175
                                                                                                replace hE := hE.ch x175.ch (by first | omega | (intro b hb; first | (subst hb; exact ⟨hnw _ (by omega), fun hh => by have := hfz.lt hh; omega⟩) | (rcases hb with hb | hb <;> (subst hb; exact ⟨hnw _ (by omega), fun hh => by have := hfz.lt hh; omega⟩))))
                                                                                                replace k174 := x175.blk.full (by rw [hz174]; rfl)
                                                                                                replace U := U.st x175 f174
                                                                                                refine l_nil ?_
                                                                                                refine hK172 _ _ ?_
                                                                                                refine fg5 2 1 0 10 11 (gS rfl (gS rfl (gS rfl (gS rfl (gS rfl (gS rfl (gS rfl g0))))))) (gS rfl (gS rfl (gS rfl (gS rfl (gS rfl (gS rfl g0)))))) (gS rfl (gS rfl (gS rfl (gS rfl (gS rfl g0))))) (gS rfl (gS rfl (gS rfl (gS rfl g0)))) g0 (fun g => ?_)
                                                                                                refine c_seq (fun K176 hK176 => ?_)
                                                                                                exact (by
                                                                                                  refine c_region ?_
                                                                                                  refine l_step (y_loadB agg_65 sz_65 (et g0 rfl) rfl (at1B k174)) ?_
                                                                                                  refine l_eff (e_callV cal_78 (aC (et g0 rfl) aN) (isZero_spec _ _ (by first | exact argN_lt hB _ | exact hB.value | assumption | decide | exact Nat.mod_lt _ (by decide)))) (fun v177 w177 h177 => ?_)
                                                                                                  obtain ⟨rfl, u177⟩ := h177
                                                                                                  replace k174 := k174.up u177
                                                                                                  replace hE := hE.up u177
                                                                                                  replace U := U.tr u177
                                                                                                  refine l_step (y_not (et g0 rfl)) ?_
                                                                                                  refine l_nil ?_
                                                                                                  refine hK176 _ _ ?_
                                                                                                  refine fg5 2 1 0 10 137 (gS rfl (gS rfl (gS rfl (gS rfl (gS rfl (gS rfl (gS rfl g0))))))) (gS rfl (gS rfl (gS rfl (gS rfl (gS rfl (gS rfl g0)))))) (gS rfl (gS rfl (gS rfl (gS rfl (gS rfl g0))))) (gS rfl (gS rfl (gS rfl (gS rfl g0)))) g0 (fun g => ?_)
                                                                                                  refine c_cond (et g0 rfl) (fun cB26 => ?_) (fun cB26 => ?_)
                                                                                                  · skip
                                                                                                    
                                                                                                    have hv9 : argN f.stack 2 ≠ 0 := by simpa using cB26
                                                                                                    refine c_seq (fun K179 hK179 => ?_)
                                                                                                    exact (by
                                                                                                      refine c_region ?_
                                                                                                      refine l_step (y_moveV (et (gS rfl g0) rfl)) ?_
                                                                                                      refine l_step (y_add (et g0 rfl) rfl (wrapU_addN (b := 9000) uk64 ?_)) ?_
                                                                                                      (have h8 := acc_le s.now.warmA (argN f.stack 1 % A160); omega)
                                                                                                      refine l_step (y_assignV (et g0 rfl)) ?_
                                                                                                      refine l_nil ?_
                                                                                                      refine hK179 _ _ ?_
                                                                                                      refine fg4 2 1 0 10 (gS rfl (gS rfl (gS rfl (gS rfl (gS rfl (gS rfl (gS rfl g0))))))) (gS rfl (gS rfl (gS rfl (gS rfl (gS rfl (gS rfl g0)))))) (gS rfl (gS rfl (gS rfl (gS rfl (gS rfl g0))))) g0 (fun g => ?_)
                                                                                                      refine c_seq (fun K180 hK180 => ?_)
                                                                                                      exact (by
                                                                                                        refine c_draw Up 13 [(0, true), (1, true), (2, true), (3, true), (4, true), (5, true), (6, true), (7, true), (8, true), (9, false), (10, false), (11, false), (12, true)] (by kernel_rfl) (fun w181 hu => ⟨Up.refl _, ?_⟩)
                                                                                                        replace k174 := k174.up hu
                                                                                                        replace hE := hE.up hu
                                                                                                        replace U := U.tr hu
                                                                                                        have SU := Up.refl w181
                                                                                                        refine p_step (by exact rfl) (y_moveV (et (gS rfl (gS rfl (gS rfl g0))) rfl)) ?_
                                                                                                        refine p_step (by exact rfl) (y_eql (et g0 rfl) rfl) ?_
                                                                                                        refine p_step (by exact rfl) (y_moveV (et g0 rfl)) ?_
                                                                                                        refine gsplitP (i := 142) g0 (fun q182 => ?_) (fun q182 => ?_)
                                                                                                        · skip
                                                                                                          have hq41 : q = 241 := by have := of_decide_eq_true q182; omega
                                                                                                          refine p_gstep (j := 2) (t := 142) (by exact rfl) (by exact rfl) (by exact rfl) (et g0 rfl) rfl (y_moveV (et (gS rfl (gS rfl (gS rfl (gS rfl (gS rfl g0))))) rfl)) ?_
                                                                                                          refine p_gstep (j := 2) (t := 142) (by exact rfl) (by exact rfl) (by exact rfl) (et (gS rfl g0) rfl) rfl (y_nil (et g0 rfl)) ?_
                                                                                                          refine p_gstep (j := 2) (t := 142) (by exact rfl) (by exact rfl) (by exact rfl) (et (gS rfl (gS rfl g0)) rfl) rfl (y_fld fld_75_0 (et g0 rfl)) ?_
                                                                                                          refine p_gstep (j := 2) (t := 142) (by exact rfl) (by exact rfl) (by exact rfl) (et (gS rfl (gS rfl (gS rfl g0))) rfl) rfl (y_load1 one_59 (et g0 rfl) (atS (hE.vl.c1 hE.lx.pS rfl))) ?_
                                                                                                          refine p_gstep (j := 2) (t := 142) (by exact rfl) (by exact rfl) (by exact rfl) (et (gS rfl (gS rfl (gS rfl (gS rfl g0)))) rfl) rfl (y_moveV (et (gS rfl (gS rfl (gS rfl (gS rfl (gS rfl (gS rfl (gS rfl (gS rfl (gS rfl g0))))))))) rfl)) ?_
                                                                                                          refine p_gstep (j := 2) (t := 142) (by exact rfl) (by exact rfl) (by exact rfl) (et (gS rfl (gS rfl (gS rfl (gS rfl (gS rfl g0))))) rfl) rfl (y_moveV (et (gS rfl (gS rfl (gS rfl (gS rfl (gS rfl (gS rfl (gS rfl (gS rfl (gS rfl (gS rfl (gS rfl g0))))))))))) rfl)) ?_
                                                                                                          refine p_geff (j := 2) (t := 142) (by exact rfl) (by exact rfl) (by exact rfl) (et (gS rfl (gS rfl (gS rfl (gS rfl (gS rfl (gS rfl g0)))))) rfl) rfl (e_callV cal_264 (aC (et (gS rfl g0) rfl) (aC (et g0 rfl) (aC (v := .int .i64 ((1 : Nat) : Int)) rfl aN))) (m_arg hE hs hp (by first | exact hpf | rfl) _ (by decide))) (fun v183 w183 h183 => ?_)
                                                                                                          obtain ⟨rfl, u183⟩ := h183
                                                                                                          replace k174 := k174.up u183
                                                                                                          replace hE := hE.up u183
                                                                                                          replace U := U.tr u183
                                                                                                          refine ⟨.inr (SU.tr u183), ?_⟩
                                                                                                          replace SU := SU.tr u183
                                                                                                          refine p_geff (j := 2) (t := 142) (by exact rfl) (by exact rfl) (by exact rfl) (et (gS rfl (gS rfl (gS rfl (gS rfl (gS rfl (gS rfl (gS rfl g0))))))) rfl) rfl (e_callV cal_293 (aC (et g0 rfl) aN) (mach_addrOf _ _ (by first | exact argN_lt hB _ | exact hB.value | assumption | decide | exact Nat.mod_lt _ (by decide)))) (fun v184 w184 h184 => ?_)
                                                                                                          obtain ⟨rfl, u184⟩ := h184
                                                                                                          replace k174 := k174.up u184
                                                                                                          replace hE := hE.up u184
                                                                                                          replace U := U.tr u184
                                                                                                          refine ⟨.inr (SU.tr u184), ?_⟩
                                                                                                          replace SU := SU.tr u184
                                                                                                          refine p_geff (j := 2) (t := 142) (by exact rfl) (by exact rfl) (by exact rfl) (et (gS rfl (gS rfl (gS rfl (gS rfl (gS rfl (gS rfl (gS rfl (gS rfl g0)))))))) rfl) rfl (e_callV cal_295 (aC (et (gS rfl (gS rfl (gS rfl (gS rfl g0)))) rfl) (aC (et g0 rfl) aN)) (v_isEmpty hE.vl hE.ok _ (by first | exact Nat.mod_lt _ A160_pos | exact hB.self | exact hB.caller | assumption))) (fun v185 w185 h185 => ?_)
                                                                                                          obtain ⟨rfl, u185⟩ := h185
                                                                                                          replace k174 := k174.up u185
                                                                                                          replace hE := hE.up u185
                                                                                                          replace U := U.tr u185
                                                                                                          refine ⟨.inr (SU.tr u185), ?_⟩
                                                                                                          replace SU := SU.tr u185
                                                                                                          refine p_step (by exact rfl) (y_pickT (et (gS rfl (gS rfl (gS rfl (gS rfl (gS rfl (gS rfl (gS rfl (gS rfl (gS rfl g0))))))))) rfl) (et g0 rfl)) ?_
                                                                                                          refine p_nil ?_
                                                                                                          refine hK180 _ _ ?_
                                                                                                          refine fg2 10 152 (gS rfl (gS rfl (gS rfl (gS rfl (gS rfl (gS rfl (gS rfl (gS rfl (gS rfl (gS rfl (gS rfl (gS rfl (gS rfl (gS rfl g0)))))))))))))) g0 (fun g => ?_)
                                                                                                          refine c_cond (et g0 rfl) (fun cB27 => ?_) (fun cB27 => ?_)
                                                                                                          · skip
                                                                                                            
                                                                                                            exact (by
                                                                                                              refine c_region ?_
                                                                                                              refine l_step (y_moveV (et (gS rfl g0) rfl)) ?_
                                                                                                              refine l_step (y_add (et g0 rfl) rfl (wrapU_addN (b := 25000) uk64 ?_)) ?_
                                                                                                              (have h8 := acc_le s.now.warmA (argN f.stack 1 % A160); omega)
                                                                                                              refine l_step (y_assignV (et g0 rfl)) ?_
                                                                                                              refine l_nil ?_
                                                                                                              refine hK171 _ _ ?_
                                                                                                              refine fg1 10 g0 (fun g => ?_)
                                                                                                              refine c_seq (fun K187 hK187 => ?_)
                                                                                                              exact (by
                                                                                                                refine c_region ?_
                                                                                                                refine l_step (y_moveV (et g0 rfl)) ?_
                                                                                                                refine l_step (y_assignV (et g0 rfl)) ?_
                                                                                                                refine l_nil ?_
                                                                                                                refine hK187 _ _ ?_
                                                                                                                refine fg1 6 g0 (fun g => ?_)
                                                                                                                refine c_ret ?_
                                                                                                                refine hQ4 _ _ _ (in_ret ?_)
                                                                                                                repeat with_reducible refine then_ret ?_
                                                                                                                refine ret1 rfl (res_tmp (et g0 rfl)) ?_
                                                                                                                refine ⟨?_, U⟩
                                                                                                                unfold dynN
                                                                                                                rw [if_neg (by omega), if_neg (by omega), if_neg (by omega), if_neg (by omega), if_neg (by omega), if_neg (by omega), if_neg (by omega), if_neg (by omega), if_neg (by omega), if_neg (by omega), if_neg (by omega), if_neg (by omega), if_pos (by omega), if_pos hv9, if_pos (show q = 241 ∧ _ from ⟨hq41, by rw [← hE.em]; exact cB27⟩)] <;> first | rfl | (congr 2; omega)))
                                                                                                          · skip
                                                                                                            
                                                                                                            refine c_skip ?_
                                                                                                            refine hK171 _ _ ?_
                                                                                                            refine fg1 10 (gS rfl g0) (fun g => ?_)
                                                                                                            refine c_seq (fun K188 hK188 => ?_)
                                                                                                            exact (by
                                                                                                              refine c_region ?_
                                                                                                              refine l_step (y_moveV (et g0 rfl)) ?_
                                                                                                              refine l_step (y_assignV (et g0 rfl)) ?_
                                                                                                              refine l_nil ?_
                                                                                                              refine hK188 _ _ ?_
                                                                                                              refine fg1 6 g0 (fun g => ?_)
                                                                                                              refine c_ret ?_
                                                                                                              refine hQ4 _ _ _ (in_ret ?_)
                                                                                                              repeat with_reducible refine then_ret ?_
                                                                                                              refine ret1 rfl (res_tmp (et g0 rfl)) ?_
                                                                                                              refine ⟨?_, U⟩
                                                                                                              unfold dynN
                                                                                                              rw [if_neg (by omega), if_neg (by omega), if_neg (by omega), if_neg (by omega), if_neg (by omega), if_neg (by omega), if_neg (by omega), if_neg (by omega), if_neg (by omega), if_neg (by omega), if_neg (by omega), if_neg (by omega), if_pos (by omega), if_pos hv9, if_neg (show ¬ (q = 241 ∧ _) from fun h9 => by rw [← hE.em] at h9; have h8 := cB27; exact absurd (h8.symm.trans h9.2) Bool.false_ne_true)] <;> first | rfl | (congr 2; omega))
                                                                                                        · skip
                                                                                                          have hq41 : q ≠ 241 := by have := of_decide_eq_false q182; omega
                                                                                                          refine p_gskip (j := 2) (t := 142) (by exact rfl) (by exact rfl) (by exact rfl) (et g0 rfl) rfl rfl ?_
                                                                                                          refine p_gskip (j := 2) (t := 142) (by exact rfl) (by exact rfl) (by exact rfl) (et (gS rfl g0) rfl) rfl rfl ?_
                                                                                                          refine p_gskip (j := 2) (t := 142) (by exact rfl) (by exact rfl) (by exact rfl) (et (gS rfl (gS rfl g0)) rfl) rfl rfl ?_
                                                                                                          refine p_gskip (j := 2) (t := 142) (by exact rfl) (by exact rfl) (by exact rfl) (et (gS rfl (gS rfl (gS rfl g0))) rfl) rfl rfl ?_
                                                                                                          refine p_gskip (j := 2) (t := 142) (by exact rfl) (by exact rfl) (by exact rfl) (et (gS rfl (gS rfl (gS rfl (gS rfl g0)))) rfl) rfl rfl ?_
                                                                                                          refine p_gskip (j := 2) (t := 142) (by exact rfl) (by exact rfl) (by exact rfl) (et (gS rfl (gS rfl (gS rfl (gS rfl (gS rfl g0))))) rfl) rfl rfl ?_
                                                                                                          refine p_geskip (j := 2) (t := 142) (by exact rfl) (by exact rfl) (by exact rfl) (et (gS rfl (gS rfl (gS rfl (gS rfl (gS rfl (gS rfl g0)))))) rfl) rfl rfl ⟨.inr SU, ?_⟩
                                                                                                          refine p_geskip (j := 2) (t := 142) (by exact rfl) (by exact rfl) (by exact rfl) (et (gS rfl (gS rfl (gS rfl (gS rfl (gS rfl (gS rfl (gS rfl g0))))))) rfl) rfl rfl ⟨.inr SU, ?_⟩
                                                                                                          refine p_geskip (j := 2) (t := 142) (by exact rfl) (by exact rfl) (by exact rfl) (et (gS rfl (gS rfl (gS rfl (gS rfl (gS rfl (gS rfl (gS rfl (gS rfl g0)))))))) rfl) rfl rfl ⟨.inr SU, ?_⟩
                                                                                                          refine p_step (by exact rfl) (y_pickF (et (gS rfl (gS rfl (gS rfl (gS rfl (gS rfl (gS rfl (gS rfl (gS rfl (gS rfl g0))))))))) rfl) rfl) ?_
                                                                                                          refine p_nil ?_
                                                                                                          refine hK180 _ _ ?_
                                                                                                          refine fg2 10 152 (gS rfl (gS rfl (gS rfl (gS rfl (gS rfl (gS rfl (gS rfl (gS rfl (gS rfl (gS rfl (gS rfl (gS rfl (gS rfl (gS rfl g0)))))))))))))) g0 (fun g => ?_)
                                                                                                          refine c_false (et g0 rfl) rfl ?_
                                                                                                          refine c_skip ?_
                                                                                                          refine hK171 _ _ ?_
                                                                                                          refine fg1 10 (gS rfl g0) (fun g => ?_)
                                                                                                          refine c_seq (fun K190 hK190 => ?_)
                                                                                                          exact (by
                                                                                                            refine c_region ?_
                                                                                                            refine l_step (y_moveV (et g0 rfl)) ?_
                                                                                                            refine l_step (y_assignV (et g0 rfl)) ?_
                                                                                                            refine l_nil ?_
                                                                                                            refine hK190 _ _ ?_
                                                                                                            refine fg1 6 g0 (fun g => ?_)
                                                                                                            refine c_ret ?_
                                                                                                            refine hQ4 _ _ _ (in_ret ?_)
                                                                                                            repeat with_reducible refine then_ret ?_
                                                                                                            refine ret1 rfl (res_tmp (et g0 rfl)) ?_
                                                                                                            refine ⟨?_, U⟩
                                                                                                            unfold dynN
                                                                                                            rw [if_neg (by omega), if_neg (by omega), if_neg (by omega), if_neg (by omega), if_neg (by omega), if_neg (by omega), if_neg (by omega), if_neg (by omega), if_neg (by omega), if_neg (by omega), if_neg (by omega), if_neg (by omega), if_pos (by omega), if_pos hv9, if_neg (show ¬ (q = 241 ∧ _) from fun h9 => hq41 h9.1)] <;> first | rfl | (congr 2; omega))))
                                                                                                  · skip
                                                                                                    
                                                                                                    have hv9 : argN f.stack 2 = 0 := by simpa using cB26
                                                                                                    refine c_skip ?_
                                                                                                    refine hK171 _ _ ?_
                                                                                                    refine fg1 10 (gS rfl g0) (fun g => ?_)
                                                                                                    refine c_seq (fun K191 hK191 => ?_)
                                                                                                    exact (by
                                                                                                      refine c_region ?_
                                                                                                      refine l_step (y_moveV (et g0 rfl)) ?_
                                                                                                      refine l_step (y_assignV (et g0 rfl)) ?_
                                                                                                      refine l_nil ?_
                                                                                                      refine hK191 _ _ ?_
                                                                                                      refine fg1 6 g0 (fun g => ?_)
                                                                                                      refine c_ret ?_
                                                                                                      refine hQ4 _ _ _ (in_ret ?_)
                                                                                                      repeat with_reducible refine then_ret ?_
                                                                                                      refine ret1 rfl (res_tmp (et g0 rfl)) ?_
                                                                                                      refine ⟨?_, U⟩
                                                                                                      unfold dynN
                                                                                                      rw [if_neg (by omega), if_neg (by omega), if_neg (by omega), if_neg (by omega), if_neg (by omega), if_neg (by omega), if_neg (by omega), if_neg (by omega), if_neg (by omega), if_neg (by omega), if_neg (by omega), if_neg (by omega), if_pos (by omega), if_neg (show ¬ argN f.stack 2 ≠ 0 from fun h => h hv9), Nat.add_zero] <;> first | rfl | (congr 2; omega)))))
                                                                                          · skip
                                                                                            
                                                                                            have hq25 : q ≠ 242 := by have := of_decide_eq_false cB25; omega
                                                                                            refine c_skip ?_
                                                                                            refine hQ4 _ _ _ (in_normal ?_)
                                                                                            refine hK2 _ _ ?_
                                                                                            refine fg0 (fun g => ?_)
                                                                                            refine c_seq (fun K192 hK192 => ?_)
                                                                                            exact (by
                                                                                              refine c_region ?_
                                                                                              refine l_step y_assignC ?_
                                                                                              refine l_nil ?_
                                                                                              refine hK192 _ _ ?_
                                                                                              refine c_ret ?_
                                                                                              repeat with_reducible refine then_ret ?_
                                                                                              refine ret1 rfl (res_tmp (et g0 rfl)) ?_
                                                                                              refine ⟨?_, U⟩
                                                                                              unfold dynN
                                                                                              rw [if_neg (by omega), if_neg (by omega), if_neg (by omega), if_neg (by omega), if_neg (by omega), if_neg (by omega), if_neg (by omega), if_neg (by omega), if_neg (by omega), if_neg (by omega), if_neg (by omega), if_neg (by omega), if_neg (by omega)] <;> first | rfl | (congr 2; omega)))))))))))))))))))))))
end Go.Proofs.YgvaawGreat
