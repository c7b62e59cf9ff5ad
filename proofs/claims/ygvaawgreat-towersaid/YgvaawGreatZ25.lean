import Derived.Test.YgvaawGreatZ24
set_option maxRecDepth 100000
set_option maxHeartbeats 4000000
set_option linter.unusedSimpArgs false
set_option linter.unusedVariables false
namespace Go.Proofs.YgvaawGreat
open Go
theorem m_opCopy60 {w : World} {H : Store} {col : Nat → Nat} {bc : Nat} {cs : Array Value} {V : EV} {s : YSt} {sn : List Nat} {sv : List AW} {ms : List (List Nat)} {c : Nat} {low : List YF} {f : YF} (hE : EX w H col bc cs V s sn sv ms c) (hs : s.frames = low ++ [f]) (hp : s.phase = 1) {lo : List (List Nat)} {m : List Nat} (hms : ms = lo ++ [m]) (hq : opcN f = 60) (hpc9 : f.pc < 512) (htk9 : 4 ≤ f.stack.length) (hr : argN f.stack 3 ≠ 0 → argN f.stack 1 + argN f.stack 3 ≤ m.length) {c' : Nat} (hap : s.applied ≤ 4) (hc1 : c' ≤ c) (hc2 : argN f.stack 0 % A160 ∉ s.now.warmA → c' + 2600 ≤ c) :
    Ret 195 [.pointer (some ⟨bc, 0, none⟩)] w (fun v w' => v = .tuple #[] ∧ ∃ H' col' cs' V', XT w H col w' H' col' bc cs' V' { s with now := { s.now with warmA := withA s.now.warmA (argN f.stack 0 % A160) }, frames := low ++ [setF f 4 false 0 1] } sn sv (lo ++ [cpN m (argN f.stack 1) (acctAt s.now.accts (argN f.stack 0 % A160)).code (argN f.stack 2) (argN f.stack 3)]) c') := by
  obtain ⟨n9, hn9, hR⟩ := hE.topF hs
  have hB := hE.fbT hs
  have h6 := hE.six hs
  have htop := hE.cTop hs
  have hphs := hE.cPh hp
  have hbp := hB.pc
  have hbs := hB.stk
  have hbg := hB.gas
  have hbc9 := hB.code
  have hnw := hE.vl.new
  have hfz := hE.vl.fz
  have hcC := hE.vl.colC
  have hbc0 := hE.vl.kC.lt
  have hX := XT.refl hE
  have hmx := hE.memMx hms
  refine enter (n := 105) Hvaa.func195 rfl rfl (Nat.le_of_ble_eq_true rfl) ?_
  have U : Ch (fun _ => True) w w := Ch.refl _ w
  refine c_seq (fun K1 hK1 => ?_)
  exact (by
    refine c_region ?_
    refine l_step (y_moveV (et g0 rfl)) ?_
    refine l_eff (e_callV cal_183 (aC (et g0 rfl) aN) (m_running hX.ex hs hp)) (fun v2 w2 h2 => ?_)
    obtain ⟨rfl, u2⟩ := h2
    replace hX := hX.up u2
    replace U := U.tr u2
    refine l_step (y_assignV (et g0 rfl)) ?_
    refine l_nil ?_
    refine hK1 _ _ ?_
    refine fg2 0 2 (gS rfl (gS rfl (gS rfl g0))) g0 (fun g => ?_)
    refine c_seq (fun K3 hK3 => ?_)
    refine c_seq (fun K4 hK4 => ?_)
    exact (by
      refine c_region ?_
      refine l_step (y_moveV (et g0 rfl)) ?_
      refine l_step (y_eqlNil Hvaa.underlying276 (et g0 rfl) rfl) ?_
      refine l_nil ?_
      refine hK4 _ _ ?_
      refine fg3 0 2 14 (gS rfl (gS rfl (gS rfl g0))) (gS rfl (gS rfl g0)) g0 (fun g => ?_)
      refine c_false (et g0 rfl) rfl ?_
      refine c_skip ?_
      refine hK3 _ _ ?_
      refine fg2 0 2 (gS rfl (gS rfl g0)) (gS rfl g0) (fun g => ?_)
      refine c_seq (fun K6 hK6 => ?_)
      exact (by
        refine c_region ?_
        refine l_step (y_moveV (et (gS rfl g0) rfl)) ?_
        refine l_step (y_moveV (et (gS rfl g0) rfl)) ?_
        refine l_eff (e_callV cal_264 (aC (et (gS rfl g0) rfl) (aC (et g0 rfl) (aC (v := .int .i64 ((0 : Nat) : Int)) rfl aN))) (m_arg hX.ex hs hp (by first | exact hpf | rfl) _ (by decide))) (fun v7 w7 h7 => ?_)
        obtain ⟨rfl, u7⟩ := h7
        replace hX := hX.up u7
        replace U := U.tr u7
        refine l_eff (e_alloc zr_65) (fun v8 w8 h8 => ?_)
        obtain ⟨b8, rfl, n8⟩ := h8
        have f8 : w.heap.size ≤ b8 := Nat.le_trans U.size n8.fresh
        replace hX := hX.up n8.up
        replace U := U.tr n8.up
        have k8 := n8.blk
        obtain ⟨zs8, hz8, k8⟩ : ∃ cs : Array Value, cs.size = 4 ∧ Blk w8 b8 cs := ⟨_, rfl, k8⟩
        have nc8 : col b8 = 0 := hnw _ f8
        refine l_effN (e_store sz_65 (et g0 rfl) (cellsV (et (gS rfl g0) rfl) rfl) rfl (by exact one_uL _) k8 (by (first | (rw [hz8]; exact Nat.le_refl _) | (rw [List.size_toArray, wL_len]; exact Nat.le_refl _)))) (fun v9 w9 h9 => ?_)
        obtain ⟨rfl, x9⟩ := h9
        replace hX := hX.ch x9.ch (by first | omega | (intro b hb; first | (subst hb; first | exact ⟨by omega, fun hh => by have := hfz.lt hh; omega, by omega⟩ | exact ⟨by omega, by assumption, by omega⟩) | (rcases hb with hb | hb <;> (subst hb; first | exact ⟨by omega, fun hh => by have := hfz.lt hh; omega, by omega⟩ | exact ⟨by omega, by assumption, by omega⟩))))
        replace k8 := x9.blk.full (by first | (rw [hz8]; rfl) | (rw [List.size_toArray, wL_len, wL_len]))
        replace U := U.st x9 (.inr f8)
        refine l_nil ?_
        refine hK6 _ _ ?_
        refine fg3 0 2 3 (gS rfl (gS rfl (gS rfl (gS rfl (gS rfl g0))))) (gS rfl (gS rfl (gS rfl (gS rfl g0)))) g0 (fun g => ?_)
        refine c_seq (fun K10 hK10 => ?_)
        exact (by
          refine c_region ?_
          refine l_step (y_moveV (et (gS rfl (gS rfl g0)) rfl)) ?_
          refine l_step (y_moveV (et (gS rfl (gS rfl g0)) rfl)) ?_
          refine l_eff (e_callV cal_264 (aC (et (gS rfl g0) rfl) (aC (et g0 rfl) (aC (v := .int .i64 ((1 : Nat) : Int)) rfl aN))) (m_arg hX.ex hs hp (by first | exact hpf | rfl) _ (by decide))) (fun v11 w11 h11 => ?_)
          obtain ⟨rfl, u11⟩ := h11
          replace k8 := k8.up u11
          replace hX := hX.up u11
          replace U := U.tr u11
          refine l_eff (e_alloc zr_65) (fun v12 w12 h12 => ?_)
          obtain ⟨b12, rfl, n12⟩ := h12
          have d8_12 : b8 < b12 := Nat.lt_of_lt_of_le k8.lt n12.fresh
          have f12 : w.heap.size ≤ b12 := Nat.le_trans U.size n12.fresh
          replace k8 := k8.up n12.up
          replace hX := hX.up n12.up
          replace U := U.tr n12.up
          have k12 := n12.blk
          obtain ⟨zs12, hz12, k12⟩ : ∃ cs : Array Value, cs.size = 4 ∧ Blk w12 b12 cs := ⟨_, rfl, k12⟩
          have nc12 : col b12 = 0 := hnw _ f12
          refine l_effN (e_store sz_65 (et g0 rfl) (cellsV (et (gS rfl g0) rfl) rfl) rfl (by exact one_uL _) k12 (by (first | (rw [hz12]; exact Nat.le_refl _) | (rw [List.size_toArray, wL_len]; exact Nat.le_refl _)))) (fun v13 w13 h13 => ?_)
          obtain ⟨rfl, x13⟩ := h13
          replace k8 := k8.ch x13.ch (by omega)
          replace hX := hX.ch x13.ch (by first | omega | (intro b hb; first | (subst hb; first | exact ⟨by omega, fun hh => by have := hfz.lt hh; omega, by omega⟩ | exact ⟨by omega, by assumption, by omega⟩) | (rcases hb with hb | hb <;> (subst hb; first | exact ⟨by omega, fun hh => by have := hfz.lt hh; omega, by omega⟩ | exact ⟨by omega, by assumption, by omega⟩))))
          replace k12 := x13.blk.full (by first | (rw [hz12]; rfl) | (rw [List.size_toArray, wL_len, wL_len]))
          replace U := U.st x13 (.inr f12)
          refine l_nil ?_
          refine hK10 _ _ ?_
          refine fg4 0 2 3 4 (gS rfl (gS rfl (gS rfl (gS rfl (gS rfl (gS rfl g0)))))) (gS rfl (gS rfl (gS rfl (gS rfl (gS rfl g0))))) (gS rfl (gS rfl (gS rfl (gS rfl g0)))) g0 (fun g => ?_)
          refine c_seq (fun K14 hK14 => ?_)
          exact (by
            refine c_region ?_
            refine l_step (y_moveV (et (gS rfl (gS rfl (gS rfl g0))) rfl)) ?_
            refine l_step (y_moveV (et (gS rfl (gS rfl (gS rfl g0))) rfl)) ?_
            refine l_eff (e_callV cal_264 (aC (et (gS rfl g0) rfl) (aC (et g0 rfl) (aC (v := .int .i64 ((2 : Nat) : Int)) rfl aN))) (m_arg hX.ex hs hp (by first | exact hpf | rfl) _ (by decide))) (fun v15 w15 h15 => ?_)
            obtain ⟨rfl, u15⟩ := h15
            replace k8 := k8.up u15
            replace k12 := k12.up u15
            replace hX := hX.up u15
            replace U := U.tr u15
            refine l_eff (e_alloc zr_65) (fun v16 w16 h16 => ?_)
            obtain ⟨b16, rfl, n16⟩ := h16
            have d8_16 : b8 < b16 := Nat.lt_of_lt_of_le k8.lt n16.fresh
            have d12_16 : b12 < b16 := Nat.lt_of_lt_of_le k12.lt n16.fresh
            have f16 : w.heap.size ≤ b16 := Nat.le_trans U.size n16.fresh
            replace k8 := k8.up n16.up
            replace k12 := k12.up n16.up
            replace hX := hX.up n16.up
            replace U := U.tr n16.up
            have k16 := n16.blk
            obtain ⟨zs16, hz16, k16⟩ : ∃ cs : Array Value, cs.size = 4 ∧ Blk w16 b16 cs := ⟨_, rfl, k16⟩
            have nc16 : col b16 = 0 := hnw _ f16
            refine l_effN (e_store sz_65 (et g0 rfl) (cellsV (et (gS rfl g0) rfl) rfl) rfl (by exact one_uL _) k16 (by (first | (rw [hz16]; exact Nat.le_refl _) | (rw [List.size_toArray, wL_len]; exact Nat.le_refl _)))) (fun v17 w17 h17 => ?_)
            obtain ⟨rfl, x17⟩ := h17
            replace k8 := k8.ch x17.ch (by omega)
            replace k12 := k12.ch x17.ch (by omega)
            replace hX := hX.ch x17.ch (by first | omega | (intro b hb; first | (subst hb; first | exact ⟨by omega, fun hh => by have := hfz.lt hh; omega, by omega⟩ | exact ⟨by omega, by assumption, by omega⟩) | (rcases hb with hb | hb <;> (subst hb; first | exact ⟨by omega, fun hh => by have := hfz.lt hh; omega, by omega⟩ | exact ⟨by omega, by assumption, by omega⟩))))
            replace k16 := x17.blk.full (by first | (rw [hz16]; rfl) | (rw [List.size_toArray, wL_len, wL_len]))
            replace U := U.st x17 (.inr f16)
            refine l_nil ?_
            refine hK14 _ _ ?_
            refine fg5 0 2 3 4 5 (gS rfl (gS rfl (gS rfl (gS rfl (gS rfl (gS rfl (gS rfl g0))))))) (gS rfl (gS rfl (gS rfl (gS rfl (gS rfl (gS rfl g0)))))) (gS rfl (gS rfl (gS rfl (gS rfl (gS rfl g0))))) (gS rfl (gS rfl (gS rfl (gS rfl g0)))) g0 (fun g => ?_)
            refine c_seq (fun K18 hK18 => ?_)
            exact (by
              refine c_region ?_
              refine l_step y_assignC ?_
              refine l_nil ?_
              refine hK18 _ _ ?_
              refine c_seq (fun K19 hK19 => ?_)
              exact (by
                refine c_region ?_
                refine l_step y_assignC ?_
                refine l_nil ?_
                refine hK19 _ _ ?_
                refine c_seq (fun K20 hK20 => ?_)
                exact (by
                  refine c_region ?_
                  refine l_step (y_moveV (et (gS rfl (gS rfl (gS rfl (gS rfl (gS rfl (gS rfl g0)))))) rfl)) ?_
                  refine l_eff (e_callV cal_108 (aC (et g0 rfl) aN) (m_opcode hX.ex hs hp)) (fun v21 w21 h21 => ?_)
                  obtain ⟨rfl, u21⟩ := h21
                  replace k8 := k8.up u21
                  replace k12 := k12.up u21
                  replace k16 := k16.up u21
                  replace hX := hX.up u21
                  replace U := U.tr u21
                  refine l_step (y_assignV (et g0 rfl)) ?_
                  refine l_nil ?_
                  refine hK20 _ _ ?_
                  refine fg8 0 2 3 4 5 6 7 8 (gS rfl (gS rfl (gS rfl (gS rfl (gS rfl (gS rfl (gS rfl (gS rfl (gS rfl g0))))))))) (gS rfl (gS rfl (gS rfl (gS rfl (gS rfl (gS rfl (gS rfl (gS rfl g0)))))))) (gS rfl (gS rfl (gS rfl (gS rfl (gS rfl (gS rfl (gS rfl g0))))))) (gS rfl (gS rfl (gS rfl (gS rfl (gS rfl (gS rfl g0)))))) (gS rfl (gS rfl (gS rfl (gS rfl (gS rfl g0))))) (gS rfl (gS rfl (gS rfl (gS rfl g0)))) (gS rfl (gS rfl (gS rfl g0))) g0 (fun g => ?_)
                  refine c_seq (fun K22 hK22 => ?_)
                  refine c_seq (fun K23 hK23 => ?_)
                  exact (by
                    refine c_region ?_
                    refine l_step (y_moveV (et g0 rfl)) ?_
                    refine l_nil ?_
                    refine hK23 _ _ ?_
                    refine c_block (fun Q24 hQ24 => ?_)
                    refine c_seq (fun K25 hK25 => ?_)
                    exact (by
                      refine c_region ?_
                      refine l_step (y_eql (et g0 rfl) rfl) ?_
                      refine l_step (y_assignV (et g0 rfl)) ?_
                      refine l_nil ?_
                      refine hK25 _ _ ?_
                      refine fg10 0 2 3 4 5 6 7 8 26 27 (gS rfl (gS rfl (gS rfl (gS rfl (gS rfl (gS rfl (gS rfl (gS rfl (gS rfl (gS rfl g0)))))))))) (gS rfl (gS rfl (gS rfl (gS rfl (gS rfl (gS rfl (gS rfl (gS rfl (gS rfl g0))))))))) (gS rfl (gS rfl (gS rfl (gS rfl (gS rfl (gS rfl (gS rfl (gS rfl g0)))))))) (gS rfl (gS rfl (gS rfl (gS rfl (gS rfl (gS rfl (gS rfl g0))))))) (gS rfl (gS rfl (gS rfl (gS rfl (gS rfl (gS rfl g0)))))) (gS rfl (gS rfl (gS rfl (gS rfl (gS rfl g0))))) (gS rfl (gS rfl (gS rfl (gS rfl g0)))) (gS rfl (gS rfl (gS rfl g0))) (gS rfl (gS rfl g0)) g0 (fun g => ?_)
                      refine c_false (et g0 rfl) (by (exact decide_eq_false (by omega))) ?_
                      refine c_seq (fun K27 hK27 => ?_)
                      exact (by
                        refine c_region ?_
                        refine l_step (y_eql (et (gS rfl g0) rfl) rfl) ?_
                        refine l_step (y_assignV (et g0 rfl)) ?_
                        refine l_nil ?_
                        refine hK27 _ _ ?_
                        refine fg10 0 2 3 4 5 6 7 8 26 33 (gS rfl (gS rfl (gS rfl (gS rfl (gS rfl (gS rfl (gS rfl (gS rfl (gS rfl (gS rfl (gS rfl g0))))))))))) (gS rfl (gS rfl (gS rfl (gS rfl (gS rfl (gS rfl (gS rfl (gS rfl (gS rfl (gS rfl g0)))))))))) (gS rfl (gS rfl (gS rfl (gS rfl (gS rfl (gS rfl (gS rfl (gS rfl (gS rfl g0))))))))) (gS rfl (gS rfl (gS rfl (gS rfl (gS rfl (gS rfl (gS rfl (gS rfl g0)))))))) (gS rfl (gS rfl (gS rfl (gS rfl (gS rfl (gS rfl (gS rfl g0))))))) (gS rfl (gS rfl (gS rfl (gS rfl (gS rfl (gS rfl g0)))))) (gS rfl (gS rfl (gS rfl (gS rfl (gS rfl g0))))) (gS rfl (gS rfl (gS rfl (gS rfl g0)))) (gS rfl (gS rfl (gS rfl g0))) g0 (fun g => ?_)
                        refine c_false (et g0 rfl) (by (exact decide_eq_false (by omega))) ?_
                        refine c_seq (fun K29 hK29 => ?_)
                        exact (by
                          refine c_region ?_
                          refine l_step (y_eql (et (gS rfl g0) rfl) rfl) ?_
                          refine l_step (y_assignV (et g0 rfl)) ?_
                          refine l_nil ?_
                          refine hK29 _ _ ?_
                          refine fg10 0 2 3 4 5 6 7 8 26 39 (gS rfl (gS rfl (gS rfl (gS rfl (gS rfl (gS rfl (gS rfl (gS rfl (gS rfl (gS rfl (gS rfl g0))))))))))) (gS rfl (gS rfl (gS rfl (gS rfl (gS rfl (gS rfl (gS rfl (gS rfl (gS rfl (gS rfl g0)))))))))) (gS rfl (gS rfl (gS rfl (gS rfl (gS rfl (gS rfl (gS rfl (gS rfl (gS rfl g0))))))))) (gS rfl (gS rfl (gS rfl (gS rfl (gS rfl (gS rfl (gS rfl (gS rfl g0)))))))) (gS rfl (gS rfl (gS rfl (gS rfl (gS rfl (gS rfl (gS rfl g0))))))) (gS rfl (gS rfl (gS rfl (gS rfl (gS rfl (gS rfl g0)))))) (gS rfl (gS rfl (gS rfl (gS rfl (gS rfl g0))))) (gS rfl (gS rfl (gS rfl (gS rfl g0)))) (gS rfl (gS rfl (gS rfl g0))) g0 (fun g => ?_)
                          refine c_false (et g0 rfl) (by (exact decide_eq_false (by omega))) ?_
                          refine c_seq (fun K31 hK31 => ?_)
                          exact (by
                            refine c_region ?_
                            refine l_step (y_eql (et (gS rfl g0) rfl) rfl) ?_
                            refine l_step (y_assignV (et g0 rfl)) ?_
                            refine l_nil ?_
                            refine hK31 _ _ ?_
                            refine fg9 0 2 3 4 5 6 7 8 45 (gS rfl (gS rfl (gS rfl (gS rfl (gS rfl (gS rfl (gS rfl (gS rfl (gS rfl (gS rfl (gS rfl g0))))))))))) (gS rfl (gS rfl (gS rfl (gS rfl (gS rfl (gS rfl (gS rfl (gS rfl (gS rfl (gS rfl g0)))))))))) (gS rfl (gS rfl (gS rfl (gS rfl (gS rfl (gS rfl (gS rfl (gS rfl (gS rfl g0))))))))) (gS rfl (gS rfl (gS rfl (gS rfl (gS rfl (gS rfl (gS rfl (gS rfl g0)))))))) (gS rfl (gS rfl (gS rfl (gS rfl (gS rfl (gS rfl (gS rfl g0))))))) (gS rfl (gS rfl (gS rfl (gS rfl (gS rfl (gS rfl g0)))))) (gS rfl (gS rfl (gS rfl (gS rfl (gS rfl g0))))) (gS rfl (gS rfl (gS rfl (gS rfl g0)))) g0 (fun g => ?_)
                            refine c_true (et g0 rfl) (by (exact decide_eq_true (by omega))) ?_
                            refine c_seq (fun K33 hK33 => ?_)
                            exact (by
                              refine c_region ?_
                              refine l_step (y_loadB agg_65 sz_65 (et (gS rfl (gS rfl (gS rfl (gS rfl (gS rfl (gS rfl g0)))))) rfl) rfl (at1B k8)) ?_
                              refine l_eff (e_callV cal_293 (aC (et g0 rfl) aN) (mach_addrOf _ _ (by first | exact argN_lt hB _ | exact hB.value | assumption | decide | exact Nat.mod_lt _ (by decide)))) (fun v34 w34 h34 => ?_)
                              obtain ⟨rfl, u34⟩ := h34
                              replace k8 := k8.up u34
                              replace k12 := k12.up u34
                              replace k16 := k16.up u34
                              replace hX := hX.up u34
                              replace U := U.tr u34
                              refine l_eff (e_alloc zr_25) (fun v35 w35 h35 => ?_)
                              obtain ⟨b35, rfl, n35⟩ := h35
                              have d8_35 : b8 < b35 := Nat.lt_of_lt_of_le k8.lt n35.fresh
                              have d12_35 : b12 < b35 := Nat.lt_of_lt_of_le k12.lt n35.fresh
                              have d16_35 : b16 < b35 := Nat.lt_of_lt_of_le k16.lt n35.fresh
                              have f35 : w.heap.size ≤ b35 := Nat.le_trans U.size n35.fresh
                              replace k8 := k8.up n35.up
                              replace k12 := k12.up n35.up
                              replace k16 := k16.up n35.up
                              replace hX := hX.up n35.up
                              replace U := U.tr n35.up
                              have k35 := n35.blk
                              obtain ⟨zs35, hz35, k35⟩ : ∃ cs : Array Value, cs.size = 20 ∧ Blk w35 b35 cs := ⟨_, rfl, k35⟩
                              have nc35 : col b35 = 0 := hnw _ f35
                              refine l_effN (e_store sz_25 (et g0 rfl) (cellsV (et (gS rfl g0) rfl) rfl) (by rw [length_bL, length_be]) (by exact one_bL _) k35 (by (rw [hz35]; exact Nat.le_refl _))) (fun v36 w36 h36 => ?_)
                              obtain ⟨rfl, x36⟩ := h36
                              replace k8 := k8.ch x36.ch (by omega)
                              replace k12 := k12.ch x36.ch (by omega)
                              replace k16 := k16.ch x36.ch (by omega)
                              replace hX := hX.ch x36.ch (by first | omega | (intro b hb; first | (subst hb; first | exact ⟨by omega, fun hh => by have := hfz.lt hh; omega, by omega⟩ | exact ⟨by omega, by assumption, by omega⟩) | (rcases hb with hb | hb <;> (subst hb; first | exact ⟨by omega, fun hh => by have := hfz.lt hh; omega, by omega⟩ | exact ⟨by omega, by assumption, by omega⟩))))
                              replace k35 := x36.blk.full (by rw [hz35, length_bL, length_be])
                              replace U := U.st x36 (.inr f35)
                              refine l_nil ?_
                              refine hK33 _ _ ?_
                              refine fg7 0 2 3 4 5 8 9 (gS rfl (gS rfl (gS rfl (gS rfl (gS rfl (gS rfl (gS rfl (gS rfl (gS rfl (gS rfl (gS rfl g0))))))))))) (gS rfl (gS rfl (gS rfl (gS rfl (gS rfl (gS rfl (gS rfl (gS rfl (gS rfl (gS rfl g0)))))))))) (gS rfl (gS rfl (gS rfl (gS rfl (gS rfl (gS rfl (gS rfl (gS rfl (gS rfl g0))))))))) (gS rfl (gS rfl (gS rfl (gS rfl (gS rfl (gS rfl (gS rfl (gS rfl g0)))))))) (gS rfl (gS rfl (gS rfl (gS rfl (gS rfl (gS rfl (gS rfl g0))))))) (gS rfl (gS rfl (gS rfl (gS rfl g0)))) g0 (fun g => ?_)
                              refine c_seq (fun K37 hK37 => ?_)
                              refine c_seq (fun K38 hK38 => ?_)
                              exact (by
                                refine c_region ?_
                                refine l_step (y_moveV (et (gS rfl (gS rfl (gS rfl (gS rfl (gS rfl (gS rfl g0)))))) rfl)) ?_
                                refine l_step (y_loadB agg_25 sz_25 (et (gS rfl g0) rfl) (by rw [List.size_toArray, length_bL, length_be]) (at1B k35)) ?_
                                refine l_eff (e_callV cal_294 (aC (et (gS rfl g0) rfl) (aC (et g0 rfl) aN)) (m_warmAcct hX.ex hs hp (argN f.stack 0 % A160) (Nat.mod_lt _ A160_pos) hap (c' := c') hc1 hc2)) (fun v39 w39 h39 => ?_)
                                obtain ⟨rfl, cl39, cs39, V39, y39⟩ := h39
                                have nc8 := (y39.et.col b8 k8.lt).trans nc8
                                have nc12 := (y39.et.col b12 k12.lt).trans nc12
                                have nc16 := (y39.et.col b16 k16.lt).trans nc16
                                have nc35 := (y39.et.col b35 k35.lt).trans nc35
                                have kp39 := hX.ex.vl.kC
                                replace k8 := k8.ch y39.et.go.ch (by intro hm; (have e0 := hm); omega)
                                replace k12 := k12.ch y39.et.go.ch (by intro hm; (have e0 := hm); omega)
                                replace k16 := k16.ch y39.et.go.ch (by intro hm; (have e0 := hm); omega)
                                replace k35 := k35.ch y39.et.go.ch (by intro hm; (have e0 := hm); omega)
                                replace hX := hX.trans y39
                                replace U := U.cc y39.et.go.ch (by intro b hb; exact .inl trivial)
                                obtain ⟨s1, hs1⟩ : ∃ s1 : YSt, s1 = { s with now := { s.now with warmA := withA s.now.warmA (argN f.stack 0 % A160) } } := ⟨_, rfl⟩
                                rw [← hs1] at hX
                                have hsf : s1.frames = low ++ [f] := by rw [hs1]; exact hs
                                have hph1 : s1.phase = 1 := by rw [hs1]; exact hp
                                have hac : s1.now.accts = s.now.accts := by rw [hs1]
                                have hnw1 := hX.ex.vl.new
                                refine l_step (y_not (et g0 rfl)) ?_
                                refine l_nil ?_
                                refine hK38 _ _ ?_
                                refine fg8 0 2 3 4 5 8 9 52 (gS rfl (gS rfl (gS rfl (gS rfl (gS rfl (gS rfl (gS rfl (gS rfl (gS rfl (gS rfl g0)))))))))) (gS rfl (gS rfl (gS rfl (gS rfl (gS rfl (gS rfl (gS rfl (gS rfl (gS rfl g0))))))))) (gS rfl (gS rfl (gS rfl (gS rfl (gS rfl (gS rfl (gS rfl (gS rfl g0)))))))) (gS rfl (gS rfl (gS rfl (gS rfl (gS rfl (gS rfl (gS rfl g0))))))) (gS rfl (gS rfl (gS rfl (gS rfl (gS rfl (gS rfl g0)))))) (gS rfl (gS rfl (gS rfl (gS rfl (gS rfl g0))))) (gS rfl (gS rfl (gS rfl (gS rfl g0)))) g0 (fun g => ?_)
                                refine c_false (et g0 rfl) (by rfl) ?_
                                refine c_skip ?_
                                refine hK37 _ _ ?_
                                refine fg7 0 2 3 4 5 8 9 (gS rfl (gS rfl (gS rfl (gS rfl (gS rfl (gS rfl (gS rfl g0))))))) (gS rfl (gS rfl (gS rfl (gS rfl (gS rfl (gS rfl g0)))))) (gS rfl (gS rfl (gS rfl (gS rfl (gS rfl g0))))) (gS rfl (gS rfl (gS rfl (gS rfl g0)))) (gS rfl (gS rfl (gS rfl g0))) (gS rfl (gS rfl g0)) (gS rfl g0) (fun g => ?_)
                                refine c_seq (fun K41 hK41 => ?_)
                                exact (by
                                  refine c_draw (SX _ bc) 7 [(0, true), (1, true), (2, true), (3, true), (4, true), (5, false), (6, true)] (by kernel_rfl) (fun w42 hu => ⟨SX.refl (hX.up hu), ?_⟩)
                                  replace k8 := k8.up hu
                                  replace k12 := k12.up hu
                                  replace k16 := k16.up hu
                                  replace k35 := k35.up hu
                                  replace hX := hX.up hu
                                  replace U := U.tr hu
                                  have SU := SX.refl hX
                                  have cq := cq_refl hX
                                  have hX_s := hX
                                  have k8_s := k8
                                  have k12_s := k12
                                  have k16_s := k16
                                  have k35_s := k35
                                  refine p_step (by exact rfl) (y_moveV (et (gS rfl (gS rfl (gS rfl (gS rfl (gS rfl (gS rfl g0)))))) rfl)) ?_
                                  refine p_step (by exact rfl) (y_nil (et g0 rfl)) ?_
                                  refine p_step (by exact rfl) (y_fld fld_75_0 (et g0 rfl)) ?_
                                  refine p_step (by exact rfl) (y_load1 one_59 (et g0 rfl) (atXP)) ?_
                                  refine p_step (by exact rfl) (y_loadB agg_25 sz_25 (et (gS rfl (gS rfl (gS rfl (gS rfl g0)))) rfl) (by rw [List.size_toArray, length_bL, length_be]) (atXB k35_s (by omega))) ?_
                                  refine p_eff (by exact rfl) (e_callV cal_103 (aC (et (gS rfl g0) rfl) (aC (et g0 rfl) aN)) (hX.ex.codeC (argN f.stack 0 % A160) (Nat.mod_lt _ A160_pos))) (fun v43 w43 h43 => ?_)
                                  obtain ⟨H43, ca9, cc9, rfl, g43, n9⟩ := h43
                                  have nh8 : ¬ H43.has b8 := g43.nb (fun hh => by have := hfz.lt hh; omega) k8.lt
                                  have nh12 : ¬ H43.has b12 := g43.nb (fun hh => by have := hfz.lt hh; omega) k12.lt
                                  have nh16 : ¬ H43.has b16 := g43.nb (fun hh => by have := hfz.lt hh; omega) k16.lt
                                  have nh35 : ¬ H43.has b35 := g43.nb (fun hh => by have := hfz.lt hh; omega) k35.lt
                                  replace k8 := k8.ch g43.ch (by intro hm; exact hm.elim)
                                  replace k12 := k12.ch g43.ch (by intro hm; exact hm.elim)
                                  replace k16 := k16.ch g43.ch (by intro hm; exact hm.elim)
                                  replace k35 := k35.ch g43.ch (by intro hm; exact hm.elim)
                                  replace hX := hX.gn g43
                                  replace U := U.cc g43.ch (by intro b hb; exact .inl trivial)
                                  have hcl9 := hX.ex.codeLen (argN f.stack 0 % A160)
                                  have cq9 := SU.ch.size
                                  replace SU := SU.xc g43.ch (hX.ex.vl.c1 hX.ex.lx.pS rfl) (by intro b hlt hb; have h9 := cq b hlt; have e0 := hb; first | exact hb.elim | omega | (dsimp only at e0; omega))
                                  refine ⟨.inr SU, ?_⟩
                                  exact (by
                                    refine p_step (by exact rfl) (y_assignV (et g0 rfl)) ?_
                                    refine p_nil ?_
                                    refine hK41 _ _ ?_
                                    refine fg7 0 2 3 4 5 8 7 (gS rfl (gS rfl (gS rfl (gS rfl (gS rfl (gS rfl (gS rfl (gS rfl (gS rfl (gS rfl (gS rfl (gS rfl (gS rfl g0))))))))))))) (gS rfl (gS rfl (gS rfl (gS rfl (gS rfl (gS rfl (gS rfl (gS rfl (gS rfl (gS rfl (gS rfl (gS rfl g0)))))))))))) (gS rfl (gS rfl (gS rfl (gS rfl (gS rfl (gS rfl (gS rfl (gS rfl (gS rfl (gS rfl (gS rfl g0))))))))))) (gS rfl (gS rfl (gS rfl (gS rfl (gS rfl (gS rfl (gS rfl (gS rfl (gS rfl (gS rfl g0)))))))))) (gS rfl (gS rfl (gS rfl (gS rfl (gS rfl (gS rfl (gS rfl (gS rfl (gS rfl g0))))))))) (gS rfl (gS rfl (gS rfl (gS rfl (gS rfl (gS rfl (gS rfl (gS rfl g0)))))))) g0 (fun g => ?_)
                                    refine c_seq (fun K44 hK44 => ?_)
                                    exact (by
                                      refine c_region ?_
                                      refine l_step (y_loadB agg_65 sz_65 (et (gS rfl (gS rfl (gS rfl g0))) rfl) rfl (at1B k12)) ?_
                                      refine l_effN (e_store sz_65 (et (gS rfl (gS rfl (gS rfl (gS rfl (gS rfl g0))))) rfl) (cellsV (et g0 rfl) rfl) rfl (by exact one_uL _) k8 (by (first | (rw [hz8]; exact Nat.le_refl _) | (rw [List.size_toArray, wL_len]; exact Nat.le_refl _)))) (fun v45 w45 h45 => ?_)
                                      obtain ⟨rfl, x45⟩ := h45
                                      replace k12 := k12.ch x45.ch (by omega)
                                      replace k16 := k16.ch x45.ch (by omega)
                                      replace k35 := k35.ch x45.ch (by omega)
                                      replace hX := hX.ch x45.ch (by first | omega | (intro b hb; first | (subst hb; first | exact ⟨by omega, fun hh => by have := hfz.lt hh; omega, by omega⟩ | exact ⟨by omega, by assumption, by omega⟩) | (rcases hb with hb | hb <;> (subst hb; first | exact ⟨by omega, fun hh => by have := hfz.lt hh; omega, by omega⟩ | exact ⟨by omega, by assumption, by omega⟩))))
                                      replace k8 := x45.blk.full (by first | (rw [hz8]; rfl) | (rw [List.size_toArray, wL_len, wL_len]))
                                      replace U := U.st x45 (.inr f8)
                                      refine l_nil ?_
                                      refine hK44 _ _ ?_
                                      refine fg7 0 2 3 4 5 8 7 (gS rfl (gS rfl (gS rfl (gS rfl (gS rfl (gS rfl (gS rfl g0))))))) (gS rfl (gS rfl (gS rfl (gS rfl (gS rfl (gS rfl g0)))))) (gS rfl (gS rfl (gS rfl (gS rfl (gS rfl g0))))) (gS rfl (gS rfl (gS rfl (gS rfl g0)))) (gS rfl (gS rfl (gS rfl g0))) (gS rfl (gS rfl g0)) (gS rfl g0) (fun g => ?_)
                                      refine c_seq (fun K46 hK46 => ?_)
                                      exact (by
                                        refine c_region ?_
                                        refine l_step (y_loadB agg_65 sz_65 (et (gS rfl (gS rfl g0)) rfl) rfl (at1B k16)) ?_
                                        refine l_effN (e_store sz_65 (et (gS rfl (gS rfl (gS rfl (gS rfl g0)))) rfl) (cellsV (et g0 rfl) rfl) rfl (by exact one_uL _) k12 (by (first | (rw [hz12]; exact Nat.le_refl _) | (rw [List.size_toArray, wL_len]; exact Nat.le_refl _)))) (fun v47 w47 h47 => ?_)
                                        obtain ⟨rfl, x47⟩ := h47
                                        replace k8 := k8.ch x47.ch (by omega)
                                        replace k16 := k16.ch x47.ch (by omega)
                                        replace k35 := k35.ch x47.ch (by omega)
                                        replace hX := hX.ch x47.ch (by first | omega | (intro b hb; first | (subst hb; first | exact ⟨by omega, fun hh => by have := hfz.lt hh; omega, by omega⟩ | exact ⟨by omega, by assumption, by omega⟩) | (rcases hb with hb | hb <;> (subst hb; first | exact ⟨by omega, fun hh => by have := hfz.lt hh; omega, by omega⟩ | exact ⟨by omega, by assumption, by omega⟩))))
                                        replace k12 := x47.blk.full (by first | (rw [hz12]; rfl) | (rw [List.size_toArray, wL_len, wL_len]))
                                        replace U := U.st x47 (.inr f12)
                                        refine l_nil ?_
                                        refine hK46 _ _ ?_
                                        refine fg7 0 2 3 4 5 8 7 (gS rfl (gS rfl (gS rfl (gS rfl (gS rfl (gS rfl (gS rfl g0))))))) (gS rfl (gS rfl (gS rfl (gS rfl (gS rfl (gS rfl g0)))))) (gS rfl (gS rfl (gS rfl (gS rfl (gS rfl g0))))) (gS rfl (gS rfl (gS rfl (gS rfl g0)))) (gS rfl (gS rfl (gS rfl g0))) (gS rfl (gS rfl g0)) (gS rfl g0) (fun g => ?_)
                                        refine c_seq (fun K48 hK48 => ?_)
                                        exact (by
                                          refine c_region ?_
                                          refine l_step (y_moveV (et (gS rfl (gS rfl (gS rfl (gS rfl (gS rfl (gS rfl g0)))))) rfl)) ?_
                                          refine l_step (y_moveV (et (gS rfl (gS rfl (gS rfl (gS rfl (gS rfl (gS rfl g0)))))) rfl)) ?_
                                          refine l_eff (e_callV cal_264 (aC (et (gS rfl g0) rfl) (aC (et g0 rfl) (aC (v := .int .i64 ((3 : Nat) : Int)) rfl aN))) (m_arg hX.ex hsf hph1 rfl 3 (by decide))) (fun v49 w49 h49 => ?_)
                                          obtain ⟨rfl, u49⟩ := h49
                                          replace k8 := k8.up u49
                                          replace k12 := k12.up u49
                                          replace k16 := k16.up u49
                                          replace k35 := k35.up u49
                                          replace hX := hX.up u49
                                          replace U := U.tr u49
                                          refine l_effN (e_store sz_65 (et (gS rfl (gS rfl (gS rfl (gS rfl (gS rfl g0))))) rfl) (cellsV (et g0 rfl) rfl) rfl (by exact one_uL _) k16 (by (first | (rw [hz16]; exact Nat.le_refl _) | (rw [List.size_toArray, wL_len]; exact Nat.le_refl _)))) (fun v50 w50 h50 => ?_)
                                          obtain ⟨rfl, x50⟩ := h50
                                          replace k8 := k8.ch x50.ch (by omega)
                                          replace k12 := k12.ch x50.ch (by omega)
                                          replace k35 := k35.ch x50.ch (by omega)
                                          replace hX := hX.ch x50.ch (by first | omega | (intro b hb; first | (subst hb; first | exact ⟨by omega, fun hh => by have := hfz.lt hh; omega, by omega⟩ | exact ⟨by omega, by assumption, by omega⟩) | (rcases hb with hb | hb <;> (subst hb; first | exact ⟨by omega, fun hh => by have := hfz.lt hh; omega, by omega⟩ | exact ⟨by omega, by assumption, by omega⟩))))
                                          replace k16 := x50.blk.full (by first | (rw [hz16]; rfl) | (rw [List.size_toArray, wL_len, wL_len]))
                                          replace U := U.st x50 (.inr f16)
                                          refine l_nil ?_
                                          refine hK48 _ _ ?_
                                          refine fg7 0 2 3 4 5 8 7 (gS rfl (gS rfl (gS rfl (gS rfl (gS rfl (gS rfl (gS rfl (gS rfl (gS rfl g0))))))))) (gS rfl (gS rfl (gS rfl (gS rfl (gS rfl (gS rfl (gS rfl (gS rfl g0)))))))) (gS rfl (gS rfl (gS rfl (gS rfl (gS rfl (gS rfl (gS rfl g0))))))) (gS rfl (gS rfl (gS rfl (gS rfl (gS rfl (gS rfl g0)))))) (gS rfl (gS rfl (gS rfl (gS rfl (gS rfl g0))))) (gS rfl (gS rfl (gS rfl (gS rfl g0)))) (gS rfl (gS rfl (gS rfl g0))) (fun g => ?_)
                                          refine c_region ?_
                                          refine l_step y_assignC ?_
                                          refine l_nil ?_
                                          refine hQ24 _ _ _ (in_normal ?_)
                                          refine hK22 _ _ ?_
                                          refine c_seq (fun K51 hK51 => ?_)
                                          exact (by
                                            refine c_region ?_
                                            refine l_step y_assignC ?_
                                            refine l_nil ?_
                                            refine hK51 _ _ ?_
                                            refine c_seq (fun K52 hK52 => ?_)
                                            refine c_seq (fun K53 hK53 => ?_)
                                            exact (by
                                              refine c_region ?_
                                              refine l_step (y_moveV (et (gS rfl (gS rfl (gS rfl g0))) rfl)) ?_
                                              refine l_step (y_eql (et g0 rfl) rfl) ?_
                                              refine l_nil ?_
                                              refine hK53 _ _ ?_
                                              refine fg9 0 2 3 4 5 7 6 10 67 (gS rfl (gS rfl (gS rfl (gS rfl (gS rfl (gS rfl (gS rfl (gS rfl (gS rfl (gS rfl g0)))))))))) (gS rfl (gS rfl (gS rfl (gS rfl (gS rfl (gS rfl (gS rfl (gS rfl (gS rfl g0))))))))) (gS rfl (gS rfl (gS rfl (gS rfl (gS rfl (gS rfl (gS rfl (gS rfl g0)))))))) (gS rfl (gS rfl (gS rfl (gS rfl (gS rfl (gS rfl (gS rfl g0))))))) (gS rfl (gS rfl (gS rfl (gS rfl (gS rfl (gS rfl g0)))))) (gS rfl (gS rfl (gS rfl (gS rfl g0)))) (gS rfl (gS rfl (gS rfl g0))) (gS rfl (gS rfl g0)) g0 (fun g => ?_)
                                              refine c_false (et g0 rfl) (by (exact decide_eq_false (by omega))) ?_
                                              refine c_seq (fun K55 hK55 => ?_)
                                              exact (by
                                                refine c_region ?_
                                                refine l_step (y_loadB agg_65 sz_65 (et (gS rfl (gS rfl (gS rfl (gS rfl g0)))) rfl) rfl (at1B k16)) ?_
                                                refine l_eff (e_callV cal_78 (aC (et g0 rfl) aN) (isZero_spec _ _ (argN_lt hB _))) (fun v56 w56 h56 => ?_)
                                                obtain ⟨rfl, u56⟩ := h56
                                                replace k8 := k8.up u56
                                                replace k12 := k12.up u56
                                                replace k16 := k16.up u56
                                                replace k35 := k35.up u56
                                                replace hX := hX.up u56
                                                replace U := U.tr u56
                                                refine l_step (y_not (et g0 rfl)) ?_
                                                refine l_nil ?_
                                                refine hK55 _ _ ?_
                                                refine fg9 0 2 3 4 5 7 6 10 84 (gS rfl (gS rfl (gS rfl (gS rfl (gS rfl (gS rfl (gS rfl (gS rfl (gS rfl (gS rfl (gS rfl g0))))))))))) (gS rfl (gS rfl (gS rfl (gS rfl (gS rfl (gS rfl (gS rfl (gS rfl (gS rfl (gS rfl g0)))))))))) (gS rfl (gS rfl (gS rfl (gS rfl (gS rfl (gS rfl (gS rfl (gS rfl (gS rfl g0))))))))) (gS rfl (gS rfl (gS rfl (gS rfl (gS rfl (gS rfl (gS rfl (gS rfl g0)))))))) (gS rfl (gS rfl (gS rfl (gS rfl (gS rfl (gS rfl (gS rfl g0))))))) (gS rfl (gS rfl (gS rfl (gS rfl (gS rfl (gS rfl g0)))))) (gS rfl (gS rfl (gS rfl (gS rfl (gS rfl g0))))) (gS rfl (gS rfl (gS rfl (gS rfl g0)))) g0 (fun g => ?_)
                                                refine c_cond (et g0 rfl) (fun cB8 => ?_) (fun cB8 => ?_)
                                                · skip
                                                  
                                                  have y0 : argN f.stack 3 ≠ 0 := by simpa using cB8
                                                  have hr8 := hr y0
                                                  exact (by
                                                    refine c_draw (SX _ bc) 12 [(0, true), (1, true), (2, true), (3, true), (5, true), (6, true), (8, true), (4, false), (7, false), (9, false), (10, false), (11, true)] (by kernel_rfl) (fun w58 hu => ⟨SX.refl (hX.up hu), ?_⟩)
                                                    replace k8 := k8.up hu
                                                    replace k12 := k12.up hu
                                                    replace k16 := k16.up hu
                                                    replace k35 := k35.up hu
                                                    replace hX := hX.up hu
                                                    replace U := U.tr hu
                                                    have SU := SX.refl hX
                                                    have cq := cq_refl hX
                                                    have hX_s := hX
                                                    have k8_s := k8
                                                    have k12_s := k12
                                                    have k16_s := k16
                                                    have k35_s := k35
                                                    refine p_step (by exact rfl) (y_moveV (et (gS rfl (gS rfl (gS rfl (gS rfl (gS rfl (gS rfl (gS rfl (gS rfl g0)))))))) rfl)) ?_
                                                    refine p_step (by exact rfl) (y_nil (et g0 rfl)) ?_
                                                    refine p_step (by exact rfl) (y_fld fld_75_1 (et g0 rfl)) ?_
                                                    refine p_step (by exact rfl) (y_loadB agg_65 sz_65 (et (gS rfl (gS rfl (gS rfl (gS rfl (gS rfl (gS rfl (gS rfl (gS rfl (gS rfl g0))))))))) rfl) rfl (atXB k8_s (by omega))) ?_
                                                    refine p_step (by exact rfl) (y_moveV (et (gS rfl (gS rfl (gS rfl (gS rfl (gS rfl (gS rfl (gS rfl g0))))))) rfl)) ?_
                                                    refine p_step (by exact rfl) (y_loadB agg_65 sz_65 (et (gS rfl (gS rfl (gS rfl (gS rfl (gS rfl (gS rfl (gS rfl (gS rfl (gS rfl (gS rfl g0)))))))))) rfl) rfl (atXB k12_s (by omega))) ?_
                                                    refine p_step (by exact rfl) (y_loadB agg_65 sz_65 (et (gS rfl (gS rfl (gS rfl (gS rfl (gS rfl (gS rfl (gS rfl (gS rfl (gS rfl (gS rfl g0)))))))))) rfl) rfl (atXB k16_s (by omega))) ?_
                                                    refine p_eff (by exact rfl) (e_callV cal_299 (aC (et (gS rfl (gS rfl (gS rfl g0))) rfl) aN) (m_small _ _ (by omega))) (fun v59 w59 h59 => ?_)
                                                    obtain ⟨rfl, u59⟩ := h59
                                                    replace k8 := k8.up u59
                                                    replace k12 := k12.up u59
                                                    replace k16 := k16.up u59
                                                    replace k35 := k35.up u59
                                                    replace hX := hX.up u59
                                                    replace U := U.tr u59
                                                    refine ⟨.inr (SU.tr u59), ?_⟩
                                                    replace SU := SU.tr u59
                                                    exact (by
                                                      refine p_eff (by exact rfl) (e_callV cal_297 (aC (et (gS rfl (gS rfl g0)) rfl) aN) (mach_source _ _ (argN_lt hB _))) (fun v60 w60 h60 => ?_)
                                                      obtain ⟨rfl, u60⟩ := h60
                                                      replace k8 := k8.up u60
                                                      replace k12 := k12.up u60
                                                      replace k16 := k16.up u60
                                                      replace k35 := k35.up u60
                                                      replace hX := hX.up u60
                                                      replace U := U.tr u60
                                                      refine ⟨.inr (SU.tr u60), ?_⟩
                                                      replace SU := SU.tr u60
                                                      refine p_eff (by exact rfl) (e_callV cal_299 (aC (et (gS rfl (gS rfl g0)) rfl) aN) (m_small _ _ (by omega))) (fun v61 w61 h61 => ?_)
                                                      obtain ⟨rfl, u61⟩ := h61
                                                      replace k8 := k8.up u61
                                                      replace k12 := k12.up u61
                                                      replace k16 := k16.up u61
                                                      replace k35 := k35.up u61
                                                      replace hX := hX.up u61
                                                      replace U := U.tr u61
                                                      refine ⟨.inr (SU.tr u61), ?_⟩
                                                      replace SU := SU.tr u61
                                                      refine p_eff (by exact rfl) (e_callV cal_258 (aC (et (gS rfl (gS rfl (gS rfl (gS rfl (gS rfl (gS rfl (gS rfl g0))))))) rfl) (aC (et (gS rfl (gS rfl g0)) rfl) (aC (et (gS rfl (gS rfl (gS rfl (gS rfl (gS rfl g0))))) rfl) (aC (et (gS rfl g0) rfl) (aC (et g0 rfl) aN))))) (hX.ex.mWr hms _ _ _ (by omega) (by omega) (srcN_lt _) n9 (by omega))) (fun v62 w62 h62 => ?_)
                                                      obtain ⟨rfl, m62, z62⟩ := h62
                                                      replace k8 := k8.ch z62 (by intro hm; (have e0 := hm); omega)
                                                      replace k12 := k12.ch z62 (by intro hm; (have e0 := hm); omega)
                                                      replace k16 := k16.ch z62 (by intro hm; (have e0 := hm); omega)
                                                      replace k35 := k35.ch z62 (by intro hm; (have e0 := hm); omega)
                                                      replace hX := hX.mem z62 (fun b hb => hb) m62
                                                      replace U := U.cc z62 (by intro b hb; exact .inl trivial)
                                                      have cq9 := SU.ch.size
                                                      replace SU := SU.xc z62 (hX.ex.vl.c1 hX.ex.lx.pS rfl) (by intro b hlt hb; have h9 := cq b hlt; have e0 := hb; first | exact hb.elim | omega | (dsimp only at e0; omega))
                                                      refine ⟨.inr SU, ?_⟩
                                                      exact (by
                                                        refine p_step (by exact rfl) (y_assignV (et g0 rfl)) ?_
                                                        refine p_nil ?_
                                                        refine hK52 _ _ ?_
                                                        refine fg4 0 2 6 10 (gS rfl (gS rfl (gS rfl (gS rfl (gS rfl (gS rfl (gS rfl (gS rfl (gS rfl (gS rfl (gS rfl (gS rfl (gS rfl (gS rfl (gS rfl (gS rfl (gS rfl (gS rfl (gS rfl (gS rfl g0)))))))))))))))))))) (gS rfl (gS rfl (gS rfl (gS rfl (gS rfl (gS rfl (gS rfl (gS rfl (gS rfl (gS rfl (gS rfl (gS rfl (gS rfl (gS rfl (gS rfl (gS rfl (gS rfl (gS rfl (gS rfl g0))))))))))))))))))) (gS rfl (gS rfl (gS rfl (gS rfl (gS rfl (gS rfl (gS rfl (gS rfl (gS rfl (gS rfl (gS rfl (gS rfl (gS rfl (gS rfl g0)))))))))))))) g0 (fun g => ?_)
                                                        refine c_seq (fun K63 hK63 => ?_)
                                                        refine c_seq (fun K64 hK64 => ?_)
                                                        exact (by
                                                          refine c_region ?_
                                                          refine l_step (y_moveV (et g0 rfl)) ?_
                                                          refine l_step (y_not (et g0 rfl)) ?_
                                                          refine l_nil ?_
                                                          refine hK64 _ _ ?_
                                                          refine fg4 0 2 6 97 (gS rfl (gS rfl (gS rfl (gS rfl (gS rfl g0))))) (gS rfl (gS rfl (gS rfl (gS rfl g0)))) (gS rfl (gS rfl (gS rfl g0))) g0 (fun g => ?_)
                                                          refine c_false (et g0 rfl) (by rfl) ?_
                                                          refine c_skip ?_
                                                          refine hK63 _ _ ?_
                                                          refine fg3 0 2 6 (gS rfl (gS rfl (gS rfl g0))) (gS rfl (gS rfl g0)) (gS rfl g0) (fun g => ?_)
                                                          exact (by
                                                            refine c_region ?_
                                                            refine l_step (y_moveV (et (gS rfl (gS rfl g0)) rfl)) ?_
                                                            refine l_step (y_moveV (et (gS rfl (gS rfl g0)) rfl)) ?_
                                                            refine l_step (y_moveV (et (gS rfl (gS rfl g0)) rfl)) ?_
                                                            refine l_step (y_bld bN bld65_z) ?_
                                                            refine l_eff (e_callV cal_259 (aC (et (gS rfl (gS rfl (gS rfl g0))) rfl) (aC (et (gS rfl (gS rfl g0)) rfl) (aC (et (gS rfl g0) rfl) (aC rfl (aC (et g0 rfl) (aC (v := .int .u16 ((1 : Nat) : Int)) rfl aN)))))) (m_settle0 hX.ex hsf hph1 rfl 4 0 1 (by omega) (by decide) (by omega))) (fun v66 w66 h66 => ?_)
                                                            obtain ⟨rfl, cs66, y66⟩ := h66
                                                            replace k8 := k8.ch y66.et.go.ch (by intro hm; (have e0 := hm); omega)
                                                            replace k12 := k12.ch y66.et.go.ch (by intro hm; (have e0 := hm); omega)
                                                            replace k16 := k16.ch y66.et.go.ch (by intro hm; (have e0 := hm); omega)
                                                            replace k35 := k35.ch y66.et.go.ch (by intro hm; (have e0 := hm); omega)
                                                            replace hX := hX.trans y66
                                                            replace U := U.cc y66.et.go.ch (by intro b hb; exact .inl trivial)
                                                            refine l_nil ?_
                                                            refine end0 rfl ?_
                                                            rw [cut_src (by omega), hac, hs1] at hX
                                                            have e9 : cpN m (argN f.stack 1) (acctAt s.now.accts (argN f.stack 0 % A160)).code (argN f.stack 2) (argN f.stack 3) = wrN m (argN f.stack 1) (cutN (acctAt s.now.accts (argN f.stack 0 % A160)).code (argN f.stack 2) (argN f.stack 3)) := if_neg y0
                                                            exact ⟨rfl, _, _, _, _, by rw [e9]; exact hX⟩)))))
                                                · skip
                                                  
                                                  have y0 : argN f.stack 3 = 0 := by simpa using cB8
                                                  refine c_skip ?_
                                                  refine hK52 _ _ ?_
                                                  refine fg4 0 2 6 10 (gS rfl (gS rfl (gS rfl (gS rfl (gS rfl (gS rfl (gS rfl (gS rfl g0)))))))) (gS rfl (gS rfl (gS rfl (gS rfl (gS rfl (gS rfl (gS rfl g0))))))) (gS rfl (gS rfl g0)) (gS rfl g0) (fun g => ?_)
                                                  refine c_seq (fun K67 hK67 => ?_)
                                                  refine c_seq (fun K68 hK68 => ?_)
                                                  exact (by
                                                    refine c_region ?_
                                                    refine l_step (y_moveV (et g0 rfl)) ?_
                                                    refine l_step (y_not (et g0 rfl)) ?_
                                                    refine l_nil ?_
                                                    refine hK68 _ _ ?_
                                                    refine fg4 0 2 6 97 (gS rfl (gS rfl (gS rfl (gS rfl (gS rfl g0))))) (gS rfl (gS rfl (gS rfl (gS rfl g0)))) (gS rfl (gS rfl (gS rfl g0))) g0 (fun g => ?_)
                                                    refine c_false (et g0 rfl) rfl ?_
                                                    refine c_skip ?_
                                                    refine hK67 _ _ ?_
                                                    refine fg3 0 2 6 (gS rfl (gS rfl (gS rfl g0))) (gS rfl (gS rfl g0)) (gS rfl g0) (fun g => ?_)
                                                    exact (by
                                                      refine c_region ?_
                                                      refine l_step (y_moveV (et (gS rfl (gS rfl g0)) rfl)) ?_
                                                      refine l_step (y_moveV (et (gS rfl (gS rfl g0)) rfl)) ?_
                                                      refine l_step (y_moveV (et (gS rfl (gS rfl g0)) rfl)) ?_
                                                      refine l_step (y_bld bN bld65_z) ?_
                                                      refine l_eff (e_callV cal_259 (aC (et (gS rfl (gS rfl (gS rfl g0))) rfl) (aC (et (gS rfl (gS rfl g0)) rfl) (aC (et (gS rfl g0) rfl) (aC rfl (aC (et g0 rfl) (aC (v := .int .u16 ((1 : Nat) : Int)) rfl aN)))))) (m_settle0 hX.ex hsf hph1 rfl 4 0 1 (by omega) (by decide) (by omega))) (fun v70 w70 h70 => ?_)
                                                      obtain ⟨rfl, cs70, y70⟩ := h70
                                                      replace k8 := k8.ch y70.et.go.ch (by intro hm; (have e0 := hm); omega)
                                                      replace k12 := k12.ch y70.et.go.ch (by intro hm; (have e0 := hm); omega)
                                                      replace k16 := k16.ch y70.et.go.ch (by intro hm; (have e0 := hm); omega)
                                                      replace k35 := k35.ch y70.et.go.ch (by intro hm; (have e0 := hm); omega)
                                                      replace hX := hX.trans y70
                                                      replace U := U.cc y70.et.go.ch (by intro b hb; exact .inl trivial)
                                                      refine l_nil ?_
                                                      refine end0 rfl ?_
                                                      have e9 : cpN m (argN f.stack 1) (acctAt s.now.accts (argN f.stack 0 % A160)).code (argN f.stack 2) (argN f.stack 3) = m := if_pos y0
                                                      rw [hms, hs1] at hX
                                                      exact ⟨rfl, _, _, _, _, by rw [e9]; exact hX⟩)))))))))))))))))))))))))
end Go.Proofs.YgvaawGreat
