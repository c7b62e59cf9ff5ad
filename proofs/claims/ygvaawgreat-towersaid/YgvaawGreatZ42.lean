import Derived.Test.YgvaawGreatZ36
set_option maxRecDepth 100000
set_option maxHeartbeats 4000000
set_option linter.unusedSimpArgs false
set_option linter.unusedVariables false
namespace Go.Proofs.YgvaawGreat
open Go
theorem imm_specE (o : Nat) (w : World) (ho : o < 256) {k : Nat} (h : k = immN o) : Ret 151 [.int .u8 o] w (fun v w' => v = .int .u8 (k : Nat) ∧ Up w w') := by subst h; exact imm_spec o w ho
theorem row_byteE {w : World} {b o o' : Nat} {l : List Nat} (h : Row w b o (bL l)) {j : Nat} (hj : j < l.length) (e : o' = o + j * 1) : w.cell? ⟨b, o', none⟩ = some (.int .u8 (l[j] : Nat)) := by subst e; exact row_byte h hj
theorem push_step {L : List Nat} {i : Nat} (hd : Dig 256 L) (hi : i < 8) (hl : i < L.length) : ofBE (L.take i) * 256 % 18446744073709551616 ||| L[i] = ofBE (L.take (i + 1)) := by
  have h1 : ofBE (L.take i) < 256 ^ 7 := Nat.lt_of_lt_of_le (ofBE_lt _ (hd.take i)) (Nat.pow_le_pow_right (by decide) (by rw [List.length_take]; omega))
  have h2 : L[i] < 256 := hd _ (List.getElem_mem _)
  have e : L.take (i + 1) = L.take i ++ [L[i]] := (List.take_append_getElem hl).symm
  rw [Nat.mod_eq_of_lt (by omega), Nat.or_comm, or_add (i := 8) h2 (by omega), e, ofBE_append]
  simp [ofBE]
  omega
theorem bld65_c (x : Nat) (w : World) : (Instr.build 65 ([(0, Value.int .u64 (x : Nat))] : List (Nat × Value)).toArray).run Hvaa.prog w = .ok (.agg ([Value.int .u64 (x : Nat), .int .u64 0, .int .u64 0, .int .u64 0] : List Value).toArray) w := by kernel_rfl
theorem bld65_x (x : Nat) (hx : x < 18446744073709551616) (w : World) : (Instr.build 65 ([(0, Value.int .u64 (x : Nat))] : List (Nat × Value)).toArray).run Hvaa.prog w = .ok (wV x) w := by
  have e : wV x = .agg ([Value.int .u64 (x : Nat), .int .u64 0, .int .u64 0, .int .u64 0] : List Value).toArray := by
    have h0 : limb x 0 = x := by unfold limb; rw [Nat.pow_zero, Nat.div_one, Nat.mod_eq_of_lt hx]
    have h1 : limb x 1 = 0 := by unfold limb; rw [Nat.div_eq_of_lt (by omega)]
    have h2 : limb x 2 = 0 := by unfold limb; rw [Nat.div_eq_of_lt (by omega)]
    have h3 : limb x 3 = 0 := by unfold limb; rw [Nat.div_eq_of_lt (by omega)]
    show Value.agg ([Value.int .u64 (limb x 0 : Nat), .int .u64 (limb x 1 : Nat), .int .u64 (limb x 2 : Nat), .int .u64 (limb x 3 : Nat)] : List Value).toArray = _
    rw [h0, h1, h2, h3]
    rfl
  rw [e]
  exact bld65_c x w
theorem cut_fit {l : List Nat} {o n : Nat} (h : o + n ≤ l.length) : cutN l o n = (l.drop o).take n := by
  unfold cutN
  rw [show n - (l.length - o) = 0 by omega, List.replicate_zero, List.append_nil]
theorem m_opPush {w : World} {H : Store} {col : Nat → Nat} {bc : Nat} {cs : Array Value} {V : EV} {s : YSt} {sn : List Nat} {sv : List AW} {ms : List (List Nat)} {c : Nat} {low : List YF} {f : YF} (hE : EX w H col bc cs V s sn sv ms c) (hs : s.frames = low ++ [f]) (hp : s.phase = 1) {q : Nat} (hq : opcN f = q) (hqq : 95 ≤ q ∧ q ≤ 127) (hpc9 : f.pc < 512) (hst9 : f.stack.length < 64) :
    Ret 316 [.pointer (some ⟨bc, 0, none⟩)] w (fun v w' => v = .tuple #[] ∧ ∃ cs', XT w H col w' H col bc cs' V { s with frames := low ++ [setF f 0 true (ofBE (cutN f.code (f.pc + 1) (immN (opcN f)))) (1 + immN (opcN f))] } sn sv ms c) := by
  obtain ⟨n9, hn9, hR⟩ := hE.topF hs
  have hB := hE.fbT hs
  have h6 := hE.six hs
  have htop := hE.cTop hs
  have hphs := hE.cPh hp
  have hbp := hB.pc
  have hbs := hB.stk
  have hbg := hB.gas
  have hbc9 := hB.code
  have hnw := hE.vl.new
  have hfz := hE.vl.fz
  have hcC := hE.vl.colC
  have hbc0 := hE.vl.kC.lt
  have hX := XT.refl hE
  obtain ⟨ca9, cc9, ia9, ic9, hr5, hcode, hinp⟩ := hR.r5
  have himl := imm_le (opcN f)
  obtain ⟨IM, hIM⟩ : ∃ IM, IM = immN (opcN f) := ⟨_, rfl⟩
  rw [← hIM] at himl ⊢
  have hpl : f.pc < f.code.length := by
    refine Classical.byContradiction fun h9 => ?_
    have : opcN f = 0 := by unfold opcN; rw [List.getElem?_eq_none (by omega)]; rfl
    omega
  obtain ⟨_, _, e9, hcl9, hcm9⟩ := (hcode.wv hE.vl.fz).val
  cases e9
  obtain ⟨b0, o0, rfl, hb00, hr0⟩ := (hcode.wv hE.vl.fz).at (by omega)
  obtain ⟨pa, hpa⟩ : ∃ pa : Addr, pa = if cc9 = f.pc + 1 then ⟨b0, o0, none⟩ else ⟨b0, o0 + (f.pc + 1) * 1, none⟩ := ⟨_, rfl⟩
  have hxc : ofBE (cutN f.code (f.pc + 1) IM) < W256 := Nat.lt_of_lt_of_le (cut_lt hB.cdig _ _) (Nat.pow_le_pow_right (n := 256) (i := IM) (j := 32) (by decide) (by omega))
  refine enter (n := 96) Hvaa.func316 rfl rfl (Nat.le_of_ble_eq_true rfl) ?_
  have U : Ch (fun _ => True) w w := Ch.refl _ w
  refine c_seq (fun K1 hK1 => ?_)
  exact (by
    refine c_region ?_
    refine l_step (y_moveV (et g0 rfl)) ?_
    refine l_eff (e_callV cal_183 (aC (et g0 rfl) aN) (m_running hX.ex hs hp)) (fun v2 w2 h2 => ?_)
    obtain ⟨rfl, u2⟩ := h2
    replace hX := hX.up u2
    replace U := U.tr u2
    refine l_step (y_assignV (et g0 rfl)) ?_
    refine l_nil ?_
    refine hK1 _ _ ?_
    refine fg2 0 2 (gS rfl (gS rfl (gS rfl g0))) g0 (fun g => ?_)
    refine c_seq (fun K3 hK3 => ?_)
    refine c_seq (fun K4 hK4 => ?_)
    exact (by
      refine c_region ?_
      refine l_step (y_moveV (et g0 rfl)) ?_
      refine l_step (y_eqlNil Hvaa.underlying276 (et g0 rfl) rfl) ?_
      refine l_nil ?_
      refine hK4 _ _ ?_
      refine fg3 0 2 13 (gS rfl (gS rfl (gS rfl g0))) (gS rfl (gS rfl g0)) g0 (fun g => ?_)
      refine c_false (et g0 rfl) rfl ?_
      refine c_skip ?_
      refine hK3 _ _ ?_
      refine fg2 0 2 (gS rfl (gS rfl g0)) (gS rfl g0) (fun g => ?_)
      refine c_seq (fun K6 hK6 => ?_)
      exact (by
        refine c_region ?_
        refine l_step (y_moveV (et (gS rfl g0) rfl)) ?_
        refine l_eff (e_callV cal_108 (aC (et g0 rfl) aN) (m_opcode hX.ex hs hp)) (fun v7 w7 h7 => ?_)
        obtain ⟨rfl, u7⟩ := h7
        replace hX := hX.up u7
        replace U := U.tr u7
        refine l_eff (e_callV cal_151 (aC (et g0 rfl) aN) (imm_specE _ _ (by omega) hIM)) (fun v8 w8 h8 => ?_)
        obtain ⟨rfl, u8⟩ := h8
        replace hX := hX.up u8
        replace U := U.tr u8
        refine l_step (y_conv Hvaa.underlying5 Hvaa.underlying3 (et g0 rfl) (wrapIN ?_)) ?_
        omega
        refine l_step (y_assignV (et g0 rfl)) ?_
        refine l_nil ?_
        refine hK6 _ _ ?_
        refine fg3 0 2 3 (gS rfl (gS rfl (gS rfl (gS rfl (gS rfl (gS rfl g0)))))) (gS rfl (gS rfl (gS rfl (gS rfl (gS rfl g0))))) g0 (fun g => ?_)
        refine c_seq (fun K9 hK9 => ?_)
        refine c_seq (fun K10 hK10 => ?_)
        exact (by
          refine c_region ?_
          refine l_step (y_moveV (et (gS rfl g0) rfl)) ?_
          refine l_step (y_nil (et g0 rfl)) ?_
          refine l_step (y_fld fld_71_4 (et g0 rfl)) ?_
          refine l_step (y_load1 one_67 (et g0 rfl) (at1 (hX.ex.vl.c1 (hR.r1 4 _ rfl) (by omega)))) ?_
          refine l_step (y_conv Hvaa.underlying67 Hvaa.underlying3 (et g0 rfl) (wrapIN ?_)) ?_
          omega
          refine l_step (y_add (et g0 rfl) rfl (addIN (y := 1) ?_)) ?_
          omega
          refine l_step (y_moveV (et (gS rfl (gS rfl (gS rfl (gS rfl (gS rfl (gS rfl g0)))))) rfl)) ?_
          refine l_step (y_add (et (gS rfl g0) rfl) (et g0 rfl) (addIN ?_)) ?_
          omega
          refine l_step (y_assignV (et g0 rfl)) ?_
          refine l_nil ?_
          refine hK10 _ _ ?_
          refine fg4 0 2 3 4 (gS rfl (gS rfl (gS rfl (gS rfl (gS rfl (gS rfl (gS rfl (gS rfl (gS rfl (gS rfl (gS rfl g0))))))))))) (gS rfl (gS rfl (gS rfl (gS rfl (gS rfl (gS rfl (gS rfl (gS rfl (gS rfl (gS rfl g0)))))))))) (gS rfl (gS rfl (gS rfl (gS rfl (gS rfl (gS rfl (gS rfl (gS rfl (gS rfl g0))))))))) g0 (fun g => ?_)
          refine c_seq (fun K11 hK11 => ?_)
          exact (by
            refine c_region ?_
            refine l_step (y_moveV (et (gS rfl g0) rfl)) ?_
            refine l_step (y_leq (et g0 rfl) rfl) ?_
            refine l_step (y_moveV (et g0 rfl)) ?_
            refine gsplitL (i := 28) g0 (fun q12 => ?_) (fun q12 => ?_)
            · skip
              have hn8 : IM ≤ 8 := by have := of_decide_eq_true q12; omega
              refine l_gstep (j := 2) (t := 28) (by exact rfl) (by exact rfl) (et g0 rfl) (by decide) (y_moveV (et (gS rfl (gS rfl (gS rfl (gS rfl g0)))) rfl)) ?_
              refine l_gstep (j := 2) (t := 28) (by exact rfl) (by exact rfl) (et (gS rfl g0) rfl) (by decide) (y_moveV (et (gS rfl (gS rfl (gS rfl (gS rfl (gS rfl (gS rfl (gS rfl g0))))))) rfl)) ?_
              refine l_gstep (j := 2) (t := 28) (by exact rfl) (by exact rfl) (et (gS rfl (gS rfl g0)) rfl) (by decide) (y_nil (et g0 rfl)) ?_
              refine l_gstep (j := 2) (t := 28) (by exact rfl) (by exact rfl) (et (gS rfl (gS rfl (gS rfl g0))) rfl) (by decide) (y_fld fld_71_12 (et g0 rfl)) ?_
              refine l_gstep (j := 2) (t := 28) (by exact rfl) (by exact rfl) (et (gS rfl (gS rfl (gS rfl (gS rfl g0)))) rfl) (by decide) (y_load1 one_38 (et g0 rfl) (at1 (hX.ex.vl.c1 (hr5 0 _ rfl) (by omega)))) ?_
              refine l_gstep (j := 2) (t := 28) (by exact rfl) (by exact rfl) (et (gS rfl (gS rfl (gS rfl (gS rfl (gS rfl g0))))) rfl) (by decide) (y_len Hvaa.underlying38 (et g0 rfl)) ?_
              refine l_gstep (j := 2) (t := 28) (by exact rfl) (by exact rfl) (et (gS rfl (gS rfl (gS rfl (gS rfl (gS rfl (gS rfl g0)))))) rfl) (by decide) (y_leq (et (gS rfl (gS rfl (gS rfl (gS rfl (gS rfl g0))))) rfl) (et g0 rfl)) ?_
              refine l_step (y_pickT (et (gS rfl (gS rfl (gS rfl (gS rfl (gS rfl (gS rfl (gS rfl g0))))))) rfl) (et g0 rfl)) ?_
              refine l_nil ?_
              refine hK11 _ _ ?_
              refine fg5 0 2 3 4 36 (gS rfl (gS rfl (gS rfl (gS rfl (gS rfl (gS rfl (gS rfl (gS rfl (gS rfl (gS rfl (gS rfl (gS rfl (gS rfl (gS rfl (gS rfl g0))))))))))))))) (gS rfl (gS rfl (gS rfl (gS rfl (gS rfl (gS rfl (gS rfl (gS rfl (gS rfl (gS rfl (gS rfl (gS rfl (gS rfl (gS rfl g0)))))))))))))) (gS rfl (gS rfl (gS rfl (gS rfl (gS rfl (gS rfl (gS rfl (gS rfl (gS rfl (gS rfl (gS rfl (gS rfl (gS rfl g0))))))))))))) (gS rfl (gS rfl (gS rfl (gS rfl (gS rfl (gS rfl (gS rfl (gS rfl (gS rfl (gS rfl (gS rfl (gS rfl g0)))))))))))) g0 (fun g => ?_)
              refine c_cond (et g0 rfl) (fun cB2 => ?_) (fun cB2 => ?_)
              · skip
                
                have hfit : f.pc + 1 + IM ≤ f.code.length := by have := of_decide_eq_true cB2; omega
                refine c_seq (fun K14 hK14 => ?_)
                exact (by
                  refine c_region ?_
                  refine l_step y_assignC ?_
                  refine l_nil ?_
                  refine hK14 _ _ ?_
                  refine fg5 0 2 3 4 5 (gS rfl (gS rfl (gS rfl (gS rfl (gS rfl g0))))) (gS rfl (gS rfl (gS rfl (gS rfl g0)))) (gS rfl (gS rfl (gS rfl g0))) (gS rfl (gS rfl g0)) g0 (fun g => ?_)
                  refine c_seq (fun K15 hK15 => ?_)
                  refine c_seq (fun K16 hK16 => ?_)
                  exact (by
                    refine c_region ?_
                    refine l_step (y_moveV (et (gS rfl (gS rfl (gS rfl g0))) rfl)) ?_
                    refine l_step (y_nil (et g0 rfl)) ?_
                    refine l_step (y_fld fld_71_12 (et g0 rfl)) ?_
                    refine l_step (y_load1 one_38 (et g0 rfl) (at1 (hX.ex.vl.c1 (hr5 0 _ rfl) (by omega)))) ?_
                    refine l_step (y_moveV (et (gS rfl (gS rfl (gS rfl (gS rfl (gS rfl g0))))) rfl)) ?_
                    refine l_step (y_moveV (et (gS rfl (gS rfl (gS rfl (gS rfl (gS rfl (gS rfl (gS rfl g0))))))) rfl)) ?_
                    refine l_step (y_sub (et (gS rfl g0) rfl) (et g0 rfl) (subIN ?_ ?_)) ?_
                    omega
                    omega
                    refine l_step (y_moveV (et (gS rfl (gS rfl (gS rfl (gS rfl (gS rfl (gS rfl (gS rfl (gS rfl g0)))))))) rfl)) ?_
                    refine l_step ((y_slS110g Hvaa.underlying38 sz_5 (et (gS rfl (gS rfl (gS rfl (gS rfl g0)))) rfl) (et (gS rfl g0) rfl) (et g0 rfl) ?_ ?_ ?_ ?_).to (show _ = Value.slice (some pa) IM (cc9 - (f.pc + 1)) from by rw [hpa, show ((f.pc + 1 + IM - IM : Nat) : Int).toNat = f.pc + 1 by omega, show ((f.pc + 1 + IM : Nat) : Int).toNat - (f.pc + 1) = IM by omega])) ?_
                    omega
                    omega
                    omega
                    omega
                    refine l_step (y_len Hvaa.underlying38 (et g0 rfl)) ?_
                    refine l_step y_moveC ?_
                    refine l_nil ?_
                    refine hK16 _ _ ?_
                    refine fg7 0 2 3 5 45 46 47 (gS rfl (gS rfl (gS rfl (gS rfl (gS rfl (gS rfl (gS rfl (gS rfl (gS rfl (gS rfl (gS rfl (gS rfl (gS rfl (gS rfl (gS rfl g0))))))))))))))) (gS rfl (gS rfl (gS rfl (gS rfl (gS rfl (gS rfl (gS rfl (gS rfl (gS rfl (gS rfl (gS rfl (gS rfl (gS rfl (gS rfl g0)))))))))))))) (gS rfl (gS rfl (gS rfl (gS rfl (gS rfl (gS rfl (gS rfl (gS rfl (gS rfl (gS rfl (gS rfl (gS rfl (gS rfl g0))))))))))))) (gS rfl (gS rfl (gS rfl (gS rfl (gS rfl (gS rfl (gS rfl (gS rfl (gS rfl (gS rfl (gS rfl g0))))))))))) (gS rfl (gS rfl g0)) (gS rfl g0) g0 (fun g => ?_)
                    refine c_block (fun Q17 hQ17 => ?_)
                    refine fg7 0 2 3 5 45 46 47 (gS rfl (gS rfl (gS rfl (gS rfl (gS rfl (gS rfl g0)))))) (gS rfl (gS rfl (gS rfl (gS rfl (gS rfl g0))))) (gS rfl (gS rfl (gS rfl (gS rfl g0)))) (gS rfl (gS rfl (gS rfl g0))) (gS rfl (gS rfl g0)) (gS rfl g0) g0 (fun g => ?_)
                    refine c_loop (fun k_ s_ W18 => ∃ (g : Nat → Value) (x i : Nat), s_ = (upd (upd (upd (upd (upd (upd (upd g 0 (.pointer (some ⟨bc, 0, none⟩))) 2 (.pointer (some ⟨bc, 1803 + 65 * low.length, none⟩))) 3 (.int .i64 (IM : Nat))) 5 (.int .u64 (x : Nat))) 45 (.slice (some pa) IM (cc9 - (f.pc + 1)))) 46 (.int .i64 (IM : Nat))) 47 (.int .i64 (i : Nat))) ∧ IM - i = k_ ∧ (i ≤ IM) ∧ (x = ofBE ((f.code.drop (f.pc + 1)).take i)) ∧ Ch (fun k => False) w8 W18) (IM - (0)) ?_ ?_
                    · exact ⟨g, 0, 0, rfl, rfl, Nat.zero_le _, rfl, Ch.refl _ _⟩
                    · skip
                      intro k_ s_ W18 hI K18 hK18
                      obtain ⟨g, x, i, rfl, rfl, hi, hx, V18⟩ := hI
                      replace hX := hX.ch V18 (by first | exact fun h => h | exact fun _ h => h.elim | exact fun _ _ h => h)
                      replace U := U.cc V18 (by intro b hb; first | exact hb.elim | omega | (simp at hb ⊢; omega))
                      refine c_seq (fun K19 hK19 => ?_)
                      exact (by
                        refine c_region ?_
                        refine l_step (y_lss (et g0 rfl) (et (gS rfl g0) rfl)) ?_
                        refine l_nil ?_
                        refine hK19 _ _ ?_
                        refine c_seq (fun K20 hK20 => ?_)
                        refine c_cond (et g0 rfl) (fun cB3 => ?_) (fun cB3 => ?_)
                        · skip
                          
                          have hi3 : i < IM := by have := of_decide_eq_true cB3; omega
                          have hdl : i < (f.code.drop (f.pc + 1)).length := by rw [List.length_drop]; omega
                          have hpe : pa = ⟨b0, o0 + (f.pc + 1) * 1, none⟩ := by rw [hpa, if_neg (by omega)]
                          have hxl : x < 256 ^ 7 := by rw [hx]; exact Nat.lt_of_lt_of_le (ofBE_lt _ ((hB.cdig.drop _).take i)) (Nat.pow_le_pow_right (by decide) (by rw [List.length_take]; omega))
                          have hby : f.code[f.pc + 1 + i] < 256 := hB.cdig _ (List.getElem_mem _)
                          refine c_skip ?_
                          refine hK20 _ _ ?_
                          refine fg7 0 2 3 5 45 46 47 (gS rfl (gS rfl (gS rfl (gS rfl (gS rfl (gS rfl (gS rfl g0))))))) (gS rfl (gS rfl (gS rfl (gS rfl (gS rfl (gS rfl g0)))))) (gS rfl (gS rfl (gS rfl (gS rfl (gS rfl g0))))) (gS rfl (gS rfl (gS rfl (gS rfl g0)))) (gS rfl (gS rfl (gS rfl g0))) (gS rfl (gS rfl g0)) (gS rfl g0) (fun g => ?_)
                          refine c_seq (fun K22 hK22 => ?_)
                          refine c_block (fun Q23 hQ23 => ?_)
                          refine c_seq (fun K24 hK24 => ?_)
                          exact (by
                            refine c_region ?_
                            refine l_step (y_idxSa (congrArg some hpe) Hvaa.underlying38 sz_5 (et (gS rfl (gS rfl g0)) rfl) (et g0 rfl) ?_) ?_
                            omega
                            obtain ⟨b2, o2, hae, hb22, hr2⟩ := (hcode.wv hX.ex.vl.fz).at (by omega)
                            cases hae
                            refine l_step (y_load1 one_5 (et g0 rfl) (at1 (row_byteE hr2 (j := f.pc + 1 + i) (by omega) (by omega)))) ?_
                            refine l_step (y_assignV (et g0 rfl)) ?_
                            refine l_nil ?_
                            refine hK24 _ _ ?_
                            refine fg8 0 2 3 5 45 46 47 7 (gS rfl (gS rfl (gS rfl (gS rfl (gS rfl (gS rfl (gS rfl (gS rfl (gS rfl g0))))))))) (gS rfl (gS rfl (gS rfl (gS rfl (gS rfl (gS rfl (gS rfl (gS rfl g0)))))))) (gS rfl (gS rfl (gS rfl (gS rfl (gS rfl (gS rfl (gS rfl g0))))))) (gS rfl (gS rfl (gS rfl (gS rfl (gS rfl (gS rfl g0)))))) (gS rfl (gS rfl (gS rfl (gS rfl (gS rfl g0))))) (gS rfl (gS rfl (gS rfl (gS rfl g0)))) (gS rfl (gS rfl (gS rfl g0))) g0 (fun g => ?_)
                            refine c_region ?_
                            refine l_step (y_moveV (et (gS rfl (gS rfl (gS rfl (gS rfl g0)))) rfl)) ?_
                            refine l_step (y_shl (et g0 rfl) rfl (by decide) (shl64C 8 256 (by decide) rfl)) ?_
                            refine l_step (y_moveV (et (gS rfl (gS rfl g0)) rfl)) ?_
                            refine l_step (y_conv Hvaa.underlying5 Hvaa.underlying26 (et g0 rfl) (wrapU_id uk64 ?_)) ?_
                            omega
                            refine l_step (y_or uk64 (et (gS rfl (gS rfl g0)) rfl) (et g0 rfl) ?_ ?_) ?_
                            omega
                            omega
                            refine l_step (y_assignV (et g0 rfl)) ?_
                            refine l_nil ?_
                            refine hQ23 _ _ _ (in_normal ?_)
                            refine hK22 _ _ ?_
                            refine fg7 0 2 3 5 45 46 47 (gS rfl (gS rfl (gS rfl (gS rfl (gS rfl (gS rfl (gS rfl (gS rfl (gS rfl (gS rfl (gS rfl (gS rfl (gS rfl g0))))))))))))) (gS rfl (gS rfl (gS rfl (gS rfl (gS rfl (gS rfl (gS rfl (gS rfl (gS rfl (gS rfl (gS rfl (gS rfl g0)))))))))))) (gS rfl (gS rfl (gS rfl (gS rfl (gS rfl (gS rfl (gS rfl (gS rfl (gS rfl (gS rfl (gS rfl g0))))))))))) g0 (gS rfl (gS rfl (gS rfl (gS rfl (gS rfl (gS rfl (gS rfl (gS rfl (gS rfl g0))))))))) (gS rfl (gS rfl (gS rfl (gS rfl (gS rfl (gS rfl (gS rfl (gS rfl g0)))))))) (gS rfl (gS rfl (gS rfl (gS rfl (gS rfl (gS rfl (gS rfl g0))))))) (fun g => ?_)
                            refine c_region ?_
                            refine l_step (y_add (et g0 rfl) rfl (addIN (y := 1) ?_)) ?_
                            omega
                            refine l_step (y_moveV (et g0 rfl)) ?_
                            refine l_nil ?_
                            refine fK7 0 2 3 5 45 46 47 (gS rfl (gS rfl (gS rfl (gS rfl (gS rfl (gS rfl (gS rfl (gS rfl g0)))))))) (gS rfl (gS rfl (gS rfl (gS rfl (gS rfl (gS rfl (gS rfl g0))))))) (gS rfl (gS rfl (gS rfl (gS rfl (gS rfl (gS rfl g0)))))) (gS rfl (gS rfl (gS rfl (gS rfl (gS rfl g0))))) (gS rfl (gS rfl (gS rfl (gS rfl g0)))) (gS rfl (gS rfl (gS rfl g0))) g0 (fun g => ?_)
                            exact hK18 (IM - ((i + 1))) _ _ (by omega) ⟨g, _, (i + 1), rfl, rfl, by omega, by rw [hx]; have h9 := push_step (hB.cdig.drop (f.pc + 1)) (show i < 8 by omega) hdl; rw [List.getElem_drop] at h9; exact h9, V18⟩)
                        · skip
                          
                          have hi3 : IM = i := by have := of_decide_eq_false cB3; omega
                          subst hi3
                          refine c_exit ?_
                          refine hQ17 _ _ _ (in_exit ?_)
                          refine hK15 _ _ ?_
                          refine fg4 0 2 3 5 (gS rfl (gS rfl (gS rfl (gS rfl (gS rfl (gS rfl (gS rfl g0))))))) (gS rfl (gS rfl (gS rfl (gS rfl (gS rfl (gS rfl g0)))))) (gS rfl (gS rfl (gS rfl (gS rfl (gS rfl g0))))) (gS rfl (gS rfl (gS rfl (gS rfl g0)))) (fun g => ?_)
                          refine c_seq (fun K25 hK25 => ?_)
                          exact (by
                            refine c_region ?_
                            refine l_step (y_moveV (et (gS rfl (gS rfl (gS rfl g0))) rfl)) ?_
                            refine l_step (y_moveV (et (gS rfl (gS rfl (gS rfl g0))) rfl)) ?_
                            refine l_step (y_moveV (et (gS rfl (gS rfl g0)) rfl)) ?_
                            have hx64 : x < 18446744073709551616 := by rw [hx]; exact Nat.lt_of_lt_of_le (ofBE_lt _ ((hB.cdig.drop _).take _)) (Nat.le_trans (Nat.pow_le_pow_right (n := 256) (j := 8) (by decide) (by rw [List.length_take]; omega)) (by decide))
                            refine l_step (y_bld (bC (et g0 rfl) bN) (bld65_x _ hx64)) ?_
                            refine l_step (y_moveV (et (gS rfl (gS rfl (gS rfl (gS rfl (gS rfl g0))))) rfl)) ?_
                            refine l_step (y_add rfl (et g0 rfl) (addIN (x := 1) ?_)) ?_
                            omega
                            refine l_step (y_conv Hvaa.underlying3 Hvaa.underlying67 (et g0 rfl) (wrapU_id uk16 ?_)) ?_
                            omega
                            refine l_eff (e_callV cal_259 (aC (et (gS rfl (gS rfl (gS rfl (gS rfl (gS rfl (gS rfl g0)))))) rfl) (aC (et (gS rfl (gS rfl (gS rfl (gS rfl (gS rfl g0))))) rfl) (aC (v := .int .u16 ((0 : Nat) : Int)) rfl (aC rfl (aC (et (gS rfl (gS rfl (gS rfl g0))) rfl) (aC (et g0 rfl) aN)))))) (m_settle1 hX.ex hs hp rfl 0 _ (1 + IM) (Nat.zero_le _) (Nat.lt_trans hx64 (by decide)) (by omega) (by omega))) (fun v26 w26 h26 => ?_)
                            obtain ⟨rfl, cs26, y26⟩ := h26
                            replace hX := hX.trans y26
                            replace U := U.cc y26.et.go.ch (by intro b hb; exact .inl trivial)
                            refine l_nil ?_
                            refine hK25 _ _ ?_
                            refine fg0 (fun g => ?_)
                            refine c_ret ?_
                            repeat with_reducible refine then_ret ?_
                            refine ret0 rfl ?_
                            rw [hx, ← cut_fit hfit] at hX
                            exact ⟨rfl, _, hX⟩))))
              · skip
                
                have hfit : ¬ f.pc + 1 + IM ≤ f.code.length := by have := of_decide_eq_false cB2; omega
                refine c_skip ?_
                refine hK9 _ _ ?_
                refine fg3 0 2 3 (gS rfl (gS rfl (gS rfl (gS rfl g0)))) (gS rfl (gS rfl (gS rfl g0))) (gS rfl (gS rfl g0)) (fun g => ?_)
                refine c_seq (fun K27 hK27 => ?_)
                exact (by
                  refine c_region ?_
                  refine l_eff (e_alloc zr_27) (fun v28 w28 h28 => ?_)
                  obtain ⟨b28, rfl, n28⟩ := h28
                  have f28 : w.heap.size ≤ b28 := Nat.le_trans U.size n28.fresh
                  replace hX := hX.up n28.up
                  replace U := U.tr n28.up
                  have k28 := n28.blk
                  have nc28 : col b28 = 0 := hnw _ f28
                  replace k28 : Blk w28 b28 (bL (List.replicate 32 0)).toArray := k28
                  refine l_nil ?_
                  refine hK27 _ _ ?_
                  refine c_seq (fun K29 hK29 => ?_)
                  refine c_seq (fun K30 hK30 => ?_)
                  exact (by
                    refine c_region ?_
                    refine l_step (y_moveV (et (gS rfl (gS rfl g0)) rfl)) ?_
                    refine l_step (y_nil (et g0 rfl)) ?_
                    refine l_step (y_fld fld_71_4 (et g0 rfl)) ?_
                    refine l_step (y_load1 one_67 (et g0 rfl) (at1 (hX.ex.vl.c1 (hR.r1 4 _ rfl) (by omega)))) ?_
                    refine l_step (y_conv Hvaa.underlying67 Hvaa.underlying3 (et g0 rfl) (wrapIN ?_)) ?_
                    omega
                    refine l_step (y_add (et g0 rfl) rfl (addIN (y := 1) ?_)) ?_
                    omega
                    refine l_step (y_assignV (et g0 rfl)) ?_
                    refine l_nil ?_
                    refine hK30 _ _ ?_
                    refine fg5 0 2 3 8 9 (gS rfl (gS rfl (gS rfl (gS rfl (gS rfl (gS rfl (gS rfl (gS rfl (gS rfl (gS rfl g0)))))))))) (gS rfl (gS rfl (gS rfl (gS rfl (gS rfl (gS rfl (gS rfl (gS rfl (gS rfl g0))))))))) (gS rfl (gS rfl (gS rfl (gS rfl (gS rfl (gS rfl (gS rfl (gS rfl g0)))))))) (gS rfl (gS rfl (gS rfl (gS rfl (gS rfl (gS rfl (gS rfl g0))))))) g0 (fun g => ?_)
                    refine c_seq (fun K31 hK31 => ?_)
                    exact (by
                      refine c_region ?_
                      refine l_step (y_moveV (et g0 rfl)) ?_
                      refine l_step (y_moveV (et (gS rfl (gS rfl (gS rfl (gS rfl g0)))) rfl)) ?_
                      refine l_step (y_nil (et g0 rfl)) ?_
                      refine l_step (y_fld fld_71_12 (et g0 rfl)) ?_
                      refine l_step (y_load1 one_38 (et g0 rfl) (at1 (hX.ex.vl.c1 (hr5 0 _ rfl) (by omega)))) ?_
                      refine l_step (y_len Hvaa.underlying38 (et g0 rfl)) ?_
                      refine l_step (y_lss (et (gS rfl (gS rfl (gS rfl (gS rfl (gS rfl g0))))) rfl) (et g0 rfl)) ?_
                      refine l_nil ?_
                      refine hK31 _ _ ?_
                      refine fg6 0 2 3 8 9 77 (gS rfl (gS rfl (gS rfl (gS rfl (gS rfl (gS rfl (gS rfl (gS rfl (gS rfl (gS rfl (gS rfl g0))))))))))) (gS rfl (gS rfl (gS rfl (gS rfl (gS rfl (gS rfl (gS rfl (gS rfl (gS rfl (gS rfl g0)))))))))) (gS rfl (gS rfl (gS rfl (gS rfl (gS rfl (gS rfl (gS rfl (gS rfl (gS rfl g0))))))))) (gS rfl (gS rfl (gS rfl (gS rfl (gS rfl (gS rfl (gS rfl (gS rfl g0)))))))) (gS rfl (gS rfl (gS rfl (gS rfl (gS rfl (gS rfl (gS rfl g0))))))) g0 (fun g => ?_)
                      refine c_cond (et g0 rfl) (fun cB4 => ?_) (fun cB4 => ?_)
                      · skip
                        
                        have hfr : f.pc + 1 < f.code.length := by have := of_decide_eq_true cB4; omega
                        exact (by
                          refine c_draw Up 9 [(0, true), (1, true), (2, true), (3, true), (4, true), (5, true), (6, true), (7, true), (8, true), (9, false)] (by kernel_rfl) (fun w33 hu => ⟨Up.refl _, ?_⟩)
                          replace k28 := k28.up hu
                          replace hX := hX.up hu
                          replace U := U.tr hu
                          have SU := Up.refl w33
                          refine p_step (by exact rfl) (y_moveV (et (gS rfl (gS rfl (gS rfl g0))) rfl)) ?_
                          refine p_step (by exact rfl) (y_sub rfl (et g0 rfl) (subIN (x := 32) ?_ ?_)) ?_
                          omega
                          omega
                          refine p_step (by exact rfl) (y_slA100 Hvaa.underlying27 sz_5 (et (gS rfl (gS rfl (gS rfl (gS rfl g0)))) rfl) (et g0 rfl) ?_ ?_ ?_) ?_
                          omega
                          omega
                          omega
                          refine p_step (by exact rfl) (y_moveV (et (gS rfl (gS rfl (gS rfl (gS rfl (gS rfl (gS rfl (gS rfl g0))))))) rfl)) ?_
                          refine p_step (by exact rfl) (y_nil (et g0 rfl)) ?_
                          refine p_step (by exact rfl) (y_fld fld_71_12 (et g0 rfl)) ?_
                          refine p_step (by exact rfl) (y_load1 one_38 (et g0 rfl) (atS (hX.ex.vl.c1 (hr5 0 _ rfl) (by omega)))) ?_
                          refine p_step (by exact rfl) (y_moveV (et (gS rfl (gS rfl (gS rfl (gS rfl (gS rfl (gS rfl (gS rfl (gS rfl g0)))))))) rfl)) ?_
                          refine p_step (by exact rfl) (y_slS100n Hvaa.underlying38 sz_5 (et (gS rfl g0) rfl) (et g0 rfl) ?_ ?_) ?_
                          omega
                          omega
                          have hW2 := WV.drop0 (hcode.wv hX.ex.vl.fz) (k := f.pc + 1) hfr
                          refine p_eff (by exact rfl) (e_copyW Hvaa.underlying38 (et (gS rfl (gS rfl (gS rfl (gS rfl (gS rfl (gS rfl g0)))))) rfl) (et g0 rfl) hW2 k28 (by simp only [List.size_toArray, length_bL, List.length_replicate]; omega)) (fun v34 w34 h34 => ?_)
                          obtain ⟨rfl, x34⟩ := h34
                          replace hX := hX.ch x34.ch (by intro b hb; first | (subst hb; first | exact ⟨by omega, fun hh => by have := hfz.lt hh; omega, by omega⟩ | exact ⟨by omega, by assumption, by omega⟩) | (rcases hb with hb | hb <;> (subst hb; first | exact ⟨by omega, fun hh => by have := hfz.lt hh; omega, by omega⟩ | exact ⟨by omega, by assumption, by omega⟩)))
                          replace k28 := x34.blk
                          replace U := U.cc x34.ch (by intro b hb; exact .inl trivial)
                          refine ⟨.inl rfl, ?_⟩
                          replace k28 : Blk w34 b28 (bL (be 32 (ofBE (cutN f.code (f.pc + 1) IM)))).toArray := by
                            have h9 := k28
                            rw [show 32 - (((32 - IM : Nat) : Int)).toNat = IM by omega, show 0 + (((32 - IM : Nat) : Int)).toNat * 1 = 32 - IM by omega, part_spl hB.cdig (by omega)] at h9
                            exact h9
                          refine p_nil ?_
                          refine hK29 _ _ ?_
                          refine fg4 0 2 3 8 (gS rfl (gS rfl (gS rfl (gS rfl (gS rfl (gS rfl (gS rfl (gS rfl (gS rfl (gS rfl (gS rfl (gS rfl (gS rfl (gS rfl (gS rfl g0))))))))))))))) (gS rfl (gS rfl (gS rfl (gS rfl (gS rfl (gS rfl (gS rfl (gS rfl (gS rfl (gS rfl (gS rfl (gS rfl (gS rfl (gS rfl g0)))))))))))))) (gS rfl (gS rfl (gS rfl (gS rfl (gS rfl (gS rfl (gS rfl (gS rfl (gS rfl (gS rfl (gS rfl (gS rfl (gS rfl g0))))))))))))) (gS rfl (gS rfl (gS rfl (gS rfl (gS rfl (gS rfl (gS rfl (gS rfl (gS rfl (gS rfl (gS rfl (gS rfl g0)))))))))))) (fun g => ?_)
                          refine c_region ?_
                          exact (by
                            refine l_step (y_moveV (et (gS rfl (gS rfl (gS rfl g0))) rfl)) ?_
                            refine l_step (y_moveV (et (gS rfl (gS rfl (gS rfl g0))) rfl)) ?_
                            refine l_step (y_loadB agg_27 sz_27 (et (gS rfl (gS rfl g0)) rfl) (by rw [List.size_toArray, length_bL, length_be]) (at1B k28)) ?_
                            refine l_eff (e_callV cal_83 (aC (et g0 rfl) aN) (fromBytes_spec _ _)) (fun v35 w35 h35 => ?_)
                            obtain ⟨rfl, u35⟩ := h35
                            replace k28 := k28.up u35
                            replace hX := hX.up u35
                            replace U := U.tr u35
                            refine l_step (y_moveV (et (gS rfl (gS rfl (gS rfl (gS rfl (gS rfl g0))))) rfl)) ?_
                            refine l_step (y_add rfl (et g0 rfl) (addIN (x := 1) ?_)) ?_
                            omega
                            refine l_step (y_conv Hvaa.underlying3 Hvaa.underlying67 (et g0 rfl) (wrapU_id uk16 ?_)) ?_
                            omega
                            refine l_eff (e_callV cal_259 (aC (et (gS rfl (gS rfl (gS rfl (gS rfl (gS rfl (gS rfl g0)))))) rfl) (aC (et (gS rfl (gS rfl (gS rfl (gS rfl (gS rfl g0))))) rfl) (aC (v := .int .u16 ((0 : Nat) : Int)) rfl (aC rfl (aC (et (gS rfl (gS rfl (gS rfl g0))) rfl) (aC (et g0 rfl) aN)))))) (m_settle1 hX.ex hs hp rfl 0 _ (1 + IM) (Nat.zero_le _) hxc (by omega) (by omega))) (fun v36 w36 h36 => ?_)
                            obtain ⟨rfl, cs36, y36⟩ := h36
                            replace k28 := k28.ch y36.et.go.ch (by intro hm; (have e0 := hm); omega)
                            replace hX := hX.trans y36
                            replace U := U.cc y36.et.go.ch (by intro b hb; exact .inl trivial)
                            refine l_nil ?_
                            refine end0 rfl ?_
                            exact ⟨rfl, _, hX⟩))
                      · skip
                        
                        have hfr : ¬ f.pc + 1 < f.code.length := by have := of_decide_eq_false cB4; omega
                        rw [part_none (l := f.code) (off := f.pc + 1) (n := IM) (by omega)] at k28
                        refine c_skip ?_
                        refine hK29 _ _ ?_
                        refine fg4 0 2 3 8 (gS rfl (gS rfl (gS rfl (gS rfl (gS rfl g0))))) (gS rfl (gS rfl (gS rfl (gS rfl g0)))) (gS rfl (gS rfl (gS rfl g0))) (gS rfl (gS rfl g0)) (fun g => ?_)
                        refine c_region ?_
                        refine l_step (y_moveV (et (gS rfl (gS rfl (gS rfl g0))) rfl)) ?_
                        refine l_step (y_moveV (et (gS rfl (gS rfl (gS rfl g0))) rfl)) ?_
                        refine l_step (y_loadB agg_27 sz_27 (et (gS rfl (gS rfl g0)) rfl) (by rw [List.size_toArray, length_bL, length_be]) (at1B k28)) ?_
                        refine l_eff (e_callV cal_83 (aC (et g0 rfl) aN) (fromBytes_spec _ _)) (fun v37 w37 h37 => ?_)
                        obtain ⟨rfl, u37⟩ := h37
                        replace k28 := k28.up u37
                        replace hX := hX.up u37
                        replace U := U.tr u37
                        refine l_step (y_moveV (et (gS rfl (gS rfl (gS rfl (gS rfl (gS rfl g0))))) rfl)) ?_
                        refine l_step (y_add rfl (et g0 rfl) (addIN (x := 1) ?_)) ?_
                        omega
                        refine l_step (y_conv Hvaa.underlying3 Hvaa.underlying67 (et g0 rfl) (wrapU_id uk16 ?_)) ?_
                        omega
                        refine l_eff (e_callV cal_259 (aC (et (gS rfl (gS rfl (gS rfl (gS rfl (gS rfl (gS rfl g0)))))) rfl) (aC (et (gS rfl (gS rfl (gS rfl (gS rfl (gS rfl g0))))) rfl) (aC (v := .int .u16 ((0 : Nat) : Int)) rfl (aC rfl (aC (et (gS rfl (gS rfl (gS rfl g0))) rfl) (aC (et g0 rfl) aN)))))) (m_settle1 hX.ex hs hp rfl 0 _ (1 + IM) (Nat.zero_le _) hxc (by omega) (by omega))) (fun v38 w38 h38 => ?_)
                        obtain ⟨rfl, cs38, y38⟩ := h38
                        replace k28 := k28.ch y38.et.go.ch (by intro hm; (have e0 := hm); omega)
                        replace hX := hX.trans y38
                        replace U := U.cc y38.et.go.ch (by intro b hb; exact .inl trivial)
                        refine l_nil ?_
                        refine end0 rfl ?_
                        exact ⟨rfl, _, hX⟩)))
            · skip
              have hn8 : ¬ IM ≤ 8 := by have := of_decide_eq_false q12; omega
              refine l_gskip (j := 2) (t := 28) (by exact rfl) (by exact rfl) (et g0 rfl) (by decide) (by decide) ?_
              refine l_gskip (j := 2) (t := 28) (by exact rfl) (by exact rfl) (et (gS rfl g0) rfl) (by decide) (by decide) ?_
              refine l_gskip (j := 2) (t := 28) (by exact rfl) (by exact rfl) (et (gS rfl (gS rfl g0)) rfl) (by decide) (by decide) ?_
              refine l_gskip (j := 2) (t := 28) (by exact rfl) (by exact rfl) (et (gS rfl (gS rfl (gS rfl g0))) rfl) (by decide) (by decide) ?_
              refine l_gskip (j := 2) (t := 28) (by exact rfl) (by exact rfl) (et (gS rfl (gS rfl (gS rfl (gS rfl g0)))) rfl) (by decide) (by decide) ?_
              refine l_gskip (j := 2) (t := 28) (by exact rfl) (by exact rfl) (et (gS rfl (gS rfl (gS rfl (gS rfl (gS rfl g0))))) rfl) (by decide) (by decide) ?_
              refine l_gskip (j := 2) (t := 28) (by exact rfl) (by exact rfl) (et (gS rfl (gS rfl (gS rfl (gS rfl (gS rfl (gS rfl g0)))))) rfl) (by decide) (by decide) ?_
              refine l_step (y_pickF (et (gS rfl (gS rfl (gS rfl (gS rfl (gS rfl (gS rfl (gS rfl g0))))))) rfl) rfl) ?_
              refine l_nil ?_
              refine hK11 _ _ ?_
              refine fg5 0 2 3 4 36 (gS rfl (gS rfl (gS rfl (gS rfl (gS rfl (gS rfl (gS rfl (gS rfl (gS rfl (gS rfl (gS rfl (gS rfl (gS rfl (gS rfl (gS rfl g0))))))))))))))) (gS rfl (gS rfl (gS rfl (gS rfl (gS rfl (gS rfl (gS rfl (gS rfl (gS rfl (gS rfl (gS rfl (gS rfl (gS rfl (gS rfl g0)))))))))))))) (gS rfl (gS rfl (gS rfl (gS rfl (gS rfl (gS rfl (gS rfl (gS rfl (gS rfl (gS rfl (gS rfl (gS rfl (gS rfl g0))))))))))))) (gS rfl (gS rfl (gS rfl (gS rfl (gS rfl (gS rfl (gS rfl (gS rfl (gS rfl (gS rfl (gS rfl (gS rfl g0)))))))))))) g0 (fun g => ?_)
              refine c_false (et g0 rfl) rfl ?_
              refine c_skip ?_
              refine hK9 _ _ ?_
              refine fg3 0 2 3 (gS rfl (gS rfl (gS rfl (gS rfl g0)))) (gS rfl (gS rfl (gS rfl g0))) (gS rfl (gS rfl g0)) (fun g => ?_)
              refine c_seq (fun K40 hK40 => ?_)
              exact (by
                refine c_region ?_
                refine l_eff (e_alloc zr_27) (fun v41 w41 h41 => ?_)
                obtain ⟨b41, rfl, n41⟩ := h41
                have f41 : w.heap.size ≤ b41 := Nat.le_trans U.size n41.fresh
                replace hX := hX.up n41.up
                replace U := U.tr n41.up
                have k41 := n41.blk
                have nc41 : col b41 = 0 := hnw _ f41
                replace k41 : Blk w41 b41 (bL (List.replicate 32 0)).toArray := k41
                refine l_nil ?_
                refine hK40 _ _ ?_
                refine c_seq (fun K42 hK42 => ?_)
                refine c_seq (fun K43 hK43 => ?_)
                exact (by
                  refine c_region ?_
                  refine l_step (y_moveV (et (gS rfl (gS rfl g0)) rfl)) ?_
                  refine l_step (y_nil (et g0 rfl)) ?_
                  refine l_step (y_fld fld_71_4 (et g0 rfl)) ?_
                  refine l_step (y_load1 one_67 (et g0 rfl) (at1 (hX.ex.vl.c1 (hR.r1 4 _ rfl) (by omega)))) ?_
                  refine l_step (y_conv Hvaa.underlying67 Hvaa.underlying3 (et g0 rfl) (wrapIN ?_)) ?_
                  omega
                  refine l_step (y_add (et g0 rfl) rfl (addIN (y := 1) ?_)) ?_
                  omega
                  refine l_step (y_assignV (et g0 rfl)) ?_
                  refine l_nil ?_
                  refine hK43 _ _ ?_
                  refine fg5 0 2 3 8 9 (gS rfl (gS rfl (gS rfl (gS rfl (gS rfl (gS rfl (gS rfl (gS rfl (gS rfl (gS rfl g0)))))))))) (gS rfl (gS rfl (gS rfl (gS rfl (gS rfl (gS rfl (gS rfl (gS rfl (gS rfl g0))))))))) (gS rfl (gS rfl (gS rfl (gS rfl (gS rfl (gS rfl (gS rfl (gS rfl g0)))))))) (gS rfl (gS rfl (gS rfl (gS rfl (gS rfl (gS rfl (gS rfl g0))))))) g0 (fun g => ?_)
                  refine c_seq (fun K44 hK44 => ?_)
                  exact (by
                    refine c_region ?_
                    refine l_step (y_moveV (et g0 rfl)) ?_
                    refine l_step (y_moveV (et (gS rfl (gS rfl (gS rfl (gS rfl g0)))) rfl)) ?_
                    refine l_step (y_nil (et g0 rfl)) ?_
                    refine l_step (y_fld fld_71_12 (et g0 rfl)) ?_
                    refine l_step (y_load1 one_38 (et g0 rfl) (at1 (hX.ex.vl.c1 (hr5 0 _ rfl) (by omega)))) ?_
                    refine l_step (y_len Hvaa.underlying38 (et g0 rfl)) ?_
                    refine l_step (y_lss (et (gS rfl (gS rfl (gS rfl (gS rfl (gS rfl g0))))) rfl) (et g0 rfl)) ?_
                    refine l_nil ?_
                    refine hK44 _ _ ?_
                    refine fg6 0 2 3 8 9 77 (gS rfl (gS rfl (gS rfl (gS rfl (gS rfl (gS rfl (gS rfl (gS rfl (gS rfl (gS rfl (gS rfl g0))))))))))) (gS rfl (gS rfl (gS rfl (gS rfl (gS rfl (gS rfl (gS rfl (gS rfl (gS rfl (gS rfl g0)))))))))) (gS rfl (gS rfl (gS rfl (gS rfl (gS rfl (gS rfl (gS rfl (gS rfl (gS rfl g0))))))))) (gS rfl (gS rfl (gS rfl (gS rfl (gS rfl (gS rfl (gS rfl (gS rfl g0)))))))) (gS rfl (gS rfl (gS rfl (gS rfl (gS rfl (gS rfl (gS rfl g0))))))) g0 (fun g => ?_)
                    refine c_cond (et g0 rfl) (fun cB4 => ?_) (fun cB4 => ?_)
                    · skip
                      
                      have hfr : f.pc + 1 < f.code.length := by have := of_decide_eq_true cB4; omega
                      exact (by
                        refine c_draw Up 9 [(0, true), (1, true), (2, true), (3, true), (4, true), (5, true), (6, true), (7, true), (8, true), (9, false)] (by kernel_rfl) (fun w46 hu => ⟨Up.refl _, ?_⟩)
                        replace k41 := k41.up hu
                        replace hX := hX.up hu
                        replace U := U.tr hu
                        have SU := Up.refl w46
                        refine p_step (by exact rfl) (y_moveV (et (gS rfl (gS rfl (gS rfl g0))) rfl)) ?_
                        refine p_step (by exact rfl) (y_sub rfl (et g0 rfl) (subIN (x := 32) ?_ ?_)) ?_
                        omega
                        omega
                        refine p_step (by exact rfl) (y_slA100 Hvaa.underlying27 sz_5 (et (gS rfl (gS rfl (gS rfl (gS rfl g0)))) rfl) (et g0 rfl) ?_ ?_ ?_) ?_
                        omega
                        omega
                        omega
                        refine p_step (by exact rfl) (y_moveV (et (gS rfl (gS rfl (gS rfl (gS rfl (gS rfl (gS rfl (gS rfl g0))))))) rfl)) ?_
                        refine p_step (by exact rfl) (y_nil (et g0 rfl)) ?_
                        refine p_step (by exact rfl) (y_fld fld_71_12 (et g0 rfl)) ?_
                        refine p_step (by exact rfl) (y_load1 one_38 (et g0 rfl) (atS (hX.ex.vl.c1 (hr5 0 _ rfl) (by omega)))) ?_
                        refine p_step (by exact rfl) (y_moveV (et (gS rfl (gS rfl (gS rfl (gS rfl (gS rfl (gS rfl (gS rfl (gS rfl g0)))))))) rfl)) ?_
                        refine p_step (by exact rfl) (y_slS100n Hvaa.underlying38 sz_5 (et (gS rfl g0) rfl) (et g0 rfl) ?_ ?_) ?_
                        omega
                        omega
                        have hW2 := WV.drop0 (hcode.wv hX.ex.vl.fz) (k := f.pc + 1) hfr
                        refine p_eff (by exact rfl) (e_copyW Hvaa.underlying38 (et (gS rfl (gS rfl (gS rfl (gS rfl (gS rfl (gS rfl g0)))))) rfl) (et g0 rfl) hW2 k41 (by simp only [List.size_toArray, length_bL, List.length_replicate]; omega)) (fun v47 w47 h47 => ?_)
                        obtain ⟨rfl, x47⟩ := h47
                        replace hX := hX.ch x47.ch (by intro b hb; first | (subst hb; first | exact ⟨by omega, fun hh => by have := hfz.lt hh; omega, by omega⟩ | exact ⟨by omega, by assumption, by omega⟩) | (rcases hb with hb | hb <;> (subst hb; first | exact ⟨by omega, fun hh => by have := hfz.lt hh; omega, by omega⟩ | exact ⟨by omega, by assumption, by omega⟩)))
                        replace k41 := x47.blk
                        replace U := U.cc x47.ch (by intro b hb; exact .inl trivial)
                        refine ⟨.inl rfl, ?_⟩
                        replace k41 : Blk w47 b41 (bL (be 32 (ofBE (cutN f.code (f.pc + 1) IM)))).toArray := by
                          have h9 := k41
                          rw [show 32 - (((32 - IM : Nat) : Int)).toNat = IM by omega, show 0 + (((32 - IM : Nat) : Int)).toNat * 1 = 32 - IM by omega, part_spl hB.cdig (by omega)] at h9
                          exact h9
                        refine p_nil ?_
                        refine hK42 _ _ ?_
                        refine fg4 0 2 3 8 (gS rfl (gS rfl (gS rfl (gS rfl (gS rfl (gS rfl (gS rfl (gS rfl (gS rfl (gS rfl (gS rfl (gS rfl (gS rfl (gS rfl (gS rfl g0))))))))))))))) (gS rfl (gS rfl (gS rfl (gS rfl (gS rfl (gS rfl (gS rfl (gS rfl (gS rfl (gS rfl (gS rfl (gS rfl (gS rfl (gS rfl g0)))))))))))))) (gS rfl (gS rfl (gS rfl (gS rfl (gS rfl (gS rfl (gS rfl (gS rfl (gS rfl (gS rfl (gS rfl (gS rfl (gS rfl g0))))))))))))) (gS rfl (gS rfl (gS rfl (gS rfl (gS rfl (gS rfl (gS rfl (gS rfl (gS rfl (gS rfl (gS rfl (gS rfl g0)))))))))))) (fun g => ?_)
                        refine c_region ?_
                        exact (by
                          refine l_step (y_moveV (et (gS rfl (gS rfl (gS rfl g0))) rfl)) ?_
                          refine l_step (y_moveV (et (gS rfl (gS rfl (gS rfl g0))) rfl)) ?_
                          refine l_step (y_loadB agg_27 sz_27 (et (gS rfl (gS rfl g0)) rfl) (by rw [List.size_toArray, length_bL, length_be]) (at1B k41)) ?_
                          refine l_eff (e_callV cal_83 (aC (et g0 rfl) aN) (fromBytes_spec _ _)) (fun v48 w48 h48 => ?_)
                          obtain ⟨rfl, u48⟩ := h48
                          replace k41 := k41.up u48
                          replace hX := hX.up u48
                          replace U := U.tr u48
                          refine l_step (y_moveV (et (gS rfl (gS rfl (gS rfl (gS rfl (gS rfl g0))))) rfl)) ?_
                          refine l_step (y_add rfl (et g0 rfl) (addIN (x := 1) ?_)) ?_
                          omega
                          refine l_step (y_conv Hvaa.underlying3 Hvaa.underlying67 (et g0 rfl) (wrapU_id uk16 ?_)) ?_
                          omega
                          refine l_eff (e_callV cal_259 (aC (et (gS rfl (gS rfl (gS rfl (gS rfl (gS rfl (gS rfl g0)))))) rfl) (aC (et (gS rfl (gS rfl (gS rfl (gS rfl (gS rfl g0))))) rfl) (aC (v := .int .u16 ((0 : Nat) : Int)) rfl (aC rfl (aC (et (gS rfl (gS rfl (gS rfl g0))) rfl) (aC (et g0 rfl) aN)))))) (m_settle1 hX.ex hs hp rfl 0 _ (1 + IM) (Nat.zero_le _) hxc (by omega) (by omega))) (fun v49 w49 h49 => ?_)
                          obtain ⟨rfl, cs49, y49⟩ := h49
                          replace k41 := k41.ch y49.et.go.ch (by intro hm; (have e0 := hm); omega)
                          replace hX := hX.trans y49
                          replace U := U.cc y49.et.go.ch (by intro b hb; exact .inl trivial)
                          refine l_nil ?_
                          refine end0 rfl ?_
                          exact ⟨rfl, _, hX⟩))
                    · skip
                      
                      have hfr : ¬ f.pc + 1 < f.code.length := by have := of_decide_eq_false cB4; omega
                      rw [part_none (l := f.code) (off := f.pc + 1) (n := IM) (by omega)] at k41
                      refine c_skip ?_
                      refine hK42 _ _ ?_
                      refine fg4 0 2 3 8 (gS rfl (gS rfl (gS rfl (gS rfl (gS rfl g0))))) (gS rfl (gS rfl (gS rfl (gS rfl g0)))) (gS rfl (gS rfl (gS rfl g0))) (gS rfl (gS rfl g0)) (fun g => ?_)
                      refine c_region ?_
                      refine l_step (y_moveV (et (gS rfl (gS rfl (gS rfl g0))) rfl)) ?_
                      refine l_step (y_moveV (et (gS rfl (gS rfl (gS rfl g0))) rfl)) ?_
                      refine l_step (y_loadB agg_27 sz_27 (et (gS rfl (gS rfl g0)) rfl) (by rw [List.size_toArray, length_bL, length_be]) (at1B k41)) ?_
                      refine l_eff (e_callV cal_83 (aC (et g0 rfl) aN) (fromBytes_spec _ _)) (fun v50 w50 h50 => ?_)
                      obtain ⟨rfl, u50⟩ := h50
                      replace k41 := k41.up u50
                      replace hX := hX.up u50
                      replace U := U.tr u50
                      refine l_step (y_moveV (et (gS rfl (gS rfl (gS rfl (gS rfl (gS rfl g0))))) rfl)) ?_
                      refine l_step (y_add rfl (et g0 rfl) (addIN (x := 1) ?_)) ?_
                      omega
                      refine l_step (y_conv Hvaa.underlying3 Hvaa.underlying67 (et g0 rfl) (wrapU_id uk16 ?_)) ?_
                      omega
                      refine l_eff (e_callV cal_259 (aC (et (gS rfl (gS rfl (gS rfl (gS rfl (gS rfl (gS rfl g0)))))) rfl) (aC (et (gS rfl (gS rfl (gS rfl (gS rfl (gS rfl g0))))) rfl) (aC (v := .int .u16 ((0 : Nat) : Int)) rfl (aC rfl (aC (et (gS rfl (gS rfl (gS rfl g0))) rfl) (aC (et g0 rfl) aN)))))) (m_settle1 hX.ex hs hp rfl 0 _ (1 + IM) (Nat.zero_le _) hxc (by omega) (by omega))) (fun v51 w51 h51 => ?_)
                      obtain ⟨rfl, cs51, y51⟩ := h51
                      replace k41 := k41.ch y51.et.go.ch (by intro hm; (have e0 := hm); omega)
                      replace hX := hX.trans y51
                      replace U := U.cc y51.et.go.ch (by intro b hb; exact .inl trivial)
                      refine l_nil ?_
                      refine end0 rfl ?_
                      exact ⟨rfl, _, hX⟩))))))))
end Go.Proofs.YgvaawGreat
