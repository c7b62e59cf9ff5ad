import Derived.Test.YgvaawGreatZ21
set_option maxRecDepth 100000
set_option maxHeartbeats 4000000
set_option linter.unusedSimpArgs false
set_option linter.unusedVariables false
namespace Go.Proofs.YgvaawGreat
open Go
theorem arg_get {l : List Nat} {i j : Nat} (h : i < l.length) (e : j = l.length - 1 - i) : l[j]? = some (argN l i) := by
  subst e
  rw [arg_in h]
  exact List.getElem?_eq_getElem _
def swpF (f : YF) (n : Nat) : YF := { f with stack := (f.stack.set (f.stack.length - 1) (argN f.stack n)).set (f.stack.length - 1 - n) (argN f.stack 0), pc := f.pc + 1 }
theorem m_opSwap {w : World} {H : Store} {col : Nat → Nat} {bc : Nat} {cs : Array Value} {V : EV} {s : YSt} {sn : List Nat} {sv : List AW} {ms : List (List Nat)} {c : Nat} {low : List YF} {f : YF} (hE : EX w H col bc cs V s sn sv ms c) (hs : s.frames = low ++ [f]) (hp : s.phase = 1) {q : Nat} (hq : opcN f = q) (hpc9 : f.pc < 512) (hqq : 144 ≤ q ∧ q ≤ 159) (htk9 : q - 142 ≤ f.stack.length) :
    Ret 318 [.pointer (some ⟨bc, 0, none⟩)] w (fun v w' => v = .tuple #[] ∧ ∃ cs', XT w H col w' H col bc cs' V { s with frames := low ++ [swpF f (q - 143)] } sn sv ms c) := by
  obtain ⟨n9, hn9, hR⟩ := hE.topF hs
  have hB := hE.fbT hs
  have h6 := hE.six hs
  have htop := hE.cTop hs
  have hphs := hE.cPh hp
  have hbp := hB.pc
  have hbs := hB.stk
  have hbg := hB.gas
  have hbc9 := hB.code
  have hnw := hE.vl.new
  have hfz := hE.vl.fz
  have hcC := hE.vl.colC
  have hbc0 := hE.vl.kC.lt
  have hX := XT.refl hE
  subst hq
  refine enter (n := 67) Hvaa.func318 rfl rfl (Nat.le_of_ble_eq_true rfl) ?_
  have U : Ch (fun _ => True) w w := Ch.refl _ w
  refine c_seq (fun K1 hK1 => ?_)
  exact (by
    refine c_region ?_
    refine l_step (y_moveV (et g0 rfl)) ?_
    refine l_eff (e_callV cal_183 (aC (et g0 rfl) aN) (m_running hX.ex hs hp)) (fun v2 w2 h2 => ?_)
    obtain ⟨rfl, u2⟩ := h2
    replace hX := hX.up u2
    replace U := U.tr u2
    refine l_step (y_assignV (et g0 rfl)) ?_
    refine l_nil ?_
    refine hK1 _ _ ?_
    refine fg2 0 2 (gS rfl (gS rfl (gS rfl g0))) g0 (fun g => ?_)
    refine c_seq (fun K3 hK3 => ?_)
    refine c_seq (fun K4 hK4 => ?_)
    exact (by
      refine c_region ?_
      refine l_step (y_moveV (et g0 rfl)) ?_
      refine l_step (y_eqlNil Hvaa.underlying276 (et g0 rfl) rfl) ?_
      refine l_nil ?_
      refine hK4 _ _ ?_
      refine fg3 0 2 9 (gS rfl (gS rfl (gS rfl g0))) (gS rfl (gS rfl g0)) g0 (fun g => ?_)
      refine c_false (et g0 rfl) rfl ?_
      refine c_skip ?_
      refine hK3 _ _ ?_
      refine fg2 0 2 (gS rfl (gS rfl g0)) (gS rfl g0) (fun g => ?_)
      refine c_seq (fun K6 hK6 => ?_)
      exact (by
        refine c_draw Up 13 [(0, true), (1, true), (2, true), (3, true), (4, true), (5, true), (6, true), (7, true), (8, true), (9, true), (10, true), (11, true), (12, true)] (by kernel_rfl) (fun w7 hu => ⟨Up.refl _, ?_⟩)
        replace hX := hX.up hu
        replace U := U.tr hu
        have SU := Up.refl w7
        refine p_step (by exact rfl) (y_moveV (et g0 rfl)) ?_
        refine p_step (by exact rfl) (y_nil (et g0 rfl)) ?_
        refine p_step (by exact rfl) (y_fld fld_71_5 (et g0 rfl)) ?_
        refine p_step (by exact rfl) (y_load1 one_67 (et g0 rfl) (atS (hX.ex.vl.c1 (hR.r1 5 _ rfl) (by omega)))) ?_
        refine p_step (by exact rfl) (y_conv Hvaa.underlying67 Hvaa.underlying3 (et g0 rfl) (wrap_i64 ?_ ?_)) ?_
        omega
        omega
        refine p_step (by exact rfl) (y_moveV (et (gS rfl (gS rfl (gS rfl (gS rfl (gS rfl g0))))) rfl)) ?_
        refine p_step (by exact rfl) (y_nil (et g0 rfl)) ?_
        refine p_step (by exact rfl) (y_fld fld_71_6 (et g0 rfl)) ?_
        refine p_step (by exact rfl) (y_load1 one_67 (et g0 rfl) (atS (hX.ex.vl.c1 (hR.r1 6 _ rfl) (by omega)))) ?_
        refine p_step (by exact rfl) (y_conv Hvaa.underlying67 Hvaa.underlying3 (et g0 rfl) (wrap_i64 ?_ ?_)) ?_
        omega
        omega
        refine p_step (by exact rfl) (y_add (et (gS rfl (gS rfl (gS rfl (gS rfl (gS rfl g0))))) rfl) (et g0 rfl) (wrap_i64 ?_ ?_)) ?_
        omega
        omega
        refine p_step (by exact rfl) (y_sub (et g0 rfl) rfl ((wrap_i64 ?_ ?_).trans (show _ = ((64 * low.length + f.stack.length - 1 : Nat) : Int) by omega))) ?_
        omega
        omega
        refine p_step (by exact rfl) (y_assignV (et g0 rfl)) ?_
        refine p_nil ?_
        refine hK6 _ _ ?_
        refine fg3 0 2 3 (gS rfl (gS rfl (gS rfl (gS rfl (gS rfl (gS rfl (gS rfl (gS rfl (gS rfl (gS rfl (gS rfl (gS rfl (gS rfl (gS rfl g0)))))))))))))) (gS rfl (gS rfl (gS rfl (gS rfl (gS rfl (gS rfl (gS rfl (gS rfl (gS rfl (gS rfl (gS rfl (gS rfl (gS rfl g0))))))))))))) g0 (fun g => ?_)
        refine c_seq (fun K8 hK8 => ?_)
        exact (by
          refine c_region ?_
          refine l_step (y_moveV (et g0 rfl)) ?_
          refine l_step (y_moveV (et (gS rfl (gS rfl (gS rfl g0))) rfl)) ?_
          refine l_eff (e_callV cal_108 (aC (et g0 rfl) aN) (m_opcode hX.ex hs hp)) (fun v9 w9 h9 => ?_)
          obtain ⟨rfl, u9⟩ := h9
          replace hX := hX.up u9
          replace U := U.tr u9
          refine l_step (y_sub (et g0 rfl) rfl (wrapU_subN (b := 144) uk8 ?_ ?_)) ?_
          omega
          omega
          refine l_step (y_conv Hvaa.underlying5 Hvaa.underlying3 (et g0 rfl) (wrap_i64 ?_ ?_)) ?_
          omega
          omega
          refine l_step (y_sub (et (gS rfl (gS rfl (gS rfl (gS rfl g0)))) rfl) (et g0 rfl) (wrap_i64 ?_ ?_)) ?_
          omega
          omega
          refine l_step (y_sub (et g0 rfl) rfl ((wrap_i64 ?_ ?_).trans (show _ = ((64 * low.length + f.stack.length - 1 - (opcN f - 143) : Nat) : Int) by omega))) ?_
          omega
          omega
          refine l_step (y_assignV (et g0 rfl)) ?_
          refine l_nil ?_
          refine hK8 _ _ ?_
          refine fg4 0 2 3 4 (gS rfl (gS rfl (gS rfl (gS rfl (gS rfl (gS rfl (gS rfl (gS rfl (gS rfl (gS rfl g0)))))))))) (gS rfl (gS rfl (gS rfl (gS rfl (gS rfl (gS rfl (gS rfl (gS rfl (gS rfl g0))))))))) (gS rfl (gS rfl (gS rfl (gS rfl (gS rfl (gS rfl (gS rfl (gS rfl g0)))))))) g0 (fun g => ?_)
          refine c_seq (fun K10 hK10 => ?_)
          refine c_seq (fun K11 hK11 => ?_)
          exact (by
            refine c_region ?_
            refine l_step (y_moveV (et g0 rfl)) ?_
            refine l_step (y_lss (et g0 rfl) rfl) ?_
            refine l_step (y_moveV (et g0 rfl)) ?_
            refine gsplitL (i := 31) g0 (fun q12 => ?_) (fun q12 => ?_)
            · skip
              exact absurd (of_decide_eq_true q12) (by omega)
            · skip
              refine l_gstep (j := 2) (t := 31) (by exact rfl) (by exact rfl) (et g0 rfl) (by decide) (y_moveV (et (gS rfl (gS rfl (gS rfl (gS rfl (gS rfl g0))))) rfl)) ?_
              refine l_gstep (j := 2) (t := 31) (by exact rfl) (by exact rfl) (et (gS rfl g0) rfl) (by decide) (y_geq (et g0 rfl) rfl) ?_
              refine l_step (y_pickF (et (gS rfl (gS rfl g0)) rfl) (et g0 rfl)) ?_
              refine l_nil ?_
              refine hK11 _ _ ?_
              refine fg5 0 2 3 4 34 (gS rfl (gS rfl (gS rfl (gS rfl (gS rfl (gS rfl (gS rfl (gS rfl (gS rfl (gS rfl g0)))))))))) (gS rfl (gS rfl (gS rfl (gS rfl (gS rfl (gS rfl (gS rfl (gS rfl (gS rfl g0))))))))) (gS rfl (gS rfl (gS rfl (gS rfl (gS rfl (gS rfl (gS rfl (gS rfl g0)))))))) (gS rfl (gS rfl (gS rfl (gS rfl (gS rfl (gS rfl (gS rfl g0))))))) g0 (fun g => ?_)
              refine c_false (et g0 rfl) (by (exact decide_eq_false (by omega))) ?_
              refine c_skip ?_
              refine hK10 _ _ ?_
              refine fg4 0 2 3 4 (gS rfl (gS rfl (gS rfl (gS rfl g0)))) (gS rfl (gS rfl (gS rfl g0))) (gS rfl (gS rfl g0)) (gS rfl g0) (fun g => ?_)
              refine c_seq (fun K14 hK14 => ?_)
              exact (by
                refine c_region ?_
                refine l_step (y_moveV (et (gS rfl (gS rfl (gS rfl g0))) rfl)) ?_
                refine l_step (y_moveV (et (gS rfl (gS rfl g0)) rfl)) ?_
                refine l_step (y_nil (et (gS rfl g0) rfl)) ?_
                refine l_step (y_fld fld_75_2 (et g0 rfl)) ?_
                refine l_step (y_idxA Hvaa.underlying66 sz_65 (et g0 rfl) (et (gS rfl (gS rfl g0)) rfl) ?_ ?_) ?_
                omega
                omega
                refine l_step (y_loadR agg_65 sz_65 (et g0 rfl) rfl (at1R (hX.ex.stkT hs (arg_get (i := 0) (j := f.stack.length - 1) (by omega) rfl) (by omega)))) ?_
                refine l_eff (e_alloc zr_65) (fun v15 w15 h15 => ?_)
                obtain ⟨b15, rfl, n15⟩ := h15
                have f15 : w.heap.size ≤ b15 := Nat.le_trans U.size n15.fresh
                replace hX := hX.up n15.up
                replace U := U.tr n15.up
                have k15 := n15.blk
                obtain ⟨zs15, hz15, k15⟩ : ∃ cs : Array Value, cs.size = 4 ∧ Blk w15 b15 cs := ⟨_, rfl, k15⟩
                have nc15 : col b15 = 0 := hnw _ f15
                refine l_effN (e_store sz_65 (et g0 rfl) (cellsV (et (gS rfl g0) rfl) rfl) rfl (by exact one_uL _) k15 (by (first | (rw [hz15]; exact Nat.le_refl _) | (rw [List.size_toArray, wL_len]; exact Nat.le_refl _)))) (fun v16 w16 h16 => ?_)
                obtain ⟨rfl, x16⟩ := h16
                replace hX := hX.ch x16.ch (by first | omega | (intro b hb; first | (subst hb; first | exact ⟨by omega, fun hh => by have := hfz.lt hh; omega, by omega⟩ | exact ⟨by omega, by assumption, by omega⟩) | (rcases hb with hb | hb <;> (subst hb; first | exact ⟨by omega, fun hh => by have := hfz.lt hh; omega, by omega⟩ | exact ⟨by omega, by assumption, by omega⟩))))
                replace k15 := x16.blk.full (by first | (rw [hz15]; rfl) | (rw [List.size_toArray, wL_len, wL_len]))
                replace U := U.st x16 (.inr f15)
                refine l_nil ?_
                refine hK14 _ _ ?_
                refine fg5 0 2 3 4 5 (gS rfl (gS rfl (gS rfl (gS rfl (gS rfl (gS rfl (gS rfl (gS rfl (gS rfl (gS rfl g0)))))))))) (gS rfl (gS rfl (gS rfl (gS rfl (gS rfl (gS rfl (gS rfl (gS rfl (gS rfl g0))))))))) (gS rfl (gS rfl (gS rfl (gS rfl (gS rfl (gS rfl (gS rfl (gS rfl g0)))))))) (gS rfl (gS rfl (gS rfl (gS rfl (gS rfl (gS rfl (gS rfl g0))))))) g0 (fun g => ?_)
                refine c_seq (fun K17 hK17 => ?_)
                exact (by
                  refine c_draw Up 11 [(0, true), (1, true), (2, true), (3, true), (4, true), (5, true), (6, true), (7, true), (8, true), (9, true), (10, true), (11, false)] (by kernel_rfl) (fun w18 hu => ⟨Up.refl _, ?_⟩)
                  replace k15 := k15.up hu
                  replace hX := hX.up hu
                  replace U := U.tr hu
                  have SU := Up.refl w18
                  refine p_step (by exact rfl) (y_moveV (et (gS rfl (gS rfl (gS rfl (gS rfl g0)))) rfl)) ?_
                  refine p_step (by exact rfl) (y_moveV (et (gS rfl (gS rfl (gS rfl g0))) rfl)) ?_
                  refine p_step (by exact rfl) (y_moveV (et (gS rfl (gS rfl (gS rfl (gS rfl (gS rfl (gS rfl g0)))))) rfl)) ?_
                  refine p_step (by exact rfl) (y_moveV (et (gS rfl (gS rfl (gS rfl (gS rfl g0)))) rfl)) ?_
                  refine p_step (by exact rfl) (y_nil (et (gS rfl g0) rfl)) ?_
                  refine p_step (by exact rfl) (y_fld fld_75_2 (et g0 rfl)) ?_
                  refine p_step (by exact rfl) (y_idxA Hvaa.underlying66 sz_65 (et g0 rfl) (et (gS rfl (gS rfl g0)) rfl) ?_ ?_) ?_
                  omega
                  omega
                  refine p_step (by exact rfl) (y_loadR agg_65 sz_65 (et g0 rfl) rfl (atSR (hX.ex.stkT hs (arg_get (i := (opcN f - 143)) (j := f.stack.length - 1 - (opcN f - 143)) (by omega) rfl) (by omega)))) ?_
                  refine p_step (by exact rfl) (y_nil (et (gS rfl (gS rfl (gS rfl (gS rfl (gS rfl (gS rfl (gS rfl g0))))))) rfl)) ?_
                  refine p_step (by exact rfl) (y_fld fld_75_2 (et g0 rfl)) ?_
                  refine p_step (by exact rfl) (y_idxA Hvaa.underlying66 sz_65 (et g0 rfl) (et (gS rfl (gS rfl (gS rfl (gS rfl (gS rfl (gS rfl (gS rfl (gS rfl g0)))))))) rfl) ?_ ?_) ?_
                  omega
                  omega
                  refine p_effN (by exact rfl) (e_store sz_65 (et g0 rfl) (cellsV (et (gS rfl (gS rfl (gS rfl g0))) rfl) rfl) rfl (by exact one_uL _) hX.ex.vl.kC (by rw [hX.ex.vl.size]; omega)) (fun v19 w19 h19 => ?_)
                  obtain ⟨rfl, x19⟩ := h19
                  have hv19 := hX.stW hs (p := f.stack.length - 1) (y := argN f.stack (opcN f - 143)) (by omega) (by omega) (argN_lt hB _) x19
                  replace k15 := k15.ch x19.ch (by intro hm; first | omega | (subst hm; omega))
                  replace hX := hv19
                  replace U := U.cc x19.ch (by intro b hb; exact .inl trivial)
                  obtain ⟨f1, hf1⟩ : ∃ f1 : YF, f1 = { f with stack := f.stack.set (f.stack.length - 1) (argN f.stack (opcN f - 143)) } := ⟨_, rfl⟩
                  rw [← hf1] at hX
                  have hs1 : ({ s with frames := low ++ [f1] } : YSt).frames = low ++ [f1] := rfl
                  refine ⟨.inl rfl, ?_⟩
                  refine p_nil ?_
                  refine hK17 _ _ ?_
                  refine fg4 0 2 4 5 (gS rfl (gS rfl (gS rfl (gS rfl (gS rfl (gS rfl (gS rfl (gS rfl (gS rfl (gS rfl (gS rfl (gS rfl (gS rfl (gS rfl (gS rfl g0))))))))))))))) (gS rfl (gS rfl (gS rfl (gS rfl (gS rfl (gS rfl (gS rfl (gS rfl (gS rfl (gS rfl (gS rfl (gS rfl (gS rfl (gS rfl g0)))))))))))))) (gS rfl (gS rfl (gS rfl (gS rfl (gS rfl (gS rfl (gS rfl (gS rfl (gS rfl (gS rfl (gS rfl (gS rfl g0)))))))))))) (gS rfl (gS rfl (gS rfl (gS rfl (gS rfl (gS rfl (gS rfl (gS rfl (gS rfl (gS rfl (gS rfl g0))))))))))) (fun g => ?_)
                  refine c_seq (fun K20 hK20 => ?_)
                  exact (by
                    refine c_draw Up 6 [(0, true), (1, true), (2, true), (3, true), (4, true), (5, true), (6, false)] (by kernel_rfl) (fun w21 hu => ⟨Up.refl _, ?_⟩)
                    replace k15 := k15.up hu
                    replace hX := hX.up hu
                    replace U := U.tr hu
                    have SU := Up.refl w21
                    refine p_step (by exact rfl) (y_moveV (et (gS rfl (gS rfl (gS rfl g0))) rfl)) ?_
                    refine p_step (by exact rfl) (y_moveV (et (gS rfl (gS rfl g0)) rfl)) ?_
                    refine p_step (by exact rfl) (y_loadB agg_65 sz_65 (et (gS rfl (gS rfl g0)) rfl) rfl (atSB k15)) ?_
                    refine p_step (by exact rfl) (y_nil (et (gS rfl (gS rfl g0)) rfl)) ?_
                    refine p_step (by exact rfl) (y_fld fld_75_2 (et g0 rfl)) ?_
                    refine p_step (by exact rfl) (y_idxA Hvaa.underlying66 sz_65 (et g0 rfl) (et (gS rfl (gS rfl (gS rfl g0))) rfl) ?_ ?_) ?_
                    omega
                    omega
                    refine p_effN (by exact rfl) (e_store sz_65 (et g0 rfl) (cellsV (et (gS rfl (gS rfl (gS rfl g0))) rfl) rfl) rfl (by exact one_uL _) hX.ex.vl.kC (by rw [hX.ex.vl.size]; omega)) (fun v22 w22 h22 => ?_)
                    obtain ⟨rfl, x22⟩ := h22
                    have hv22 := hX.stW hs1 (p := f.stack.length - 1 - (opcN f - 143)) (y := argN f.stack 0) (by omega) (by omega) (argN_lt hB _) x22
                    replace k15 := k15.ch x22.ch (by intro hm; first | omega | (subst hm; omega))
                    replace hX := hv22
                    replace U := U.cc x22.ch (by intro b hb; exact .inl trivial)
                    obtain ⟨f2, hf2⟩ : ∃ f2 : YF, f2 = { f1 with stack := f1.stack.set (f.stack.length - 1 - (opcN f - 143)) (argN f.stack 0) } := ⟨_, rfl⟩
                    rw [← hf2] at hX
                    have hs2 : ({ s with frames := low ++ [f2] } : YSt).frames = low ++ [f2] := rfl
                    obtain ⟨n8, hn8, hR2⟩ := hX.ex.topF hs2
                    have hf2p : f2.pc = f.pc := by rw [hf2]; show f1.pc = _; rw [hf1]
                    refine ⟨.inl rfl, ?_⟩
                    refine p_nil ?_
                    refine hK20 _ _ ?_
                    refine fg1 2 (gS rfl (gS rfl (gS rfl (gS rfl (gS rfl (gS rfl (gS rfl (gS rfl g0)))))))) (fun g => ?_)
                    refine c_region ?_
                    refine l_step (y_moveV (et g0 rfl)) ?_
                    refine l_step (y_nil (et g0 rfl)) ?_
                    exact (by
                      refine l_step (y_fld fld_71_4 (et g0 rfl)) ?_
                      refine l_step (y_load1 one_67 (et g0 rfl) (at1 (hX.ex.vl.c1 (hR2.r1 4 _ rfl) (by omega)))) ?_
                      refine l_step (y_add (et g0 rfl) rfl (wrapU_addN (b := 1) uk16 ?_)) ?_
                      omega
                      refine l_step (y_nil (et (gS rfl (gS rfl (gS rfl (gS rfl g0)))) rfl)) ?_
                      refine l_step (y_fld fld_71_4 (et g0 rfl)) ?_
                      refine l_effN (e_store sz_67 (et g0 rfl) (cellsV (et (gS rfl (gS rfl g0)) rfl) rfl) rfl (by intro v hv; simp at hv; subst hv; rfl) hX.ex.vl.kC (by rw [hX.ex.vl.size]; omega)) (fun v23 w23 h23 => ?_)
                      obtain ⟨rfl, x23⟩ := h23
                      have hv23 := hX.stPC hs2 hp (by omega) (by omega) x23
                      replace k15 := k15.ch x23.ch (by intro hm; first | omega | (subst hm; omega))
                      replace hX := hv23
                      replace U := U.cc x23.ch (by intro b hb; exact .inl trivial)
                      refine l_nil ?_
                      refine end0 rfl ?_
                      have e9 : ({ f2 with pc := f2.pc + 1 } : YF) = swpF f (opcN f - 143) := by unfold swpF; rw [hf2, hf1]
                      rw [e9] at hX
                      exact ⟨rfl, _, hX⟩)))))))))
end Go.Proofs.YgvaawGreat
