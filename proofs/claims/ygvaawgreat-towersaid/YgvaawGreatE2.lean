import Derived.Test.YgvaawGreatEW
set_option maxRecDepth 100000
set_option maxHeartbeats 4000000
set_option linter.unusedSimpArgs false
set_option linter.unusedVariables false
namespace Go.Proofs.YgvaawGreat
open Go
theorem v_findAcct {w : World} {H : Store} {col : Nat → Nat} {bc : Nat} {cs : Array Value} {V : EV} (hV : VL w H col bc cs V) (ho : VOk V) (a : Nat) (ha : a < A160) :
    Ret 159 [.pointer (some ⟨bc, 2435, none⟩), aV a] w (fun v w' => ∃ i f : Int, v = .tuple #[.int .i32 i, .int .i32 f] ∧ Fnd 4096 V.atb V.accts.length (aHome a) (mA V a) i f ∧ Up w w') := by
  refine enter (n := 49) Hvaa.func159 rfl rfl (Nat.le_of_ble_eq_true rfl) ?_
  have U := Up.refl w
  refine c_seq (fun K1 hK1 => ?_)
  refine c_region ?_
  refine l_eff (e_boxV (et (gS rfl g0) rfl)) (fun v2 w2 h2 => ?_)
  obtain ⟨b2, rfl, n2⟩ := h2
  have f2 : w.heap.size ≤ b2 := Nat.le_trans U.size n2.fresh
  replace hV := hV.up n2.up
  replace U := U.tr n2.up
  have k2 := n2.blk
  replace k2 : Blk w2 b2 (bL (be 20 a)).toArray := k2
  refine l_step y_assignC ?_
  refine l_step y_assignC ?_
  refine l_nil ?_
  refine hK1 _ _ ?_
  refine fg2 0 3 (gS rfl (gS rfl (gS rfl g0))) (gS rfl (gS rfl g0)) (fun g => ?_)
  refine c_seq (fun K3 hK3 => ?_)
  refine c_region ?_
  refine l_step (y_loadB agg_25 sz_25 (et g0 rfl) (by rw [List.size_toArray, length_bL, length_be]) (at1B k2)) ?_
  refine l_eff (e_callV cal_239 (aC (et g0 rfl) aN) (v_acctHome' a _ ha)) (fun v4 w4 h4 => ?_)
  obtain ⟨h0, rfl, hh0, hhl, u4⟩ := h4
  replace k2 := k2.up u4
  replace hV := hV.up u4
  replace U := U.tr u4
  refine l_step (y_assignV (et g0 rfl)) ?_
  refine l_nil ?_
  refine hK3 _ _ ?_
  refine fg3 0 3 6 (gS rfl (gS rfl (gS rfl (gS rfl g0)))) (gS rfl (gS rfl (gS rfl g0))) g0 (fun g => ?_)
  refine c_seq (fun K5 hK5 => ?_)
  refine c_seq (fun K6 hK6 => ?_)
  refine c_region ?_
  refine l_step y_assignC ?_
  refine l_nil ?_
  refine hK6 _ _ ?_
  refine c_block (fun Q7 hQ7 => ?_)
  refine fg4 0 3 6 7 (gS rfl (gS rfl (gS rfl g0))) (gS rfl (gS rfl g0)) (gS rfl g0) g0 (fun g => ?_)
  refine c_loop (fun k_ s_ W8 => ∃ (g : Nat → Value) (t p9 : Nat), s_ = (upd (upd (upd (upd g 0 (.pointer (some ⟨bc, 2435, none⟩))) 3 (.pointer (some ⟨b2, 0, none⟩))) 6 (.int .u32 (p9 : Nat))) 7 (.int .i64 (t : Nat))) ∧ 4096 - t = k_ ∧ (t ≤ 4096) ∧ (p9 = (h0 + t) % 4096) ∧ (Pb 4096 V.atb (mA V a) (h0) t) ∧ Ch (fun k => False) w4 W8) (4096 - (0)) ?_ ?_
  · exact ⟨g, 0, _, rfl, rfl, Nat.zero_le _, by rw [Nat.add_zero, Nat.mod_eq_of_lt hhl], fun e he => absurd he (by omega), Ch.refl _ _⟩
  · skip
    intro k_ s_ W8 hI K8 hK8
    obtain ⟨g, t, p9, rfl, rfl, ht, hpe, hP, V8⟩ := hI
    replace k2 := k2.ch V8 (by exact fun h => h)
    replace hV := hV.ch V8 (by first | exact fun h => h | exact fun _ h => h.elim | exact fun _ _ h => h)
    replace U := U.cc V8 (by intro b hb; first | exact hb.elim | omega | (simp at hb ⊢; omega))
    subst hpe
    refine c_seq (fun K9 hK9 => ?_)
    refine c_seq (fun K10 hK10 => ?_)
    refine c_region ?_
    refine l_step (y_moveV (et g0 rfl)) ?_
    refine l_step (y_lss (et g0 rfl) rfl) ?_
    refine l_nil ?_
    refine hK10 _ _ ?_
    refine fg5 0 3 6 7 12 (gS rfl (gS rfl (gS rfl (gS rfl (gS rfl g0))))) (gS rfl (gS rfl (gS rfl (gS rfl g0)))) (gS rfl (gS rfl (gS rfl g0))) (gS rfl (gS rfl g0)) g0 (fun g => ?_)
    refine c_cond (et g0 rfl) (fun cB1 => ?_) (fun cB1 => ?_)
    · skip
      
      have htl : t < 4096 := by have := of_decide_eq_true cB1; omega
      obtain ⟨q9, hq⟩ : ∃ q9, V.atb ((h0 + t) % 4096) = q9 := ⟨_, rfl⟩
      have hpN : (h0 + t) % 4096 < 4096 := Nat.mod_lt _ (by decide)
      refine c_skip ?_
      refine hK9 _ _ ?_
      refine fg4 0 3 6 7 (gS rfl (gS rfl (gS rfl (gS rfl g0)))) (gS rfl (gS rfl (gS rfl g0))) (gS rfl (gS rfl g0)) (gS rfl g0) (fun g => ?_)
      refine c_seq (fun K12 hK12 => ?_)
      refine c_block (fun Q13 hQ13 => ?_)
      refine c_seq (fun K14 hK14 => ?_)
      refine c_region ?_
      refine l_step (y_moveV (et (gS rfl (gS rfl (gS rfl g0))) rfl)) ?_
      refine l_step (y_moveV (et (gS rfl (gS rfl g0)) rfl)) ?_
      refine l_step (y_nil (et (gS rfl g0) rfl)) ?_
      refine l_step (y_fld fld_84_2 (et g0 rfl)) ?_
      refine l_step (y_idxA Hvaa.underlying78 sz_21 (et g0 rfl) (et (gS rfl (gS rfl g0)) rfl) ?_ ?_) ?_
      omega
      omega
      refine l_step (y_load1 one_21 (et g0 rfl) (at1 (hV.cAt hpN hq (by first | omega | rfl)))) ?_
      refine l_step (y_assignV (et g0 rfl)) ?_
      refine l_nil ?_
      refine hK14 _ _ ?_
      refine fg5 0 3 6 7 8 (gS rfl (gS rfl (gS rfl (gS rfl (gS rfl (gS rfl (gS rfl (gS rfl (gS rfl (gS rfl g0)))))))))) (gS rfl (gS rfl (gS rfl (gS rfl (gS rfl (gS rfl (gS rfl (gS rfl (gS rfl g0))))))))) (gS rfl (gS rfl (gS rfl (gS rfl (gS rfl (gS rfl (gS rfl (gS rfl g0)))))))) (gS rfl (gS rfl (gS rfl (gS rfl (gS rfl (gS rfl (gS rfl g0))))))) g0 (fun g => ?_)
      refine c_seq (fun K15 hK15 => ?_)
      refine c_seq (fun K16 hK16 => ?_)
      refine c_region ?_
      refine l_step (y_moveV (et g0 rfl)) ?_
      refine l_step (y_lss (et g0 rfl) rfl) ?_
      refine l_nil ?_
      refine hK16 _ _ ?_
      refine fg6 0 3 6 7 8 22 (gS rfl (gS rfl (gS rfl (gS rfl (gS rfl (gS rfl g0)))))) (gS rfl (gS rfl (gS rfl (gS rfl (gS rfl g0))))) (gS rfl (gS rfl (gS rfl (gS rfl g0)))) (gS rfl (gS rfl (gS rfl g0))) (gS rfl (gS rfl g0)) g0 (fun g => ?_)
      refine c_cond (et g0 rfl) (fun cB2 => ?_) (fun cB2 => ?_)
      · skip
        
        have hq0 : q9 < 0 := by have := of_decide_eq_true cB2; omega
        refine c_seq (fun K18 hK18 => ?_)
        refine c_region ?_
        refine l_step (y_moveV (et (gS rfl (gS rfl (gS rfl g0))) rfl)) ?_
        refine l_step (y_conv Hvaa.underlying60 Hvaa.underlying21 (et g0 rfl) (wrap_i32 ?_ ?_)) ?_
        omega
        omega
        refine l_step y_assignC ?_
        refine l_step (y_assignV (et (gS rfl g0) rfl)) ?_
        refine l_nil ?_
        refine hK18 _ _ ?_
        refine fg2 4 5 (gS rfl g0) g0 (fun g => ?_)
        refine c_ret ?_
        refine hQ13 _ _ _ (in_ret ?_)
        refine hQ7 _ _ _ (in_ret ?_)
        refine ret2 rfl (res_tmp (et (gS rfl g0) rfl)) (res_tmp (et g0 rfl)) ?_
        rw [← hh0]
        exact ⟨_, _, rfl, Fnd.free ho.a (fun i _ hm => (mA_hm hm).trans hh0.symm) hP htl (by rw [hq]; exact hq0), U⟩
      · skip
        
        have hq0 : ¬ q9 < 0 := by have := of_decide_eq_false cB2; omega
        obtain ⟨k9, rfl⟩ : ∃ k9 : Nat, q9 = (k9 : Int) := ⟨q9.toNat, by omega⟩
        have hk9 := ho.a.ix hpN hq
        obtain ⟨x9, hx9⟩ : ∃ x9, V.accts[k9]? = some x9 := ⟨_, List.getElem?_eq_getElem hk9⟩
        obtain ⟨ba, ca, cap9, vc9, hAA⟩ := hV.acct hx9
        have hb2 := ho.bd.accts
        refine c_skip ?_
        refine hK15 _ _ ?_
        refine fg5 0 3 6 7 8 (gS rfl (gS rfl (gS rfl (gS rfl (gS rfl g0))))) (gS rfl (gS rfl (gS rfl (gS rfl g0)))) (gS rfl (gS rfl (gS rfl g0))) (gS rfl (gS rfl g0)) (gS rfl g0) (fun g => ?_)
        refine c_seq (fun K19 hK19 => ?_)
        refine c_seq (fun K20 hK20 => ?_)
        refine c_draw Up 20 [(0, true), (1, true), (2, true), (3, true), (4, true), (5, true), (6, true), (7, true), (8, true), (9, true), (10, true), (11, true), (12, true), (13, true), (14, true), (15, true), (16, true), (17, true), (18, true), (19, true)] (by kernel_rfl) (fun w21 hu => ⟨Up.refl _, ?_⟩)
        replace k2 := k2.up hu
        replace hV := hV.up hu
        replace hAA := hAA.up hu
        replace U := U.tr hu
        replace V8 := V8.tr hu
        have SU := Up.refl w21
        refine p_step (by exact rfl) (y_moveV (et g0 rfl)) ?_
        refine p_step (by exact rfl) (y_conv Hvaa.underlying21 Hvaa.underlying3 (et g0 rfl) (wrapIN ?_)) ?_
        omega
        refine p_step (by exact rfl) (y_moveV (et (gS rfl (gS rfl (gS rfl (gS rfl (gS rfl (gS rfl g0)))))) rfl)) ?_
        refine p_step (by exact rfl) (y_nil (et g0 rfl)) ?_
        refine p_step (by exact rfl) (y_fld fld_84_0 (et g0 rfl)) ?_
        refine p_step (by exact rfl) (y_load1 one_76 (et g0 rfl) (atS (hV.c1 hAA.sl (by first | omega | rfl)))) ?_
        refine p_step (by exact rfl) (y_len Hvaa.underlying76 (et g0 rfl)) ?_
        refine p_step (by exact rfl) (y_lss (et (gS rfl (gS rfl (gS rfl (gS rfl (gS rfl g0))))) rfl) (et g0 rfl)) ?_
        refine p_step (by exact rfl) (y_moveV (et g0 rfl)) ?_
        refine gsplitP (i := 33) g0 (fun q22 => ?_) (fun q22 => ?_)
        · skip
          refine p_gstep (j := 8) (t := 33) (by exact rfl) (by exact rfl) (by exact rfl) (et g0 rfl) rfl (y_moveV (et (gS rfl (gS rfl (gS rfl (gS rfl (gS rfl (gS rfl (gS rfl (gS rfl (gS rfl (gS rfl (gS rfl (gS rfl (gS rfl (gS rfl g0)))))))))))))) rfl)) ?_
          refine p_gstep (j := 8) (t := 33) (by exact rfl) (by exact rfl) (by exact rfl) (et (gS rfl g0) rfl) rfl (y_nil (et g0 rfl)) ?_
          refine p_gstep (j := 8) (t := 33) (by exact rfl) (by exact rfl) (by exact rfl) (et (gS rfl (gS rfl g0)) rfl) rfl (y_fld fld_84_0 (et g0 rfl)) ?_
          refine p_gstep (j := 8) (t := 33) (by exact rfl) (by exact rfl) (by exact rfl) (et (gS rfl (gS rfl (gS rfl g0))) rfl) rfl (y_load1 one_76 (et g0 rfl) (atS (hV.c1 hAA.sl (by first | omega | rfl)))) ?_
          refine p_gstep (j := 8) (t := 33) (by exact rfl) (by exact rfl) (by exact rfl) (et (gS rfl (gS rfl (gS rfl (gS rfl g0)))) rfl) rfl (y_moveV (et (gS rfl (gS rfl (gS rfl (gS rfl (gS rfl (gS rfl (gS rfl (gS rfl (gS rfl (gS rfl (gS rfl (gS rfl (gS rfl (gS rfl g0)))))))))))))) rfl)) ?_
          refine p_gstep (j := 8) (t := 33) (by exact rfl) (by exact rfl) (by exact rfl) (et (gS rfl (gS rfl (gS rfl (gS rfl (gS rfl g0))))) rfl) rfl (y_idxS Hvaa.underlying76 sz_167 (et (gS rfl g0) rfl) (et g0 rfl) ?_ ?_) ?_
          omega
          omega
          refine p_gstep (j := 8) (t := 33) (by exact rfl) (by exact rfl) (by exact rfl) (et (gS rfl (gS rfl (gS rfl (gS rfl (gS rfl (gS rfl g0)))))) rfl) rfl (y_fld fld_167_0 (et g0 rfl)) ?_
          refine p_gstep (j := 8) (t := 33) (by exact rfl) (by exact rfl) (by exact rfl) (et (gS rfl (gS rfl (gS rfl (gS rfl (gS rfl (gS rfl (gS rfl g0))))))) rfl) rfl (y_loadR agg_25 sz_25 (et g0 rfl) (by rw [length_bL, length_be]) (atSR (hAA.rAddr (by first | omega | rfl)))) ?_
          refine p_gstep (j := 8) (t := 33) (by exact rfl) (by exact rfl) (by exact rfl) (et (gS rfl (gS rfl (gS rfl (gS rfl (gS rfl (gS rfl (gS rfl (gS rfl g0)))))))) rfl) rfl (y_loadB agg_25 sz_25 (et (gS rfl (gS rfl (gS rfl (gS rfl (gS rfl (gS rfl (gS rfl (gS rfl (gS rfl (gS rfl (gS rfl (gS rfl (gS rfl (gS rfl (gS rfl (gS rfl (gS rfl (gS rfl (gS rfl (gS rfl (gS rfl g0))))))))))))))))))))) rfl) (by rw [List.size_toArray, length_bL, length_be]) (atSB k2)) ?_
          refine p_gstep (j := 8) (t := 33) (by exact rfl) (by exact rfl) (by exact rfl) (et (gS rfl (gS rfl (gS rfl (gS rfl (gS rfl (gS rfl (gS rfl (gS rfl (gS rfl g0))))))))) rfl) rfl (y_eqlAddr hAA.ok.addr ha (et (gS rfl g0) rfl) (et g0 rfl)) ?_
          refine p_step (by exact rfl) (y_pickT (et (gS rfl (gS rfl (gS rfl (gS rfl (gS rfl (gS rfl (gS rfl (gS rfl (gS rfl (gS rfl g0)))))))))) rfl) (et g0 rfl)) ?_
          refine p_nil ?_
          refine hK20 _ _ ?_
          refine fg6 0 3 6 7 8 44 (gS rfl (gS rfl (gS rfl (gS rfl (gS rfl (gS rfl (gS rfl (gS rfl (gS rfl (gS rfl (gS rfl (gS rfl (gS rfl (gS rfl (gS rfl (gS rfl (gS rfl (gS rfl (gS rfl (gS rfl (gS rfl (gS rfl (gS rfl (gS rfl (gS rfl g0))))))))))))))))))))))))) (gS rfl (gS rfl (gS rfl (gS rfl (gS rfl (gS rfl (gS rfl (gS rfl (gS rfl (gS rfl (gS rfl (gS rfl (gS rfl (gS rfl (gS rfl (gS rfl (gS rfl (gS rfl (gS rfl (gS rfl (gS rfl (gS rfl (gS rfl (gS rfl g0)))))))))))))))))))))))) (gS rfl (gS rfl (gS rfl (gS rfl (gS rfl (gS rfl (gS rfl (gS rfl (gS rfl (gS rfl (gS rfl (gS rfl (gS rfl (gS rfl (gS rfl (gS rfl (gS rfl (gS rfl (gS rfl (gS rfl (gS rfl (gS rfl (gS rfl g0))))))))))))))))))))))) (gS rfl (gS rfl (gS rfl (gS rfl (gS rfl (gS rfl (gS rfl (gS rfl (gS rfl (gS rfl (gS rfl (gS rfl (gS rfl (gS rfl (gS rfl (gS rfl (gS rfl (gS rfl (gS rfl (gS rfl (gS rfl (gS rfl g0)))))))))))))))))))))) (gS rfl (gS rfl (gS rfl (gS rfl (gS rfl (gS rfl (gS rfl (gS rfl (gS rfl (gS rfl (gS rfl (gS rfl (gS rfl (gS rfl (gS rfl (gS rfl (gS rfl (gS rfl (gS rfl (gS rfl (gS rfl g0))))))))))))))))))))) g0 (fun g => ?_)
          refine c_cond (et g0 rfl) (fun cB3 => ?_) (fun cB3 => ?_)
          · skip
            
            have hme : x9.addr = a := of_decide_eq_true cB3
            refine c_seq (fun K24 hK24 => ?_)
            refine c_region ?_
            refine l_step (y_moveV (et (gS rfl g0) rfl)) ?_
            refine l_step (y_assignV (et g0 rfl)) ?_
            refine l_step y_assignC ?_
            refine l_nil ?_
            refine hK24 _ _ ?_
            refine fg2 4 5 (gS rfl g0) g0 (fun g => ?_)
            refine c_ret ?_
            refine hQ13 _ _ _ (in_ret ?_)
            refine hQ7 _ _ _ (in_ret ?_)
            refine ret2 rfl (res_tmp (et (gS rfl g0) rfl)) (res_tmp (et g0 rfl)) ?_
            exact ⟨_, _, rfl, .inl ⟨k9, ⟨x9, hx9, hme⟩, hk9, rfl, rfl⟩, U⟩
          · skip
            
            have hne : ¬ mA V a k9 := by
              rintro ⟨y9, hy1, hy2⟩
              rw [hx9] at hy1
              cases hy1
              exact of_decide_eq_false cB3 hy2
            refine c_skip ?_
            refine hK19 _ _ ?_
            refine fg4 0 3 6 7 (gS rfl (gS rfl (gS rfl (gS rfl (gS rfl g0))))) (gS rfl (gS rfl (gS rfl (gS rfl g0)))) (gS rfl (gS rfl (gS rfl g0))) (gS rfl (gS rfl g0)) (fun g => ?_)
            refine c_region ?_
            refine l_step (y_moveV (et (gS rfl g0) rfl)) ?_
            refine l_step (y_add (et g0 rfl) rfl (wrapU_addN (b := 1) uk32 ?_)) ?_
            omega
            refine l_step (y_rem (et g0 rfl) rfl (by decide) (remN (b := 4096))) ?_
            refine l_step (y_assignV (et g0 rfl)) ?_
            refine l_nil ?_
            refine hQ13 _ _ _ (in_normal ?_)
            refine hK12 _ _ ?_
            refine fg4 0 3 6 7 (gS rfl (gS rfl (gS rfl (gS rfl (gS rfl (gS rfl (gS rfl g0))))))) (gS rfl (gS rfl (gS rfl (gS rfl (gS rfl (gS rfl g0)))))) g0 (gS rfl (gS rfl (gS rfl (gS rfl g0)))) (fun g => ?_)
            refine c_region ?_
            refine l_step (y_moveV (et g0 rfl)) ?_
            refine l_step (y_add (et g0 rfl) rfl (addIN (y := 1) ?_)) ?_
            omega
            refine l_step (y_assignV (et g0 rfl)) ?_
            refine l_nil ?_
            refine fK4 0 3 6 7 (gS rfl (gS rfl (gS rfl (gS rfl (gS rfl (gS rfl g0)))))) (gS rfl (gS rfl (gS rfl (gS rfl (gS rfl g0))))) (gS rfl (gS rfl (gS rfl (gS rfl g0)))) g0 (fun g => ?_)
            exact hK8 (4096 - ((t + 1))) _ _ (by omega) ⟨g, (t + 1), _, rfl, rfl, by omega, mod_next, hP.next hq (fun h9 => hne h9), V8⟩
        · skip
          exact absurd (of_decide_eq_false q22) (by have := hk9; omega)
    · skip
      
      have htl : t = 4096 := by have := of_decide_eq_false cB1; omega
      subst htl
      refine c_exit ?_
      refine hQ7 _ _ _ (in_exit ?_)
      refine hK5 _ _ ?_
      refine fg0 (fun g => ?_)
      refine c_seq (fun K25 hK25 => ?_)
      refine c_region ?_
      refine l_step y_assignC ?_
      refine l_step y_assignC ?_
      refine l_nil ?_
      refine hK25 _ _ ?_
      refine c_ret ?_
      refine ret2 rfl (res_tmp (et (gS rfl g0) rfl)) (res_tmp (et g0 rfl)) ?_
      have h8 : V.accts.length < 4096 := by have := ho.bd.accts; omega
      have h9 : ∀ e, e < 4096 → 0 ≤ V.atb ((h0 + e) % 4096) := fun e he => (hP e he).1
      exact absurd h9 (ho.a.full (h0 := h0) h8)
end Go.Proofs.YgvaawGreat
