import Derived.Test.YgvaawGreatE2
set_option maxRecDepth 100000
set_option maxHeartbeats 4000000
set_option linter.unusedSimpArgs false
set_option linter.unusedVariables false
namespace Go.Proofs.YgvaawGreat
open Go
theorem v_findSlot {w : World} {H : Store} {col : Nat → Nat} {bc : Nat} {cs : Array Value} {V : EV} (hV : VL w H col bc cs V) (ho : VOk V) (q k : Nat) (hq0 : q < 2560) (hk : k < W256) :
    Ret 160 [.pointer (some ⟨bc, 2435, none⟩), .int .i32 (q : Nat), wV k] w (fun v w' => ∃ i f : Int, v = .tuple #[.int .i32 i, .int .i32 f] ∧ Fnd 4096 V.stb V.slots.length (sHome q k) (mS V q k) i f ∧ Up w w') := by
  refine enter (n := 64) Hvaa.func160 rfl rfl (Nat.le_of_ble_eq_true rfl) ?_
  have U := Up.refl w
  refine c_seq (fun K1 hK1 => ?_)
  refine c_region ?_
  refine l_eff (e_boxV (et (gS rfl (gS rfl g0)) rfl)) (fun v2 w2 h2 => ?_)
  obtain ⟨b2, rfl, n2⟩ := h2
  have f2 : w.heap.size ≤ b2 := Nat.le_trans U.size n2.fresh
  replace hV := hV.up n2.up
  replace U := U.tr n2.up
  have k2 := n2.blk
  refine l_step y_assignC ?_
  refine l_step y_assignC ?_
  refine l_nil ?_
  refine hK1 _ _ ?_
  refine fg3 1 0 5 (gS rfl (gS rfl (gS rfl (gS rfl g0)))) (gS rfl (gS rfl (gS rfl g0))) (gS rfl (gS rfl g0)) (fun g => ?_)
  refine c_seq (fun K3 hK3 => ?_)
  refine c_region ?_
  refine l_step (y_moveV (et (gS rfl (gS rfl g0)) rfl)) ?_
  refine l_step (y_loadB agg_65 sz_65 (et (gS rfl g0) rfl) (by first | (simp only [Value.cells, hV, aV, bV, wV, wL, List.size_toArray, length_bL, length_uL, length_be, size_spl, List.length_cons, List.length_nil, List.length_replicate, Nat.zero_add, Nat.reduceAdd, Nat.reduceLeDiff, Nat.le_refl]; done) | rfl) (at1B k2)) ?_
  refine l_eff (e_callV cal_240 (aC (et (gS rfl g0) rfl) (aC (et g0 rfl) aN)) (v_slotHome' q k _ (by omega))) (fun v4 w4 h4 => ?_)
  obtain ⟨h0, rfl, hh0, hhl, u4⟩ := h4
  replace k2 := k2.up u4
  replace hV := hV.up u4
  replace U := U.tr u4
  refine l_step (y_assignV (et g0 rfl)) ?_
  refine l_nil ?_
  refine hK3 _ _ ?_
  refine fg4 1 0 5 8 (gS rfl (gS rfl (gS rfl (gS rfl (gS rfl (gS rfl g0)))))) (gS rfl (gS rfl (gS rfl (gS rfl (gS rfl g0))))) (gS rfl (gS rfl (gS rfl (gS rfl g0)))) g0 (fun g => ?_)
  refine c_seq (fun K5 hK5 => ?_)
  refine c_seq (fun K6 hK6 => ?_)
  refine c_region ?_
  refine l_step y_assignC ?_
  refine l_nil ?_
  refine hK6 _ _ ?_
  refine c_block (fun Q7 hQ7 => ?_)
  refine fg5 0 1 5 8 9 (gS rfl (gS rfl (gS rfl g0))) (gS rfl (gS rfl (gS rfl (gS rfl g0)))) (gS rfl (gS rfl g0)) (gS rfl g0) g0 (fun g => ?_)
  refine c_loop (fun k_ s_ W8 => ∃ (g : Nat → Value) (t p9 : Nat), s_ = (upd (upd (upd (upd (upd g 0 (.pointer (some ⟨bc, 2435, none⟩))) 1 (.int .i32 (q : Nat))) 5 (.pointer (some ⟨b2, 0, none⟩))) 8 (.int .u32 (p9 : Nat))) 9 (.int .i64 (t : Nat))) ∧ 4096 - t = k_ ∧ (t ≤ 4096) ∧ (p9 = (h0 + t) % 4096) ∧ (Pb 4096 V.stb (mS V q k) (h0) t) ∧ Ch (fun k => False) w4 W8) (4096 - (0)) ?_ ?_
  · exact ⟨g, 0, _, rfl, rfl, Nat.zero_le _, by rw [Nat.add_zero, Nat.mod_eq_of_lt hhl], fun e he => absurd he (by omega), Ch.refl _ _⟩
  · skip
    intro k_ s_ W8 hI K8 hK8
    obtain ⟨g, t, p9, rfl, rfl, ht, hpe, hP, V8⟩ := hI
    replace k2 := k2.ch V8 (by exact fun h => h)
    replace hV := hV.ch V8 (by first | exact fun h => h | exact fun _ h => h.elim | exact fun _ _ h => h)
    replace U := U.cc V8 (by intro b hb; first | exact hb.elim | omega | (simp at hb ⊢; omega))
    subst hpe
    refine c_seq (fun K9 hK9 => ?_)
    refine c_seq (fun K10 hK10 => ?_)
    refine c_region ?_
    refine l_step (y_moveV (et g0 rfl)) ?_
    refine l_step (y_lss (et g0 rfl) rfl) ?_
    refine l_nil ?_
    refine hK10 _ _ ?_
    refine fg6 0 1 5 8 9 15 (gS rfl (gS rfl (gS rfl (gS rfl (gS rfl (gS rfl g0)))))) (gS rfl (gS rfl (gS rfl (gS rfl (gS rfl g0))))) (gS rfl (gS rfl (gS rfl (gS rfl g0)))) (gS rfl (gS rfl (gS rfl g0))) (gS rfl (gS rfl g0)) g0 (fun g => ?_)
    refine c_cond (et g0 rfl) (fun cB1 => ?_) (fun cB1 => ?_)
    · skip
      
      have htl : t < 4096 := by have := of_decide_eq_true cB1; omega
      obtain ⟨q9, hq⟩ : ∃ q9, V.stb ((h0 + t) % 4096) = q9 := ⟨_, rfl⟩
      have hpN : (h0 + t) % 4096 < 4096 := Nat.mod_lt _ (by decide)
      refine c_skip ?_
      refine hK9 _ _ ?_
      refine fg5 0 1 5 8 9 (gS rfl (gS rfl (gS rfl (gS rfl (gS rfl g0))))) (gS rfl (gS rfl (gS rfl (gS rfl g0)))) (gS rfl (gS rfl (gS rfl g0))) (gS rfl (gS rfl g0)) (gS rfl g0) (fun g => ?_)
      refine c_seq (fun K12 hK12 => ?_)
      refine c_block (fun Q13 hQ13 => ?_)
      refine c_seq (fun K14 hK14 => ?_)
      refine c_region ?_
      refine l_step (y_moveV (et (gS rfl (gS rfl (gS rfl (gS rfl g0)))) rfl)) ?_
      refine l_step (y_moveV (et (gS rfl (gS rfl g0)) rfl)) ?_
      refine l_step (y_nil (et (gS rfl g0) rfl)) ?_
      refine l_step (y_fld fld_84_3 (et g0 rfl)) ?_
      refine l_step (y_idxA Hvaa.underlying78 sz_21 (et g0 rfl) (et (gS rfl (gS rfl g0)) rfl) ?_ ?_) ?_
      omega
      omega
      refine l_step (y_load1 one_21 (et g0 rfl) (at1 (hV.cSt hpN hq (by first | omega | rfl)))) ?_
      refine l_step (y_assignV (et g0 rfl)) ?_
      refine l_nil ?_
      refine hK14 _ _ ?_
      refine fg6 0 1 5 8 9 10 (gS rfl (gS rfl (gS rfl (gS rfl (gS rfl (gS rfl (gS rfl (gS rfl (gS rfl (gS rfl (gS rfl g0))))))))))) (gS rfl (gS rfl (gS rfl (gS rfl (gS rfl (gS rfl (gS rfl (gS rfl (gS rfl (gS rfl g0)))))))))) (gS rfl (gS rfl (gS rfl (gS rfl (gS rfl (gS rfl (gS rfl (gS rfl (gS rfl g0))))))))) (gS rfl (gS rfl (gS rfl (gS rfl (gS rfl (gS rfl (gS rfl (gS rfl g0)))))))) (gS rfl (gS rfl (gS rfl (gS rfl (gS rfl (gS rfl (gS rfl g0))))))) g0 (fun g => ?_)
      refine c_seq (fun K15 hK15 => ?_)
      refine c_seq (fun K16 hK16 => ?_)
      refine c_region ?_
      refine l_step (y_moveV (et g0 rfl)) ?_
      refine l_step (y_lss (et g0 rfl) rfl) ?_
      refine l_nil ?_
      refine hK16 _ _ ?_
      refine fg7 0 1 5 8 9 10 25 (gS rfl (gS rfl (gS rfl (gS rfl (gS rfl (gS rfl (gS rfl g0))))))) (gS rfl (gS rfl (gS rfl (gS rfl (gS rfl (gS rfl g0)))))) (gS rfl (gS rfl (gS rfl (gS rfl (gS rfl g0))))) (gS rfl (gS rfl (gS rfl (gS rfl g0)))) (gS rfl (gS rfl (gS rfl g0))) (gS rfl (gS rfl g0)) g0 (fun g => ?_)
      refine c_cond (et g0 rfl) (fun cB2 => ?_) (fun cB2 => ?_)
      · skip
        
        have hq0 : q9 < 0 := by have := of_decide_eq_true cB2; omega
        refine c_seq (fun K18 hK18 => ?_)
        refine c_region ?_
        refine l_step (y_moveV (et (gS rfl (gS rfl (gS rfl g0))) rfl)) ?_
        refine l_step (y_conv Hvaa.underlying60 Hvaa.underlying21 (et g0 rfl) (wrap_i32 ?_ ?_)) ?_
        omega
        omega
        refine l_step y_assignC ?_
        refine l_step (y_assignV (et (gS rfl g0) rfl)) ?_
        refine l_nil ?_
        refine hK18 _ _ ?_
        refine fg2 6 7 (gS rfl g0) g0 (fun g => ?_)
        refine c_ret ?_
        refine hQ13 _ _ _ (in_ret ?_)
        refine hQ7 _ _ _ (in_ret ?_)
        refine ret2 rfl (res_tmp (et (gS rfl g0) rfl)) (res_tmp (et g0 rfl)) ?_
        rw [← hh0]
        exact ⟨_, _, rfl, Fnd.free ho.s (fun i _ hm => (mS_hm hm).trans hh0.symm) hP htl (by rw [hq]; exact hq0), U⟩
      · skip
        
        have hq0 : ¬ q9 < 0 := by have := of_decide_eq_false cB2; omega
        obtain ⟨k9, rfl⟩ : ∃ k9 : Nat, q9 = (k9 : Int) := ⟨q9.toNat, by omega⟩
        have hk9 := ho.s.ix hpN hq
        obtain ⟨x9, hx9⟩ : ∃ x9, V.slots[k9]? = some x9 := ⟨_, List.getElem?_eq_getElem hk9⟩
        obtain ⟨ba, ca, cap9, hAA⟩ := hV.slot hx9
        have hb2 := ho.bd.slots
        refine c_skip ?_
        refine hK15 _ _ ?_
        refine fg6 0 1 5 8 9 10 (gS rfl (gS rfl (gS rfl (gS rfl (gS rfl (gS rfl g0)))))) (gS rfl (gS rfl (gS rfl (gS rfl (gS rfl g0))))) (gS rfl (gS rfl (gS rfl (gS rfl g0)))) (gS rfl (gS rfl (gS rfl g0))) (gS rfl (gS rfl g0)) (gS rfl g0) (fun g => ?_)
        refine c_seq (fun K19 hK19 => ?_)
        refine c_seq (fun K20 hK20 => ?_)
        refine c_draw Up 32 [(0, true), (1, true), (2, true), (3, true), (4, true), (5, true), (6, true), (7, true), (8, true), (9, true), (10, true), (11, true), (12, true), (13, true), (14, true), (15, true), (16, true), (17, true), (18, true), (19, true), (20, true), (21, true), (22, true), (23, true), (24, true), (25, true), (26, true), (27, true), (28, true), (29, true), (30, true), (31, true)] (by kernel_rfl) (fun w21 hu => ⟨Up.refl _, ?_⟩)
        replace k2 := k2.up hu
        replace hV := hV.up hu
        replace hAA := hAA.up hu
        replace U := U.tr hu
        replace V8 := V8.tr hu
        have SU := Up.refl w21
        refine p_step (by exact rfl) (y_moveV (et g0 rfl)) ?_
        refine p_step (by exact rfl) (y_conv Hvaa.underlying21 Hvaa.underlying3 (et g0 rfl) (wrapIN ?_)) ?_
        omega
        refine p_step (by exact rfl) (y_moveV (et (gS rfl (gS rfl (gS rfl (gS rfl (gS rfl (gS rfl (gS rfl g0))))))) rfl)) ?_
        refine p_step (by exact rfl) (y_nil (et g0 rfl)) ?_
        refine p_step (by exact rfl) (y_fld fld_84_1 (et g0 rfl)) ?_
        refine p_step (by exact rfl) (y_load1 one_77 (et g0 rfl) (atS (hV.c1 hAA.sl (by first | omega | rfl)))) ?_
        refine p_step (by exact rfl) (y_len Hvaa.underlying77 (et g0 rfl)) ?_
        refine p_step (by exact rfl) (y_lss (et (gS rfl (gS rfl (gS rfl (gS rfl (gS rfl g0))))) rfl) (et g0 rfl)) ?_
        refine p_step (by exact rfl) (y_moveV (et g0 rfl)) ?_
        refine gsplitP (i := 36) g0 (fun q22 => ?_) (fun q22 => ?_)
        · skip
          refine p_gstep (j := 8) (t := 36) (by exact rfl) (by exact rfl) (by exact rfl) (et g0 rfl) rfl (y_moveV (et (gS rfl (gS rfl (gS rfl (gS rfl (gS rfl (gS rfl (gS rfl (gS rfl (gS rfl (gS rfl (gS rfl (gS rfl (gS rfl (gS rfl (gS rfl g0))))))))))))))) rfl)) ?_
          refine p_gstep (j := 8) (t := 36) (by exact rfl) (by exact rfl) (by exact rfl) (et (gS rfl g0) rfl) rfl (y_nil (et g0 rfl)) ?_
          refine p_gstep (j := 8) (t := 36) (by exact rfl) (by exact rfl) (by exact rfl) (et (gS rfl (gS rfl g0)) rfl) rfl (y_fld fld_84_1 (et g0 rfl)) ?_
          refine p_gstep (j := 8) (t := 36) (by exact rfl) (by exact rfl) (by exact rfl) (et (gS rfl (gS rfl (gS rfl g0))) rfl) rfl (y_load1 one_77 (et g0 rfl) (atS (hV.c1 hAA.sl (by first | omega | rfl)))) ?_
          refine p_gstep (j := 8) (t := 36) (by exact rfl) (by exact rfl) (by exact rfl) (et (gS rfl (gS rfl (gS rfl (gS rfl g0)))) rfl) rfl (y_moveV (et (gS rfl (gS rfl (gS rfl (gS rfl (gS rfl (gS rfl (gS rfl (gS rfl (gS rfl (gS rfl (gS rfl (gS rfl (gS rfl (gS rfl g0)))))))))))))) rfl)) ?_
          refine p_gstep (j := 8) (t := 36) (by exact rfl) (by exact rfl) (by exact rfl) (et (gS rfl (gS rfl (gS rfl (gS rfl (gS rfl g0))))) rfl) rfl (y_idxS Hvaa.underlying77 sz_176 (et (gS rfl g0) rfl) (et g0 rfl) ?_ ?_) ?_
          omega
          omega
          refine p_gstep (j := 8) (t := 36) (by exact rfl) (by exact rfl) (by exact rfl) (et (gS rfl (gS rfl (gS rfl (gS rfl (gS rfl (gS rfl g0)))))) rfl) rfl (y_fld fld_176_0 (et g0 rfl)) ?_
          refine p_gstep (j := 8) (t := 36) (by exact rfl) (by exact rfl) (by exact rfl) (et (gS rfl (gS rfl (gS rfl (gS rfl (gS rfl (gS rfl (gS rfl g0))))))) rfl) rfl (y_load1 one_21 (et g0 rfl) (atS (hAA.cAcct (by first | omega | rfl)))) ?_
          refine p_gstep (j := 8) (t := 36) (by exact rfl) (by exact rfl) (by exact rfl) (et (gS rfl (gS rfl (gS rfl (gS rfl (gS rfl (gS rfl (gS rfl (gS rfl g0)))))))) rfl) rfl (y_moveV (et (gS rfl (gS rfl (gS rfl (gS rfl (gS rfl (gS rfl (gS rfl (gS rfl (gS rfl (gS rfl (gS rfl (gS rfl (gS rfl (gS rfl (gS rfl (gS rfl (gS rfl (gS rfl (gS rfl (gS rfl (gS rfl (gS rfl g0)))))))))))))))))))))) rfl)) ?_
          refine p_gstep (j := 8) (t := 36) (by exact rfl) (by exact rfl) (by exact rfl) (et (gS rfl (gS rfl (gS rfl (gS rfl (gS rfl (gS rfl (gS rfl (gS rfl (gS rfl g0))))))))) rfl) rfl (y_eql (et (gS rfl g0) rfl) (et g0 rfl)) ?_
          refine p_step (by exact rfl) (y_pickT (et (gS rfl (gS rfl (gS rfl (gS rfl (gS rfl (gS rfl (gS rfl (gS rfl (gS rfl (gS rfl g0)))))))))) rfl) (et g0 rfl)) ?_
          refine p_step (by exact rfl) (y_moveV (et g0 rfl)) ?_
          refine gsplitP (i := 48) g0 (fun q23 => ?_) (fun q23 => ?_)
          · skip
            have hae : x9.acct = q := by have := of_decide_eq_true q23; omega
            refine p_gstep (j := 20) (t := 48) (by exact rfl) (by exact rfl) (by exact rfl) (et g0 rfl) rfl (y_moveV (et (gS rfl (gS rfl (gS rfl (gS rfl (gS rfl (gS rfl (gS rfl (gS rfl (gS rfl (gS rfl (gS rfl (gS rfl (gS rfl (gS rfl (gS rfl (gS rfl (gS rfl (gS rfl (gS rfl (gS rfl (gS rfl (gS rfl (gS rfl (gS rfl (gS rfl (gS rfl (gS rfl (gS rfl g0)))))))))))))))))))))))))))) rfl)) ?_
            refine p_gstep (j := 20) (t := 48) (by exact rfl) (by exact rfl) (by exact rfl) (et (gS rfl g0) rfl) rfl (y_nil (et g0 rfl)) ?_
            refine p_gstep (j := 20) (t := 48) (by exact rfl) (by exact rfl) (by exact rfl) (et (gS rfl (gS rfl g0)) rfl) rfl (y_fld fld_84_1 (et g0 rfl)) ?_
            refine p_gstep (j := 20) (t := 48) (by exact rfl) (by exact rfl) (by exact rfl) (et (gS rfl (gS rfl (gS rfl g0))) rfl) rfl (y_load1 one_77 (et g0 rfl) (atS (hV.c1 hAA.sl (by first | omega | rfl)))) ?_
            refine p_gstep (j := 20) (t := 48) (by exact rfl) (by exact rfl) (by exact rfl) (et (gS rfl (gS rfl (gS rfl (gS rfl g0)))) rfl) rfl (y_moveV (et (gS rfl (gS rfl (gS rfl (gS rfl (gS rfl (gS rfl (gS rfl (gS rfl (gS rfl (gS rfl (gS rfl (gS rfl (gS rfl (gS rfl (gS rfl (gS rfl (gS rfl (gS rfl (gS rfl (gS rfl (gS rfl (gS rfl (gS rfl (gS rfl (gS rfl (gS rfl (gS rfl g0))))))))))))))))))))))))))) rfl)) ?_
            refine p_gstep (j := 20) (t := 48) (by exact rfl) (by exact rfl) (by exact rfl) (et (gS rfl (gS rfl (gS rfl (gS rfl (gS rfl g0))))) rfl) rfl (y_idxS Hvaa.underlying77 sz_176 (et (gS rfl g0) rfl) (et g0 rfl) ?_ ?_) ?_
            omega
            omega
            refine p_gstep (j := 20) (t := 48) (by exact rfl) (by exact rfl) (by exact rfl) (et (gS rfl (gS rfl (gS rfl (gS rfl (gS rfl (gS rfl g0)))))) rfl) rfl (y_fld fld_176_1 (et g0 rfl)) ?_
            refine p_gstep (j := 20) (t := 48) (by exact rfl) (by exact rfl) (by exact rfl) (et (gS rfl (gS rfl (gS rfl (gS rfl (gS rfl (gS rfl (gS rfl g0))))))) rfl) rfl (y_loadR agg_65 sz_65 (et g0 rfl) rfl (atSR (hAA.rKey (by first | omega | rfl)))) ?_
            refine p_gstep (j := 20) (t := 48) (by exact rfl) (by exact rfl) (by exact rfl) (et (gS rfl (gS rfl (gS rfl (gS rfl (gS rfl (gS rfl (gS rfl (gS rfl g0)))))))) rfl) rfl (y_loadB agg_65 sz_65 (et (gS rfl (gS rfl (gS rfl (gS rfl (gS rfl (gS rfl (gS rfl (gS rfl (gS rfl (gS rfl (gS rfl (gS rfl (gS rfl (gS rfl (gS rfl (gS rfl (gS rfl (gS rfl (gS rfl (gS rfl (gS rfl (gS rfl (gS rfl (gS rfl (gS rfl (gS rfl (gS rfl (gS rfl (gS rfl (gS rfl (gS rfl (gS rfl (gS rfl (gS rfl g0)))))))))))))))))))))))))))))))))) rfl) (by first | (simp only [Value.cells, hV, aV, bV, wV, wL, List.size_toArray, length_bL, length_uL, length_be, size_spl, List.length_cons, List.length_nil, List.length_replicate, Nat.zero_add, Nat.reduceAdd, Nat.reduceLeDiff, Nat.le_refl]; done) | rfl) (atSB k2)) ?_
            refine p_gstep (j := 20) (t := 48) (by exact rfl) (by exact rfl) (by exact rfl) (et (gS rfl (gS rfl (gS rfl (gS rfl (gS rfl (gS rfl (gS rfl (gS rfl (gS rfl g0))))))))) rfl) rfl (y_eqlW hAA.ok.key hk (et (gS rfl g0) rfl) (et g0 rfl)) ?_
            refine p_step (by exact rfl) (y_pickT (et (gS rfl (gS rfl (gS rfl (gS rfl (gS rfl (gS rfl (gS rfl (gS rfl (gS rfl (gS rfl g0)))))))))) rfl) (et g0 rfl)) ?_
            refine p_nil ?_
            refine hK20 _ _ ?_
            refine fg7 0 1 5 8 9 10 59 (gS rfl (gS rfl (gS rfl (gS rfl (gS rfl (gS rfl (gS rfl (gS rfl (gS rfl (gS rfl (gS rfl (gS rfl (gS rfl (gS rfl (gS rfl (gS rfl (gS rfl (gS rfl (gS rfl (gS rfl (gS rfl (gS rfl (gS rfl (gS rfl (gS rfl (gS rfl (gS rfl (gS rfl (gS rfl (gS rfl (gS rfl (gS rfl (gS rfl (gS rfl (gS rfl (gS rfl (gS rfl (gS rfl (gS rfl g0))))))))))))))))))))))))))))))))))))))) (gS rfl (gS rfl (gS rfl (gS rfl (gS rfl (gS rfl (gS rfl (gS rfl (gS rfl (gS rfl (gS rfl (gS rfl (gS rfl (gS rfl (gS rfl (gS rfl (gS rfl (gS rfl (gS rfl (gS rfl (gS rfl (gS rfl (gS rfl (gS rfl (gS rfl (gS rfl (gS rfl (gS rfl (gS rfl (gS rfl (gS rfl (gS rfl (gS rfl (gS rfl (gS rfl (gS rfl (gS rfl (gS rfl g0)))))))))))))))))))))))))))))))))))))) (gS rfl (gS rfl (gS rfl (gS rfl (gS rfl (gS rfl (gS rfl (gS rfl (gS rfl (gS rfl (gS rfl (gS rfl (gS rfl (gS rfl (gS rfl (gS rfl (gS rfl (gS rfl (gS rfl (gS rfl (gS rfl (gS rfl (gS rfl (gS rfl (gS rfl (gS rfl (gS rfl (gS rfl (gS rfl (gS rfl (gS rfl (gS rfl (gS rfl (gS rfl (gS rfl (gS rfl (gS rfl g0))))))))))))))))))))))))))))))))))))) (gS rfl (gS rfl (gS rfl (gS rfl (gS rfl (gS rfl (gS rfl (gS rfl (gS rfl (gS rfl (gS rfl (gS rfl (gS rfl (gS rfl (gS rfl (gS rfl (gS rfl (gS rfl (gS rfl (gS rfl (gS rfl (gS rfl (gS rfl (gS rfl (gS rfl (gS rfl (gS rfl (gS rfl (gS rfl (gS rfl (gS rfl (gS rfl (gS rfl (gS rfl (gS rfl (gS rfl g0)))))))))))))))))))))))))))))))))))) (gS rfl (gS rfl (gS rfl (gS rfl (gS rfl (gS rfl (gS rfl (gS rfl (gS rfl (gS rfl (gS rfl (gS rfl (gS rfl (gS rfl (gS rfl (gS rfl (gS rfl (gS rfl (gS rfl (gS rfl (gS rfl (gS rfl (gS rfl (gS rfl (gS rfl (gS rfl (gS rfl (gS rfl (gS rfl (gS rfl (gS rfl (gS rfl (gS rfl (gS rfl (gS rfl g0))))))))))))))))))))))))))))))))))) (gS rfl (gS rfl (gS rfl (gS rfl (gS rfl (gS rfl (gS rfl (gS rfl (gS rfl (gS rfl (gS rfl (gS rfl (gS rfl (gS rfl (gS rfl (gS rfl (gS rfl (gS rfl (gS rfl (gS rfl (gS rfl (gS rfl (gS rfl (gS rfl (gS rfl (gS rfl (gS rfl (gS rfl (gS rfl (gS rfl (gS rfl (gS rfl (gS rfl (gS rfl g0)))))))))))))))))))))))))))))))))) g0 (fun g => ?_)
            refine c_cond (et g0 rfl) (fun cB3 => ?_) (fun cB3 => ?_)
            · skip
              
              have hme : x9.key = k := of_decide_eq_true cB3
              refine c_seq (fun K25 hK25 => ?_)
              refine c_region ?_
              refine l_step (y_moveV (et (gS rfl g0) rfl)) ?_
              refine l_step (y_assignV (et g0 rfl)) ?_
              refine l_step y_assignC ?_
              refine l_nil ?_
              refine hK25 _ _ ?_
              refine fg2 6 7 (gS rfl g0) g0 (fun g => ?_)
              refine c_ret ?_
              refine hQ13 _ _ _ (in_ret ?_)
              refine hQ7 _ _ _ (in_ret ?_)
              refine ret2 rfl (res_tmp (et (gS rfl g0) rfl)) (res_tmp (et g0 rfl)) ?_
              exact ⟨_, _, rfl, .inl ⟨k9, ⟨x9, hx9, hae, hme⟩, hk9, rfl, rfl⟩, U⟩
            · skip
              
              have hne : ¬ mS V q k k9 := by
                rintro ⟨y9, hy1, hy2, hy3⟩
                rw [hx9] at hy1
                cases hy1
                exact of_decide_eq_false cB3 hy3
              refine c_skip ?_
              refine hK19 _ _ ?_
              refine fg5 0 1 5 8 9 (gS rfl (gS rfl (gS rfl (gS rfl (gS rfl (gS rfl g0)))))) (gS rfl (gS rfl (gS rfl (gS rfl (gS rfl g0))))) (gS rfl (gS rfl (gS rfl (gS rfl g0)))) (gS rfl (gS rfl (gS rfl g0))) (gS rfl (gS rfl g0)) (fun g => ?_)
              refine c_region ?_
              refine l_step (y_moveV (et (gS rfl g0) rfl)) ?_
              refine l_step (y_add (et g0 rfl) rfl (wrapU_addN (b := 1) uk32 ?_)) ?_
              omega
              refine l_step (y_rem (et g0 rfl) rfl (by decide) (remN (b := 4096))) ?_
              refine l_step (y_assignV (et g0 rfl)) ?_
              refine l_nil ?_
              refine hQ13 _ _ _ (in_normal ?_)
              refine hK12 _ _ ?_
              refine fg5 0 1 5 8 9 (gS rfl (gS rfl (gS rfl (gS rfl (gS rfl (gS rfl (gS rfl (gS rfl g0)))))))) (gS rfl (gS rfl (gS rfl (gS rfl (gS rfl (gS rfl (gS rfl g0))))))) (gS rfl (gS rfl (gS rfl (gS rfl (gS rfl (gS rfl g0)))))) g0 (gS rfl (gS rfl (gS rfl (gS rfl g0)))) (fun g => ?_)
              refine c_region ?_
              refine l_step (y_moveV (et g0 rfl)) ?_
              refine l_step (y_add (et g0 rfl) rfl (addIN (y := 1) ?_)) ?_
              omega
              refine l_step (y_assignV (et g0 rfl)) ?_
              refine l_nil ?_
              refine fK5 0 1 5 8 9 (gS rfl (gS rfl (gS rfl (gS rfl (gS rfl (gS rfl (gS rfl g0))))))) (gS rfl (gS rfl (gS rfl (gS rfl (gS rfl (gS rfl g0)))))) (gS rfl (gS rfl (gS rfl (gS rfl (gS rfl g0))))) (gS rfl (gS rfl (gS rfl (gS rfl g0)))) g0 (fun g => ?_)
              exact hK8 (4096 - ((t + 1))) _ _ (by omega) ⟨g, (t + 1), _, rfl, rfl, by omega, mod_next, hP.next hq (fun h9 => hne h9), V8⟩
          · skip
            have hne : ¬ mS V q k k9 := by
              rintro ⟨y9, hy1, hy2, hy3⟩
              rw [hx9] at hy1
              cases hy1
              have := of_decide_eq_false q23
              omega
            refine p_gskip (j := 20) (t := 48) (by exact rfl) (by exact rfl) (by exact rfl) (et g0 rfl) rfl rfl ?_
            refine p_gskip (j := 20) (t := 48) (by exact rfl) (by exact rfl) (by exact rfl) (et (gS rfl g0) rfl) rfl rfl ?_
            refine p_gskip (j := 20) (t := 48) (by exact rfl) (by exact rfl) (by exact rfl) (et (gS rfl (gS rfl g0)) rfl) rfl rfl ?_
            refine p_gskip (j := 20) (t := 48) (by exact rfl) (by exact rfl) (by exact rfl) (et (gS rfl (gS rfl (gS rfl g0))) rfl) rfl rfl ?_
            refine p_gskip (j := 20) (t := 48) (by exact rfl) (by exact rfl) (by exact rfl) (et (gS rfl (gS rfl (gS rfl (gS rfl g0)))) rfl) rfl rfl ?_
            refine p_gskip (j := 20) (t := 48) (by exact rfl) (by exact rfl) (by exact rfl) (et (gS rfl (gS rfl (gS rfl (gS rfl (gS rfl g0))))) rfl) rfl rfl ?_
            refine p_gskip (j := 20) (t := 48) (by exact rfl) (by exact rfl) (by exact rfl) (et (gS rfl (gS rfl (gS rfl (gS rfl (gS rfl (gS rfl g0)))))) rfl) rfl rfl ?_
            refine p_gskip (j := 20) (t := 48) (by exact rfl) (by exact rfl) (by exact rfl) (et (gS rfl (gS rfl (gS rfl (gS rfl (gS rfl (gS rfl (gS rfl g0))))))) rfl) rfl rfl ?_
            refine p_gskip (j := 20) (t := 48) (by exact rfl) (by exact rfl) (by exact rfl) (et (gS rfl (gS rfl (gS rfl (gS rfl (gS rfl (gS rfl (gS rfl (gS rfl g0)))))))) rfl) rfl rfl ?_
            refine p_gskip (j := 20) (t := 48) (by exact rfl) (by exact rfl) (by exact rfl) (et (gS rfl (gS rfl (gS rfl (gS rfl (gS rfl (gS rfl (gS rfl (gS rfl (gS rfl g0))))))))) rfl) rfl rfl ?_
            refine p_step (by exact rfl) (y_pickF (et (gS rfl (gS rfl (gS rfl (gS rfl (gS rfl (gS rfl (gS rfl (gS rfl (gS rfl (gS rfl g0)))))))))) rfl) rfl) ?_
            refine p_nil ?_
            refine hK20 _ _ ?_
            refine fg7 0 1 5 8 9 10 59 (gS rfl (gS rfl (gS rfl (gS rfl (gS rfl (gS rfl (gS rfl (gS rfl (gS rfl (gS rfl (gS rfl (gS rfl (gS rfl (gS rfl (gS rfl (gS rfl (gS rfl (gS rfl (gS rfl (gS rfl (gS rfl (gS rfl (gS rfl (gS rfl (gS rfl (gS rfl (gS rfl (gS rfl (gS rfl (gS rfl (gS rfl (gS rfl (gS rfl (gS rfl (gS rfl (gS rfl (gS rfl (gS rfl (gS rfl g0))))))))))))))))))))))))))))))))))))))) (gS rfl (gS rfl (gS rfl (gS rfl (gS rfl (gS rfl (gS rfl (gS rfl (gS rfl (gS rfl (gS rfl (gS rfl (gS rfl (gS rfl (gS rfl (gS rfl (gS rfl (gS rfl (gS rfl (gS rfl (gS rfl (gS rfl (gS rfl (gS rfl (gS rfl (gS rfl (gS rfl (gS rfl (gS rfl (gS rfl (gS rfl (gS rfl (gS rfl (gS rfl (gS rfl (gS rfl (gS rfl (gS rfl g0)))))))))))))))))))))))))))))))))))))) (gS rfl (gS rfl (gS rfl (gS rfl (gS rfl (gS rfl (gS rfl (gS rfl (gS rfl (gS rfl (gS rfl (gS rfl (gS rfl (gS rfl (gS rfl (gS rfl (gS rfl (gS rfl (gS rfl (gS rfl (gS rfl (gS rfl (gS rfl (gS rfl (gS rfl (gS rfl (gS rfl (gS rfl (gS rfl (gS rfl (gS rfl (gS rfl (gS rfl (gS rfl (gS rfl (gS rfl (gS rfl g0))))))))))))))))))))))))))))))))))))) (gS rfl (gS rfl (gS rfl (gS rfl (gS rfl (gS rfl (gS rfl (gS rfl (gS rfl (gS rfl (gS rfl (gS rfl (gS rfl (gS rfl (gS rfl (gS rfl (gS rfl (gS rfl (gS rfl (gS rfl (gS rfl (gS rfl (gS rfl (gS rfl (gS rfl (gS rfl (gS rfl (gS rfl (gS rfl (gS rfl (gS rfl (gS rfl (gS rfl (gS rfl (gS rfl (gS rfl g0)))))))))))))))))))))))))))))))))))) (gS rfl (gS rfl (gS rfl (gS rfl (gS rfl (gS rfl (gS rfl (gS rfl (gS rfl (gS rfl (gS rfl (gS rfl (gS rfl (gS rfl (gS rfl (gS rfl (gS rfl (gS rfl (gS rfl (gS rfl (gS rfl (gS rfl (gS rfl (gS rfl (gS rfl (gS rfl (gS rfl (gS rfl (gS rfl (gS rfl (gS rfl (gS rfl (gS rfl (gS rfl (gS rfl g0))))))))))))))))))))))))))))))))))) (gS rfl (gS rfl (gS rfl (gS rfl (gS rfl (gS rfl (gS rfl (gS rfl (gS rfl (gS rfl (gS rfl (gS rfl (gS rfl (gS rfl (gS rfl (gS rfl (gS rfl (gS rfl (gS rfl (gS rfl (gS rfl (gS rfl (gS rfl (gS rfl (gS rfl (gS rfl (gS rfl (gS rfl (gS rfl (gS rfl (gS rfl (gS rfl (gS rfl (gS rfl g0)))))))))))))))))))))))))))))))))) g0 (fun g => ?_)
            refine c_false (et g0 rfl) rfl ?_
            refine c_skip ?_
            refine hK19 _ _ ?_
            refine fg5 0 1 5 8 9 (gS rfl (gS rfl (gS rfl (gS rfl (gS rfl (gS rfl g0)))))) (gS rfl (gS rfl (gS rfl (gS rfl (gS rfl g0))))) (gS rfl (gS rfl (gS rfl (gS rfl g0)))) (gS rfl (gS rfl (gS rfl g0))) (gS rfl (gS rfl g0)) (fun g => ?_)
            refine c_region ?_
            refine l_step (y_moveV (et (gS rfl g0) rfl)) ?_
            refine l_step (y_add (et g0 rfl) rfl (wrapU_addN (b := 1) uk32 ?_)) ?_
            omega
            refine l_step (y_rem (et g0 rfl) rfl (by decide) (remN (b := 4096))) ?_
            refine l_step (y_assignV (et g0 rfl)) ?_
            refine l_nil ?_
            refine hQ13 _ _ _ (in_normal ?_)
            refine hK12 _ _ ?_
            refine fg5 0 1 5 8 9 (gS rfl (gS rfl (gS rfl (gS rfl (gS rfl (gS rfl (gS rfl (gS rfl g0)))))))) (gS rfl (gS rfl (gS rfl (gS rfl (gS rfl (gS rfl (gS rfl g0))))))) (gS rfl (gS rfl (gS rfl (gS rfl (gS rfl (gS rfl g0)))))) g0 (gS rfl (gS rfl (gS rfl (gS rfl g0)))) (fun g => ?_)
            refine c_region ?_
            refine l_step (y_moveV (et g0 rfl)) ?_
            refine l_step (y_add (et g0 rfl) rfl (addIN (y := 1) ?_)) ?_
            omega
            refine l_step (y_assignV (et g0 rfl)) ?_
            refine l_nil ?_
            refine fK5 0 1 5 8 9 (gS rfl (gS rfl (gS rfl (gS rfl (gS rfl (gS rfl (gS rfl g0))))))) (gS rfl (gS rfl (gS rfl (gS rfl (gS rfl (gS rfl g0)))))) (gS rfl (gS rfl (gS rfl (gS rfl (gS rfl g0))))) (gS rfl (gS rfl (gS rfl (gS rfl g0)))) g0 (fun g => ?_)
            exact hK8 (4096 - ((t + 1))) _ _ (by omega) ⟨g, (t + 1), _, rfl, rfl, by omega, mod_next, hP.next hq (fun h9 => hne h9), V8⟩
        · skip
          exact absurd (of_decide_eq_false q22) (by have := hk9; omega)
    · skip
      
      have htl : t = 4096 := by have := of_decide_eq_false cB1; omega
      subst htl
      refine c_exit ?_
      refine hQ7 _ _ _ (in_exit ?_)
      refine hK5 _ _ ?_
      refine fg0 (fun g => ?_)
      refine c_seq (fun K27 hK27 => ?_)
      refine c_region ?_
      refine l_step y_assignC ?_
      refine l_step y_assignC ?_
      refine l_nil ?_
      refine hK27 _ _ ?_
      refine c_ret ?_
      refine ret2 rfl (res_tmp (et (gS rfl g0) rfl)) (res_tmp (et g0 rfl)) ?_
      have h8 : V.slots.length < 4096 := by have := ho.bd.slots; omega
      have h9 : ∀ e, e < 4096 → 0 ≤ V.stb ((h0 + e) % 4096) := fun e he => (hP e he).1
      exact absurd h9 (ho.s.full (h0 := h0) h8)
theorem v_findTemp1 {w : World} {H : Store} {col : Nat → Nat} {bc : Nat} {cs : Array Value} {V : EV} (hV : VL w H col bc cs V) (ho : VOk V) (q k : Nat) (hq0 : q < 2560) (hk : k < W256) (htm : V.tm = true) :
    Ret 382 [.pointer (some ⟨bc, 2435, none⟩), .int .i32 (q : Nat), wV k] w (fun v w' => ∃ i f : Int, v = .tuple #[.int .i32 i, .int .i32 f] ∧ Fnd 16384 V.ttb V.temps.length (tHome q k) (mT V q k) i f ∧ Up w w') := by
  obtain ⟨bq9, cq9, hQ⟩ := hV.tab htm
  refine enter (n := 72) Hvaa.func382 rfl rfl (Nat.le_of_ble_eq_true rfl) ?_
  have U := Up.refl w
  refine c_seq (fun K1 hK1 => ?_)
  refine c_region ?_
  refine l_eff (e_boxV (et (gS rfl (gS rfl g0)) rfl)) (fun v2 w2 h2 => ?_)
  obtain ⟨b2, rfl, n2⟩ := h2
  have f2 : w.heap.size ≤ b2 := Nat.le_trans U.size n2.fresh
  replace hV := hV.up n2.up
  replace hQ := hQ.up n2.up
  replace U := U.tr n2.up
  have k2 := n2.blk
  refine l_step y_assignC ?_
  refine l_step y_assignC ?_
  refine l_nil ?_
  refine hK1 _ _ ?_
  refine fg3 1 0 5 (gS rfl (gS rfl (gS rfl (gS rfl g0)))) (gS rfl (gS rfl (gS rfl g0))) (gS rfl (gS rfl g0)) (fun g => ?_)
  refine c_seq (fun K3 hK3 => ?_)
  refine c_seq (fun K4 hK4 => ?_)
  refine c_region ?_
  refine l_step (y_moveV (et (gS rfl g0) rfl)) ?_
  refine l_step (y_nil (et g0 rfl)) ?_
  refine l_step (y_fld fld_84_10 (et g0 rfl)) ?_
  refine l_step (y_load1 one_82 (et g0 rfl) (at1 (hV.c1 hQ.sl (by first | omega | rfl)))) ?_
  refine l_step (y_len Hvaa.underlying82 (et g0 rfl)) ?_
  refine l_step (y_neq (et g0 rfl) rfl) ?_
  refine l_nil ?_
  refine hK4 _ _ ?_
  refine fg4 1 0 5 16 (gS rfl (gS rfl (gS rfl (gS rfl (gS rfl (gS rfl (gS rfl (gS rfl g0)))))))) (gS rfl (gS rfl (gS rfl (gS rfl (gS rfl (gS rfl (gS rfl g0))))))) (gS rfl (gS rfl (gS rfl (gS rfl (gS rfl (gS rfl g0)))))) g0 (fun g => ?_)
  refine c_false (et g0 rfl) (by rfl) ?_
  refine c_skip ?_
  refine hK3 _ _ ?_
  refine fg3 1 0 5 (gS rfl (gS rfl (gS rfl g0))) (gS rfl (gS rfl g0)) (gS rfl g0) (fun g => ?_)
  refine c_seq (fun K6 hK6 => ?_)
  refine c_region ?_
  refine l_step (y_moveV (et (gS rfl (gS rfl g0)) rfl)) ?_
  refine l_step (y_loadB agg_65 sz_65 (et (gS rfl g0) rfl) (by first | (simp only [Value.cells, hV, aV, bV, wV, wL, List.size_toArray, length_bL, length_uL, length_be, size_spl, List.length_cons, List.length_nil, List.length_replicate, Nat.zero_add, Nat.reduceAdd, Nat.reduceLeDiff, Nat.le_refl]; done) | rfl) (at1B k2)) ?_
  refine l_eff (e_callV cal_351 (aC (et (gS rfl g0) rfl) (aC (et g0 rfl) aN)) (v_mixSlot' q k _ (by omega))) (fun v7 w7 h7 => ?_)
  obtain ⟨h0, rfl, hh0, hhl, u7⟩ := h7
  replace k2 := k2.up u7
  replace hV := hV.up u7
  replace hQ := hQ.up u7
  replace U := U.tr u7
  refine l_step (y_rem (et g0 rfl) rfl (by decide) (remN (b := 16384))) ?_
  refine l_step (y_assignV (et g0 rfl)) ?_
  refine l_nil ?_
  refine hK6 _ _ ?_
  refine fg4 1 0 5 8 (gS rfl (gS rfl (gS rfl (gS rfl (gS rfl (gS rfl (gS rfl g0))))))) (gS rfl (gS rfl (gS rfl (gS rfl (gS rfl (gS rfl g0)))))) (gS rfl (gS rfl (gS rfl (gS rfl (gS rfl g0))))) g0 (fun g => ?_)
  refine c_seq (fun K8 hK8 => ?_)
  refine c_seq (fun K9 hK9 => ?_)
  refine c_region ?_
  refine l_step y_assignC ?_
  refine l_nil ?_
  refine hK9 _ _ ?_
  refine c_block (fun Q10 hQ10 => ?_)
  refine fg5 0 1 5 8 9 (gS rfl (gS rfl (gS rfl g0))) (gS rfl (gS rfl (gS rfl (gS rfl g0)))) (gS rfl (gS rfl g0)) (gS rfl g0) g0 (fun g => ?_)
  refine c_loop (fun k_ s_ W11 => ∃ (g : Nat → Value) (t p9 : Nat), s_ = (upd (upd (upd (upd (upd g 0 (.pointer (some ⟨bc, 2435, none⟩))) 1 (.int .i32 (q : Nat))) 5 (.pointer (some ⟨b2, 0, none⟩))) 8 (.int .u64 (p9 : Nat))) 9 (.int .i64 (t : Nat))) ∧ 16384 - t = k_ ∧ (t ≤ 16384) ∧ (p9 = ((h0 % 16384) + t) % 16384) ∧ (Pb 16384 V.ttb (mT V q k) ((h0 % 16384)) t) ∧ Ch (fun k => False) w7 W11) (16384 - (0)) ?_ ?_
  · exact ⟨g, 0, _, rfl, rfl, Nat.zero_le _, by rw [Nat.add_zero, Nat.mod_mod], fun e he => absurd he (by omega), Ch.refl _ _⟩
  · skip
    intro k_ s_ W11 hI K11 hK11
    obtain ⟨g, t, p9, rfl, rfl, ht, hpe, hP, V11⟩ := hI
    replace k2 := k2.ch V11 (by exact fun h => h)
    replace hV := hV.ch V11 (by first | exact fun h => h | exact fun _ h => h.elim | exact fun _ _ h => h)
    replace hQ := hQ.ch V11 (by first | exact fun h => h | exact fun _ h => h.elim | exact fun _ _ h => h)
    replace U := U.cc V11 (by intro b hb; first | exact hb.elim | omega | (simp at hb ⊢; omega))
    subst hpe
    refine c_seq (fun K12 hK12 => ?_)
    refine c_seq (fun K13 hK13 => ?_)
    refine c_region ?_
    refine l_step (y_moveV (et g0 rfl)) ?_
    refine l_step (y_lss (et g0 rfl) rfl) ?_
    refine l_nil ?_
    refine hK13 _ _ ?_
    refine fg6 0 1 5 8 9 22 (gS rfl (gS rfl (gS rfl (gS rfl (gS rfl (gS rfl g0)))))) (gS rfl (gS rfl (gS rfl (gS rfl (gS rfl g0))))) (gS rfl (gS rfl (gS rfl (gS rfl g0)))) (gS rfl (gS rfl (gS rfl g0))) (gS rfl (gS rfl g0)) g0 (fun g => ?_)
    refine c_cond (et g0 rfl) (fun cB2 => ?_) (fun cB2 => ?_)
    · skip
      
      have htl : t < 16384 := by have := of_decide_eq_true cB2; omega
      obtain ⟨q9, hq⟩ : ∃ q9, V.ttb (((h0 % 16384) + t) % 16384) = q9 := ⟨_, rfl⟩
      have hpN : ((h0 % 16384) + t) % 16384 < 16384 := Nat.mod_lt _ (by decide)
      refine c_skip ?_
      refine hK12 _ _ ?_
      refine fg5 0 1 5 8 9 (gS rfl (gS rfl (gS rfl (gS rfl (gS rfl g0))))) (gS rfl (gS rfl (gS rfl (gS rfl g0)))) (gS rfl (gS rfl (gS rfl g0))) (gS rfl (gS rfl g0)) (gS rfl g0) (fun g => ?_)
      refine c_seq (fun K15 hK15 => ?_)
      refine c_block (fun Q16 hQ16 => ?_)
      refine c_seq (fun K17 hK17 => ?_)
      refine c_region ?_
      refine l_step (y_moveV (et (gS rfl (gS rfl (gS rfl (gS rfl g0)))) rfl)) ?_
      refine l_step (y_nil (et g0 rfl)) ?_
      refine l_step (y_fld fld_84_10 (et g0 rfl)) ?_
      refine l_step (y_load1 one_82 (et g0 rfl) (at1 (hV.c1 hQ.sl (by first | omega | rfl)))) ?_
      refine l_step (y_moveV (et (gS rfl (gS rfl (gS rfl (gS rfl (gS rfl g0))))) rfl)) ?_
      refine l_step (y_idxS Hvaa.underlying82 sz_21 (et (gS rfl g0) rfl) (et g0 rfl) ?_ ?_) ?_
      omega
      omega
      refine l_step (y_load1 one_21 (et g0 rfl) (at1 (hQ.cT hpN hq (by first | omega | rfl)))) ?_
      refine l_step (y_assignV (et g0 rfl)) ?_
      refine l_nil ?_
      refine hK17 _ _ ?_
      refine fg6 0 1 5 8 9 10 (gS rfl (gS rfl (gS rfl (gS rfl (gS rfl (gS rfl (gS rfl (gS rfl (gS rfl (gS rfl (gS rfl (gS rfl g0)))))))))))) (gS rfl (gS rfl (gS rfl (gS rfl (gS rfl (gS rfl (gS rfl (gS rfl (gS rfl (gS rfl (gS rfl g0))))))))))) (gS rfl (gS rfl (gS rfl (gS rfl (gS rfl (gS rfl (gS rfl (gS rfl (gS rfl (gS rfl g0)))))))))) (gS rfl (gS rfl (gS rfl (gS rfl (gS rfl (gS rfl (gS rfl (gS rfl (gS rfl g0))))))))) (gS rfl (gS rfl (gS rfl (gS rfl (gS rfl (gS rfl (gS rfl (gS rfl g0)))))))) g0 (fun g => ?_)
      refine c_seq (fun K18 hK18 => ?_)
      refine c_seq (fun K19 hK19 => ?_)
      refine c_region ?_
      refine l_step (y_moveV (et g0 rfl)) ?_
      refine l_step (y_lss (et g0 rfl) rfl) ?_
      refine l_nil ?_
      refine hK19 _ _ ?_
      refine fg7 0 1 5 8 9 10 33 (gS rfl (gS rfl (gS rfl (gS rfl (gS rfl (gS rfl (gS rfl g0))))))) (gS rfl (gS rfl (gS rfl (gS rfl (gS rfl (gS rfl g0)))))) (gS rfl (gS rfl (gS rfl (gS rfl (gS rfl g0))))) (gS rfl (gS rfl (gS rfl (gS rfl g0)))) (gS rfl (gS rfl (gS rfl g0))) (gS rfl (gS rfl g0)) g0 (fun g => ?_)
      refine c_cond (et g0 rfl) (fun cB3 => ?_) (fun cB3 => ?_)
      · skip
        
        have hq0 : q9 < 0 := by have := of_decide_eq_true cB3; omega
        refine c_seq (fun K21 hK21 => ?_)
        refine c_region ?_
        refine l_step (y_moveV (et (gS rfl (gS rfl (gS rfl g0))) rfl)) ?_
        refine l_step (y_conv Hvaa.underlying26 Hvaa.underlying21 (et g0 rfl) (wrap_i32 ?_ ?_)) ?_
        omega
        omega
        refine l_step y_assignC ?_
        refine l_step (y_assignV (et (gS rfl g0) rfl)) ?_
        refine l_nil ?_
        refine hK21 _ _ ?_
        refine fg2 6 7 (gS rfl g0) g0 (fun g => ?_)
        refine c_ret ?_
        refine hQ16 _ _ _ (in_ret ?_)
        refine hQ10 _ _ _ (in_ret ?_)
        refine ret2 rfl (res_tmp (et (gS rfl g0) rfl)) (res_tmp (et g0 rfl)) ?_
        rw [← hh0]
        exact ⟨_, _, rfl, Fnd.free (ho.t htm) (fun i _ hm => (mT_hm hm).trans hh0.symm) hP htl (by rw [hq]; exact hq0), U⟩
      · skip
        
        have hq0 : ¬ q9 < 0 := by have := of_decide_eq_false cB3; omega
        obtain ⟨k9, rfl⟩ : ∃ k9 : Nat, q9 = (k9 : Int) := ⟨q9.toNat, by omega⟩
        have hk9 := (ho.t htm).ix hpN hq
        obtain ⟨x9, hx9⟩ : ∃ x9, V.temps[k9]? = some x9 := ⟨_, List.getElem?_eq_getElem hk9⟩
        obtain ⟨ba, ca, cap9, hAA⟩ := hV.temp hx9
        have hb2 := ho.bd.temps
        refine c_skip ?_
        refine hK18 _ _ ?_
        refine fg6 0 1 5 8 9 10 (gS rfl (gS rfl (gS rfl (gS rfl (gS rfl (gS rfl g0)))))) (gS rfl (gS rfl (gS rfl (gS rfl (gS rfl g0))))) (gS rfl (gS rfl (gS rfl (gS rfl g0)))) (gS rfl (gS rfl (gS rfl g0))) (gS rfl (gS rfl g0)) (gS rfl g0) (fun g => ?_)
        refine c_seq (fun K22 hK22 => ?_)
        refine c_seq (fun K23 hK23 => ?_)
        refine c_draw Up 32 [(0, true), (1, true), (2, true), (3, true), (4, true), (5, true), (6, true), (7, true), (8, true), (9, true), (10, true), (11, true), (12, true), (13, true), (14, true), (15, true), (16, true), (17, true), (18, true), (19, true), (20, true), (21, true), (22, true), (23, true), (24, true), (25, true), (26, true), (27, true), (28, true), (29, true), (30, true), (31, true)] (by kernel_rfl) (fun w24 hu => ⟨Up.refl _, ?_⟩)
        replace k2 := k2.up hu
        replace hV := hV.up hu
        replace hQ := hQ.up hu
        replace hAA := hAA.up hu
        replace U := U.tr hu
        replace V11 := V11.tr hu
        have SU := Up.refl w24
        refine p_step (by exact rfl) (y_moveV (et g0 rfl)) ?_
        refine p_step (by exact rfl) (y_conv Hvaa.underlying21 Hvaa.underlying3 (et g0 rfl) (wrapIN ?_)) ?_
        omega
        refine p_step (by exact rfl) (y_moveV (et (gS rfl (gS rfl (gS rfl (gS rfl (gS rfl (gS rfl (gS rfl g0))))))) rfl)) ?_
        refine p_step (by exact rfl) (y_nil (et g0 rfl)) ?_
        refine p_step (by exact rfl) (y_fld fld_84_9 (et g0 rfl)) ?_
        refine p_step (by exact rfl) (y_load1 one_81 (et g0 rfl) (atS (hV.c1 hAA.sl (by first | omega | rfl)))) ?_
        refine p_step (by exact rfl) (y_len Hvaa.underlying81 (et g0 rfl)) ?_
        refine p_step (by exact rfl) (y_lss (et (gS rfl (gS rfl (gS rfl (gS rfl (gS rfl g0))))) rfl) (et g0 rfl)) ?_
        refine p_step (by exact rfl) (y_moveV (et g0 rfl)) ?_
        refine gsplitP (i := 44) g0 (fun q25 => ?_) (fun q25 => ?_)
        · skip
          refine p_gstep (j := 8) (t := 44) (by exact rfl) (by exact rfl) (by exact rfl) (et g0 rfl) rfl (y_moveV (et (gS rfl (gS rfl (gS rfl (gS rfl (gS rfl (gS rfl (gS rfl (gS rfl (gS rfl (gS rfl (gS rfl (gS rfl (gS rfl (gS rfl (gS rfl g0))))))))))))))) rfl)) ?_
          refine p_gstep (j := 8) (t := 44) (by exact rfl) (by exact rfl) (by exact rfl) (et (gS rfl g0) rfl) rfl (y_nil (et g0 rfl)) ?_
          refine p_gstep (j := 8) (t := 44) (by exact rfl) (by exact rfl) (by exact rfl) (et (gS rfl (gS rfl g0)) rfl) rfl (y_fld fld_84_9 (et g0 rfl)) ?_
          refine p_gstep (j := 8) (t := 44) (by exact rfl) (by exact rfl) (by exact rfl) (et (gS rfl (gS rfl (gS rfl g0))) rfl) rfl (y_load1 one_81 (et g0 rfl) (atS (hV.c1 hAA.sl (by first | omega | rfl)))) ?_
          refine p_gstep (j := 8) (t := 44) (by exact rfl) (by exact rfl) (by exact rfl) (et (gS rfl (gS rfl (gS rfl (gS rfl g0)))) rfl) rfl (y_moveV (et (gS rfl (gS rfl (gS rfl (gS rfl (gS rfl (gS rfl (gS rfl (gS rfl (gS rfl (gS rfl (gS rfl (gS rfl (gS rfl (gS rfl g0)))))))))))))) rfl)) ?_
          refine p_gstep (j := 8) (t := 44) (by exact rfl) (by exact rfl) (by exact rfl) (et (gS rfl (gS rfl (gS rfl (gS rfl (gS rfl g0))))) rfl) rfl (y_idxS Hvaa.underlying81 sz_430 (et (gS rfl g0) rfl) (et g0 rfl) ?_ ?_) ?_
          omega
          omega
          refine p_gstep (j := 8) (t := 44) (by exact rfl) (by exact rfl) (by exact rfl) (et (gS rfl (gS rfl (gS rfl (gS rfl (gS rfl (gS rfl g0)))))) rfl) rfl (y_fld fld_430_0 (et g0 rfl)) ?_
          refine p_gstep (j := 8) (t := 44) (by exact rfl) (by exact rfl) (by exact rfl) (et (gS rfl (gS rfl (gS rfl (gS rfl (gS rfl (gS rfl (gS rfl g0))))))) rfl) rfl (y_load1 one_21 (et g0 rfl) (atS (hAA.cAcct (by first | omega | rfl)))) ?_
          refine p_gstep (j := 8) (t := 44) (by exact rfl) (by exact rfl) (by exact rfl) (et (gS rfl (gS rfl (gS rfl (gS rfl (gS rfl (gS rfl (gS rfl (gS rfl g0)))))))) rfl) rfl (y_moveV (et (gS rfl (gS rfl (gS rfl (gS rfl (gS rfl (gS rfl (gS rfl (gS rfl (gS rfl (gS rfl (gS rfl (gS rfl (gS rfl (gS rfl (gS rfl (gS rfl (gS rfl (gS rfl (gS rfl (gS rfl (gS rfl (gS rfl g0)))))))))))))))))))))) rfl)) ?_
          refine p_gstep (j := 8) (t := 44) (by exact rfl) (by exact rfl) (by exact rfl) (et (gS rfl (gS rfl (gS rfl (gS rfl (gS rfl (gS rfl (gS rfl (gS rfl (gS rfl g0))))))))) rfl) rfl (y_eql (et (gS rfl g0) rfl) (et g0 rfl)) ?_
          refine p_step (by exact rfl) (y_pickT (et (gS rfl (gS rfl (gS rfl (gS rfl (gS rfl (gS rfl (gS rfl (gS rfl (gS rfl (gS rfl g0)))))))))) rfl) (et g0 rfl)) ?_
          refine p_step (by exact rfl) (y_moveV (et g0 rfl)) ?_
          refine gsplitP (i := 56) g0 (fun q26 => ?_) (fun q26 => ?_)
          · skip
            have hae : x9.acct = q := by have := of_decide_eq_true q26; omega
            refine p_gstep (j := 20) (t := 56) (by exact rfl) (by exact rfl) (by exact rfl) (et g0 rfl) rfl (y_moveV (et (gS rfl (gS rfl (gS rfl (gS rfl (gS rfl (gS rfl (gS rfl (gS rfl (gS rfl (gS rfl (gS rfl (gS rfl (gS rfl (gS rfl (gS rfl (gS rfl (gS rfl (gS rfl (gS rfl (gS rfl (gS rfl (gS rfl (gS rfl (gS rfl (gS rfl (gS rfl (gS rfl (gS rfl g0)))))))))))))))))))))))))))) rfl)) ?_
            refine p_gstep (j := 20) (t := 56) (by exact rfl) (by exact rfl) (by exact rfl) (et (gS rfl g0) rfl) rfl (y_nil (et g0 rfl)) ?_
            refine p_gstep (j := 20) (t := 56) (by exact rfl) (by exact rfl) (by exact rfl) (et (gS rfl (gS rfl g0)) rfl) rfl (y_fld fld_84_9 (et g0 rfl)) ?_
            refine p_gstep (j := 20) (t := 56) (by exact rfl) (by exact rfl) (by exact rfl) (et (gS rfl (gS rfl (gS rfl g0))) rfl) rfl (y_load1 one_81 (et g0 rfl) (atS (hV.c1 hAA.sl (by first | omega | rfl)))) ?_
            refine p_gstep (j := 20) (t := 56) (by exact rfl) (by exact rfl) (by exact rfl) (et (gS rfl (gS rfl (gS rfl (gS rfl g0)))) rfl) rfl (y_moveV (et (gS rfl (gS rfl (gS rfl (gS rfl (gS rfl (gS rfl (gS rfl (gS rfl (gS rfl (gS rfl (gS rfl (gS rfl (gS rfl (gS rfl (gS rfl (gS rfl (gS rfl (gS rfl (gS rfl (gS rfl (gS rfl (gS rfl (gS rfl (gS rfl (gS rfl (gS rfl (gS rfl g0))))))))))))))))))))))))))) rfl)) ?_
            refine p_gstep (j := 20) (t := 56) (by exact rfl) (by exact rfl) (by exact rfl) (et (gS rfl (gS rfl (gS rfl (gS rfl (gS rfl g0))))) rfl) rfl (y_idxS Hvaa.underlying81 sz_430 (et (gS rfl g0) rfl) (et g0 rfl) ?_ ?_) ?_
            omega
            omega
            refine p_gstep (j := 20) (t := 56) (by exact rfl) (by exact rfl) (by exact rfl) (et (gS rfl (gS rfl (gS rfl (gS rfl (gS rfl (gS rfl g0)))))) rfl) rfl (y_fld fld_430_1 (et g0 rfl)) ?_
            refine p_gstep (j := 20) (t := 56) (by exact rfl) (by exact rfl) (by exact rfl) (et (gS rfl (gS rfl (gS rfl (gS rfl (gS rfl (gS rfl (gS rfl g0))))))) rfl) rfl (y_loadR agg_65 sz_65 (et g0 rfl) rfl (atSR (hAA.rKey (by first | omega | rfl)))) ?_
            refine p_gstep (j := 20) (t := 56) (by exact rfl) (by exact rfl) (by exact rfl) (et (gS rfl (gS rfl (gS rfl (gS rfl (gS rfl (gS rfl (gS rfl (gS rfl g0)))))))) rfl) rfl (y_loadB agg_65 sz_65 (et (gS rfl (gS rfl (gS rfl (gS rfl (gS rfl (gS rfl (gS rfl (gS rfl (gS rfl (gS rfl (gS rfl (gS rfl (gS rfl (gS rfl (gS rfl (gS rfl (gS rfl (gS rfl (gS rfl (gS rfl (gS rfl (gS rfl (gS rfl (gS rfl (gS rfl (gS rfl (gS rfl (gS rfl (gS rfl (gS rfl (gS rfl (gS rfl (gS rfl (gS rfl g0)))))))))))))))))))))))))))))))))) rfl) (by first | (simp only [Value.cells, hV, aV, bV, wV, wL, List.size_toArray, length_bL, length_uL, length_be, size_spl, List.length_cons, List.length_nil, List.length_replicate, Nat.zero_add, Nat.reduceAdd, Nat.reduceLeDiff, Nat.le_refl]; done) | rfl) (atSB k2)) ?_
            refine p_gstep (j := 20) (t := 56) (by exact rfl) (by exact rfl) (by exact rfl) (et (gS rfl (gS rfl (gS rfl (gS rfl (gS rfl (gS rfl (gS rfl (gS rfl (gS rfl g0))))))))) rfl) rfl (y_eqlW hAA.ok.key hk (et (gS rfl g0) rfl) (et g0 rfl)) ?_
            refine p_step (by exact rfl) (y_pickT (et (gS rfl (gS rfl (gS rfl (gS rfl (gS rfl (gS rfl (gS rfl (gS rfl (gS rfl (gS rfl g0)))))))))) rfl) (et g0 rfl)) ?_
            refine p_nil ?_
            refine hK23 _ _ ?_
            refine fg7 0 1 5 8 9 10 67 (gS rfl (gS rfl (gS rfl (gS rfl (gS rfl (gS rfl (gS rfl (gS rfl (gS rfl (gS rfl (gS rfl (gS rfl (gS rfl (gS rfl (gS rfl (gS rfl (gS rfl (gS rfl (gS rfl (gS rfl (gS rfl (gS rfl (gS rfl (gS rfl (gS rfl (gS rfl (gS rfl (gS rfl (gS rfl (gS rfl (gS rfl (gS rfl (gS rfl (gS rfl (gS rfl (gS rfl (gS rfl (gS rfl (gS rfl g0))))))))))))))))))))))))))))))))))))))) (gS rfl (gS rfl (gS rfl (gS rfl (gS rfl (gS rfl (gS rfl (gS rfl (gS rfl (gS rfl (gS rfl (gS rfl (gS rfl (gS rfl (gS rfl (gS rfl (gS rfl (gS rfl (gS rfl (gS rfl (gS rfl (gS rfl (gS rfl (gS rfl (gS rfl (gS rfl (gS rfl (gS rfl (gS rfl (gS rfl (gS rfl (gS rfl (gS rfl (gS rfl (gS rfl (gS rfl (gS rfl (gS rfl g0)))))))))))))))))))))))))))))))))))))) (gS rfl (gS rfl (gS rfl (gS rfl (gS rfl (gS rfl (gS rfl (gS rfl (gS rfl (gS rfl (gS rfl (gS rfl (gS rfl (gS rfl (gS rfl (gS rfl (gS rfl (gS rfl (gS rfl (gS rfl (gS rfl (gS rfl (gS rfl (gS rfl (gS rfl (gS rfl (gS rfl (gS rfl (gS rfl (gS rfl (gS rfl (gS rfl (gS rfl (gS rfl (gS rfl (gS rfl (gS rfl g0))))))))))))))))))))))))))))))))))))) (gS rfl (gS rfl (gS rfl (gS rfl (gS rfl (gS rfl (gS rfl (gS rfl (gS rfl (gS rfl (gS rfl (gS rfl (gS rfl (gS rfl (gS rfl (gS rfl (gS rfl (gS rfl (gS rfl (gS rfl (gS rfl (gS rfl (gS rfl (gS rfl (gS rfl (gS rfl (gS rfl (gS rfl (gS rfl (gS rfl (gS rfl (gS rfl (gS rfl (gS rfl (gS rfl (gS rfl g0)))))))))))))))))))))))))))))))))))) (gS rfl (gS rfl (gS rfl (gS rfl (gS rfl (gS rfl (gS rfl (gS rfl (gS rfl (gS rfl (gS rfl (gS rfl (gS rfl (gS rfl (gS rfl (gS rfl (gS rfl (gS rfl (gS rfl (gS rfl (gS rfl (gS rfl (gS rfl (gS rfl (gS rfl (gS rfl (gS rfl (gS rfl (gS rfl (gS rfl (gS rfl (gS rfl (gS rfl (gS rfl (gS rfl g0))))))))))))))))))))))))))))))))))) (gS rfl (gS rfl (gS rfl (gS rfl (gS rfl (gS rfl (gS rfl (gS rfl (gS rfl (gS rfl (gS rfl (gS rfl (gS rfl (gS rfl (gS rfl (gS rfl (gS rfl (gS rfl (gS rfl (gS rfl (gS rfl (gS rfl (gS rfl (gS rfl (gS rfl (gS rfl (gS rfl (gS rfl (gS rfl (gS rfl (gS rfl (gS rfl (gS rfl (gS rfl g0)))))))))))))))))))))))))))))))))) g0 (fun g => ?_)
            refine c_cond (et g0 rfl) (fun cB4 => ?_) (fun cB4 => ?_)
            · skip
              
              have hme : x9.key = k := of_decide_eq_true cB4
              refine c_seq (fun K28 hK28 => ?_)
              refine c_region ?_
              refine l_step (y_moveV (et (gS rfl g0) rfl)) ?_
              refine l_step (y_assignV (et g0 rfl)) ?_
              refine l_step y_assignC ?_
              refine l_nil ?_
              refine hK28 _ _ ?_
              refine fg2 6 7 (gS rfl g0) g0 (fun g => ?_)
              refine c_ret ?_
              refine hQ16 _ _ _ (in_ret ?_)
              refine hQ10 _ _ _ (in_ret ?_)
              refine ret2 rfl (res_tmp (et (gS rfl g0) rfl)) (res_tmp (et g0 rfl)) ?_
              exact ⟨_, _, rfl, .inl ⟨k9, ⟨x9, hx9, hae, hme⟩, hk9, rfl, rfl⟩, U⟩
            · skip
              
              have hne : ¬ mT V q k k9 := by
                rintro ⟨y9, hy1, hy2, hy3⟩
                rw [hx9] at hy1
                cases hy1
                exact of_decide_eq_false cB4 hy3
              refine c_skip ?_
              refine hK22 _ _ ?_
              refine fg5 0 1 5 8 9 (gS rfl (gS rfl (gS rfl (gS rfl (gS rfl (gS rfl g0)))))) (gS rfl (gS rfl (gS rfl (gS rfl (gS rfl g0))))) (gS rfl (gS rfl (gS rfl (gS rfl g0)))) (gS rfl (gS rfl (gS rfl g0))) (gS rfl (gS rfl g0)) (fun g => ?_)
              refine c_region ?_
              refine l_step (y_moveV (et (gS rfl g0) rfl)) ?_
              refine l_step (y_add (et g0 rfl) rfl (wrapU_addN (b := 1) uk64 ?_)) ?_
              omega
              refine l_step (y_rem (et g0 rfl) rfl (by decide) (remN (b := 16384))) ?_
              refine l_step (y_assignV (et g0 rfl)) ?_
              refine l_nil ?_
              refine hQ16 _ _ _ (in_normal ?_)
              refine hK15 _ _ ?_
              refine fg5 0 1 5 8 9 (gS rfl (gS rfl (gS rfl (gS rfl (gS rfl (gS rfl (gS rfl (gS rfl g0)))))))) (gS rfl (gS rfl (gS rfl (gS rfl (gS rfl (gS rfl (gS rfl g0))))))) (gS rfl (gS rfl (gS rfl (gS rfl (gS rfl (gS rfl g0)))))) g0 (gS rfl (gS rfl (gS rfl (gS rfl g0)))) (fun g => ?_)
              refine c_region ?_
              refine l_step (y_moveV (et g0 rfl)) ?_
              refine l_step (y_add (et g0 rfl) rfl (addIN (y := 1) ?_)) ?_
              omega
              refine l_step (y_assignV (et g0 rfl)) ?_
              refine l_nil ?_
              refine fK5 0 1 5 8 9 (gS rfl (gS rfl (gS rfl (gS rfl (gS rfl (gS rfl (gS rfl g0))))))) (gS rfl (gS rfl (gS rfl (gS rfl (gS rfl (gS rfl g0)))))) (gS rfl (gS rfl (gS rfl (gS rfl (gS rfl g0))))) (gS rfl (gS rfl (gS rfl (gS rfl g0)))) g0 (fun g => ?_)
              exact hK11 (16384 - ((t + 1))) _ _ (by omega) ⟨g, (t + 1), _, rfl, rfl, by omega, mod_next, hP.next hq (fun h9 => hne h9), V11⟩
          · skip
            have hne : ¬ mT V q k k9 := by
              rintro ⟨y9, hy1, hy2, hy3⟩
              rw [hx9] at hy1
              cases hy1
              have := of_decide_eq_false q26
              omega
            refine p_gskip (j := 20) (t := 56) (by exact rfl) (by exact rfl) (by exact rfl) (et g0 rfl) rfl rfl ?_
            refine p_gskip (j := 20) (t := 56) (by exact rfl) (by exact rfl) (by exact rfl) (et (gS rfl g0) rfl) rfl rfl ?_
            refine p_gskip (j := 20) (t := 56) (by exact rfl) (by exact rfl) (by exact rfl) (et (gS rfl (gS rfl g0)) rfl) rfl rfl ?_
            refine p_gskip (j := 20) (t := 56) (by exact rfl) (by exact rfl) (by exact rfl) (et (gS rfl (gS rfl (gS rfl g0))) rfl) rfl rfl ?_
            refine p_gskip (j := 20) (t := 56) (by exact rfl) (by exact rfl) (by exact rfl) (et (gS rfl (gS rfl (gS rfl (gS rfl g0)))) rfl) rfl rfl ?_
            refine p_gskip (j := 20) (t := 56) (by exact rfl) (by exact rfl) (by exact rfl) (et (gS rfl (gS rfl (gS rfl (gS rfl (gS rfl g0))))) rfl) rfl rfl ?_
            refine p_gskip (j := 20) (t := 56) (by exact rfl) (by exact rfl) (by exact rfl) (et (gS rfl (gS rfl (gS rfl (gS rfl (gS rfl (gS rfl g0)))))) rfl) rfl rfl ?_
            refine p_gskip (j := 20) (t := 56) (by exact rfl) (by exact rfl) (by exact rfl) (et (gS rfl (gS rfl (gS rfl (gS rfl (gS rfl (gS rfl (gS rfl g0))))))) rfl) rfl rfl ?_
            refine p_gskip (j := 20) (t := 56) (by exact rfl) (by exact rfl) (by exact rfl) (et (gS rfl (gS rfl (gS rfl (gS rfl (gS rfl (gS rfl (gS rfl (gS rfl g0)))))))) rfl) rfl rfl ?_
            refine p_gskip (j := 20) (t := 56) (by exact rfl) (by exact rfl) (by exact rfl) (et (gS rfl (gS rfl (gS rfl (gS rfl (gS rfl (gS rfl (gS rfl (gS rfl (gS rfl g0))))))))) rfl) rfl rfl ?_
            refine p_step (by exact rfl) (y_pickF (et (gS rfl (gS rfl (gS rfl (gS rfl (gS rfl (gS rfl (gS rfl (gS rfl (gS rfl (gS rfl g0)))))))))) rfl) rfl) ?_
            refine p_nil ?_
            refine hK23 _ _ ?_
            refine fg7 0 1 5 8 9 10 67 (gS rfl (gS rfl (gS rfl (gS rfl (gS rfl (gS rfl (gS rfl (gS rfl (gS rfl (gS rfl (gS rfl (gS rfl (gS rfl (gS rfl (gS rfl (gS rfl (gS rfl (gS rfl (gS rfl (gS rfl (gS rfl (gS rfl (gS rfl (gS rfl (gS rfl (gS rfl (gS rfl (gS rfl (gS rfl (gS rfl (gS rfl (gS rfl (gS rfl (gS rfl (gS rfl (gS rfl (gS rfl (gS rfl (gS rfl g0))))))))))))))))))))))))))))))))))))))) (gS rfl (gS rfl (gS rfl (gS rfl (gS rfl (gS rfl (gS rfl (gS rfl (gS rfl (gS rfl (gS rfl (gS rfl (gS rfl (gS rfl (gS rfl (gS rfl (gS rfl (gS rfl (gS rfl (gS rfl (gS rfl (gS rfl (gS rfl (gS rfl (gS rfl (gS rfl (gS rfl (gS rfl (gS rfl (gS rfl (gS rfl (gS rfl (gS rfl (gS rfl (gS rfl (gS rfl (gS rfl (gS rfl g0)))))))))))))))))))))))))))))))))))))) (gS rfl (gS rfl (gS rfl (gS rfl (gS rfl (gS rfl (gS rfl (gS rfl (gS rfl (gS rfl (gS rfl (gS rfl (gS rfl (gS rfl (gS rfl (gS rfl (gS rfl (gS rfl (gS rfl (gS rfl (gS rfl (gS rfl (gS rfl (gS rfl (gS rfl (gS rfl (gS rfl (gS rfl (gS rfl (gS rfl (gS rfl (gS rfl (gS rfl (gS rfl (gS rfl (gS rfl (gS rfl g0))))))))))))))))))))))))))))))))))))) (gS rfl (gS rfl (gS rfl (gS rfl (gS rfl (gS rfl (gS rfl (gS rfl (gS rfl (gS rfl (gS rfl (gS rfl (gS rfl (gS rfl (gS rfl (gS rfl (gS rfl (gS rfl (gS rfl (gS rfl (gS rfl (gS rfl (gS rfl (gS rfl (gS rfl (gS rfl (gS rfl (gS rfl (gS rfl (gS rfl (gS rfl (gS rfl (gS rfl (gS rfl (gS rfl (gS rfl g0)))))))))))))))))))))))))))))))))))) (gS rfl (gS rfl (gS rfl (gS rfl (gS rfl (gS rfl (gS rfl (gS rfl (gS rfl (gS rfl (gS rfl (gS rfl (gS rfl (gS rfl (gS rfl (gS rfl (gS rfl (gS rfl (gS rfl (gS rfl (gS rfl (gS rfl (gS rfl (gS rfl (gS rfl (gS rfl (gS rfl (gS rfl (gS rfl (gS rfl (gS rfl (gS rfl (gS rfl (gS rfl (gS rfl g0))))))))))))))))))))))))))))))))))) (gS rfl (gS rfl (gS rfl (gS rfl (gS rfl (gS rfl (gS rfl (gS rfl (gS rfl (gS rfl (gS rfl (gS rfl (gS rfl (gS rfl (gS rfl (gS rfl (gS rfl (gS rfl (gS rfl (gS rfl (gS rfl (gS rfl (gS rfl (gS rfl (gS rfl (gS rfl (gS rfl (gS rfl (gS rfl (gS rfl (gS rfl (gS rfl (gS rfl (gS rfl g0)))))))))))))))))))))))))))))))))) g0 (fun g => ?_)
            refine c_false (et g0 rfl) rfl ?_
            refine c_skip ?_
            refine hK22 _ _ ?_
            refine fg5 0 1 5 8 9 (gS rfl (gS rfl (gS rfl (gS rfl (gS rfl (gS rfl g0)))))) (gS rfl (gS rfl (gS rfl (gS rfl (gS rfl g0))))) (gS rfl (gS rfl (gS rfl (gS rfl g0)))) (gS rfl (gS rfl (gS rfl g0))) (gS rfl (gS rfl g0)) (fun g => ?_)
            refine c_region ?_
            refine l_step (y_moveV (et (gS rfl g0) rfl)) ?_
            refine l_step (y_add (et g0 rfl) rfl (wrapU_addN (b := 1) uk64 ?_)) ?_
            omega
            refine l_step (y_rem (et g0 rfl) rfl (by decide) (remN (b := 16384))) ?_
            refine l_step (y_assignV (et g0 rfl)) ?_
            refine l_nil ?_
            refine hQ16 _ _ _ (in_normal ?_)
            refine hK15 _ _ ?_
            refine fg5 0 1 5 8 9 (gS rfl (gS rfl (gS rfl (gS rfl (gS rfl (gS rfl (gS rfl (gS rfl g0)))))))) (gS rfl (gS rfl (gS rfl (gS rfl (gS rfl (gS rfl (gS rfl g0))))))) (gS rfl (gS rfl (gS rfl (gS rfl (gS rfl (gS rfl g0)))))) g0 (gS rfl (gS rfl (gS rfl (gS rfl g0)))) (fun g => ?_)
            refine c_region ?_
            refine l_step (y_moveV (et g0 rfl)) ?_
            refine l_step (y_add (et g0 rfl) rfl (addIN (y := 1) ?_)) ?_
            omega
            refine l_step (y_assignV (et g0 rfl)) ?_
            refine l_nil ?_
            refine fK5 0 1 5 8 9 (gS rfl (gS rfl (gS rfl (gS rfl (gS rfl (gS rfl (gS rfl g0))))))) (gS rfl (gS rfl (gS rfl (gS rfl (gS rfl (gS rfl g0)))))) (gS rfl (gS rfl (gS rfl (gS rfl (gS rfl g0))))) (gS rfl (gS rfl (gS rfl (gS rfl g0)))) g0 (fun g => ?_)
            exact hK11 (16384 - ((t + 1))) _ _ (by omega) ⟨g, (t + 1), _, rfl, rfl, by omega, mod_next, hP.next hq (fun h9 => hne h9), V11⟩
        · skip
          exact absurd (of_decide_eq_false q25) (by have := hk9; omega)
    · skip
      
      have htl : t = 16384 := by have := of_decide_eq_false cB2; omega
      subst htl
      refine c_exit ?_
      refine hQ10 _ _ _ (in_exit ?_)
      refine hK8 _ _ ?_
      refine fg0 (fun g => ?_)
      refine c_seq (fun K30 hK30 => ?_)
      refine c_region ?_
      refine l_step y_assignC ?_
      refine l_step y_assignC ?_
      refine l_nil ?_
      refine hK30 _ _ ?_
      refine c_ret ?_
      refine ret2 rfl (res_tmp (et (gS rfl g0) rfl)) (res_tmp (et g0 rfl)) ?_
      have h8 : V.temps.length < 16384 := by have := ho.bd.temps; omega
      have h9 : ∀ e, e < 16384 → 0 ≤ V.ttb (((h0 % 16384) + e) % 16384) := fun e he => (hP e he).1
      exact absurd h9 ((ho.t htm).full (h0 := (h0 % 16384)) h8)
theorem v_findTemp0 {w : World} {H : Store} {col : Nat → Nat} {bc : Nat} {cs : Array Value} {V : EV} (hV : VL w H col bc cs V) (ho : VOk V) (q k : Nat) (htm : V.tm = false) :
    Ret 382 [.pointer (some ⟨bc, 2435, none⟩), .int .i32 (q : Nat), wV k] w (fun v w' => v = .tuple #[.int .i32 (-1), .int .i32 (-1)] ∧ Up w w') := by
  refine enter (n := 72) Hvaa.func382 rfl rfl (Nat.le_of_ble_eq_true rfl) ?_
  have U := Up.refl w
  refine c_seq (fun K1 hK1 => ?_)
  refine c_region ?_
  refine l_eff (e_boxV (et (gS rfl (gS rfl g0)) rfl)) (fun v2 w2 h2 => ?_)
  obtain ⟨b2, rfl, n2⟩ := h2
  have f2 : w.heap.size ≤ b2 := Nat.le_trans U.size n2.fresh
  replace hV := hV.up n2.up
  replace U := U.tr n2.up
  have k2 := n2.blk
  refine l_step y_assignC ?_
  refine l_step y_assignC ?_
  refine l_nil ?_
  refine hK1 _ _ ?_
  refine fg3 1 0 5 (gS rfl (gS rfl (gS rfl (gS rfl g0)))) (gS rfl (gS rfl (gS rfl g0))) (gS rfl (gS rfl g0)) (fun g => ?_)
  refine c_seq (fun K3 hK3 => ?_)
  refine c_seq (fun K4 hK4 => ?_)
  refine c_region ?_
  refine l_step (y_moveV (et (gS rfl g0) rfl)) ?_
  refine l_step (y_nil (et g0 rfl)) ?_
  refine l_step (y_fld fld_84_10 (et g0 rfl)) ?_
  refine l_step (y_load1 one_82 (et g0 rfl) (at1 (hV.c1 (hV.tab0 htm) (by first | omega | rfl)))) ?_
  refine l_step (y_len Hvaa.underlying82 (et g0 rfl)) ?_
  refine l_step (y_neq (et g0 rfl) rfl) ?_
  refine l_nil ?_
  refine hK4 _ _ ?_
  refine fg4 1 0 5 16 (gS rfl (gS rfl (gS rfl (gS rfl (gS rfl (gS rfl (gS rfl (gS rfl g0)))))))) (gS rfl (gS rfl (gS rfl (gS rfl (gS rfl (gS rfl (gS rfl g0))))))) (gS rfl (gS rfl (gS rfl (gS rfl (gS rfl (gS rfl g0)))))) g0 (fun g => ?_)
  refine c_true (et g0 rfl) (by rfl) ?_
  refine c_seq (fun K6 hK6 => ?_)
  refine c_region ?_
  refine l_step y_assignC ?_
  refine l_step y_assignC ?_
  refine l_nil ?_
  refine hK6 _ _ ?_
  refine fg2 6 7 (gS rfl g0) g0 (fun g => ?_)
  refine c_ret ?_
  refine ret2 rfl (res_tmp (et (gS rfl g0) rfl)) (res_tmp (et g0 rfl)) ?_
  exact ⟨rfl, U⟩
end Go.Proofs.YgvaawGreat
