import Derived.Test.YgvaawGreatZ29
set_option maxRecDepth 100000
set_option maxHeartbeats 4000000
set_option linter.unusedSimpArgs false
set_option linter.unusedVariables false
namespace Go.Proofs.YgvaawGreat
open Go
theorem dw_past (l : List Nat) (a : Nat) : ∀ n i, a < i → destW l a n i = false := by
  intro n
  induction n with
  | zero => intro i h; rfl
  | succ n ih =>
    intro i h
    rw [destW]
    split
    · rw [if_neg (by omega)]
      exact ih _ (by omega)
    · rfl
theorem dw_end (l : List Nat) (a n i : Nat) (h : ¬ i < l.length) : destW l a n i = false := by
  cases n with
  | zero => rfl
  | succ n => rw [destW, if_neg h]
theorem dw_step {l : List Nat} {a i : Nat} (h : i < l.length) : destW l a l.length i = if i = a then decide (l[i] = 91) else destW l a l.length (i + (1 + immN l[i])) := by
  have hg : l[i]?.getD 0 = l[i] := by rw [List.getElem?_eq_getElem h]; rfl
  rw [destW_fuel l a l.length (l.length - i - 1 + 1) i (by omega) (by omega), destW, if_pos h, hg]
  split
  · rfl
  · exact destW_fuel l a _ _ _ (by omega) (by omega)
def bitM (ds : List Nat) (a : Nat) : Bool := (ds[a / 64]?.getD 0).testBit (a % 64)
structure SMp (l : List Nat) (i : Nat) (ds : List Nat) : Prop where
  len : ds.length = 8
  lt : ∀ d ∈ ds, d < 18446744073709551616
  hi : ∀ a, a < 512 → i ≤ a → bitM ds a = false
  ok : ∀ a, a < 512 → (bitM ds a || destW l a l.length i) = destN l a
theorem SMp.init (l : List Nat) : SMp l 0 (List.replicate 8 0) := by
  have hb : ∀ a, bitM (List.replicate 8 0) a = false := fun a => by
    unfold bitM
    rw [List.getElem?_replicate]
    split
    · rw [Option.getD_some, Nat.zero_testBit]
    · rw [Option.getD_none, Nat.zero_testBit]
  exact ⟨rfl, fun d hd => by rw [(List.mem_replicate.1 hd).2]; decide, fun a _ _ => hb a, fun a _ => by rw [hb a, Bool.false_or]; rfl⟩
theorem SMp.no {l ds : List Nat} {i : Nat} (h : SMp l i ds) (hi : i < l.length) (hn : l[i] ≠ 91) : SMp l (i + (1 + immN l[i])) ds := by
  refine ⟨h.len, h.lt, fun a ha hia => h.hi a ha (by omega), fun a ha => ?_⟩
  rw [← h.ok a ha, dw_step hi]
  by_cases e : i = a
  · subst e
    rw [if_pos rfl, dw_past l i _ _ (by omega), decide_eq_false hn]
  · rw [if_neg e]
theorem SMp.yes {l ds : List Nat} {i : Nat} (h : SMp l i ds) (hi : i < l.length) (hl : l.length ≤ 512) (hy : l[i] = 91) : SMp l (i + (1 + immN l[i])) (ds.set (i / 64) (ds[i / 64]?.getD 0 ||| 1 * 2 ^ (i % 64) % 18446744073709551616)) := by
  have h64 : i / 64 < ds.length := by rw [h.len]; omega
  have hpw : 1 * 2 ^ (i % 64) % 18446744073709551616 = 2 ^ (i % 64) := by
    rw [Nat.one_mul, Nat.mod_eq_of_lt]
    exact Nat.lt_of_lt_of_le (Nat.pow_lt_pow_right (by decide) (show i % 64 < 64 by omega)) (by decide)
  have hb : ∀ a, bitM (ds.set (i / 64) (ds[i / 64]?.getD 0 ||| 1 * 2 ^ (i % 64) % 18446744073709551616)) a = (bitM ds a || decide (a = i)) := fun a => by
    unfold bitM
    rw [List.getElem?_set, hpw]
    by_cases e : i / 64 = a / 64
    · rw [if_pos e, if_pos h64, Option.getD_some, Nat.testBit_or, e, Nat.testBit_two_pow]
      congr 1
      rw [Bool.eq_iff_iff, decide_eq_true_eq, decide_eq_true_eq]
      omega
    · rw [if_neg e, decide_eq_false (by omega), Bool.or_false]
  refine ⟨by rw [List.length_set]; exact h.len, fun d hd => ?_, fun a ha hia => by rw [hb, h.hi a ha (by omega), decide_eq_false (by omega)]; rfl, fun a ha => ?_⟩
  · rcases List.mem_or_eq_of_mem_set hd with hd | hd
    · exact h.lt d hd
    · rw [hd]
      refine or_lt64 ?_ (Nat.mod_lt _ (by decide))
      rw [List.getElem?_eq_getElem h64]
      exact h.lt _ (List.getElem_mem _)
  · rw [hb, ← h.ok a ha, dw_step hi]
    by_cases e : i = a
    · subst e
      rw [if_pos rfl, decide_eq_true hy, decide_eq_true rfl]
      cases bitM ds i <;> rfl
    · rw [if_neg e, decide_eq_false (by omega), Bool.or_false]
theorem SMp.fin {l ds : List Nat} {i : Nat} (h : SMp l i ds) (hi : ¬ i < l.length) : DM l ds := ⟨h.len, h.lt, fun a ha => by have := h.ok a ha; rw [dw_end l a _ i hi, Bool.or_false] at this; exact this⟩
theorem uL_atE (ds : List Nat) (i j : Nat) (h : j < ds.length) (e : i = j) : (uL ds).toArray[i]? = some (.int .u64 (ds[j]?.getD 0 : Nat)) := by
  subst e
  unfold uL
  rw [List.getElem?_toArray, List.getElem?_map, List.getElem?_eq_getElem h]
  rfl
theorem uL_put (ds : List Nat) (j y : Nat) (h : j < ds.length) : spl (uL ds).toArray j [uval y] = (uL (ds.set j y)).toArray := by
  show (uL ds).toArray.setIfInBounds j (uval y) = _
  unfold uL
  simp [List.map_set]
theorem Blk.uput {w : World} {b o j y : Nat} {ds : List Nat} (k : Blk w b (spl (uL ds).toArray o [.int .u64 (y : Nat)])) (ho : o = j) (h : j < ds.length) : Blk w b (uL (ds.set j y)).toArray := by
  subst ho
  rw [← uL_put ds o y h]
  exact k
theorem m_scan {w : World} (s0 : Nat) {a : Option Addr} {c : Nat} {l : List Nat} (hW : WV s0 w (.slice a l.length c) l) (hs0 : s0 ≤ w.heap.size) (hl5 : l.length ≤ 512) :
    Ret 177 [(.slice a l.length c)] w (fun v w' => ∃ ds, v = .agg (uL ds).toArray ∧ DM l ds ∧ Up w w') := by
  obtain ⟨_, _, e9, hcl9, hcm9⟩ := hW.val
  cases e9
  refine enter (n := 37) Hvaa.func177 rfl rfl (Nat.le_of_ble_eq_true rfl) ?_
  have U := Up.refl w
  refine c_seq (fun K1 hK1 => ?_)
  exact (by
    refine c_region ?_
    refine l_eff (e_alloc zr_69) (fun v2 w2 h2 => ?_)
    obtain ⟨b2, rfl, n2⟩ := h2
    have f2 : w.heap.size ≤ b2 := Nat.le_trans U.size n2.fresh
    replace hW := hW.up n2.up
    replace U := U.tr n2.up
    have k2 := n2.blk
    obtain ⟨zs2, hz2, k2⟩ : ∃ cs : Array Value, cs.size = 8 ∧ Blk w2 b2 cs := ⟨_, rfl, k2⟩
    refine l_nil ?_
    refine hK1 _ _ ?_
    refine c_seq (fun K3 hK3 => ?_)
    exact (by
      refine c_region ?_
      refine l_eff (e_alloc zr_69) (fun v4 w4 h4 => ?_)
      obtain ⟨b4, rfl, n4⟩ := h4
      have d2_4 : b2 < b4 := Nat.lt_of_lt_of_le k2.lt n4.fresh
      have f4 : w.heap.size ≤ b4 := Nat.le_trans U.size n4.fresh
      replace k2 := k2.up n4.up
      replace hW := hW.up n4.up
      replace U := U.tr n4.up
      have k4 := n4.blk
      replace k4 : Blk w4 b4 (uL (List.replicate 8 0)).toArray := k4
      refine l_nil ?_
      refine hK3 _ _ ?_
      refine c_seq (fun K5 hK5 => ?_)
      refine c_seq (fun K6 hK6 => ?_)
      exact (by
        refine c_region ?_
        refine l_step (y_moveV (et (gS rfl (gS rfl g0)) rfl)) ?_
        refine l_step (y_len Hvaa.underlying38 (et g0 rfl)) ?_
        refine l_step (y_gtr (et g0 rfl) rfl) ?_
        refine l_nil ?_
        refine hK6 _ _ ?_
        refine fg4 0 2 3 7 (gS rfl (gS rfl (gS rfl (gS rfl (gS rfl g0))))) (gS rfl (gS rfl (gS rfl (gS rfl g0)))) (gS rfl (gS rfl (gS rfl g0))) g0 (fun g => ?_)
        refine c_false (et g0 rfl) (by (exact decide_eq_false (by omega))) ?_
        refine c_skip ?_
        refine hK5 _ _ ?_
        refine fg3 0 2 3 (gS rfl (gS rfl (gS rfl g0))) (gS rfl (gS rfl g0)) (gS rfl g0) (fun g => ?_)
        refine c_seq (fun K8 hK8 => ?_)
        refine c_seq (fun K9 hK9 => ?_)
        exact (by
          refine c_region ?_
          refine l_step y_assignC ?_
          refine l_nil ?_
          refine hK9 _ _ ?_
          refine c_block (fun Q10 hQ10 => ?_)
          refine fg4 0 2 3 4 (gS rfl (gS rfl (gS rfl g0))) (gS rfl (gS rfl g0)) (gS rfl g0) g0 (fun g => ?_)
          refine c_loop (fun k_ s_ W11 => ∃ (g : Nat → Value) (i : Nat) (ds : List Nat), s_ = (upd (upd (upd (upd g 0 (.slice a l.length c)) 2 (.pointer (some ⟨b2, 0, none⟩))) 3 (.pointer (some ⟨b4, 0, none⟩))) 4 (.int .i64 (i : Nat))) ∧ l.length - i = k_ ∧ (i ≤ l.length + 33) ∧ (SMp l i ds) ∧ Blk W11 b4 ((uL ds).toArray) ∧ Ch (fun k => k = b4) w4 W11) (l.length - (0)) ?_ ?_
          · exact ⟨g, 0, (List.replicate 8 0), rfl, rfl, by omega, SMp.init l, k4, Ch.refl _ _⟩
          · skip
            intro k_ s_ W11 hI K11 hK11
            obtain ⟨g, i, ds, rfl, rfl, hi, hm, nk4, V11⟩ := hI
            replace k2 := k2.ch V11 (by omega)
            replace hW := hW.ch V11 (by first | omega | (intro q hq; omega))
            replace k4 := nk4
            replace U := U.cc V11 (by intro b hb; first | exact hb.elim | omega | (simp at hb ⊢; omega))
            refine c_seq (fun K12 hK12 => ?_)
            refine c_seq (fun K13 hK13 => ?_)
            exact (by
              refine c_region ?_
              refine l_step (y_moveV (et g0 rfl)) ?_
              refine l_step (y_moveV (et (gS rfl (gS rfl (gS rfl (gS rfl g0)))) rfl)) ?_
              refine l_step (y_len Hvaa.underlying38 (et g0 rfl)) ?_
              refine l_step (y_lss (et (gS rfl (gS rfl g0)) rfl) (et g0 rfl)) ?_
              refine l_nil ?_
              refine hK13 _ _ ?_
              refine fg5 0 2 3 4 12 (gS rfl (gS rfl (gS rfl (gS rfl (gS rfl (gS rfl (gS rfl g0))))))) (gS rfl (gS rfl (gS rfl (gS rfl (gS rfl (gS rfl g0)))))) (gS rfl (gS rfl (gS rfl (gS rfl (gS rfl g0))))) (gS rfl (gS rfl (gS rfl (gS rfl g0)))) g0 (fun g => ?_)
              refine c_cond (et g0 rfl) (fun cB2 => ?_) (fun cB2 => ?_)
              · skip
                
                have hil : i < l.length := by have := of_decide_eq_true cB2; omega
                obtain ⟨ba, oa, ha, hb0, hr⟩ := hW.at (by omega)
                subst ha
                refine c_skip ?_
                refine hK12 _ _ ?_
                refine fg4 0 2 3 4 (gS rfl (gS rfl (gS rfl (gS rfl g0)))) (gS rfl (gS rfl (gS rfl g0))) (gS rfl (gS rfl g0)) (gS rfl g0) (fun g => ?_)
                refine c_seq (fun K15 hK15 => ?_)
                refine c_block (fun Q16 hQ16 => ?_)
                refine c_seq (fun K17 hK17 => ?_)
                exact (by
                  refine c_region ?_
                  refine l_step (y_moveV (et (gS rfl (gS rfl (gS rfl g0))) rfl)) ?_
                  refine l_step (y_moveV (et (gS rfl g0) rfl)) ?_
                  refine l_step (y_idxSa rfl Hvaa.underlying38 sz_5 (et (gS rfl g0) rfl) (et g0 rfl) ?_) ?_
                  omega
                  refine l_step (y_load1 one_5 (et g0 rfl) (at1 (row_byte hr hil))) ?_
                  refine l_step (y_eql (et g0 rfl) rfl) ?_
                  refine l_nil ?_
                  refine hK17 _ _ ?_
                  refine fg5 0 2 3 4 26 (gS rfl (gS rfl (gS rfl (gS rfl (gS rfl (gS rfl (gS rfl (gS rfl g0)))))))) (gS rfl (gS rfl (gS rfl (gS rfl (gS rfl (gS rfl (gS rfl g0))))))) (gS rfl (gS rfl (gS rfl (gS rfl (gS rfl (gS rfl g0)))))) (gS rfl (gS rfl (gS rfl (gS rfl (gS rfl g0))))) g0 (fun g => ?_)
                  refine c_cond (et g0 rfl) (fun cB3 => ?_) (fun cB3 => ?_)
                  · skip
                    
                    have h91 : l[i] = 91 := by have := of_decide_eq_true cB3; omega
                    exact (by
                      refine c_draw Up 9 [(0, true), (1, true), (2, true), (3, true), (4, true), (5, true), (6, true), (7, true), (8, true), (9, false)] (by kernel_rfl) (fun w19 hu => ⟨Up.refl _, ?_⟩)
                      replace k2 := k2.up hu
                      replace k4 := k4.up hu
                      replace hW := hW.up hu
                      replace U := U.tr hu
                      replace V11 := V11.tr hu
                      have SU := Up.refl w19
                      refine p_step (by exact rfl) (y_moveV (et (gS rfl g0) rfl)) ?_
                      have hgl : ds[i / 64]?.getD 0 < 18446744073709551616 := by
                        have h64 : i / 64 < ds.length := by rw [hm.len]; omega
                        rw [List.getElem?_eq_getElem h64]
                        exact hm.lt _ (List.getElem_mem _)
                      refine p_step (by exact rfl) (y_quo (et g0 rfl) rfl (by decide) (quoI (b := 64) ?_)) ?_
                      omega
                      refine p_step (by exact rfl) (y_idxA Hvaa.underlying69 sz_26 (et (gS rfl (gS rfl (gS rfl (gS rfl g0)))) rfl) (et g0 rfl) ?_ ?_) ?_
                      omega
                      omega
                      refine p_step (by exact rfl) (y_load1 one_26 (et g0 rfl) (atS (k4.cell (uL_atE ds _ (i / 64) (by rw [hm.len]; omega) (by omega))))) ?_
                      refine p_step (by exact rfl) (y_moveV (et (gS rfl (gS rfl (gS rfl (gS rfl (gS rfl g0))))) rfl)) ?_
                      refine p_step (by exact rfl) (y_rem (et g0 rfl) rfl (by decide) (remN (b := 64))) ?_
                      refine p_step (by exact rfl) (y_shl rfl (et g0 rfl) ?_ (shl_nat (a := 1) uk64 (c := i % 64) (by show _ ≤ 64; omega))) ?_
                      omega
                      refine p_step (by exact rfl) (y_or uk64 (et (gS rfl (gS rfl (gS rfl g0))) rfl) (et g0 rfl) ?_ ?_) ?_
                      exact hgl
                      exact Nat.mod_lt _ (by decide)
                      refine p_step (by exact rfl) (y_idxA Hvaa.underlying69 sz_26 (et (gS rfl (gS rfl (gS rfl (gS rfl (gS rfl (gS rfl (gS rfl (gS rfl (gS rfl (gS rfl g0)))))))))) rfl) (et (gS rfl (gS rfl (gS rfl (gS rfl (gS rfl (gS rfl g0)))))) rfl) ?_ ?_) ?_
                      omega
                      omega
                      refine p_effN (by exact rfl) (e_store sz_26 (et g0 rfl) (cellsV (et (gS rfl g0) rfl) rfl) rfl (by first | exact one_bL _ | exact one_uL _ | (intro v hv; simp at hv; subst hv; rfl)) k4 (by (rw [size_uL, hm.len]; omega))) (fun v20 w20 h20 => ?_)
                      obtain ⟨rfl, x20⟩ := h20
                      replace k2 := k2.ch x20.ch (by omega)
                      replace hW := hW.ch x20.ch (by first | omega | (first | omega | (intro q hq; omega)))
                      replace k4 := x20.blk
                      replace U := U.st x20 f4
                      replace V11 := V11.st x20 (by omega)
                      refine ⟨.inl rfl, ?_⟩
                      replace k4 := Blk.uput (j := i / 64) k4 (by omega) (by rw [hm.len]; omega)
                      refine p_nil ?_
                      refine hQ16 _ _ _ (in_normal ?_)
                      refine hK15 _ _ ?_
                      refine fg4 0 2 3 4 (gS rfl (gS rfl (gS rfl (gS rfl (gS rfl (gS rfl (gS rfl (gS rfl (gS rfl (gS rfl (gS rfl (gS rfl (gS rfl g0))))))))))))) (gS rfl (gS rfl (gS rfl (gS rfl (gS rfl (gS rfl (gS rfl (gS rfl (gS rfl (gS rfl (gS rfl (gS rfl g0)))))))))))) (gS rfl (gS rfl (gS rfl (gS rfl (gS rfl (gS rfl (gS rfl (gS rfl (gS rfl (gS rfl (gS rfl g0))))))))))) (gS rfl (gS rfl (gS rfl (gS rfl (gS rfl (gS rfl (gS rfl (gS rfl (gS rfl (gS rfl g0)))))))))) (fun g => ?_)
                      refine c_region ?_
                      exact (by
                        refine l_step (y_moveV (et g0 rfl)) ?_
                        refine l_step (y_moveV (et (gS rfl (gS rfl (gS rfl (gS rfl g0)))) rfl)) ?_
                        refine l_step (y_moveV (et (gS rfl (gS rfl g0)) rfl)) ?_
                        obtain ⟨ba2, oa2, ha2, hb02, hr2⟩ := hW.at (by omega)
                        cases ha2
                        refine l_step (y_idxSa rfl Hvaa.underlying38 sz_5 (et (gS rfl g0) rfl) (et g0 rfl) ?_) ?_
                        omega
                        refine l_step (y_load1 one_5 (et g0 rfl) (at1 (row_byte hr2 hil))) ?_
                        refine l_eff (e_callV cal_151 (aC (et g0 rfl) aN) (imm_spec _ _ (hW.dig _ (List.getElem_mem _)))) (fun v21 w21 h21 => ?_)
                        obtain ⟨rfl, u21⟩ := h21
                        replace k2 := k2.up u21
                        replace k4 := k4.up u21
                        replace hW := hW.up u21
                        replace U := U.tr u21
                        replace V11 := V11.tr u21
                        refine l_step (y_conv Hvaa.underlying5 Hvaa.underlying3 (et g0 rfl) (wrapIN ?_)) ?_
                        (have := imm_le l[i]; omega)
                        have himm := imm_le l[i]
                        refine l_step (y_add rfl (et g0 rfl) (addIN (x := 1) ?_)) ?_
                        omega
                        refine l_step (y_add (et (gS rfl (gS rfl (gS rfl (gS rfl (gS rfl (gS rfl (gS rfl g0))))))) rfl) (et g0 rfl) (addIN ?_)) ?_
                        omega
                        refine l_step (y_assignV (et g0 rfl)) ?_
                        refine l_nil ?_
                        refine fK4 0 2 3 4 (gS rfl (gS rfl (gS rfl (gS rfl (gS rfl (gS rfl (gS rfl (gS rfl (gS rfl (gS rfl (gS rfl (gS rfl (gS rfl g0))))))))))))) (gS rfl (gS rfl (gS rfl (gS rfl (gS rfl (gS rfl (gS rfl (gS rfl (gS rfl (gS rfl (gS rfl (gS rfl g0)))))))))))) (gS rfl (gS rfl (gS rfl (gS rfl (gS rfl (gS rfl (gS rfl (gS rfl (gS rfl (gS rfl (gS rfl g0))))))))))) g0 (fun g => ?_)
                        exact hK11 (l.length - (_)) _ _ (by omega) ⟨g, _, _, rfl, rfl, by have := imm_le l[i]; omega, hm.yes hil hl5 h91, k4, V11⟩))
                  · skip
                    
                    have h91 : l[i] ≠ 91 := by have := of_decide_eq_false cB3; omega
                    refine c_skip ?_
                    refine hQ16 _ _ _ (in_normal ?_)
                    refine hK15 _ _ ?_
                    refine fg4 0 2 3 4 (gS rfl (gS rfl (gS rfl (gS rfl g0)))) (gS rfl (gS rfl (gS rfl g0))) (gS rfl (gS rfl g0)) (gS rfl g0) (fun g => ?_)
                    refine c_region ?_
                    refine l_step (y_moveV (et g0 rfl)) ?_
                    refine l_step (y_moveV (et (gS rfl (gS rfl (gS rfl (gS rfl g0)))) rfl)) ?_
                    refine l_step (y_moveV (et (gS rfl (gS rfl g0)) rfl)) ?_
                    obtain ⟨ba2, oa2, ha2, hb02, hr2⟩ := hW.at (by omega)
                    cases ha2
                    refine l_step (y_idxSa rfl Hvaa.underlying38 sz_5 (et (gS rfl g0) rfl) (et g0 rfl) ?_) ?_
                    omega
                    refine l_step (y_load1 one_5 (et g0 rfl) (at1 (row_byte hr2 hil))) ?_
                    refine l_eff (e_callV cal_151 (aC (et g0 rfl) aN) (imm_spec _ _ (hW.dig _ (List.getElem_mem _)))) (fun v22 w22 h22 => ?_)
                    obtain ⟨rfl, u22⟩ := h22
                    replace k2 := k2.up u22
                    replace k4 := k4.up u22
                    replace hW := hW.up u22
                    replace U := U.tr u22
                    replace V11 := V11.tr u22
                    refine l_step (y_conv Hvaa.underlying5 Hvaa.underlying3 (et g0 rfl) (wrapIN ?_)) ?_
                    (have := imm_le l[i]; omega)
                    have himm := imm_le l[i]
                    refine l_step (y_add rfl (et g0 rfl) (addIN (x := 1) ?_)) ?_
                    omega
                    refine l_step (y_add (et (gS rfl (gS rfl (gS rfl (gS rfl (gS rfl (gS rfl (gS rfl g0))))))) rfl) (et g0 rfl) (addIN ?_)) ?_
                    omega
                    refine l_step (y_assignV (et g0 rfl)) ?_
                    refine l_nil ?_
                    refine fK4 0 2 3 4 (gS rfl (gS rfl (gS rfl (gS rfl (gS rfl (gS rfl (gS rfl (gS rfl (gS rfl (gS rfl (gS rfl (gS rfl (gS rfl g0))))))))))))) (gS rfl (gS rfl (gS rfl (gS rfl (gS rfl (gS rfl (gS rfl (gS rfl (gS rfl (gS rfl (gS rfl (gS rfl g0)))))))))))) (gS rfl (gS rfl (gS rfl (gS rfl (gS rfl (gS rfl (gS rfl (gS rfl (gS rfl (gS rfl (gS rfl g0))))))))))) g0 (fun g => ?_)
                    exact hK11 (l.length - (_)) _ _ (by omega) ⟨g, _, _, rfl, rfl, by have := imm_le l[i]; omega, hm.no hil h91, k4, V11⟩)
              · skip
                
                have hil : ¬ i < l.length := by have := of_decide_eq_false cB2; omega
                refine c_exit ?_
                refine hQ10 _ _ _ (in_exit ?_)
                refine hK8 _ _ ?_
                refine fg2 2 3 (gS rfl (gS rfl (gS rfl g0))) (gS rfl (gS rfl g0)) (fun g => ?_)
                refine c_seq (fun K23 hK23 => ?_)
                exact (by
                  refine c_region ?_
                  refine l_step (y_loadB agg_69 sz_69 (et g0 rfl) (by rw [size_uL, hm.len]) (at1B k4)) ?_
                  refine l_effN (e_store sz_69 (et (gS rfl (gS rfl g0)) rfl) (cellsV (et g0 rfl) rfl) (by rw [length_uL, hm.len]) (by exact one_uL _) k2 (by (rw [hz2]; exact Nat.le_refl _))) (fun v24 w24 h24 => ?_)
                  obtain ⟨rfl, x24⟩ := h24
                  replace k4 := k4.ch x24.ch (by omega)
                  replace hW := hW.ch x24.ch (by first | omega | (first | omega | (intro q hq; omega)))
                  replace k2 := x24.blk.full (by rw [hz2, length_uL, hm.len])
                  replace U := U.st x24 f2
                  refine l_nil ?_
                  refine hK23 _ _ ?_
                  refine fg1 2 (gS rfl (gS rfl g0)) (fun g => ?_)
                  refine c_ret ?_
                  repeat with_reducible refine then_ret ?_
                  refine ret1 rfl (res_blk agg_69 sz_69 (et g0 rfl) (by rw [size_uL, hm.len]) k2) ?_
                  exact ⟨_, rfl, hm.fin hil, U⟩))))))
end Go.Proofs.YgvaawGreat
