import Derived.Test.YgvaawGreatN2
set_option maxRecDepth 100000
set_option maxHeartbeats 4000000
set_option linter.unusedSimpArgs false
set_option linter.unusedVariables false
namespace Go.Proofs.YgvaawGreat
open Go
theorem ofBE_zero (l : List Nat) : ofBE (0 :: l) = ofBE l := by simp [ofBE]
theorem val_reverse (l : List Nat) : val 256 l.reverse = ofBE l := by
  induction l with
  | nil => rfl
  | cons d l ih =>
    rw [List.reverse_cons, val_snoc, ih, List.length_reverse]
    have := ofBE_append [d] l
    simp only [List.singleton_append] at this
    rw [this]
    simp [ofBE]; rw [Nat.add_comm, Nat.mul_comm]
theorem drop_zero {l : List Nat} {k : Nat} (h : k < l.length) (hx : l[k] = 0) : ofBE (l.drop (k + 1)) = ofBE (l.drop k) := by
  rw [List.drop_eq_getElem_cons h, hx, ofBE_zero]
theorem rev_step {l P : List Nat} {k x : Nat} (hP : P = (l.drop k).reverse.take P.length) (h : P.length < l.length - k) (hx : l[l.length - 1 - P.length]? = some x) : P ++ [x] = (l.drop k).reverse.take (P ++ [x]).length := by
  rw [List.length_append, List.length_singleton, List.take_add_one, ← hP]
  have e1 : (l.drop k).reverse[P.length]? = some x := by
    rw [List.getElem?_reverse (by simp; omega), List.getElem?_drop, List.length_drop]
    rw [show k + (l.length - k - 1 - P.length) = l.length - 1 - P.length by omega]; exact hx
  rw [e1]; rfl
theorem rev_done {l P : List Nat} {k : Nat} (hP : P = (l.drop k).reverse.take P.length) (h : P.length = l.length - k) : P = (l.drop k).reverse := by
  rw [List.take_of_length_le (by simp; omega)] at hP; exact hP
theorem tr_rev {l : List Nat} {k : Nat} (h : k < l.length) (hx : l[k] ≠ 0) : Tr (l.drop k).reverse := by
  intro d hd
  rw [List.getLast?_reverse, List.drop_eq_getElem_cons h] at hd
  simp only [List.head?_cons, Option.some.injEq] at hd; rw [← hd]; exact hx
theorem Dig.rev {β : Nat} {l : List Nat} (h : Dig β l) : Dig β l.reverse := fun d hd => h d (List.mem_reverse.1 hd)
theorem rep_succ (r : Nat) (P : List Nat) (h : 0 < r) : ∃ r', r = r' + 1 ∧ P ++ List.replicate r 0 = P ++ 0 :: List.replicate r' 0 := ⟨r - 1, by omega, by rw [show r = r - 1 + 1 by omega, List.replicate_succ]; simp⟩
theorem fromBE_raw (s0 c : Nat) (a : Option Addr) (l : List Nat) (w : World) (hW : WV s0 w (.slice a l.length c) l) (hs0 : s0 ≤ w.heap.size) (hc : l.length ≤ c) (h48 : l.length ≤ 281474976710656) :
    Ret 33 [.slice a l.length c] w (fun v w' => ∃ l', Up w w' ∧ OB w w' v l' ∧ val 256 l' = ofBE l ∧ Tr l') := by
  refine enter (n := 46) Hvaa.func33 rfl rfl (Nat.le_of_ble_eq_true rfl) ?_
  have U := Up.refl w
  refine c_seq (fun K1 hK1 => ?_)
  refine c_region ?_
  refine l_step y_assignC ?_
  refine l_nil ?_
  refine hK1 _ _ ?_
  refine fg1 0 (gS rfl g0) (fun g => ?_)
  refine c_seq (fun K2 hK2 => ?_)
  refine c_region ?_
  refine l_step y_assignC ?_
  refine l_nil ?_
  refine hK2 _ _ ?_
  refine c_seq (fun K3 hK3 => ?_)
  refine c_block (fun Q4 hQ4 => ?_)
  refine fg2 0 3 (gS rfl g0) g0 (fun g => ?_)
  refine c_loop (fun k_ s_ W5 => ∃ (g : Nat → Value) (k : Nat), s_ = (upd (upd g 0 (.slice a l.length c)) 3 (.int .i64 (k : Nat))) ∧ l.length - k = k_ ∧ (k ≤ l.length) ∧ (ofBE (l.drop k) = ofBE l) ∧ Ch (fun k => False) w W5) (l.length - (0)) ?_ ?_
  · exact ⟨g, 0, rfl, rfl, Nat.zero_le _, rfl, Ch.refl _ _⟩
  · skip
    intro k_ s_ W5 hI K5 hK5
    obtain ⟨g, k, rfl, rfl, hk, hz, V5⟩ := hI
    replace hW := hW.ch V5 (by first | exact fun h => h | exact fun _ h => h.elim)
    replace U := U.cc V5 (by intro b hb; first | exact hb.elim | omega | (simp at hb ⊢; omega))
    refine c_seq (fun K6 hK6 => ?_)
    refine c_seq (fun K7 hK7 => ?_)
    refine c_region ?_
    refine l_step (y_moveV (et g0 rfl)) ?_
    refine l_step (y_moveV (et (gS rfl (gS rfl g0)) rfl)) ?_
    refine l_step (y_len Hvaa.underlying38 (et g0 rfl)) ?_
    refine l_step (y_lss (et (gS rfl (gS rfl g0)) rfl) (et g0 rfl)) ?_
    refine l_step (y_moveV (et g0 rfl)) ?_
    refine gsplitL (i := 10) g0 (fun q8 => ?_) (fun q8 => ?_)
    · skip
      have hk1 : k < l.length := by have := of_decide_eq_true q8; omega
      obtain ⟨b, o, ha, hb0, hr⟩ := hW.at (by omega)
      refine l_gstep (j := 4) (t := 10) (by exact rfl) (by exact rfl) (et g0 rfl) (by decide) (y_moveV (et (gS rfl (gS rfl (gS rfl (gS rfl (gS rfl (gS rfl (gS rfl g0))))))) rfl)) ?_
      refine l_gstep (j := 4) (t := 10) (by exact rfl) (by exact rfl) (et (gS rfl g0) rfl) (by decide) (y_moveV (et (gS rfl (gS rfl (gS rfl (gS rfl (gS rfl (gS rfl (gS rfl g0))))))) rfl)) ?_
      refine l_gstep (j := 4) (t := 10) (by exact rfl) (by exact rfl) (et (gS rfl (gS rfl g0)) rfl) (by decide) (y_idxSa ha Hvaa.underlying38 sz_5 (et (gS rfl g0) rfl) (et g0 rfl) ?_) ?_
      omega
      refine l_gstep (j := 4) (t := 10) (by exact rfl) (by exact rfl) (et (gS rfl (gS rfl (gS rfl g0))) rfl) (by decide) (y_load1 one_5 (et g0 rfl) (at1 (row_byte hr (by omega)))) ?_
      refine l_gstep (j := 4) (t := 10) (by exact rfl) (by exact rfl) (et (gS rfl (gS rfl (gS rfl (gS rfl g0)))) rfl) (by decide) (y_eql (et g0 rfl) rfl) ?_
      refine l_step (y_pickT (et (gS rfl (gS rfl (gS rfl (gS rfl (gS rfl g0))))) rfl) (et g0 rfl)) ?_
      refine l_nil ?_
      refine hK7 _ _ ?_
      refine fg3 0 3 16 (gS rfl (gS rfl (gS rfl (gS rfl (gS rfl (gS rfl (gS rfl (gS rfl (gS rfl (gS rfl (gS rfl (gS rfl (gS rfl g0))))))))))))) (gS rfl (gS rfl (gS rfl (gS rfl (gS rfl (gS rfl (gS rfl (gS rfl (gS rfl (gS rfl (gS rfl (gS rfl g0)))))))))))) g0 (fun g => ?_)
      refine c_cond (et g0 rfl) (fun cB1 => ?_) (fun cB1 => ?_)
      · skip
        
        have hx0 : l[k] = 0 := by have := of_decide_eq_true cB1; omega
        refine c_skip ?_
        refine hK6 _ _ ?_
        refine fg2 0 3 (gS rfl (gS rfl g0)) (gS rfl g0) (fun g => ?_)
        refine c_block (fun Q10 hQ10 => ?_)
        refine c_region ?_
        refine l_step (y_moveV (et g0 rfl)) ?_
        refine l_step (y_add (et g0 rfl) rfl (addIN (y := 1) ?_)) ?_
        omega
        refine l_step (y_assignV (et g0 rfl)) ?_
        refine l_nil ?_
        refine hQ10 _ _ _ (in_normal ?_)
        refine fK2 0 3 (gS rfl (gS rfl (gS rfl (gS rfl g0)))) g0 (fun g => ?_)
        exact hK5 (l.length - ((k + 1))) _ _ (by omega) ⟨g, (k + 1), rfl, rfl, by omega, (drop_zero (by omega) hx0).trans hz, V5⟩
      · skip
        
        have hx0 : l[k] ≠ 0 := by have := of_decide_eq_false cB1; omega
        refine c_exit ?_
        refine hQ4 _ _ _ (in_exit ?_)
        refine hK3 _ _ ?_
        refine fg2 0 3 (gS rfl (gS rfl g0)) (gS rfl g0) (fun g => ?_)
        refine c_seq (fun K11 hK11 => ?_)
        refine c_seq (fun K12 hK12 => ?_)
        refine c_region ?_
        refine l_step (y_moveV (et g0 rfl)) ?_
        refine l_step (y_moveV (et (gS rfl (gS rfl g0)) rfl)) ?_
        refine l_step (y_len Hvaa.underlying38 (et g0 rfl)) ?_
        refine l_step (y_eql (et (gS rfl (gS rfl g0)) rfl) (et g0 rfl)) ?_
        refine l_nil ?_
        refine hK12 _ _ ?_
        refine fg3 0 3 22 (gS rfl (gS rfl (gS rfl (gS rfl (gS rfl g0))))) (gS rfl (gS rfl (gS rfl (gS rfl g0)))) g0 (fun g => ?_)
        refine c_cond (et g0 rfl) (fun cB2 => ?_) (fun cB2 => ?_)
        · skip
          
          have hk0 : k = l.length := by have := of_decide_eq_true cB2; omega
          refine c_seq (fun K14 hK14 => ?_)
          refine c_region ?_
          refine l_step y_assignC ?_
          refine l_nil ?_
          refine hK14 _ _ ?_
          refine fg1 2 g0 (fun g => ?_)
          refine c_ret ?_
          refine ret1 rfl (res_tmp (et g0 rfl)) ?_
          exact absurd hk0 (by omega)
        · skip
          
          have hk2 : k < l.length := by have := of_decide_eq_false cB2; omega
          refine c_skip ?_
          refine hK11 _ _ ?_
          refine fg2 0 3 (gS rfl (gS rfl g0)) (gS rfl g0) (fun g => ?_)
          refine c_seq (fun K15 hK15 => ?_)
          refine c_region ?_
          refine l_step (y_moveV (et (gS rfl g0) rfl)) ?_
          refine l_step (y_len Hvaa.underlying38 (et g0 rfl)) ?_
          refine l_step (y_moveV (et (gS rfl (gS rfl g0)) rfl)) ?_
          refine l_step (y_sub (et (gS rfl g0) rfl) (et g0 rfl) (subIN ?_ ?_)) ?_
          omega
          omega
          refine l_eff (e_make Hvaa.underlying95 sz_5 zr_5 by_5 (et g0 rfl) (et g0 rfl) (by omega) (by omega)) (fun v16 w16 h16 => ?_)
          obtain ⟨b16, rfl, n16⟩ := h16
          have f16 : w.heap.size ≤ b16 := Nat.le_trans U.size n16.fresh
          replace hW := hW.up n16.up
          replace U := U.tr n16.up
          have k16 := mzB n16.blk
          refine l_step (y_assignV (et g0 rfl)) ?_
          refine l_nil ?_
          refine hK15 _ _ ?_
          refine fg2 0 4 (gS rfl (gS rfl (gS rfl (gS rfl (gS rfl (gS rfl (gS rfl g0))))))) g0 (fun g => ?_)
          refine c_seq (fun K17 hK17 => ?_)
          refine c_seq (fun K18 hK18 => ?_)
          refine c_region ?_
          refine l_step (y_moveV (et g0 rfl)) ?_
          refine l_step (y_len Hvaa.underlying95 (et g0 rfl)) ?_
          refine l_step y_moveC ?_
          refine l_nil ?_
          refine hK18 _ _ ?_
          refine fg4 0 4 29 30 (gS rfl (gS rfl (gS rfl (gS rfl g0)))) (gS rfl (gS rfl (gS rfl g0))) (gS rfl g0) g0 (fun g => ?_)
          refine c_block (fun Q19 hQ19 => ?_)
          refine fg4 0 4 29 30 (gS rfl (gS rfl (gS rfl g0))) (gS rfl (gS rfl g0)) (gS rfl g0) g0 (fun g => ?_)
          replace k16 : Blk w16 b16 (bL ([] ++ List.replicate (l.length - k) 0)).toArray := k16
          refine c_loop (fun k_ s_ W20 => ∃ (g : Nat → Value) (P : List Nat) (r : Nat), s_ = (upd (upd (upd (upd g 0 (.slice a l.length c)) 4 (.slice (some ⟨b16, 0, none⟩) (l.length - k) (l.length - k))) 29 (.int .i64 (l.length - k : Nat))) 30 (.int .i64 (P.length : Nat))) ∧ r = k_ ∧ (P = (l.drop k).reverse.take P.length) ∧ (P.length + r = l.length - k) ∧ (Dig 256 P) ∧ Blk W20 b16 ((bL (P ++ List.replicate r 0)).toArray) ∧ Ch (fun k => k = b16) w16 W20) (((l.length - k))) ?_ ?_
          · exact ⟨g, [], (l.length - k), rfl, rfl, rfl, by simp, Dig.nil _, k16, Ch.refl _ _⟩
          · skip
            intro k_ s_ W20 hI K20 hK20
            obtain ⟨g, P, r, rfl, rfl, hP, hPr, hPd, nk16, V20⟩ := hI
            replace hW := hW.ch V20 (by first | omega | (intro q hq; omega))
            replace k16 := nk16
            replace U := U.cc V20 (by intro b hb; first | exact hb.elim | omega | (simp at hb ⊢; omega))
            refine c_seq (fun K21 hK21 => ?_)
            refine c_region ?_
            refine l_step (y_lss (et g0 rfl) (et (gS rfl g0) rfl)) ?_
            refine l_nil ?_
            refine hK21 _ _ ?_
            refine c_seq (fun K22 hK22 => ?_)
            refine c_cond (et g0 rfl) (fun cB3 => ?_) (fun cB3 => ?_)
            · skip
              simp only [decide_eq_true_eq, decide_eq_false_iff_not, Int.not_lt, Int.not_le, Bool.not_eq_true', Bool.not_eq_false', Bool.not_eq_eq_eq_not, Bool.not_true, Bool.not_false] at cB3
              obtain ⟨r', rfl, hrr⟩ := rep_succ r P (by omega)
              rw [hrr] at k16
              obtain ⟨b', o', ha', hb0', hr'⟩ := hW.at (by omega)
              refine c_skip ?_
              refine hK22 _ _ ?_
              refine fg4 0 4 29 30 (gS rfl (gS rfl (gS rfl (gS rfl g0)))) (gS rfl (gS rfl (gS rfl g0))) (gS rfl (gS rfl g0)) (gS rfl g0) (fun g => ?_)
              refine c_seq (fun K24 hK24 => ?_)
              refine c_block (fun Q25 hQ25 => ?_)
              refine c_seq (fun K26 hK26 => ?_)
              refine c_region ?_
              refine l_step (y_moveV (et g0 rfl)) ?_
              refine l_step (y_assignV (et g0 rfl)) ?_
              refine l_nil ?_
              refine hK26 _ _ ?_
              refine fg5 0 4 29 30 5 (gS rfl (gS rfl (gS rfl (gS rfl (gS rfl g0))))) (gS rfl (gS rfl (gS rfl (gS rfl g0)))) (gS rfl (gS rfl (gS rfl g0))) (gS rfl (gS rfl g0)) g0 (fun g => ?_)
              refine c_region ?_
              refine l_step (y_moveV (et (gS rfl (gS rfl (gS rfl g0))) rfl)) ?_
              refine l_step (y_moveV (et (gS rfl g0) rfl)) ?_
              refine l_step (y_moveV (et (gS rfl (gS rfl (gS rfl (gS rfl (gS rfl (gS rfl g0)))))) rfl)) ?_
              refine l_step (y_moveV (et (gS rfl (gS rfl (gS rfl (gS rfl (gS rfl (gS rfl (gS rfl g0))))))) rfl)) ?_
              refine l_step (y_len Hvaa.underlying38 (et g0 rfl)) ?_
              refine l_step (y_sub (et g0 rfl) rfl (subIN (y := 1) ?_ ?_)) ?_
              omega
              omega
              refine l_step (y_moveV (et (gS rfl (gS rfl (gS rfl (gS rfl (gS rfl (gS rfl g0)))))) rfl)) ?_
              refine l_step (y_sub (et (gS rfl g0) rfl) (et g0 rfl) (subIN ?_ ?_)) ?_
              omega
              omega
              refine l_step (y_idxSa ha' Hvaa.underlying38 sz_5 (et (gS rfl (gS rfl (gS rfl (gS rfl (gS rfl g0))))) rfl) (et g0 rfl) ?_) ?_
              omega
              refine l_step (y_load1 one_5 (et g0 rfl) (at1 (row_byte hr' (by omega)))) ?_
              refine l_step (y_idxSa rfl Hvaa.underlying95 sz_5 (et (gS rfl (gS rfl (gS rfl (gS rfl (gS rfl (gS rfl (gS rfl (gS rfl (gS rfl g0))))))))) rfl) (et (gS rfl (gS rfl (gS rfl (gS rfl (gS rfl (gS rfl (gS rfl (gS rfl g0)))))))) rfl) ?_) ?_
              omega
              refine l_effN (e_store sz_5 (et g0 rfl) (cellsV (et (gS rfl g0) rfl) rfl) rfl (by first | exact one_bL _ | exact one_uL _ | (intro v hv; simp at hv; subst hv; rfl)) k16 (by (simp only [List.size_toArray, length_bL, List.length_append, List.length_cons, List.length_replicate]; omega))) (fun v27 w27 h27 => ?_)
              obtain ⟨rfl, x27⟩ := h27
              replace hW := hW.ch x27.ch (by first | omega | first | omega | (intro q hq; omega))
              replace k16 := x27.blk
              replace U := U.st x27 f16
              replace V20 := V20.st x27 (by omega)
              replace k16 := Blk.setB k16 (by omega)
              replace k16 : Blk w27 b16 (bL ((P ++ [l[l.length - 1 - P.length]]) ++ List.replicate r' 0)).toArray := by simpa using k16
              refine l_nil ?_
              refine hQ25 _ _ _ (in_normal ?_)
              refine hK24 _ _ ?_
              refine fg4 0 4 29 30 (gS rfl (gS rfl (gS rfl (gS rfl (gS rfl (gS rfl (gS rfl (gS rfl (gS rfl (gS rfl (gS rfl (gS rfl (gS rfl (gS rfl (gS rfl g0))))))))))))))) (gS rfl (gS rfl (gS rfl (gS rfl (gS rfl (gS rfl (gS rfl (gS rfl (gS rfl (gS rfl (gS rfl (gS rfl (gS rfl (gS rfl g0)))))))))))))) (gS rfl (gS rfl (gS rfl (gS rfl (gS rfl (gS rfl (gS rfl (gS rfl (gS rfl (gS rfl (gS rfl (gS rfl (gS rfl g0))))))))))))) (gS rfl (gS rfl (gS rfl (gS rfl (gS rfl (gS rfl (gS rfl (gS rfl (gS rfl (gS rfl (gS rfl (gS rfl g0)))))))))))) (fun g => ?_)
              refine c_region ?_
              refine l_step (y_add (et g0 rfl) rfl ((addIN (y := 1) ?_).trans (castE (show P.length + 1 = (P ++ [l[l.length - 1 - P.length]]).length by simp)))) ?_
              omega
              refine l_step (y_moveV (et g0 rfl)) ?_
              refine l_nil ?_
              refine fK4 0 4 29 30 (gS rfl (gS rfl (gS rfl (gS rfl (gS rfl g0))))) (gS rfl (gS rfl (gS rfl (gS rfl g0)))) (gS rfl (gS rfl (gS rfl g0))) g0 (fun g => ?_)
              exact hK20 ((r')) _ _ (by omega) ⟨g, (P ++ [l[l.length - 1 - P.length]]), r', rfl, rfl, rev_step hP (by omega) (get_len (by omega)), by simp; omega, hPd.app (Dig.one (hW.dig _ (List.getElem_mem _))), k16, V20⟩
            · skip
              simp only [decide_eq_true_eq, decide_eq_false_iff_not, Int.not_lt, Int.not_le, Bool.not_eq_true', Bool.not_eq_false', Bool.not_eq_eq_eq_not, Bool.not_true, Bool.not_false] at cB3
              have hr0 : r = 0 := by omega
              subst hr0
              refine c_exit ?_
              refine hQ19 _ _ _ (in_exit ?_)
              refine hK17 _ _ ?_
              refine fg1 4 (gS rfl (gS rfl (gS rfl g0))) (fun g => ?_)
              refine c_seq (fun K28 hK28 => ?_)
              refine c_region ?_
              refine l_step (y_moveV (et g0 rfl)) ?_
              refine l_step (y_assignV (et g0 rfl)) ?_
              refine l_nil ?_
              refine hK28 _ _ ?_
              refine fg1 2 g0 (fun g => ?_)
              refine c_ret ?_
              refine ret1 rfl (res_tmp (et g0 rfl)) ?_
              have hPl : P.length = l.length - k := by omega
              have hPe := rev_done hP hPl
              have k9 := k16
              simp only [List.replicate_zero, List.append_nil] at k9
              refine ⟨P, U, ⟨hPd, .inr ⟨_, by rw [hPl], f16, k9.lt, by omega, k9⟩⟩, ?_, ?_⟩
              · rw [hPe, val_reverse, hz]
              · rw [hPe]; exact tr_rev (by omega) hx0
    · skip
      have hk0 : k = l.length := by have := of_decide_eq_false q8; omega
      refine l_gskip (j := 4) (t := 10) (by exact rfl) (by exact rfl) (et g0 rfl) (by decide) (by decide) ?_
      refine l_gskip (j := 4) (t := 10) (by exact rfl) (by exact rfl) (et (gS rfl g0) rfl) (by decide) (by decide) ?_
      refine l_gskip (j := 4) (t := 10) (by exact rfl) (by exact rfl) (et (gS rfl (gS rfl g0)) rfl) (by decide) (by decide) ?_
      refine l_gskip (j := 4) (t := 10) (by exact rfl) (by exact rfl) (et (gS rfl (gS rfl (gS rfl g0))) rfl) (by decide) (by decide) ?_
      refine l_gskip (j := 4) (t := 10) (by exact rfl) (by exact rfl) (et (gS rfl (gS rfl (gS rfl (gS rfl g0)))) rfl) (by decide) (by decide) ?_
      refine l_step (y_pickF (et (gS rfl (gS rfl (gS rfl (gS rfl (gS rfl g0))))) rfl) rfl) ?_
      refine l_nil ?_
      refine hK7 _ _ ?_
      refine fg3 0 3 16 (gS rfl (gS rfl (gS rfl (gS rfl (gS rfl (gS rfl (gS rfl (gS rfl (gS rfl (gS rfl (gS rfl (gS rfl (gS rfl g0))))))))))))) (gS rfl (gS rfl (gS rfl (gS rfl (gS rfl (gS rfl (gS rfl (gS rfl (gS rfl (gS rfl (gS rfl (gS rfl g0)))))))))))) g0 (fun g => ?_)
      refine c_false (et g0 rfl) rfl ?_
      refine c_exit ?_
      refine hQ4 _ _ _ (in_exit ?_)
      refine hK3 _ _ ?_
      refine fg2 0 3 (gS rfl (gS rfl g0)) (gS rfl g0) (fun g => ?_)
      refine c_seq (fun K30 hK30 => ?_)
      refine c_seq (fun K31 hK31 => ?_)
      refine c_region ?_
      refine l_step (y_moveV (et g0 rfl)) ?_
      refine l_step (y_moveV (et (gS rfl (gS rfl g0)) rfl)) ?_
      refine l_step (y_len Hvaa.underlying38 (et g0 rfl)) ?_
      refine l_step (y_eql (et (gS rfl (gS rfl g0)) rfl) (et g0 rfl)) ?_
      refine l_nil ?_
      refine hK31 _ _ ?_
      refine fg3 0 3 22 (gS rfl (gS rfl (gS rfl (gS rfl (gS rfl g0))))) (gS rfl (gS rfl (gS rfl (gS rfl g0)))) g0 (fun g => ?_)
      refine c_cond (et g0 rfl) (fun cB2 => ?_) (fun cB2 => ?_)
      · skip
        
        have hk0 : k = l.length := by have := of_decide_eq_true cB2; omega
        refine c_seq (fun K33 hK33 => ?_)
        refine c_region ?_
        refine l_step y_assignC ?_
        refine l_nil ?_
        refine hK33 _ _ ?_
        refine fg1 2 g0 (fun g => ?_)
        refine c_ret ?_
        refine ret1 rfl (res_tmp (et g0 rfl)) ?_
        exact ⟨_, U, ⟨Dig.nil _, .inl ⟨rfl, rfl⟩⟩, by rw [← hz, hk0]; simp [ofBE, val], fun d hd => by cases hd⟩
      · skip
        
        have hk2 : k < l.length := by have := of_decide_eq_false cB2; omega
        refine c_skip ?_
        refine hK30 _ _ ?_
        refine fg2 0 3 (gS rfl (gS rfl g0)) (gS rfl g0) (fun g => ?_)
        refine c_seq (fun K34 hK34 => ?_)
        refine c_region ?_
        refine l_step (y_moveV (et (gS rfl g0) rfl)) ?_
        refine l_step (y_len Hvaa.underlying38 (et g0 rfl)) ?_
        refine l_step (y_moveV (et (gS rfl (gS rfl g0)) rfl)) ?_
        refine l_step (y_sub (et (gS rfl g0) rfl) (et g0 rfl) (subIN ?_ ?_)) ?_
        omega
        omega
        refine l_eff (e_make Hvaa.underlying95 sz_5 zr_5 by_5 (et g0 rfl) (et g0 rfl) (by omega) (by omega)) (fun v35 w35 h35 => ?_)
        obtain ⟨b35, rfl, n35⟩ := h35
        have f35 : w.heap.size ≤ b35 := Nat.le_trans U.size n35.fresh
        replace hW := hW.up n35.up
        replace U := U.tr n35.up
        have k35 := mzB n35.blk
        refine l_step (y_assignV (et g0 rfl)) ?_
        refine l_nil ?_
        refine hK34 _ _ ?_
        refine fg2 0 4 (gS rfl (gS rfl (gS rfl (gS rfl (gS rfl (gS rfl (gS rfl g0))))))) g0 (fun g => ?_)
        refine c_seq (fun K36 hK36 => ?_)
        refine c_seq (fun K37 hK37 => ?_)
        refine c_region ?_
        refine l_step (y_moveV (et g0 rfl)) ?_
        refine l_step (y_len Hvaa.underlying95 (et g0 rfl)) ?_
        refine l_step y_moveC ?_
        refine l_nil ?_
        refine hK37 _ _ ?_
        refine fg4 0 4 29 30 (gS rfl (gS rfl (gS rfl (gS rfl g0)))) (gS rfl (gS rfl (gS rfl g0))) (gS rfl g0) g0 (fun g => ?_)
        refine c_block (fun Q38 hQ38 => ?_)
        refine fg4 0 4 29 30 (gS rfl (gS rfl (gS rfl g0))) (gS rfl (gS rfl g0)) (gS rfl g0) g0 (fun g => ?_)
        replace k35 : Blk w35 b35 (bL ([] ++ List.replicate (l.length - k) 0)).toArray := k35
        refine c_loop (fun k_ s_ W39 => ∃ (g : Nat → Value) (P : List Nat) (r : Nat), s_ = (upd (upd (upd (upd g 0 (.slice a l.length c)) 4 (.slice (some ⟨b35, 0, none⟩) (l.length - k) (l.length - k))) 29 (.int .i64 (l.length - k : Nat))) 30 (.int .i64 (P.length : Nat))) ∧ r = k_ ∧ (P = (l.drop k).reverse.take P.length) ∧ (P.length + r = l.length - k) ∧ (Dig 256 P) ∧ Blk W39 b35 ((bL (P ++ List.replicate r 0)).toArray) ∧ Ch (fun k => k = b35) w35 W39) (((l.length - k))) ?_ ?_
        · exact ⟨g, [], (l.length - k), rfl, rfl, rfl, by simp, Dig.nil _, k35, Ch.refl _ _⟩
        · skip
          intro k_ s_ W39 hI K39 hK39
          obtain ⟨g, P, r, rfl, rfl, hP, hPr, hPd, nk35, V39⟩ := hI
          replace hW := hW.ch V39 (by first | omega | (intro q hq; omega))
          replace k35 := nk35
          replace U := U.cc V39 (by intro b hb; first | exact hb.elim | omega | (simp at hb ⊢; omega))
          refine c_seq (fun K40 hK40 => ?_)
          refine c_region ?_
          refine l_step (y_lss (et g0 rfl) (et (gS rfl g0) rfl)) ?_
          refine l_nil ?_
          refine hK40 _ _ ?_
          refine c_seq (fun K41 hK41 => ?_)
          refine c_cond (et g0 rfl) (fun cB3 => ?_) (fun cB3 => ?_)
          · skip
            simp only [decide_eq_true_eq, decide_eq_false_iff_not, Int.not_lt, Int.not_le, Bool.not_eq_true', Bool.not_eq_false', Bool.not_eq_eq_eq_not, Bool.not_true, Bool.not_false] at cB3
            obtain ⟨r', rfl, hrr⟩ := rep_succ r P (by omega)
            rw [hrr] at k35
            obtain ⟨b', o', ha', hb0', hr'⟩ := hW.at (by omega)
            refine c_skip ?_
            refine hK41 _ _ ?_
            refine fg4 0 4 29 30 (gS rfl (gS rfl (gS rfl (gS rfl g0)))) (gS rfl (gS rfl (gS rfl g0))) (gS rfl (gS rfl g0)) (gS rfl g0) (fun g => ?_)
            refine c_seq (fun K43 hK43 => ?_)
            refine c_block (fun Q44 hQ44 => ?_)
            refine c_seq (fun K45 hK45 => ?_)
            refine c_region ?_
            refine l_step (y_moveV (et g0 rfl)) ?_
            refine l_step (y_assignV (et g0 rfl)) ?_
            refine l_nil ?_
            refine hK45 _ _ ?_
            refine fg5 0 4 29 30 5 (gS rfl (gS rfl (gS rfl (gS rfl (gS rfl g0))))) (gS rfl (gS rfl (gS rfl (gS rfl g0)))) (gS rfl (gS rfl (gS rfl g0))) (gS rfl (gS rfl g0)) g0 (fun g => ?_)
            refine c_region ?_
            refine l_step (y_moveV (et (gS rfl (gS rfl (gS rfl g0))) rfl)) ?_
            refine l_step (y_moveV (et (gS rfl g0) rfl)) ?_
            refine l_step (y_moveV (et (gS rfl (gS rfl (gS rfl (gS rfl (gS rfl (gS rfl g0)))))) rfl)) ?_
            refine l_step (y_moveV (et (gS rfl (gS rfl (gS rfl (gS rfl (gS rfl (gS rfl (gS rfl g0))))))) rfl)) ?_
            refine l_step (y_len Hvaa.underlying38 (et g0 rfl)) ?_
            refine l_step (y_sub (et g0 rfl) rfl (subIN (y := 1) ?_ ?_)) ?_
            omega
            omega
            refine l_step (y_moveV (et (gS rfl (gS rfl (gS rfl (gS rfl (gS rfl (gS rfl g0)))))) rfl)) ?_
            refine l_step (y_sub (et (gS rfl g0) rfl) (et g0 rfl) (subIN ?_ ?_)) ?_
            omega
            omega
            refine l_step (y_idxSa ha' Hvaa.underlying38 sz_5 (et (gS rfl (gS rfl (gS rfl (gS rfl (gS rfl g0))))) rfl) (et g0 rfl) ?_) ?_
            omega
            refine l_step (y_load1 one_5 (et g0 rfl) (at1 (row_byte hr' (by omega)))) ?_
            refine l_step (y_idxSa rfl Hvaa.underlying95 sz_5 (et (gS rfl (gS rfl (gS rfl (gS rfl (gS rfl (gS rfl (gS rfl (gS rfl (gS rfl g0))))))))) rfl) (et (gS rfl (gS rfl (gS rfl (gS rfl (gS rfl (gS rfl (gS rfl (gS rfl g0)))))))) rfl) ?_) ?_
            omega
            refine l_effN (e_store sz_5 (et g0 rfl) (cellsV (et (gS rfl g0) rfl) rfl) rfl (by first | exact one_bL _ | exact one_uL _ | (intro v hv; simp at hv; subst hv; rfl)) k35 (by (simp only [List.size_toArray, length_bL, List.length_append, List.length_cons, List.length_replicate]; omega))) (fun v46 w46 h46 => ?_)
            obtain ⟨rfl, x46⟩ := h46
            replace hW := hW.ch x46.ch (by first | omega | first | omega | (intro q hq; omega))
            replace k35 := x46.blk
            replace U := U.st x46 f35
            replace V39 := V39.st x46 (by omega)
            replace k35 := Blk.setB k35 (by omega)
            replace k35 : Blk w46 b35 (bL ((P ++ [l[l.length - 1 - P.length]]) ++ List.replicate r' 0)).toArray := by simpa using k35
            refine l_nil ?_
            refine hQ44 _ _ _ (in_normal ?_)
            refine hK43 _ _ ?_
            refine fg4 0 4 29 30 (gS rfl (gS rfl (gS rfl (gS rfl (gS rfl (gS rfl (gS rfl (gS rfl (gS rfl (gS rfl (gS rfl (gS rfl (gS rfl (gS rfl (gS rfl g0))))))))))))))) (gS rfl (gS rfl (gS rfl (gS rfl (gS rfl (gS rfl (gS rfl (gS rfl (gS rfl (gS rfl (gS rfl (gS rfl (gS rfl (gS rfl g0)))))))))))))) (gS rfl (gS rfl (gS rfl (gS rfl (gS rfl (gS rfl (gS rfl (gS rfl (gS rfl (gS rfl (gS rfl (gS rfl (gS rfl g0))))))))))))) (gS rfl (gS rfl (gS rfl (gS rfl (gS rfl (gS rfl (gS rfl (gS rfl (gS rfl (gS rfl (gS rfl (gS rfl g0)))))))))))) (fun g => ?_)
            refine c_region ?_
            refine l_step (y_add (et g0 rfl) rfl ((addIN (y := 1) ?_).trans (castE (show P.length + 1 = (P ++ [l[l.length - 1 - P.length]]).length by simp)))) ?_
            omega
            refine l_step (y_moveV (et g0 rfl)) ?_
            refine l_nil ?_
            refine fK4 0 4 29 30 (gS rfl (gS rfl (gS rfl (gS rfl (gS rfl g0))))) (gS rfl (gS rfl (gS rfl (gS rfl g0)))) (gS rfl (gS rfl (gS rfl g0))) g0 (fun g => ?_)
            exact hK39 ((r')) _ _ (by omega) ⟨g, (P ++ [l[l.length - 1 - P.length]]), r', rfl, rfl, rev_step hP (by omega) (get_len (by omega)), by simp; omega, hPd.app (Dig.one (hW.dig _ (List.getElem_mem _))), k35, V39⟩
          · skip
            simp only [decide_eq_true_eq, decide_eq_false_iff_not, Int.not_lt, Int.not_le, Bool.not_eq_true', Bool.not_eq_false', Bool.not_eq_eq_eq_not, Bool.not_true, Bool.not_false] at cB3
            have hr0 : r = 0 := by omega
            subst hr0
            refine c_exit ?_
            refine hQ38 _ _ _ (in_exit ?_)
            refine hK36 _ _ ?_
            refine fg1 4 (gS rfl (gS rfl (gS rfl g0))) (fun g => ?_)
            refine c_seq (fun K47 hK47 => ?_)
            refine c_region ?_
            refine l_step (y_moveV (et g0 rfl)) ?_
            refine l_step (y_assignV (et g0 rfl)) ?_
            refine l_nil ?_
            refine hK47 _ _ ?_
            refine fg1 2 g0 (fun g => ?_)
            refine c_ret ?_
            refine ret1 rfl (res_tmp (et g0 rfl)) ?_
            omega
theorem OB.mono {w0 w w' : World} {v : Value} {l : List Nat} (h : OB w w' v l) (hs : w0.heap.size ≤ w.heap.size) : OB w0 w' v l := by
  refine ⟨h.dig, ?_⟩
  rcases h.at' with h1 | ⟨b, h1, h2, h3⟩
  · exact .inl h1
  · exact .inr ⟨b, h1, by omega, h3⟩
theorem FB.mono {w0 w w' : World} {v : Value} {l : List Nat} (h : FB w w' v l) (hs : w0.heap.size ≤ w.heap.size) : FB w0 w' v l := by
  refine ⟨h.dig, ?_⟩
  rcases h.at' with h1 | ⟨b, c, r, h1, h2, h3, h4, h5⟩
  · exact .inl h1
  · exact .inr ⟨b, c, r, h1, h2, h3, by omega, h5⟩
theorem FB.up {w0 w w' : World} {v : Value} {l : List Nat} (h : FB w0 w v l) (u : Up w w') : FB w0 w' v l := by
  refine ⟨h.dig, ?_⟩
  rcases h.at' with h1 | ⟨b, c, r, h1, h2, h3, h4, h5⟩
  · exact .inl h1
  · exact .inr ⟨b, c, r, h1, h2, h3, h4, h5.up u⟩
theorem val_take1 (x : Nat) (P : List Nat) (q : Nat) (h : x = val 256 P + 256 ^ P.length * q) : x = val 256 (P ++ [q % 256]) + 256 ^ (P ++ [q % 256]).length * (q / 256) := by
  rw [val_snoc, List.length_append, List.length_singleton, Nat.pow_succ, Nat.mul_assoc, Nat.add_assoc, ← Nat.mul_add, h]
  congr 2
  omega
theorem fromU64_raw (x : Nat) (w : World) (hx : x < 18446744073709551616) :
    Ret 87 [.int .u64 x] w (fun v w' => ∃ l', Up w w' ∧ FB w w' v l' ∧ val 256 l' = x ∧ Tr l') := by
  refine enter (n := 17) Hvaa.func87 rfl rfl (Nat.le_of_ble_eq_true rfl) ?_
  have U := Up.refl w
  refine c_seq (fun K1 hK1 => ?_)
  refine c_region ?_
  refine l_step y_assignC ?_
  refine l_nil ?_
  refine hK1 _ _ ?_
  refine fg1 0 (gS rfl g0) (fun g => ?_)
  refine c_seq (fun K2 hK2 => ?_)
  refine c_region ?_
  refine l_eff (e_alloc zr_262) (fun v3 w3 h3 => ?_)
  obtain ⟨b3, rfl, n3⟩ := h3
  have f3 : w.heap.size ≤ b3 := Nat.le_trans U.size n3.fresh
  replace U := U.tr n3.up
  have k3 := n3.blk
  refine l_nil ?_
  refine hK2 _ _ ?_
  refine c_seq (fun K4 hK4 => ?_)
  refine c_seq (fun K5 hK5 => ?_)
  refine c_region ?_
  refine l_step y_moveC ?_
  refine l_nil ?_
  refine hK5 _ _ ?_
  refine c_block (fun Q6 hQ6 => ?_)
  refine fg3 0 3 5 (gS rfl (gS rfl g0)) (gS rfl g0) g0 (fun g => ?_)
  replace k3 : Blk w3 b3 (bL ([] ++ List.replicate 8 0)).toArray := k3
  refine c_loop (fun k_ s_ W7 => ∃ (g : Nat → Value) (P : List Nat) (q r : Nat), s_ = (upd (upd (upd g 0 (.int .u64 (q : Nat))) 3 (.pointer (some ⟨b3, 0, none⟩))) 5 (.int .i64 (P.length : Nat))) ∧ r = k_ ∧ (x = val 256 P + 256 ^ P.length * q) ∧ (P.length + r = 8) ∧ (Dig 256 P) ∧ (q < 18446744073709551616) ∧ Blk W7 b3 ((bL (P ++ List.replicate r 0)).toArray) ∧ Ch (fun k => k = b3) w3 W7) ((8)) ?_ ?_
  · exact ⟨g, [], x, 8, rfl, rfl, by simp [val], rfl, Dig.nil _, hx, k3, Ch.refl _ _⟩
  · skip
    intro k_ s_ W7 hI K7 hK7
    obtain ⟨g, P, q, r, rfl, rfl, hP, hPr, hPd, hq, nk3, V7⟩ := hI
    replace k3 := nk3
    replace U := U.cc V7 (by intro b hb; first | exact hb.elim | omega | (simp at hb ⊢; omega))
    refine c_seq (fun K8 hK8 => ?_)
    refine c_region ?_
    refine l_step (y_lss (et g0 rfl) rfl) ?_
    refine l_nil ?_
    refine hK8 _ _ ?_
    refine c_seq (fun K9 hK9 => ?_)
    refine c_cond (et g0 rfl) (fun cB1 => ?_) (fun cB1 => ?_)
    · skip
      simp only [decide_eq_true_eq, decide_eq_false_iff_not, Int.not_lt, Int.not_le, Bool.not_eq_true', Bool.not_eq_false', Bool.not_eq_eq_eq_not, Bool.not_true, Bool.not_false] at cB1
      obtain ⟨r', rfl, hrr⟩ := rep_succ r P (by omega)
      rw [hrr] at k3
      refine c_skip ?_
      refine hK9 _ _ ?_
      refine fg3 0 3 5 (gS rfl (gS rfl (gS rfl g0))) (gS rfl (gS rfl g0)) (gS rfl g0) (fun g => ?_)
      refine c_seq (fun K11 hK11 => ?_)
      refine c_block (fun Q12 hQ12 => ?_)
      refine c_seq (fun K13 hK13 => ?_)
      refine c_region ?_
      refine l_step (y_moveV (et g0 rfl)) ?_
      refine l_step (y_assignV (et g0 rfl)) ?_
      refine l_nil ?_
      refine hK13 _ _ ?_
      refine fg4 0 3 5 4 (gS rfl (gS rfl (gS rfl (gS rfl g0)))) (gS rfl (gS rfl (gS rfl g0))) (gS rfl (gS rfl g0)) g0 (fun g => ?_)
      refine c_seq (fun K14 hK14 => ?_)
      refine c_region ?_
      refine l_step (y_moveV (et g0 rfl)) ?_
      refine l_step (y_moveV (et (gS rfl (gS rfl (gS rfl (gS rfl g0)))) rfl)) ?_
      refine l_step (y_conv Hvaa.underlying26 Hvaa.underlying5 (et g0 rfl) (wrapU_nat uk8)) ?_
      refine l_step (y_idxA Hvaa.underlying262 sz_5 (et (gS rfl (gS rfl (gS rfl (gS rfl (gS rfl g0))))) rfl) (et (gS rfl (gS rfl g0)) rfl) ?_ ?_) ?_
      omega
      omega
      refine l_effN (e_store sz_5 (et g0 rfl) (cellsV (et (gS rfl g0) rfl) rfl) rfl (by first | exact one_bL _ | exact one_uL _ | (intro v hv; simp at hv; subst hv; rfl)) k3 (by (simp only [List.size_toArray, length_bL, List.length_append, List.length_cons, List.length_replicate]; omega))) (fun v15 w15 h15 => ?_)
      obtain ⟨rfl, x15⟩ := h15
      replace k3 := x15.blk
      replace U := U.st x15 f3
      replace V7 := V7.st x15 (by omega)
      replace k3 := Blk.setB k3 (by simp)
      replace k3 : Blk w15 b3 (bL ((P ++ [q % 256]) ++ List.replicate r' 0)).toArray := by simpa using k3
      refine l_nil ?_
      refine hK14 _ _ ?_
      refine fg3 0 3 5 (gS rfl (gS rfl (gS rfl (gS rfl (gS rfl (gS rfl (gS rfl g0))))))) (gS rfl (gS rfl (gS rfl (gS rfl (gS rfl (gS rfl g0)))))) (gS rfl (gS rfl (gS rfl (gS rfl (gS rfl g0))))) (fun g => ?_)
      refine c_region ?_
      refine l_step (y_moveV (et (gS rfl (gS rfl g0)) rfl)) ?_
      refine l_step (y_shr (et g0 rfl) rfl (by decide) (shr64C 8 256 (by decide) rfl)) ?_
      refine l_step (y_assignV (et g0 rfl)) ?_
      refine l_nil ?_
      refine hQ12 _ _ _ (in_normal ?_)
      refine hK11 _ _ ?_
      refine fg3 0 3 5 g0 (gS rfl (gS rfl (gS rfl (gS rfl g0)))) (gS rfl (gS rfl (gS rfl g0))) (fun g => ?_)
      refine c_region ?_
      refine l_step (y_add (et g0 rfl) rfl ((addIN (y := 1) ?_).trans (castE (show P.length + 1 = (P ++ [q % 256]).length by simp)))) ?_
      omega
      refine l_step (y_moveV (et g0 rfl)) ?_
      refine l_nil ?_
      refine fK3 0 3 5 (gS rfl (gS rfl (gS rfl (gS rfl g0)))) (gS rfl (gS rfl (gS rfl g0))) g0 (fun g => ?_)
      exact hK7 ((r')) _ _ (by omega) ⟨g, (P ++ [q % 256]), (q / 256), r', rfl, rfl, val_take1 x P q hP, by simp; omega, hPd.app (Dig.one (Nat.mod_lt _ (by decide))), by omega, k3, V7⟩
    · skip
      simp only [decide_eq_true_eq, decide_eq_false_iff_not, Int.not_lt, Int.not_le, Bool.not_eq_true', Bool.not_eq_false', Bool.not_eq_eq_eq_not, Bool.not_true, Bool.not_false] at cB1
      have hr0 : r = 0 := by omega
      subst hr0
      refine c_exit ?_
      refine hQ6 _ _ _ (in_exit ?_)
      refine hK4 _ _ ?_
      refine fg1 3 (gS rfl (gS rfl g0)) (fun g => ?_)
      refine c_seq (fun K16 hK16 => ?_)
      refine c_region ?_
      refine l_step ((y_slA000 Hvaa.underlying262 sz_5 (et g0 rfl) ).to (slE (o' := 0) (l' := P.length) (c' := 8) rfl (by omega) rfl)) ?_
      have hU0 := U.size
      have k9 := k3
      simp only [List.replicate_zero, List.append_nil] at k9
      have hP8 : P.length = 8 := by omega
      have hW : WV (b3 + 1) W7 (.slice (some ⟨b3, 0, none⟩) P.length 8) P := WV.ofBlk (r := []) (by simpa [bL] using k9) hPd (by omega) (by omega) (by decide)
      refine l_eff (e_callV cal_123 (aC (et g0 rfl) aN) (norm_spec _ _ _ P _ hW (by have := k9.lt; omega) (by omega) (by omega))) (fun v17 w17 h17 => ?_)
      obtain ⟨l', u17, ho, hv, hT⟩ := h17
      replace k3 := k3.up u17
      replace U := U.tr u17
      refine l_step (y_assignV (et g0 rfl)) ?_
      refine l_nil ?_
      refine hK16 _ _ ?_
      refine fg1 2 g0 (fun g => ?_)
      refine c_ret ?_
      refine ret1 rfl (res_tmp (et g0 rfl)) ?_
      rw [hP8] at hP
      have e : (256 : Nat) ^ 8 = 18446744073709551616 := rfl
      rw [e] at hP
      have hq0 : q = 0 := by omega
      subst hq0
      exact ⟨l', U, (ho.mono hU0).fb, by omega, hT⟩
theorem y_orR {S : World → Prop} {n : Nat} {s : Nat → Value} {d : Option Nat} {ty : TypeId} {pos : String} {af : Array Edge} {g : Option (Nat × Bool)} {x y : Operand} {T T' : Nat} {k : IntKind} {m p M : Nat} (i : Nat) (hU : UK k M) (hx : ev n s x = .int k p) (hy : ev n s y = .int k m) (hm : m < 2 ^ i) (hp : p % 2 ^ i = 0) (hpM : p < M) (hmM : m < M) : Yv S n s ⟨d, .binOp .or T x y T', ty, pos, af, g⟩ (.int k ((p + m : Nat) : Int)) := by
  have := y_or (S := S) (T := T) (T' := T') (d := d) (ty := ty) (pos := pos) (af := af) (g := g) hU hx hy hpM hmM
  rw [Nat.or_comm, or_add hm hp, Nat.add_comm] at this
  exact this
theorem tr_ge {l : List Nat} {k : Nat} (ht : Tr l) (h : k < l.length) : 256 ^ k ≤ val 256 l := by
  rcases Nat.lt_or_ge (val 256 l) (256 ^ k) with h1 | h1
  · have := tr_len ht h1; omega
  · exact h1
theorem val_u64 {l : List Nat} {k : Nat} (h : k < l.length) : val 256 (l.drop k) = l[k] + 256 * val 256 (l.drop (k + 1)) := by
  rw [List.drop_eq_getElem_cons h, val_cons]
theorem u64_raw (s0 c : Nat) (a : Option Addr) (l : List Nat) (w : World) (hW : WV s0 w (.slice a l.length c) l) (hs0 : s0 ≤ w.heap.size) (hc : l.length ≤ c) (h48 : l.length ≤ 281474976710656) :
    Ret 80 [.slice a l.length c] w (fun v w' => ∃ (x : Nat) (t : Bool), v = .tuple #[.int .u64 (x : Nat), .bool t] ∧ Up w w' ∧ ((t = true ∧ x = val 256 l ∧ val 256 l < 256 ^ 8) ∨ (t = false ∧ x = 0 ∧ 256 ^ 8 ≤ val 256 l))) := by
  refine enter (n := 27) Hvaa.func80 rfl rfl (Nat.le_of_ble_eq_true rfl) ?_
  have U := Up.refl w
  refine c_seq (fun K1 hK1 => ?_)
  refine c_region ?_
  refine l_step y_assignC ?_
  refine l_step y_assignC ?_
  refine l_nil ?_
  refine hK1 _ _ ?_
  refine fg1 0 (gS rfl (gS rfl g0)) (fun g => ?_)
  refine c_seq (fun K2 hK2 => ?_)
  refine c_region ?_
  refine l_step (y_moveV (et g0 rfl)) ?_
  refine l_eff (e_callV cal_88 (aC (et g0 rfl) aN) (trim_spec _ _ _ l _ hW (by omega) (by omega))) (fun v3 w3 h3 => ?_)
  obtain ⟨k, hk, rfl, hT, hv, u3⟩ := h3
  replace hW := hW.up u3
  replace U := U.tr u3
  have hW2 := hW.take hk
  have hlk : (l.take k).length = k := by simp; omega
  refine l_step (y_assignV (et g0 rfl)) ?_
  refine l_nil ?_
  refine hK2 _ _ ?_
  refine fg1 0 g0 (fun g => ?_)
  refine c_seq (fun K4 hK4 => ?_)
  refine c_seq (fun K5 hK5 => ?_)
  refine c_region ?_
  refine l_step (y_moveV (et g0 rfl)) ?_
  refine l_step (y_len Hvaa.underlying95 (et g0 rfl)) ?_
  refine l_step (y_gtr (et g0 rfl) rfl) ?_
  refine l_nil ?_
  refine hK5 _ _ ?_
  refine fg2 0 10 (gS rfl (gS rfl (gS rfl g0))) g0 (fun g => ?_)
  refine c_cond (et g0 rfl) (fun cB1 => ?_) (fun cB1 => ?_)
  · skip
    simp only [decide_eq_true_eq, decide_eq_false_iff_not, Int.not_lt, Int.not_le, Bool.not_eq_true', Bool.not_eq_false', Bool.not_eq_eq_eq_not, Bool.not_true, Bool.not_false] at cB1
    refine c_seq (fun K7 hK7 => ?_)
    refine c_region ?_
    refine l_step y_assignC ?_
    refine l_step y_assignC ?_
    refine l_nil ?_
    refine hK7 _ _ ?_
    refine fg2 2 3 (gS rfl g0) g0 (fun g => ?_)
    refine c_ret ?_
    refine ret2 rfl (res_tmp (et (gS rfl g0) rfl)) (res_tmp (et g0 rfl)) ?_
    refine ⟨_, _, rfl, U, .inr ⟨rfl, rfl, ?_⟩⟩
    have := tr_ge hT (show 8 < (l.take k).length by omega)
    rw [hv] at this; exact this
  · skip
    simp only [decide_eq_true_eq, decide_eq_false_iff_not, Int.not_lt, Int.not_le, Bool.not_eq_true', Bool.not_eq_false', Bool.not_eq_eq_eq_not, Bool.not_true, Bool.not_false] at cB1
    have hk8 : k ≤ 8 := by omega
    have hlen8 : (l.take k).length ≤ 8 := by omega
    have hd8 := hW2.dig
    obtain ⟨m, hm⟩ : ∃ m, m = l.take k := ⟨_, rfl⟩
    rw [← hm] at hW2 hT hv hlk hlen8 hd8
    refine c_skip ?_
    refine hK4 _ _ ?_
    refine fg1 0 (gS rfl g0) (fun g => ?_)
    refine c_seq (fun K8 hK8 => ?_)
    refine c_region ?_
    refine l_step y_assignC ?_
    refine l_nil ?_
    refine hK8 _ _ ?_
    refine c_seq (fun K9 hK9 => ?_)
    refine c_seq (fun K10 hK10 => ?_)
    refine c_region ?_
    refine l_step (y_moveV (et (gS rfl g0) rfl)) ?_
    refine l_step (y_len Hvaa.underlying95 (et g0 rfl)) ?_
    refine l_step (y_assignV (et g0 rfl)) ?_
    refine l_nil ?_
    refine hK10 _ _ ?_
    refine fg3 0 4 5 (gS rfl (gS rfl (gS rfl (gS rfl g0)))) (gS rfl (gS rfl (gS rfl g0))) g0 (fun g => ?_)
    refine c_block (fun Q11 hQ11 => ?_)
    refine fg3 0 4 5 (gS rfl (gS rfl g0)) (gS rfl g0) g0 (fun g => ?_)
    refine c_loop (fun k_ s_ W12 => ∃ (g : Nat → Value) (x i : Nat), s_ = (upd (upd (upd g 0 (.slice a k k)) 4 (.int .u64 (x : Nat))) 5 (.int .i64 (i : Nat))) ∧ i = k_ ∧ (i ≤ m.length) ∧ (x = val 256 (m.drop i)) ∧ Ch (fun k => False) w3 W12) ((k)) ?_ ?_
    · exact ⟨g, 0, k, rfl, rfl, by omega, by rw [List.drop_of_length_le (by omega)]; rfl, Ch.refl _ _⟩
    · skip
      intro k_ s_ W12 hI K12 hK12
      obtain ⟨g, x, i, rfl, rfl, hi, hx, V12⟩ := hI
      replace hW := hW.ch V12 (by first | exact fun h => h | exact fun _ h => h.elim)
      replace hW2 := hW2.ch V12 (by first | exact fun h => h | exact fun _ h => h.elim)
      replace U := U.cc V12 (by intro b hb; first | exact hb.elim | omega | (simp at hb ⊢; omega))
      refine c_seq (fun K13 hK13 => ?_)
      refine c_seq (fun K14 hK14 => ?_)
      refine c_region ?_
      refine l_step (y_moveV (et g0 rfl)) ?_
      refine l_step (y_gtr (et g0 rfl) rfl) ?_
      refine l_nil ?_
      refine hK14 _ _ ?_
      refine fg4 0 4 5 14 (gS rfl (gS rfl (gS rfl (gS rfl g0)))) (gS rfl (gS rfl (gS rfl g0))) (gS rfl (gS rfl g0)) g0 (fun g => ?_)
      refine c_cond (et g0 rfl) (fun cB2 => ?_) (fun cB2 => ?_)
      · skip
        simp only [decide_eq_true_eq, decide_eq_false_iff_not, Int.not_lt, Int.not_le, Bool.not_eq_true', Bool.not_eq_false', Bool.not_eq_eq_eq_not, Bool.not_true, Bool.not_false] at cB2
        obtain ⟨i', rfl⟩ : ∃ i', i = i' + 1 := ⟨i - 1, by omega⟩
        have hW3 : WV s0 W12 (.slice a m.length k) m := by rw [hlk]; exact hW2
        obtain ⟨b, o, ha, hb0, hr⟩ := hW3.at (by omega)
        have hxl : x < 256 ^ (m.length - (i' + 1)) := by rw [hx]; have := val_lt (hd8.drop (i' + 1)); rwa [List.length_drop] at this
        have hxl2 : 256 ^ (m.length - (i' + 1)) ≤ 256 ^ 7 := Nat.pow_le_pow_right (by decide) (by omega)
        have e7 : (256 : Nat) ^ 7 = 72057594037927936 := rfl
        have hmi := hd8 _ (List.getElem_mem (l := m) (n := i') (by omega))
        refine c_skip ?_
        refine hK13 _ _ ?_
        refine fg3 0 4 5 (gS rfl (gS rfl (gS rfl g0))) (gS rfl (gS rfl g0)) (gS rfl g0) (fun g => ?_)
        refine c_seq (fun K16 hK16 => ?_)
        refine c_block (fun Q17 hQ17 => ?_)
        refine c_region ?_
        refine l_step (y_moveV (et (gS rfl g0) rfl)) ?_
        refine l_step (y_shl (et g0 rfl) rfl (by decide) (shl64C 8 256 (by decide) rfl)) ?_
        refine l_step (y_moveV (et (gS rfl (gS rfl (gS rfl (gS rfl g0)))) rfl)) ?_
        refine l_step (y_moveV (et (gS rfl (gS rfl (gS rfl g0))) rfl)) ?_
        refine l_step (y_sub (et g0 rfl) rfl ((subIN (y := 1) ?_ ?_).trans (castE (show i' + 1 - 1 = i' by omega)))) ?_
        omega
        omega
        refine l_step (y_idxSa ha Hvaa.underlying95 sz_5 (et (gS rfl (gS rfl g0)) rfl) (et g0 rfl) ?_) ?_
        omega
        refine l_step (y_load1 one_5 (et g0 rfl) (at1 (row_byte hr (by omega)))) ?_
        refine l_step (y_conv Hvaa.underlying5 Hvaa.underlying26 (et g0 rfl) (wrapU_id uk64 ?_)) ?_
        omega
        refine l_step ((y_orR 8 uk64 (et (gS rfl (gS rfl (gS rfl (gS rfl (gS rfl (gS rfl g0)))))) rfl) (et g0 rfl) ?_ ?_ ?_ ?_).to (valE (show x * 256 % 18446744073709551616 + m[i'] = m[i'] + 256 * x by omega))) ?_
        omega
        omega
        omega
        omega
        refine l_step (y_assignV (et g0 rfl)) ?_
        refine l_nil ?_
        refine hQ17 _ _ _ (in_normal ?_)
        refine hK16 _ _ ?_
        refine fg3 0 4 5 (gS rfl (gS rfl (gS rfl (gS rfl (gS rfl (gS rfl (gS rfl (gS rfl (gS rfl (gS rfl (gS rfl (gS rfl g0)))))))))))) g0 (gS rfl (gS rfl (gS rfl (gS rfl (gS rfl (gS rfl (gS rfl (gS rfl (gS rfl (gS rfl g0)))))))))) (fun g => ?_)
        refine c_region ?_
        refine l_step (y_moveV (et g0 rfl)) ?_
        refine l_step (y_sub (et g0 rfl) rfl ((subIN (y := 1) ?_ ?_).trans (castE (show i' + 1 - 1 = i' by omega)))) ?_
        omega
        omega
        refine l_step (y_assignV (et g0 rfl)) ?_
        refine l_nil ?_
        refine fK3 0 4 5 (gS rfl (gS rfl (gS rfl (gS rfl (gS rfl g0))))) (gS rfl (gS rfl (gS rfl (gS rfl g0)))) g0 (fun g => ?_)
        exact hK12 ((i')) _ _ (by omega) ⟨g, (m[i'] + 256 * x), i', rfl, rfl, by omega, by rw [hx]; exact (val_u64 (by omega)).symm, V12⟩
      · skip
        simp only [decide_eq_true_eq, decide_eq_false_iff_not, Int.not_lt, Int.not_le, Bool.not_eq_true', Bool.not_eq_false', Bool.not_eq_eq_eq_not, Bool.not_true, Bool.not_false] at cB2
        have hi0 : i = 0 := by omega
        subst hi0
        refine c_exit ?_
        refine hQ11 _ _ _ (in_exit ?_)
        refine hK9 _ _ ?_
        refine fg1 4 (gS rfl (gS rfl g0)) (fun g => ?_)
        refine c_seq (fun K18 hK18 => ?_)
        refine c_region ?_
        refine l_step (y_moveV (et g0 rfl)) ?_
        refine l_step (y_assignV (et g0 rfl)) ?_
        refine l_step y_assignC ?_
        refine l_nil ?_
        refine hK18 _ _ ?_
        refine fg2 2 3 (gS rfl g0) g0 (fun g => ?_)
        refine c_ret ?_
        refine ret2 rfl (res_tmp (et (gS rfl g0) rfl)) (res_tmp (et g0 rfl)) ?_
        refine ⟨_, _, rfl, U, .inl ⟨rfl, ?_, ?_⟩⟩
        · rw [hx, List.drop_zero]; exact hv
        · rw [← hv]; have := val_lt hd8; have h8 : 256 ^ m.length ≤ 256 ^ 8 := Nat.pow_le_pow_right (by decide) hlen8; exact Nat.lt_of_lt_of_le this h8
end Go.Proofs.YgvaawGreat
