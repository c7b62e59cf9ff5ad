import Derived.Test.YgvaawGreatD9
set_option maxRecDepth 100000
set_option maxHeartbeats 4000000
set_option linter.unusedSimpArgs false
set_option linter.unusedVariables false
namespace Go.Proofs.YgvaawGreat
open Go
theorem uL_getI {l : List Nat} {i o : Nat} (h : i < l.length) (ho : o = i) : (uL l).toArray[o]? = some (.int .u64 (l[i] : Nat)) := by
  subst ho; simp [uL, uval, h]
theorem val_dropU {l : List Nat} {k : Nat} (h : k < l.length) : val 18446744073709551616 (l.drop k) = l[k] + 18446744073709551616 * val 18446744073709551616 (l.drop (k + 1)) := by
  rw [List.drop_eq_getElem_cons h, val_cons]
theorem val_take_inU {l : List Nat} {i : Nat} (h : i < l.length) : val 18446744073709551616 (l.take (i + 1)) = val 18446744073709551616 (l.take i) + 18446744073709551616 ^ i * l[i] := by
  rw [take_snoc h, val_snoc, List.length_take, Nat.min_eq_left (Nat.le_of_lt h)]
theorem rest_step {x r v0 d : Nat} (hr : r = x % v0) : (r * 18446744073709551616 + d) % v0 = (d + 18446744073709551616 * x) % v0 := by
  subst hr
  rw [Nat.add_mod, Nat.mul_mod, Nat.mod_mod, ← Nat.mul_mod, ← Nat.add_mod, Nat.add_comm, Nat.mul_comm]
theorem Lim.le8 {b n : Nat} (h : Lim b n) (hb : b < 18446744073709551616 ^ 8) : n ≤ 8 := by
  rcases Nat.eq_zero_or_pos n with h0 | h0
  · omega
  · have h1 := h.ge (by omega)
    have h2 : 18446744073709551616 ^ (n - 1) < 18446744073709551616 ^ 8 := Nat.lt_of_le_of_lt h1 hb
    have h3 := (Nat.pow_lt_pow_iff_right (a := 18446744073709551616) (by decide)).1 h2
    omega
theorem Lim.zero {b : Nat} (h : Lim b 0) : b = 0 := by have := h.lt; simpa using this
theorem rem1024_spec (bx bm bn : Nat) (Xl Vl : List Nat) (w : World) (hx16 : Xl.length = 16) (hdx : Dig 18446744073709551616 Xl) (hV8 : Vl.length = 8) (hVd : Dig 18446744073709551616 Vl) (hVv : val 18446744073709551616 Vl = bn) (kB : Blk w bx (uL Xl).toArray) (kM : Blk w bm (uL Vl).toArray) :
    Ret 359 [.pointer (some ⟨bx, 0, none⟩), .pointer (some ⟨bm, 0, none⟩)] w (fun v w' => ∃ R p : List Nat, v = .tuple #[.agg (uL R).toArray, .agg (bL p).toArray] ∧ R.length = 8 ∧ p.length = 3 ∧ Dig 18446744073709551616 R ∧ val 18446744073709551616 R = (if bn = 0 then 0 else val 18446744073709551616 Xl % bn) ∧ Up w w') := by
  have lB := kB.lt
  have lM := kM.lt
  have hbn : bn < 18446744073709551616 ^ 8 := by rw [← hVv, ← hV8]; exact val_lt hVd
  refine enter (n := 133) Hvaa.func359 rfl rfl (Nat.le_of_ble_eq_true rfl) ?_
  have U := Up.refl w
  refine c_seq (fun K1 hK1 => ?_)
  refine c_region ?_
  refine l_eff (e_alloc zr_336) (fun v2 w2 h2 => ?_)
  obtain ⟨b2, rfl, n2⟩ := h2
  have f2 : w.heap.size ≤ b2 := Nat.le_trans U.size n2.fresh
  replace kB := kB.up n2.up
  replace kM := kM.up n2.up
  replace U := U.tr n2.up
  have k2 := n2.blk
  replace k2 : Blk w2 b2 (uL (List.replicate 8 0)).toArray := k2
  refine l_eff (e_alloc zr_407) (fun v3 w3 h3 => ?_)
  obtain ⟨b3, rfl, n3⟩ := h3
  have d2_3 : b2 < b3 := Nat.lt_of_lt_of_le k2.lt n3.fresh
  have f3 : w.heap.size ≤ b3 := Nat.le_trans U.size n3.fresh
  replace k2 := k2.up n3.up
  replace kB := kB.up n3.up
  replace kM := kM.up n3.up
  replace U := U.tr n3.up
  have k3 := n3.blk
  replace k3 : Blk w3 b3 (bL [0, 0, 0]).toArray := k3
  refine l_nil ?_
  refine hK1 _ _ ?_
  refine c_seq (fun K4 hK4 => ?_)
  refine c_region ?_
  refine l_step (y_moveV (et (gS rfl (gS rfl (gS rfl g0))) rfl)) ?_
  refine l_eff (e_callV cal_400 (aC (et g0 rfl) aN) (wideLimbs_spec bm Vl _ hV8 hVd kM)) (fun v5 w5 h5 => ?_)
  obtain ⟨n, rfl, hn, u5⟩ := h5
  replace k2 := k2.up u5
  replace k3 := k3.up u5
  replace kB := kB.up u5
  replace kM := kM.up u5
  replace U := U.tr u5
  rw [hVv] at hn
  have hn8 := hn.le8 hbn
  refine l_step (y_assignV (et g0 rfl)) ?_
  refine l_nil ?_
  refine hK4 _ _ ?_
  refine fg5 1 0 4 5 6 (gS rfl (gS rfl (gS rfl (gS rfl (gS rfl (gS rfl g0)))))) (gS rfl (gS rfl (gS rfl (gS rfl (gS rfl g0))))) (gS rfl (gS rfl (gS rfl (gS rfl g0)))) (gS rfl (gS rfl (gS rfl g0))) g0 (fun g => ?_)
  refine c_seq (fun K6 hK6 => ?_)
  refine c_region ?_
  refine l_step y_assignC ?_
  refine l_nil ?_
  refine hK6 _ _ ?_
  refine c_seq (fun K7 hK7 => ?_)
  refine c_block (fun Q8 hQ8 => ?_)
  refine fg6 0 1 4 5 6 7 (gS rfl (gS rfl (gS rfl (gS rfl g0)))) (gS rfl (gS rfl (gS rfl (gS rfl (gS rfl g0))))) (gS rfl (gS rfl (gS rfl g0))) (gS rfl (gS rfl g0)) (gS rfl g0) g0 (fun g => ?_)
  have e16 : (16 : Int) = ((Xl.length : Nat) : Int) := by rw [hx16]; rfl
  rw [e16]
  refine c_loop (fun k_ s_ W9 => ∃ (g : Nat → Value) (P : List Nat) (r : Nat), s_ = (upd (upd (upd (upd (upd (upd g 0 (.pointer (some ⟨bx, 0, none⟩))) 1 (.pointer (some ⟨bm, 0, none⟩))) 4 (.pointer (some ⟨b2, 0, none⟩))) 5 (.pointer (some ⟨b3, 0, none⟩))) 6 (.int .u8 (n : Nat))) 7 (.int .u8 (P.length : Nat))) ∧ P.length = k_ ∧ (Xl = P ++ List.replicate r 0) ∧ Ch (fun k => False) w5 W9) ((Xl).length) ?_ ?_
  · exact ⟨g, Xl, 0, rfl, rfl, by simp, Ch.refl _ _⟩
  · skip
    intro k_ s_ W9 hI K9 hK9
    obtain ⟨g, P, r, rfl, rfl, hP, V9⟩ := hI
    replace k2 := k2.ch V9 (by exact fun h => h)
    replace k3 := k3.ch V9 (by exact fun h => h)
    replace kB := kB.ch V9 (by first | exact fun h => h | exact fun _ h => h.elim)
    replace kM := kM.ch V9 (by first | exact fun h => h | exact fun _ h => h.elim)
    replace U := U.cc V9 (by intro b hb; first | exact hb.elim | omega | (simp at hb ⊢; omega))
    have hlen := congrArg List.length hP
    simp only [List.length_append, List.length_replicate] at hlen
    have hdP : Dig 18446744073709551616 P := (hP ▸ hdx).left
    refine c_seq (fun K10 hK10 => ?_)
    refine c_seq (fun K11 hK11 => ?_)
    refine c_region ?_
    refine l_step (y_moveV (et g0 rfl)) ?_
    refine l_step (y_gtr (et g0 rfl) rfl) ?_
    refine l_step (y_moveV (et g0 rfl)) ?_
    refine gsplitL (i := 24) g0 (fun q12 => ?_) (fun q12 => ?_)
    · skip
      obtain ⟨P', x, rfl⟩ := snoc_of_len (l := P) (by have := of_decide_eq_true q12; omega)
      simp only [List.length_append, List.length_cons, List.length_nil] at hlen
      refine l_gstep (j := 2) (t := 24) (by exact rfl) (by exact rfl) (et g0 rfl) (by decide) (y_moveV (et (gS rfl (gS rfl (gS rfl (gS rfl (gS rfl (gS rfl (gS rfl (gS rfl (gS rfl g0))))))))) rfl)) ?_
      refine l_gstep (j := 2) (t := 24) (by exact rfl) (by exact rfl) (et (gS rfl g0) rfl) (by decide) (y_moveV (et (gS rfl (gS rfl (gS rfl (gS rfl (gS rfl g0))))) rfl)) ?_
      refine l_gstep (j := 2) (t := 24) (by exact rfl) (by exact rfl) (et (gS rfl (gS rfl g0)) rfl) (by decide) (y_sub (et g0 rfl) rfl (wrapU_subN (b := 1) uk8 ?_ ?_)) ?_
      simp
      (simp; omega)
      refine l_gstep (j := 2) (t := 24) (by exact rfl) (by exact rfl) (et (gS rfl (gS rfl (gS rfl g0))) rfl) (by decide) (y_nil (et (gS rfl (gS rfl g0)) rfl)) ?_
      refine l_gstep (j := 2) (t := 24) (by exact rfl) (by exact rfl) (et (gS rfl (gS rfl (gS rfl (gS rfl g0)))) rfl) (by decide) (y_idxA Hvaa.underlying405 sz_26 (et g0 rfl) (et (gS rfl g0) rfl) ?_ ?_) ?_
      exact Int.natCast_nonneg _
      (simp; omega)
      refine l_gstep (j := 2) (t := 24) (by exact rfl) (by exact rfl) (et (gS rfl (gS rfl (gS rfl (gS rfl (gS rfl g0))))) rfl) (by decide) (y_load1 one_26 (et g0 rfl) (at1 ((show Blk _ bx (uL (P' ++ x :: List.replicate r 0)).toArray from (by rw [hP] at kB; simpa using kB)).cell (uL_get P' x _ _ (by simp))))) ?_
      refine l_gstep (j := 2) (t := 24) (by exact rfl) (by exact rfl) (et (gS rfl (gS rfl (gS rfl (gS rfl (gS rfl (gS rfl g0)))))) rfl) (by decide) (y_eql (et g0 rfl) rfl) ?_
      refine l_step (y_pickT (et (gS rfl (gS rfl (gS rfl (gS rfl (gS rfl (gS rfl (gS rfl g0))))))) rfl) (et g0 rfl)) ?_
      refine l_nil ?_
      refine hK11 _ _ ?_
      refine fg7 0 1 4 5 6 7 32 (gS rfl (gS rfl (gS rfl (gS rfl (gS rfl (gS rfl (gS rfl (gS rfl (gS rfl (gS rfl (gS rfl (gS rfl (gS rfl (gS rfl (gS rfl (gS rfl (gS rfl g0))))))))))))))))) (gS rfl (gS rfl (gS rfl (gS rfl (gS rfl (gS rfl (gS rfl (gS rfl (gS rfl (gS rfl (gS rfl (gS rfl (gS rfl (gS rfl (gS rfl (gS rfl g0)))))))))))))))) (gS rfl (gS rfl (gS rfl (gS rfl (gS rfl (gS rfl (gS rfl (gS rfl (gS rfl (gS rfl (gS rfl (gS rfl (gS rfl (gS rfl (gS rfl g0))))))))))))))) (gS rfl (gS rfl (gS rfl (gS rfl (gS rfl (gS rfl (gS rfl (gS rfl (gS rfl (gS rfl (gS rfl (gS rfl (gS rfl (gS rfl g0)))))))))))))) (gS rfl (gS rfl (gS rfl (gS rfl (gS rfl (gS rfl (gS rfl (gS rfl (gS rfl (gS rfl (gS rfl (gS rfl (gS rfl g0))))))))))))) (gS rfl (gS rfl (gS rfl (gS rfl (gS rfl (gS rfl (gS rfl (gS rfl (gS rfl (gS rfl (gS rfl (gS rfl g0)))))))))))) g0 (fun g => ?_)
      refine c_cond (et g0 rfl) (fun cB1 => ?_) (fun cB1 => ?_)
      · skip
        
        have hx0 : x = 0 := by have := of_decide_eq_true cB1; omega
        refine c_skip ?_
        refine hK10 _ _ ?_
        refine fg6 0 1 4 5 6 7 (gS rfl (gS rfl (gS rfl (gS rfl (gS rfl (gS rfl g0)))))) (gS rfl (gS rfl (gS rfl (gS rfl (gS rfl g0))))) (gS rfl (gS rfl (gS rfl (gS rfl g0)))) (gS rfl (gS rfl (gS rfl g0))) (gS rfl (gS rfl g0)) (gS rfl g0) (fun g => ?_)
        refine c_block (fun Q14 hQ14 => ?_)
        refine c_region ?_
        refine l_step (y_moveV (et g0 rfl)) ?_
        refine l_step (y_sub (et g0 rfl) rfl ((wrapU_subN (b := 1) uk8 ?_ ?_).trans (castE (show (P' ++ [x]).length - 1 = P'.length by simp)))) ?_
        simp
        (simp; omega)
        refine l_step (y_assignV (et g0 rfl)) ?_
        refine l_nil ?_
        refine hQ14 _ _ _ (in_normal ?_)
        refine fK6 0 1 4 5 6 7 (gS rfl (gS rfl (gS rfl (gS rfl (gS rfl (gS rfl (gS rfl (gS rfl g0)))))))) (gS rfl (gS rfl (gS rfl (gS rfl (gS rfl (gS rfl (gS rfl g0))))))) (gS rfl (gS rfl (gS rfl (gS rfl (gS rfl (gS rfl g0)))))) (gS rfl (gS rfl (gS rfl (gS rfl (gS rfl g0))))) (gS rfl (gS rfl (gS rfl (gS rfl g0)))) g0 (fun g => ?_)
        exact hK9 ((P').length) _ _ (by simp) ⟨g, P', (r + 1), rfl, rfl, by rw [hP, List.append_assoc]; simp [List.replicate_succ, hx0], V9⟩
      · skip
        
        have hx0 : x ≠ 0 := by have := of_decide_eq_false cB1; omega
        have hres := Lim.of (P' ++ [x]) r hdP (.inr ⟨P', x, rfl, hx0⟩)
        clear hlen hx0
        generalize hTT : P' ++ [x] = T at hP hdP hres ⊢
        have hlT := congrArg List.length hP
        simp only [List.length_append, List.length_replicate] at hlT
        have hvX : val 18446744073709551616 Xl = val 18446744073709551616 T := by rw [hP, val_append, val_rep]; simp
        rw [← hP, hvX] at hres
        refine c_exit ?_
        refine hQ8 _ _ _ (in_exit ?_)
        refine hK7 _ _ ?_
        refine fg6 0 1 4 5 6 7 (gS rfl (gS rfl (gS rfl (gS rfl (gS rfl (gS rfl g0)))))) (gS rfl (gS rfl (gS rfl (gS rfl (gS rfl g0))))) (gS rfl (gS rfl (gS rfl (gS rfl g0)))) (gS rfl (gS rfl (gS rfl g0))) (gS rfl (gS rfl g0)) (gS rfl g0) (fun g => ?_)
        refine c_seq (fun K15 hK15 => ?_)
        refine c_seq (fun K16 hK16 => ?_)
        refine c_region ?_
        refine l_step (y_moveV (et (gS rfl g0) rfl)) ?_
        refine l_step (y_eql (et g0 rfl) rfl) ?_
        refine l_nil ?_
        refine hK16 _ _ ?_
        refine fg7 0 1 4 5 6 7 36 (gS rfl (gS rfl (gS rfl (gS rfl (gS rfl (gS rfl (gS rfl g0))))))) (gS rfl (gS rfl (gS rfl (gS rfl (gS rfl (gS rfl g0)))))) (gS rfl (gS rfl (gS rfl (gS rfl (gS rfl g0))))) (gS rfl (gS rfl (gS rfl (gS rfl g0)))) (gS rfl (gS rfl (gS rfl g0))) (gS rfl (gS rfl g0)) g0 (fun g => ?_)
        refine c_cond (et g0 rfl) (fun cB2 => ?_) (fun cB2 => ?_)
        · skip
          
          have hz : n = 0 := by have := of_decide_eq_true cB2; omega
          subst hz
          have hb0 : bn = 0 := hn.zero
          refine c_seq (fun K18 hK18 => ?_)
          refine c_draw Up 3 [(0, true), (1, true), (2, false), (3, false)] (by kernel_rfl) (fun w19 hu => ⟨Up.refl _, ?_⟩)
          replace k2 := k2.up hu
          replace k3 := k3.up hu
          replace kB := kB.up hu
          replace kM := kM.up hu
          replace U := U.tr hu
          have SU := Up.refl w19
          refine p_step (by exact rfl) (y_loadB agg_336 sz_336 (et (gS rfl (gS rfl (gS rfl (gS rfl g0)))) rfl) (by rw [size_uL]; simp) (atSB k2)) ?_
          refine p_step (by exact rfl) (y_loadB agg_407 sz_407 (et (gS rfl (gS rfl (gS rfl (gS rfl g0)))) rfl) (by first | (simp only [Value.cells, hV, aV, bV, wV, wL, List.size_toArray, length_bL, length_uL, length_be, size_spl, List.length_cons, List.length_nil, List.length_replicate, Nat.zero_add, Nat.reduceAdd, Nat.reduceLeDiff, Nat.le_refl]; done) | rfl) (atSB k3)) ?_
          refine p_effN (by exact rfl) (e_storeS sz_336 (et (gS rfl (gS rfl (gS rfl (gS rfl (gS rfl (gS rfl g0)))))) rfl) (cellsV (et (gS rfl g0) rfl) rfl) (by rw [length_uL]; simp) (by first | exact one_bL _ | exact one_uL _ | (intro v hv; simp at hv; subst hv; rfl)) k2) (fun v20 w20 h20 => ?_)
          obtain ⟨rfl, x20⟩ := h20
          replace k2 := k2.up x20
          replace k3 := k3.up x20
          replace kB := kB.up x20
          replace kM := kM.up x20
          replace U := U.tr x20
          refine ⟨.inr (SU.tr x20), ?_⟩
          replace SU := SU.tr x20
          refine p_effN (by exact rfl) (e_storeS sz_407 (et (gS rfl (gS rfl (gS rfl (gS rfl (gS rfl g0))))) rfl) (cellsV (et g0 rfl) rfl) (by first | (simp only [Value.cells, hV, aV, bV, wV, wL, List.size_toArray, length_bL, length_uL, length_be, size_spl, List.length_cons, List.length_nil, List.length_replicate, Nat.zero_add, Nat.reduceAdd, Nat.reduceLeDiff, Nat.le_refl]; done) | rfl) (by first | exact one_bL _ | exact one_uL _ | (intro v hv; simp at hv; subst hv; rfl)) k3) (fun v21 w21 h21 => ?_)
          obtain ⟨rfl, x21⟩ := h21
          replace k2 := k2.up x21
          replace k3 := k3.up x21
          replace kB := kB.up x21
          replace kM := kM.up x21
          replace U := U.tr x21
          refine ⟨.inl rfl, ?_⟩
          refine p_nil ?_
          refine hK18 _ _ ?_
          refine fg2 4 5 (gS rfl (gS rfl (gS rfl (gS rfl (gS rfl (gS rfl g0)))))) (gS rfl (gS rfl (gS rfl (gS rfl (gS rfl g0))))) (fun g => ?_)
          refine c_ret ?_
          refine ret2 rfl (res_blk agg_336 sz_336 (et (gS rfl g0) rfl) (by first | rfl | (rw [size_uL, hR54]; done) | (rw [size_uL, hR0l]; done) | (rw [size_uL]; rfl) | (rw [size_uL]; simp; done)) k2) (res_blk agg_407 sz_407 (et g0 rfl) (by first | rfl | (rw [size_uL, hR54]; done) | (rw [size_uL, hR0l]; done) | (rw [size_uL]; rfl) | (rw [size_uL]; simp; done)) k3) ?_
          exact ⟨List.replicate 8 0, [0, 0, 0], rfl, by simp, rfl, Dig.rep _ _ (by decide), by rw [val_rep, if_pos hb0], U⟩
        · skip
          
          have hz : n ≠ 0 := by have := of_decide_eq_false cB2; omega
          have hb0 : bn ≠ 0 := by
            intro h0
            have h1 := hn.ge hz
            rw [h0] at h1
            have h2 : 0 < 18446744073709551616 ^ (n - 1) := Nat.pow_pos (by decide)
            omega
          refine c_skip ?_
          refine hK15 _ _ ?_
          refine fg6 0 1 4 5 6 7 (gS rfl (gS rfl (gS rfl (gS rfl (gS rfl (gS rfl g0)))))) (gS rfl (gS rfl (gS rfl (gS rfl (gS rfl g0))))) (gS rfl (gS rfl (gS rfl (gS rfl g0)))) (gS rfl (gS rfl (gS rfl g0))) (gS rfl (gS rfl g0)) (gS rfl g0) (fun g => ?_)
          refine c_seq (fun K22 hK22 => ?_)
          refine c_seq (fun K23 hK23 => ?_)
          refine c_region ?_
          refine l_step (y_moveV (et g0 rfl)) ?_
          refine l_step (y_moveV (et (gS rfl (gS rfl g0)) rfl)) ?_
          refine l_step (y_lss (et (gS rfl g0) rfl) (et g0 rfl)) ?_
          refine l_nil ?_
          refine hK23 _ _ ?_
          refine fg7 0 1 4 5 6 7 41 (gS rfl (gS rfl (gS rfl (gS rfl (gS rfl (gS rfl (gS rfl (gS rfl g0)))))))) (gS rfl (gS rfl (gS rfl (gS rfl (gS rfl (gS rfl (gS rfl g0))))))) (gS rfl (gS rfl (gS rfl (gS rfl (gS rfl (gS rfl g0)))))) (gS rfl (gS rfl (gS rfl (gS rfl (gS rfl g0))))) (gS rfl (gS rfl (gS rfl (gS rfl g0)))) (gS rfl (gS rfl (gS rfl g0))) g0 (fun g => ?_)
          refine c_cond (et g0 rfl) (fun cB3 => ?_) (fun cB3 => ?_)
          · skip
            
            have htn : T.length < n := by have := of_decide_eq_true cB3; omega
            have hsm : val 18446744073709551616 T < bn := Nat.lt_of_lt_of_le hres.lt (Nat.le_trans (Nat.pow_le_pow_right (by decide) (by omega)) (hn.ge hz))
            have hsm8 : val 18446744073709551616 Xl < 18446744073709551616 ^ 8 := by rw [hvX]; exact Nat.lt_trans hsm hbn
            obtain ⟨R0, hR0⟩ : ∃ R0, (Xl.drop 0).take 8 = R0 := ⟨_, rfl⟩
            have hR0l : R0.length = 8 := by rw [← hR0]; simp [hx16]
            have hR0d : Dig 18446744073709551616 R0 := by rw [← hR0]; exact (hdx.drop 0).take 8
            have hR0v : val 18446744073709551616 R0 = val 18446744073709551616 Xl := by rw [← hR0, List.drop_zero]; exact take_val _ 8 (by omega) hsm8
            refine c_seq (fun K25 hK25 => ?_)
            refine c_draw (Ch (fun k => k = b2)) 7 [(0, true), (1, true), (2, true), (3, true), (4, true), (5, true), (6, false), (7, false)] (by kernel_rfl) (fun w26 hu => ⟨Ch.refl _ _, ?_⟩)
            replace k2 := k2.up hu
            replace k3 := k3.up hu
            replace kB := kB.up hu
            replace kM := kM.up hu
            replace U := U.tr hu
            have SU : (Ch (fun k => k = b2)) w26 w26 := Ch.refl _ _
            refine p_step (by exact rfl) (y_moveV (et (gS rfl (gS rfl (gS rfl (gS rfl (gS rfl (gS rfl g0)))))) rfl)) ?_
            refine p_step (by exact rfl) (y_nil (et g0 rfl)) ?_
            refine p_step (by exact rfl) (y_slA010 Hvaa.underlying405 sz_26 (et g0 rfl) rfl ?_ ?_) ?_
            decide
            decide
            refine p_step (by exact rfl) (y_s2a Hvaa.underlying336 (et g0 rfl) ?_) ?_
            decide
            refine p_step (by exact rfl) (y_loadR agg_336 sz_336 (et g0 rfl) (by rw [length_uL, hR0l]) (atCR (show Row _ _ 0 (uL R0) from hR0 ▸ (kB.limbs 0 8)) (by omega))) ?_
            refine p_step (by exact rfl) (y_loadB agg_407 sz_407 (et (gS rfl (gS rfl (gS rfl (gS rfl (gS rfl (gS rfl (gS rfl (gS rfl g0)))))))) rfl) (by first | (simp only [Value.cells, hV, aV, bV, wV, wL, List.size_toArray, length_bL, length_uL, length_be, size_spl, List.length_cons, List.length_nil, List.length_replicate, Nat.zero_add, Nat.reduceAdd, Nat.reduceLeDiff, Nat.le_refl]; done) | rfl) (atCB k3 (by omega))) ?_
            refine p_effN (by exact rfl) (e_store sz_336 (et (gS rfl (gS rfl (gS rfl (gS rfl (gS rfl (gS rfl (gS rfl (gS rfl (gS rfl (gS rfl g0)))))))))) rfl) (cellsV (et (gS rfl g0) rfl) rfl) (by rw [length_uL, hR0l]) (by exact one_uL _) k2 (by (simp only [List.size_toArray, length_uL, hR0l, List.length_replicate]; decide))) (fun v27 w27 h27 => ?_)
            obtain ⟨rfl, x27⟩ := h27
            replace k3 := k3.ch x27.ch (by omega)
            replace kB := kB.ch x27.ch (by first | omega | omega)
            replace kM := kM.ch x27.ch (by first | omega | omega)
            replace k2 := x27.blk.full (by simp only [List.size_toArray, length_uL, hR0l, List.length_replicate])
            replace U := U.st x27 f2
            refine ⟨.inr (SU.st x27 (by omega)), ?_⟩
            replace SU := SU.st x27 (by omega)
            refine p_effN (by exact rfl) (e_storeS sz_407 (et (gS rfl (gS rfl (gS rfl (gS rfl (gS rfl (gS rfl (gS rfl (gS rfl (gS rfl g0))))))))) rfl) (cellsV (et g0 rfl) rfl) (by first | (simp only [Value.cells, hV, aV, bV, wV, wL, List.size_toArray, length_bL, length_uL, length_be, size_spl, List.length_cons, List.length_nil, List.length_replicate, Nat.zero_add, Nat.reduceAdd, Nat.reduceLeDiff, Nat.le_refl]; done) | rfl) (by first | exact one_bL _ | exact one_uL _ | (intro v hv; simp at hv; subst hv; rfl)) k3) (fun v28 w28 h28 => ?_)
            obtain ⟨rfl, x28⟩ := h28
            replace k2 := k2.up x28
            replace k3 := k3.up x28
            replace kB := kB.up x28
            replace kM := kM.up x28
            replace U := U.tr x28
            refine ⟨.inl rfl, ?_⟩
            refine p_nil ?_
            refine hK25 _ _ ?_
            refine fg2 4 5 (gS rfl (gS rfl (gS rfl (gS rfl (gS rfl (gS rfl (gS rfl (gS rfl (gS rfl (gS rfl g0)))))))))) (gS rfl (gS rfl (gS rfl (gS rfl (gS rfl (gS rfl (gS rfl (gS rfl (gS rfl g0))))))))) (fun g => ?_)
            refine c_ret ?_
            refine ret2 rfl (res_blk agg_336 sz_336 (et (gS rfl g0) rfl) (by first | rfl | (rw [size_uL, hR54]; done) | (rw [size_uL, hR0l]; done) | (rw [size_uL]; rfl) | (rw [size_uL]; simp; done)) k2) (res_blk agg_407 sz_407 (et g0 rfl) (by first | rfl | (rw [size_uL, hR54]; done) | (rw [size_uL, hR0l]; done) | (rw [size_uL]; rfl) | (rw [size_uL]; simp; done)) k3) ?_
            exact ⟨R0, [0, 0, 0], rfl, hR0l, rfl, hR0d, by rw [if_neg hb0, hR0v, Nat.mod_eq_of_lt (by rw [hvX]; exact hsm)], U⟩
          · skip
            
            have htn : n ≤ T.length := by have := of_decide_eq_false cB3; omega
            refine c_skip ?_
            refine hK22 _ _ ?_
            refine fg6 0 1 4 5 6 7 (gS rfl (gS rfl (gS rfl (gS rfl (gS rfl (gS rfl g0)))))) (gS rfl (gS rfl (gS rfl (gS rfl (gS rfl g0))))) (gS rfl (gS rfl (gS rfl (gS rfl g0)))) (gS rfl (gS rfl (gS rfl g0))) (gS rfl (gS rfl g0)) (gS rfl g0) (fun g => ?_)
            refine c_seq (fun K29 hK29 => ?_)
            refine c_region ?_
            refine l_step (y_moveV (et g0 rfl)) ?_
            refine l_step (y_moveV (et (gS rfl (gS rfl g0)) rfl)) ?_
            refine l_step (y_sub (et (gS rfl g0) rfl) (et g0 rfl) (wrapU_subN uk8 ?_ ?_)) ?_
            omega
            omega
            refine l_step (y_add (et g0 rfl) rfl (wrapU_addN (b := 1) uk8 ?_)) ?_
            omega
            refine l_step (y_fld fld_407_0 (et (gS rfl (gS rfl (gS rfl (gS rfl (gS rfl (gS rfl g0)))))) rfl)) ?_
            refine l_effN (e_store sz_5 (et g0 rfl) (cellsV (et (gS rfl g0) rfl) rfl) rfl (by first | exact one_bL _ | exact one_uL _ | (intro v hv; simp at hv; subst hv; rfl)) k3 (by first | exact Nat.le_of_ble_eq_true rfl | simp | omega)) (fun v30 w30 h30 => ?_)
            obtain ⟨rfl, x30⟩ := h30
            replace k2 := k2.ch x30.ch (by omega)
            replace kB := kB.ch x30.ch (by first | omega | omega)
            replace kM := kM.ch x30.ch (by first | omega | omega)
            replace k3 := x30.blk
            replace U := U.st x30 f3
            replace k3 : Blk w30 b3 (bL [T.length - n + 1, 0, 0]).toArray := k3
            refine l_nil ?_
            refine hK29 _ _ ?_
            refine fg6 0 1 4 5 6 7 (gS rfl (gS rfl (gS rfl (gS rfl (gS rfl (gS rfl (gS rfl (gS rfl (gS rfl (gS rfl g0)))))))))) (gS rfl (gS rfl (gS rfl (gS rfl (gS rfl (gS rfl (gS rfl (gS rfl (gS rfl g0))))))))) (gS rfl (gS rfl (gS rfl (gS rfl (gS rfl (gS rfl (gS rfl (gS rfl g0)))))))) (gS rfl (gS rfl (gS rfl (gS rfl (gS rfl (gS rfl (gS rfl g0))))))) (gS rfl (gS rfl (gS rfl (gS rfl (gS rfl (gS rfl g0)))))) (gS rfl (gS rfl (gS rfl (gS rfl (gS rfl g0))))) (fun g => ?_)
            refine c_seq (fun K31 hK31 => ?_)
            refine c_seq (fun K32 hK32 => ?_)
            refine c_region ?_
            refine l_step (y_moveV (et (gS rfl g0) rfl)) ?_
            refine l_step (y_eql (et g0 rfl) rfl) ?_
            refine l_nil ?_
            refine hK32 _ _ ?_
            refine fg7 0 1 4 5 6 7 54 (gS rfl (gS rfl (gS rfl (gS rfl (gS rfl (gS rfl (gS rfl g0))))))) (gS rfl (gS rfl (gS rfl (gS rfl (gS rfl (gS rfl g0)))))) (gS rfl (gS rfl (gS rfl (gS rfl (gS rfl g0))))) (gS rfl (gS rfl (gS rfl (gS rfl g0)))) (gS rfl (gS rfl (gS rfl g0))) (gS rfl (gS rfl g0)) g0 (fun g => ?_)
            refine c_cond (et g0 rfl) (fun cB4 => ?_) (fun cB4 => ?_)
            · skip
              
              have hn1 : n = 1 := by have := of_decide_eq_true cB4; omega
              subst hn1
              obtain ⟨v0, Vr, rfl⟩ := cons_of_len (l := Vl) (by omega)
              have hv0 := hVd.head
              have hbv : bn = v0 := by
                have h1 := hn.lt
                rw [Nat.pow_one] at h1
                rw [val_cons] at hVv
                omega
              have hv00 : 0 < v0 := by omega
              refine c_seq (fun K34 hK34 => ?_)
              refine c_region ?_
              refine l_step y_assignC ?_
              refine l_nil ?_
              refine hK34 _ _ ?_
              refine fg6 0 1 4 5 7 8 (gS rfl (gS rfl (gS rfl (gS rfl (gS rfl (gS rfl (gS rfl g0))))))) (gS rfl (gS rfl (gS rfl (gS rfl (gS rfl (gS rfl g0)))))) (gS rfl (gS rfl (gS rfl (gS rfl (gS rfl g0))))) (gS rfl (gS rfl (gS rfl (gS rfl g0)))) (gS rfl (gS rfl g0)) g0 (fun g => ?_)
              refine c_seq (fun K35 hK35 => ?_)
              refine c_seq (fun K36 hK36 => ?_)
              refine c_region ?_
              refine l_step (y_moveV (et (gS rfl g0) rfl)) ?_
              refine l_step (y_assignV (et g0 rfl)) ?_
              refine l_nil ?_
              refine hK36 _ _ ?_
              refine fg6 0 1 4 5 8 9 (gS rfl (gS rfl (gS rfl (gS rfl (gS rfl (gS rfl (gS rfl g0))))))) (gS rfl (gS rfl (gS rfl (gS rfl (gS rfl (gS rfl g0)))))) (gS rfl (gS rfl (gS rfl (gS rfl (gS rfl g0))))) (gS rfl (gS rfl (gS rfl (gS rfl g0)))) (gS rfl (gS rfl g0)) g0 (fun g => ?_)
              refine c_block (fun Q37 hQ37 => ?_)
              refine fg6 0 1 4 5 8 9 (gS rfl (gS rfl (gS rfl (gS rfl (gS rfl g0))))) (gS rfl (gS rfl (gS rfl (gS rfl g0)))) (gS rfl (gS rfl (gS rfl g0))) (gS rfl (gS rfl g0)) (gS rfl g0) g0 (fun g => ?_)
              refine c_loop (fun k_ s_ W38 => ∃ (g : Nat → Value) (rm i : Nat), s_ = (upd (upd (upd (upd (upd (upd g 0 (.pointer (some ⟨bx, 0, none⟩))) 1 (.pointer (some ⟨bm, 0, none⟩))) 4 (.pointer (some ⟨b2, 0, none⟩))) 5 (.pointer (some ⟨b3, 0, none⟩))) 8 (.int .u64 (rm : Nat))) 9 (.int .u8 (i : Nat))) ∧ i = k_ ∧ (i ≤ T.length) ∧ (rm = val 18446744073709551616 (Xl.drop i) % v0) ∧ Ch (fun k => False) w30 W38) ((T.length)) ?_ ?_
              · exact ⟨g, 0, T.length, rfl, rfl, Nat.le_refl _, by rw [hP, List.drop_left, val_rep]; simp, Ch.refl _ _⟩
              · skip
                intro k_ s_ W38 hI K38 hK38
                obtain ⟨g, rm, i, rfl, rfl, hi, hrm, V38⟩ := hI
                replace k2 := k2.ch V38 (by exact fun h => h)
                replace k3 := k3.ch V38 (by exact fun h => h)
                replace kB := kB.ch V38 (by first | exact fun h => h | exact fun _ h => h.elim)
                replace kM := kM.ch V38 (by first | exact fun h => h | exact fun _ h => h.elim)
                replace U := U.cc V38 (by intro b hb; first | exact hb.elim | omega | (simp at hb ⊢; omega))
                refine c_seq (fun K39 hK39 => ?_)
                refine c_seq (fun K40 hK40 => ?_)
                refine c_region ?_
                refine l_step (y_moveV (et g0 rfl)) ?_
                refine l_step (y_gtr (et g0 rfl) rfl) ?_
                refine l_nil ?_
                refine hK40 _ _ ?_
                refine fg7 0 1 4 5 8 9 57 (gS rfl (gS rfl (gS rfl (gS rfl (gS rfl (gS rfl (gS rfl g0))))))) (gS rfl (gS rfl (gS rfl (gS rfl (gS rfl (gS rfl g0)))))) (gS rfl (gS rfl (gS rfl (gS rfl (gS rfl g0))))) (gS rfl (gS rfl (gS rfl (gS rfl g0)))) (gS rfl (gS rfl (gS rfl g0))) (gS rfl (gS rfl g0)) g0 (fun g => ?_)
                refine c_cond (et g0 rfl) (fun cB5 => ?_) (fun cB5 => ?_)
                · skip
                  simp only [decide_eq_true_eq, decide_eq_false_iff_not, Int.not_lt, Int.not_le, Bool.not_eq_true', Bool.not_eq_false', Bool.not_eq_eq_eq_not, Bool.not_true, Bool.not_false] at cB5
                  obtain ⟨i', rfl⟩ : ∃ i', i = i' + 1 := ⟨i - 1, by omega⟩
                  have hxi := hdx _ (List.getElem_mem (l := Xl) (n := i') (by omega))
                  have hrl : rm < v0 := by rw [hrm]; exact Nat.mod_lt _ hv00
                  refine c_skip ?_
                  refine hK39 _ _ ?_
                  refine fg6 0 1 4 5 8 9 (gS rfl (gS rfl (gS rfl (gS rfl (gS rfl (gS rfl g0)))))) (gS rfl (gS rfl (gS rfl (gS rfl (gS rfl g0))))) (gS rfl (gS rfl (gS rfl (gS rfl g0)))) (gS rfl (gS rfl (gS rfl g0))) (gS rfl (gS rfl g0)) (gS rfl g0) (fun g => ?_)
                  refine c_seq (fun K42 hK42 => ?_)
                  refine c_block (fun Q43 hQ43 => ?_)
                  refine c_seq (fun K44 hK44 => ?_)
                  refine c_draw Up 19 [(0, true), (1, true), (2, true), (3, true), (4, true), (5, true), (6, true), (7, true), (8, true), (9, true), (10, true), (11, false), (12, true), (13, true), (14, true), (15, true), (16, true), (17, true), (18, true)] (by kernel_rfl) (fun w45 hu => ⟨Up.refl _, ?_⟩)
                  replace k2 := k2.up hu
                  replace k3 := k3.up hu
                  replace kB := kB.up hu
                  replace kM := kM.up hu
                  replace U := U.tr hu
                  replace V38 := V38.tr hu
                  have SU := Up.refl w45
                  refine p_step (by exact rfl) (y_moveV (et (gS rfl g0) rfl)) ?_
                  refine p_step (by exact rfl) (y_moveV (et (gS rfl (gS rfl (gS rfl (gS rfl (gS rfl (gS rfl g0)))))) rfl)) ?_
                  refine p_step (by exact rfl) (y_moveV (et (gS rfl (gS rfl g0)) rfl)) ?_
                  refine p_step (by exact rfl) (y_sub (et g0 rfl) rfl ((wrapU_subN (b := 1) uk8 ?_ ?_).trans (castE (show i' + 1 - 1 = i' by omega)))) ?_
                  omega
                  omega
                  refine p_step (by exact rfl) (y_nil (et (gS rfl (gS rfl g0)) rfl)) ?_
                  refine p_step (by exact rfl) (y_idxA Hvaa.underlying405 sz_26 (et g0 rfl) (et (gS rfl g0) rfl) ?_ ?_) ?_
                  exact Int.natCast_nonneg _
                  omega
                  refine p_step (by exact rfl) (y_load1 one_26 (et g0 rfl) (atS (kB.cell (uL_getI (i := i') (by omega) (by omega))))) ?_
                  refine p_step (by exact rfl) (y_moveV (et (gS rfl (gS rfl (gS rfl (gS rfl (gS rfl (gS rfl (gS rfl (gS rfl (gS rfl (gS rfl (gS rfl g0))))))))))) rfl)) ?_
                  refine p_step (by exact rfl) (y_nil (et g0 rfl)) ?_
                  refine p_step (by exact rfl) (y_idxAC 0 0 Hvaa.underlying336 sz_26 (et g0 rfl) rfl rfl rfl) ?_
                  refine p_step (by exact rfl) (y_load1 one_26 (et g0 rfl) (atS (kM.cell (uL_get [] v0 Vr _ rfl)))) ?_
                  refine p_eff (by exact rfl) (e_callV cal_370 (aC (et (gS rfl (gS rfl (gS rfl (gS rfl (gS rfl (gS rfl (gS rfl (gS rfl (gS rfl (gS rfl g0)))))))))) rfl) (aC (et (gS rfl (gS rfl (gS rfl (gS rfl g0)))) rfl) (aC (et g0 rfl) aN))) (div64_spec rm Xl[i'] v0 _ hxi hv0 hrl)) (fun v46 w46 h46 => ?_)
                  obtain ⟨rfl, u46⟩ := h46
                  replace k2 := k2.up u46
                  replace k3 := k3.up u46
                  replace kB := kB.up u46
                  replace kM := kM.up u46
                  replace U := U.tr u46
                  replace V38 := V38.tr u46
                  refine ⟨.inr (SU.tr u46), ?_⟩
                  replace SU := SU.tr u46
                  refine p_step (by exact rfl) (y_moveV (et g0 rfl)) ?_
                  refine p_step (by exact rfl) (y_ext (et g0 rfl) rfl) ?_
                  refine p_step (by exact rfl) (y_ext (et (gS rfl g0) rfl) rfl) ?_
                  refine p_step (by exact rfl) (y_ext (et (gS rfl (gS rfl g0)) rfl) rfl) ?_
                  refine p_step (by exact rfl) (y_assignV (et (gS rfl (gS rfl g0)) rfl)) ?_
                  refine p_step (by exact rfl) (y_assignV (et (gS rfl (gS rfl g0)) rfl)) ?_
                  refine p_step (by exact rfl) (y_assignV (et (gS rfl (gS rfl g0)) rfl)) ?_
                  refine p_nil ?_
                  refine hK44 _ _ ?_
                  refine fg6 0 1 4 5 9 11 (gS rfl (gS rfl (gS rfl (gS rfl (gS rfl (gS rfl (gS rfl (gS rfl (gS rfl (gS rfl (gS rfl (gS rfl (gS rfl (gS rfl (gS rfl (gS rfl (gS rfl (gS rfl (gS rfl (gS rfl (gS rfl (gS rfl (gS rfl (gS rfl g0)))))))))))))))))))))))) (gS rfl (gS rfl (gS rfl (gS rfl (gS rfl (gS rfl (gS rfl (gS rfl (gS rfl (gS rfl (gS rfl (gS rfl (gS rfl (gS rfl (gS rfl (gS rfl (gS rfl (gS rfl (gS rfl (gS rfl (gS rfl (gS rfl (gS rfl g0))))))))))))))))))))))) (gS rfl (gS rfl (gS rfl (gS rfl (gS rfl (gS rfl (gS rfl (gS rfl (gS rfl (gS rfl (gS rfl (gS rfl (gS rfl (gS rfl (gS rfl (gS rfl (gS rfl (gS rfl (gS rfl (gS rfl (gS rfl (gS rfl g0)))))))))))))))))))))) (gS rfl (gS rfl (gS rfl (gS rfl (gS rfl (gS rfl (gS rfl (gS rfl (gS rfl (gS rfl (gS rfl (gS rfl (gS rfl (gS rfl (gS rfl (gS rfl (gS rfl (gS rfl (gS rfl (gS rfl (gS rfl g0))))))))))))))))))))) (gS rfl (gS rfl (gS rfl (gS rfl (gS rfl (gS rfl (gS rfl (gS rfl (gS rfl (gS rfl (gS rfl (gS rfl (gS rfl (gS rfl (gS rfl (gS rfl (gS rfl (gS rfl (gS rfl g0))))))))))))))))))) (gS rfl g0) (fun g => ?_)
                  refine c_region ?_
                  refine l_step (y_moveV (et g0 rfl)) ?_
                  refine l_step (y_assignV (et g0 rfl)) ?_
                  refine l_nil ?_
                  refine hQ43 _ _ _ (in_normal ?_)
                  refine hK42 _ _ ?_
                  refine fg6 0 1 4 5 9 8 (gS rfl (gS rfl (gS rfl (gS rfl (gS rfl (gS rfl (gS rfl g0))))))) (gS rfl (gS rfl (gS rfl (gS rfl (gS rfl (gS rfl g0)))))) (gS rfl (gS rfl (gS rfl (gS rfl (gS rfl g0))))) (gS rfl (gS rfl (gS rfl (gS rfl g0)))) (gS rfl (gS rfl (gS rfl g0))) g0 (fun g => ?_)
                  refine c_region ?_
                  refine l_step (y_moveV (et (gS rfl g0) rfl)) ?_
                  refine l_step (y_sub (et g0 rfl) rfl ((wrapU_subN (b := 1) uk8 ?_ ?_).trans (castE (show i' + 1 - 1 = i' by omega)))) ?_
                  omega
                  omega
                  refine l_step (y_assignV (et g0 rfl)) ?_
                  refine l_nil ?_
                  refine fK6 0 1 4 5 8 9 (gS rfl (gS rfl (gS rfl (gS rfl (gS rfl (gS rfl (gS rfl (gS rfl g0)))))))) (gS rfl (gS rfl (gS rfl (gS rfl (gS rfl (gS rfl (gS rfl g0))))))) (gS rfl (gS rfl (gS rfl (gS rfl (gS rfl (gS rfl g0)))))) (gS rfl (gS rfl (gS rfl (gS rfl (gS rfl g0))))) (gS rfl (gS rfl (gS rfl g0))) g0 (fun g => ?_)
                  exact hK38 ((i')) _ _ (by omega) ⟨g, ((rm * 18446744073709551616 + Xl[i']) % v0), i', rfl, rfl, by omega, by rw [val_dropU (by omega)]; exact rest_step hrm, V38⟩
                · skip
                  simp only [decide_eq_true_eq, decide_eq_false_iff_not, Int.not_lt, Int.not_le, Bool.not_eq_true', Bool.not_eq_false', Bool.not_eq_eq_eq_not, Bool.not_true, Bool.not_false] at cB5
                  have hi0 : i = 0 := by omega
                  subst hi0
                  rw [List.drop_zero] at hrm
                  have hrl : rm < v0 := by rw [hrm]; exact Nat.mod_lt _ hv00
                  refine c_exit ?_
                  refine hQ37 _ _ _ (in_exit ?_)
                  refine hK35 _ _ ?_
                  refine fg3 4 5 8 (gS rfl (gS rfl (gS rfl (gS rfl g0)))) (gS rfl (gS rfl (gS rfl g0))) (gS rfl (gS rfl g0)) (fun g => ?_)
                  refine c_seq (fun K47 hK47 => ?_)
                  refine c_region ?_
                  refine l_step (y_moveV (et g0 rfl)) ?_
                  refine l_step (y_idxAC 0 0 Hvaa.underlying336 sz_26 (et (gS rfl (gS rfl (gS rfl g0))) rfl) rfl rfl rfl) ?_
                  refine l_effN (e_store sz_26 (et g0 rfl) (cellsV (et (gS rfl g0) rfl) rfl) rfl (by first | exact one_bL _ | exact one_uL _ | (intro v hv; simp at hv; subst hv; rfl)) k2 (by (simp only [List.size_toArray, length_uL, List.length_replicate]; omega))) (fun v48 w48 h48 => ?_)
                  obtain ⟨rfl, x48⟩ := h48
                  replace k3 := k3.ch x48.ch (by omega)
                  replace kB := kB.ch x48.ch (by first | omega | omega)
                  replace kM := kM.ch x48.ch (by first | omega | omega)
                  replace k2 := x48.blk
                  replace U := U.st x48 f2
                  replace k2 : Blk w48 b2 (uL (rm :: List.replicate 7 0)).toArray := k2
                  refine l_nil ?_
                  refine hK47 _ _ ?_
                  refine fg2 4 5 (gS rfl (gS rfl (gS rfl (gS rfl g0)))) (gS rfl (gS rfl (gS rfl g0))) (fun g => ?_)
                  refine c_seq (fun K49 hK49 => ?_)
                  refine c_draw Up 3 [(0, true), (1, true), (2, false), (3, false)] (by kernel_rfl) (fun w50 hu => ⟨Up.refl _, ?_⟩)
                  replace k2 := k2.up hu
                  replace k3 := k3.up hu
                  replace kB := kB.up hu
                  replace kM := kM.up hu
                  replace U := U.tr hu
                  have SU := Up.refl w50
                  refine p_step (by exact rfl) (y_loadB agg_336 sz_336 (et (gS rfl g0) rfl) (by rw [size_uL]; simp) (atSB k2)) ?_
                  refine p_step (by exact rfl) (y_loadB agg_407 sz_407 (et (gS rfl g0) rfl) (by first | (simp only [Value.cells, hV, aV, bV, wV, wL, List.size_toArray, length_bL, length_uL, length_be, size_spl, List.length_cons, List.length_nil, List.length_replicate, Nat.zero_add, Nat.reduceAdd, Nat.reduceLeDiff, Nat.le_refl]; done) | rfl) (atSB k3)) ?_
                  refine p_effN (by exact rfl) (e_storeS sz_336 (et (gS rfl (gS rfl (gS rfl g0))) rfl) (cellsV (et (gS rfl g0) rfl) rfl) (by rw [length_uL]; simp) (by first | exact one_bL _ | exact one_uL _ | (intro v hv; simp at hv; subst hv; rfl)) k2) (fun v51 w51 h51 => ?_)
                  obtain ⟨rfl, x51⟩ := h51
                  replace k2 := k2.up x51
                  replace k3 := k3.up x51
                  replace kB := kB.up x51
                  replace kM := kM.up x51
                  replace U := U.tr x51
                  refine ⟨.inr (SU.tr x51), ?_⟩
                  replace SU := SU.tr x51
                  refine p_effN (by exact rfl) (e_storeS sz_407 (et (gS rfl (gS rfl g0)) rfl) (cellsV (et g0 rfl) rfl) (by first | (simp only [Value.cells, hV, aV, bV, wV, wL, List.size_toArray, length_bL, length_uL, length_be, size_spl, List.length_cons, List.length_nil, List.length_replicate, Nat.zero_add, Nat.reduceAdd, Nat.reduceLeDiff, Nat.le_refl]; done) | rfl) (by first | exact one_bL _ | exact one_uL _ | (intro v hv; simp at hv; subst hv; rfl)) k3) (fun v52 w52 h52 => ?_)
                  obtain ⟨rfl, x52⟩ := h52
                  replace k2 := k2.up x52
                  replace k3 := k3.up x52
                  replace kB := kB.up x52
                  replace kM := kM.up x52
                  replace U := U.tr x52
                  refine ⟨.inl rfl, ?_⟩
                  refine p_nil ?_
                  refine hK49 _ _ ?_
                  refine fg2 4 5 (gS rfl (gS rfl (gS rfl g0))) (gS rfl (gS rfl g0)) (fun g => ?_)
                  refine c_ret ?_
                  refine ret2 rfl (res_blk agg_336 sz_336 (et (gS rfl g0) rfl) (by first | rfl | (rw [size_uL, hR54]; done) | (rw [size_uL, hR0l]; done) | (rw [size_uL]; rfl) | (rw [size_uL]; simp; done)) k2) (res_blk agg_407 sz_407 (et g0 rfl) (by first | rfl | (rw [size_uL, hR54]; done) | (rw [size_uL, hR0l]; done) | (rw [size_uL]; rfl) | (rw [size_uL]; simp; done)) k3) ?_
                  exact ⟨_, _, rfl, rfl, rfl, Dig.cons (by omega) (Dig.rep _ 7 (by decide)), by rw [if_neg hb0, val_cons, val_rep, hbv, ← hrm]; simp, U⟩
            · skip
              
              have hn2 : 2 ≤ n := by have := of_decide_eq_false cB4; omega
              refine c_skip ?_
              refine hK31 _ _ ?_
              refine fg5 0 1 4 5 6 (gS rfl (gS rfl (gS rfl (gS rfl (gS rfl (gS rfl g0)))))) (gS rfl (gS rfl (gS rfl (gS rfl (gS rfl g0))))) (gS rfl (gS rfl (gS rfl (gS rfl g0)))) (gS rfl (gS rfl (gS rfl g0))) (gS rfl (gS rfl g0)) (fun g => ?_)
              refine c_seq (fun K53 hK53 => ?_)
              refine c_region ?_
              refine l_eff (e_alloc zr_447) (fun v54 w54 h54 => ?_)
              obtain ⟨b54, rfl, n54⟩ := h54
              have d2_54 : b2 < b54 := Nat.lt_of_lt_of_le k2.lt n54.fresh
              have d3_54 : b3 < b54 := Nat.lt_of_lt_of_le k3.lt n54.fresh
              have f54 : w.heap.size ≤ b54 := Nat.le_trans U.size n54.fresh
              replace k2 := k2.up n54.up
              replace k3 := k3.up n54.up
              replace kB := kB.up n54.up
              replace kM := kM.up n54.up
              replace U := U.tr n54.up
              have k54 := n54.blk
              replace k54 : Blk w54 b54 (uL (List.replicate 16 0 ++ [0])).toArray := k54
              refine l_nil ?_
              refine hK53 _ _ ?_
              refine c_seq (fun K55 hK55 => ?_)
              refine c_draw Up 4 [(0, true), (1, true), (2, true), (3, true), (4, false)] (by kernel_rfl) (fun w56 hu => ⟨Up.refl _, ?_⟩)
              replace k2 := k2.up hu
              replace k3 := k3.up hu
              replace k54 := k54.up hu
              replace kB := kB.up hu
              replace kM := kM.up hu
              replace U := U.tr hu
              have SU := Up.refl w56
              refine p_step (by exact rfl) (y_slA000 Hvaa.underlying447 sz_26 (et g0 rfl) ) ?_
              refine p_step (by exact rfl) (y_moveV (et (gS rfl (gS rfl (gS rfl (gS rfl (gS rfl (gS rfl g0)))))) rfl)) ?_
              refine p_step (by exact rfl) (y_nil (et g0 rfl)) ?_
              refine p_step (by exact rfl) (y_slA000 Hvaa.underlying405 sz_26 (et g0 rfl) ) ?_
              refine p_eff (by exact rfl) (e_copy (l := uL ((Xl.drop 0).take 16)) Hvaa.underlying317 sz_26 (et (gS rfl (gS rfl (gS rfl g0))) rfl) (et g0 rfl) (by rw [length_uL]; simp [hx16]) (kB.limbs 0 16) (one_uL _) k54 (by rw [size_uL, length_uL]; simp [hx16])) (fun v57 w57 h57 => ?_)
              obtain ⟨rfl, x57⟩ := h57
              replace k2 := k2.ch x57.ch (by omega)
              replace k3 := k3.ch x57.ch (by omega)
              replace kB := kB.ch x57.ch (by omega)
              replace kM := kM.ch x57.ch (by omega)
              replace k54 := x57.blk
              replace U := U.cc x57.ch (by intro b hb; first | exact hb ▸ f54 | omega)
              refine ⟨.inl rfl, ?_⟩
              replace k54 : Blk w57 b54 (uL (Xl ++ [0])).toArray := by
                have h := k54
                rw [List.drop_zero, List.take_of_length_le (by omega), uL_append, spl_pre _ _ _ (by simp [length_uL, hx16])] at h
                rw [uL_append]; exact h
              obtain ⟨Wd, t, hdec, hWl, hWd, hWv⟩ := dec_list Vl n (by omega) (by omega) hVd (by rw [hVv]; exact hn.lt)
              have ht1 : 1 ≤ t := top_ge Wd t 1 hWd (by rw [hWv, Nat.one_mul, hWl, hVv]; exact hn.ge hz)
              have htB : t < 18446744073709551616 := hWd.right.head
              obtain ⟨s, hs, hs64, hnlo, hnhi⟩ := norm_of t ht1 htB
              have hV2lo : 9223372036854775808 * 18446744073709551616 ^ (n - 1) ≤ bn * 2 ^ s := norm_lo Wd t s bn n (by rw [hWv, hVv]) hWl hnlo
              have hV2hi : bn * 2 ^ s < 18446744073709551616 ^ n := norm_hi Wd t s bn n (by rw [hWv, hVv]) hWl (by omega) hWd.left hs64 hnhi
              refine p_nil ?_
              refine hK55 _ _ ?_
              refine fg5 1 4 5 6 13 (gS rfl (gS rfl (gS rfl (gS rfl (gS rfl (gS rfl (gS rfl (gS rfl (gS rfl g0))))))))) (gS rfl (gS rfl (gS rfl (gS rfl (gS rfl (gS rfl (gS rfl (gS rfl g0)))))))) (gS rfl (gS rfl (gS rfl (gS rfl (gS rfl (gS rfl (gS rfl g0))))))) (gS rfl (gS rfl (gS rfl (gS rfl (gS rfl (gS rfl g0)))))) (gS rfl (gS rfl (gS rfl (gS rfl (gS rfl g0))))) (fun g => ?_)
              refine c_seq (fun K58 hK58 => ?_)
              refine c_region ?_
              refine l_step (y_moveV (et (gS rfl (gS rfl (gS rfl (gS rfl g0)))) rfl)) ?_
              refine l_step (y_nil (et g0 rfl)) ?_
              refine l_step (y_loadB agg_336 sz_336 (et g0 rfl) (by rw [size_uL, hV8]) (at1B kM)) ?_
              refine l_eff (e_alloc zr_336) (fun v59 w59 h59 => ?_)
              obtain ⟨b59, rfl, n59⟩ := h59
              have d2_59 : b2 < b59 := Nat.lt_of_lt_of_le k2.lt n59.fresh
              have d3_59 : b3 < b59 := Nat.lt_of_lt_of_le k3.lt n59.fresh
              have d54_59 : b54 < b59 := Nat.lt_of_lt_of_le k54.lt n59.fresh
              have f59 : w.heap.size ≤ b59 := Nat.le_trans U.size n59.fresh
              replace k2 := k2.up n59.up
              replace k3 := k3.up n59.up
              replace k54 := k54.up n59.up
              replace kB := kB.up n59.up
              replace kM := kM.up n59.up
              replace U := U.tr n59.up
              have k59 := n59.blk
              refine l_effN (e_store sz_336 (et g0 rfl) (cellsV (et (gS rfl g0) rfl) rfl) (by rw [length_uL, hV8]) (by exact one_uL _) k59 (by exact Nat.le_refl _)) (fun v60 w60 h60 => ?_)
              obtain ⟨rfl, x60⟩ := h60
              replace k2 := k2.ch x60.ch (by omega)
              replace k3 := k3.ch x60.ch (by omega)
              replace k54 := k54.ch x60.ch (by omega)
              replace kB := kB.ch x60.ch (by first | omega | omega)
              replace kM := kM.ch x60.ch (by first | omega | omega)
              replace k59 := x60.blk.full (by rw [length_uL, hV8]; rfl)
              replace U := U.st x60 f59
              refine l_nil ?_
              refine hK58 _ _ ?_
              refine fg5 4 5 6 13 14 (gS rfl (gS rfl (gS rfl (gS rfl (gS rfl (gS rfl (gS rfl g0))))))) (gS rfl (gS rfl (gS rfl (gS rfl (gS rfl (gS rfl g0)))))) (gS rfl (gS rfl (gS rfl (gS rfl (gS rfl g0))))) (gS rfl (gS rfl (gS rfl (gS rfl g0)))) g0 (fun g => ?_)
              refine c_seq (fun K61 hK61 => ?_)
              refine c_region ?_
              refine l_step (y_moveV (et (gS rfl (gS rfl g0)) rfl)) ?_
              refine l_step (y_sub (et g0 rfl) rfl (wrapU_subN (b := 1) uk8 ?_ ?_)) ?_
              omega
              omega
              refine l_step (y_idxA Hvaa.underlying336 sz_26 (et (gS rfl (gS rfl g0)) rfl) (et g0 rfl) ?_ ?_) ?_
              exact Int.natCast_nonneg _
              omega
              refine l_step (y_load1 one_26 (et g0 rfl) (at1 ((show Blk _ _ (uL (Wd ++ t :: List.replicate (Vl.length - n) 0)).toArray from (by have h := k59; rw [hdec] at h; simpa using h)).cell (uL_get Wd t _ _ (by simp; omega))))) ?_
              refine l_eff (e_callV cal_401 (aC (et g0 rfl) aN) (lz64_spec t _ htB)) (fun v62 w62 h62 => ?_)
              obtain ⟨rfl, u62⟩ := h62
              replace k2 := k2.up u62
              replace k3 := k3.up u62
              replace k54 := k54.up u62
              replace k59 := k59.up u62
              replace kB := kB.up u62
              replace kM := kM.up u62
              replace U := U.tr u62
              refine l_step (y_conv Hvaa.underlying3 Hvaa.underlying5 (et g0 rfl) (cvS8 hs)) ?_
              refine l_step (y_assignV (et g0 rfl)) ?_
              refine l_nil ?_
              refine hK61 _ _ ?_
              refine fg6 4 5 6 13 14 15 (gS rfl (gS rfl (gS rfl (gS rfl (gS rfl (gS rfl (gS rfl (gS rfl (gS rfl (gS rfl (gS rfl g0))))))))))) (gS rfl (gS rfl (gS rfl (gS rfl (gS rfl (gS rfl (gS rfl (gS rfl (gS rfl (gS rfl g0)))))))))) (gS rfl (gS rfl (gS rfl (gS rfl (gS rfl (gS rfl (gS rfl (gS rfl (gS rfl g0))))))))) (gS rfl (gS rfl (gS rfl (gS rfl (gS rfl (gS rfl (gS rfl (gS rfl g0)))))))) (gS rfl (gS rfl (gS rfl (gS rfl (gS rfl (gS rfl (gS rfl g0))))))) g0 (fun g => ?_)
              refine c_seq (fun K63 hK63 => ?_)
              refine c_region ?_
              refine l_step ((y_slA000 Hvaa.underlying447 sz_26 (et (gS rfl (gS rfl g0)) rfl) ).to (slE (o' := 0) (l' := (Xl ++ [0]).length) (c' := 17) rfl (by simp [hx16]) rfl)) ?_
              refine l_step (y_moveV (et (gS rfl g0) rfl)) ?_
              refine l_eff (e_callV cal_402 (aC (et (gS rfl g0) rfl) (aC (et g0 rfl) aN)) (shiftUp_spec b54 0 17 s [] (Xl ++ [0]) [] _ hs64 rfl (by simp; omega) (hdx.app (Dig.one (by decide))) (by simpa using k54))) (fun v64 w64 h64 => ?_)
              obtain ⟨rfl, U9, c9, hU9l, hU9, hc9, hU9v, nU, c64⟩ := h64
              replace k2 := k2.ch c64 (by omega)
              replace k3 := k3.ch c64 (by omega)
              replace k59 := k59.ch c64 (by omega)
              replace kB := kB.ch c64 (by omega)
              replace kM := kM.ch c64 (by omega)
              replace k54 := nU
              replace U := U.cc c64 (by intro b hb; first | exact hb ▸ f54 | omega)
              refine l_nil ?_
              refine hK63 _ _ ?_
              refine fg6 4 5 6 13 14 15 (gS rfl (gS rfl (gS rfl (gS rfl (gS rfl (gS rfl (gS rfl (gS rfl g0)))))))) (gS rfl (gS rfl (gS rfl (gS rfl (gS rfl (gS rfl (gS rfl g0))))))) (gS rfl (gS rfl (gS rfl (gS rfl (gS rfl (gS rfl g0)))))) (gS rfl (gS rfl (gS rfl (gS rfl (gS rfl g0))))) (gS rfl (gS rfl (gS rfl (gS rfl g0)))) (gS rfl (gS rfl (gS rfl g0))) (fun g => ?_)
              refine c_seq (fun K65 hK65 => ?_)
              refine c_region ?_
              refine l_step ((y_slA000 Hvaa.underlying336 sz_26 (et (gS rfl g0) rfl) ).to (slE (o' := 0) (l' := Vl.length) (c' := 8) rfl (by omega) rfl)) ?_
              refine l_step (y_moveV (et (gS rfl g0) rfl)) ?_
              refine l_eff (e_callV cal_402 (aC (et (gS rfl g0) rfl) (aC (et g0 rfl) aN)) (shiftUp_spec b59 0 8 s [] Vl [] _ hs64 rfl (by omega) hVd (by simpa using k59))) (fun v66 w66 h66 => ?_)
              obtain ⟨rfl, V4, c4, hV4l, hV4d, hc4, hV4v, nV, c66⟩ := h66
              replace k2 := k2.ch c66 (by omega)
              replace k3 := k3.ch c66 (by omega)
              replace k54 := k54.ch c66 (by omega)
              replace kB := kB.ch c66 (by omega)
              replace kM := kM.ch c66 (by omega)
              replace k59 := nV
              replace U := U.cc c66 (by intro b hb; first | exact hb ▸ f59 | omega)
              have hb1 : 18446744073709551616 ^ (n - 1) ≤ bn := hn.ge hz
              have hp8 : 18446744073709551616 ^ n ≤ 18446744073709551616 ^ 8 := Nat.pow_le_pow_right (by decide) (by omega)
              have hc40 : c4 = 0 := by
                rw [hVv, hV8] at hV4v
                rcases Nat.eq_zero_or_pos c4 with h | h
                · exact h
                · exfalso
                  have h1 : 1 * 18446744073709551616 ^ 8 ≤ c4 * 18446744073709551616 ^ 8 := Nat.mul_le_mul_right _ h
                  omega
              subst hc40
              have hV4e : val 18446744073709551616 V4 = bn * 2 ^ s := by rw [Nat.zero_mul, Nat.add_zero, hVv] at hV4v; exact hV4v
              obtain ⟨Wv, tv, hdv, hWvl, hWvd, hWvv⟩ := dec_list V4 n (by omega) (by omega) hV4d (by rw [hV4e]; exact hV2hi)
              have htv : 9223372036854775808 ≤ tv := top_ge Wv tv _ hWvd (by rw [hWvv, hV4e, hWvl]; exact hV2lo)
              have hc90 : c9 = 0 := by
                have h1 : val 18446744073709551616 (Xl ++ [0]) = val 18446744073709551616 Xl := by rw [val_snoc]; simp
                have h2 := val_lt hdx
                rw [hx16] at h2
                rw [h1] at hU9v
                have h3 : val 18446744073709551616 Xl * 2 ^ s < 18446744073709551616 ^ 16 * 18446744073709551616 := Nat.mul_lt_mul'' h2 (Nat.lt_of_lt_of_le (Nat.pow_lt_pow_right (by decide) hs64) (Nat.le_refl (2 ^ 64)))
                rcases Nat.eq_zero_or_pos c9 with h | h
                · exact h
                · exfalso
                  have h4 : 1 * 18446744073709551616 ^ (Xl ++ [0]).length ≤ c9 * 18446744073709551616 ^ (Xl ++ [0]).length := Nat.mul_le_mul_right _ h
                  rw [show (Xl ++ [(0 : Nat)]).length = 16 + 1 by simp [hx16], Nat.pow_succ] at h4 hU9v
                  omega
              subst hc90
              have hU9e : val 18446744073709551616 U9 = val 18446744073709551616 Xl * 2 ^ s := by
                rw [Nat.zero_mul, Nat.add_zero, val_snoc, Nat.mul_zero, Nat.add_zero] at hU9v; exact hU9v
              obtain ⟨A0, D0, hAD, hA0l, hD0l, hA0d, hD0d, hD0v⟩ := kn_init U9 (val 18446744073709551616 Xl) s bn n T.length 17 (by rw [hU9l]; simp [hx16]) hU9 hU9e (by rw [hvX]; exact hres.lt) hs64 hb1 (by omega) htn (by omega)
              obtain ⟨V00, nx, rfl⟩ := snoc_of_len (l := Wv) (by omega)
              have hnV : n = V00.length + 2 := by simp at hWvl; omega
              have hVVe : V00 ++ [nx] ++ [tv] = V00 ++ [nx, tv] := by simp
              rw [hVVe] at hdv hWvd hWvv
              have hVVd := hWvd
              have hVV : val 18446744073709551616 (V00 ++ [nx, tv]) = bn * 2 ^ s := by rw [hWvv, hV4e]
              have hV48 : V4.length = 8 := by omega
              replace k59 : Blk w66 b59 (uL ((V00 ++ [nx, tv]) ++ List.replicate (8 - n) 0)).toArray := by have h := k59; rw [hdv, hV48] at h; simpa using h
              replace k54 : Blk w66 b54 (uL (A0 ++ (D0 ++ List.replicate (17 - A0.length - n) 0))).toArray := by have h := k54; rw [hAD] at h; simpa using h
              refine l_nil ?_
              refine hK65 _ _ ?_
              refine fg6 4 5 6 13 14 15 (gS rfl (gS rfl (gS rfl (gS rfl (gS rfl (gS rfl (gS rfl (gS rfl g0)))))))) (gS rfl (gS rfl (gS rfl (gS rfl (gS rfl (gS rfl (gS rfl g0))))))) (gS rfl (gS rfl (gS rfl (gS rfl (gS rfl (gS rfl g0)))))) (gS rfl (gS rfl (gS rfl (gS rfl (gS rfl g0))))) (gS rfl (gS rfl (gS rfl (gS rfl g0)))) (gS rfl (gS rfl (gS rfl g0))) (fun g => ?_)
              refine c_seq (fun K67 hK67 => ?_)
              refine c_seq (fun K68 hK68 => ?_)
              refine c_region ?_
              refine l_step (y_fld fld_407_0 (et (gS rfl (gS rfl (gS rfl (gS rfl g0)))) rfl)) ?_
              refine l_step (y_load1 one_5 (et g0 rfl) (at1 (k3.cell (show (bL [T.length - n + 1, 0, 0]).toArray[0]? = some (.int .u8 ((T.length - n + 1 : Nat) : Int)) from rfl)))) ?_
              refine l_step (y_assignV (et g0 rfl)) ?_
              refine l_nil ?_
              refine hK68 _ _ ?_
              refine fg7 4 5 6 13 14 15 16 (gS rfl (gS rfl (gS rfl (gS rfl (gS rfl (gS rfl (gS rfl (gS rfl g0)))))))) (gS rfl (gS rfl (gS rfl (gS rfl (gS rfl (gS rfl (gS rfl g0))))))) (gS rfl (gS rfl (gS rfl (gS rfl (gS rfl (gS rfl g0)))))) (gS rfl (gS rfl (gS rfl (gS rfl (gS rfl g0))))) (gS rfl (gS rfl (gS rfl (gS rfl g0)))) (gS rfl (gS rfl (gS rfl g0))) g0 (fun g => ?_)
              refine c_block (fun Q69 hQ69 => ?_)
              refine fg7 4 5 6 13 14 15 16 (gS rfl (gS rfl (gS rfl (gS rfl (gS rfl (gS rfl g0)))))) (gS rfl (gS rfl (gS rfl (gS rfl (gS rfl g0))))) (gS rfl (gS rfl (gS rfl (gS rfl g0)))) (gS rfl (gS rfl (gS rfl g0))) (gS rfl (gS rfl g0)) (gS rfl g0) g0 (fun g => ?_)
              rw [show ((T.length - n + 1 : Nat) : Int) = ((A0.length : Nat) : Int) by rw [hA0l]]
              refine c_loop (fun k_ s_ W70 => ∃ (g : Nat → Value) (A D Qs p : List Nat), s_ = (upd (upd (upd (upd (upd (upd (upd g 4 (.pointer (some ⟨b2, 0, none⟩))) 5 (.pointer (some ⟨b3, 0, none⟩))) 6 (.int .u8 (n : Nat))) 13 (.pointer (some ⟨b54, 0, none⟩))) 14 (.pointer (some ⟨b59, 0, none⟩))) 15 (.int .u8 (s : Nat))) 16 (.int .u8 (A.length : Nat))) ∧ A.length = k_ ∧ (A.length + n ≤ 17) ∧ (D.length = n) ∧ (Dig 18446744073709551616 A) ∧ (Dig 18446744073709551616 D) ∧ (Dig 18446744073709551616 Qs) ∧ (A.length + Qs.length = 16) ∧ (p.length = 3) ∧ (val 18446744073709551616 D < bn * 2 ^ s) ∧ (val 18446744073709551616 (A ++ (D ++ List.replicate (17 - A.length - n) 0)) + bn * 2 ^ s * val 18446744073709551616 (List.replicate A.length 0 ++ Qs) = val 18446744073709551616 Xl * 2 ^ s) ∧ Blk W70 b54 ((uL (A ++ (D ++ List.replicate (17 - A.length - n) 0))).toArray) ∧ Blk W70 b3 ((bL p).toArray) ∧ Ch (fun k => k = b54 ∨ k = b3) w66 W70) ((A0).length) ?_ ?_
              · exact ⟨g, A0, D0, (List.replicate (16 - A0.length) 0), [T.length - n + 1, 0, 0], rfl, rfl, by omega, hD0l, hA0d, hD0d, Dig.rep _ _ (by decide), by simp; omega, rfl, hD0v, by rw [← hAD, hU9e, val_append, val_rep, val_rep]; simp, k54, k3, Ch.refl _ _⟩
              · skip
                intro k_ s_ W70 hI K70 hK70
                obtain ⟨g, A, D, Qs, p, rfl, rfl, hAl, hDl, hAd, hDd, hQd, hQl, hp3, hDv, hacc, nk54, nk3, V70⟩ := hI
                replace k2 := k2.ch V70 (by omega)
                replace k59 := k59.ch V70 (by omega)
                replace kB := kB.ch V70 (by omega)
                replace kM := kM.ch V70 (by omega)
                replace k54 := nk54
                replace k3 := nk3
                replace U := U.cc V70 (by intro b hb; first | exact hb.elim | omega | (simp at hb ⊢; omega))
                refine c_seq (fun K71 hK71 => ?_)
                refine c_seq (fun K72 hK72 => ?_)
                refine c_region ?_
                refine l_step (y_moveV (et g0 rfl)) ?_
                refine l_step (y_gtr (et g0 rfl) rfl) ?_
                refine l_nil ?_
                refine hK72 _ _ ?_
                refine fg8 4 5 6 13 14 15 16 104 (gS rfl (gS rfl (gS rfl (gS rfl (gS rfl (gS rfl (gS rfl (gS rfl g0)))))))) (gS rfl (gS rfl (gS rfl (gS rfl (gS rfl (gS rfl (gS rfl g0))))))) (gS rfl (gS rfl (gS rfl (gS rfl (gS rfl (gS rfl g0)))))) (gS rfl (gS rfl (gS rfl (gS rfl (gS rfl g0))))) (gS rfl (gS rfl (gS rfl (gS rfl g0)))) (gS rfl (gS rfl (gS rfl g0))) (gS rfl (gS rfl g0)) g0 (fun g => ?_)
                refine c_cond (et g0 rfl) (fun cB6 => ?_) (fun cB6 => ?_)
                · skip
                  
                  obtain ⟨A', l, rfl⟩ := snoc_of_len (l := A) (by have := of_decide_eq_true cB6; omega)
                  obtain ⟨pa, pb, pc, rfl⟩ := list3 hp3
                  have hA'l : (A' ++ [l]).length = A'.length + 1 := by simp
                  rw [hA'l] at hAl hQl hacc
                  replace k54 : Blk W70 b54 (uL (A' ++ ((l :: D) ++ List.replicate (17 - (A'.length + 1) - n) 0))).toArray := by have h := k54; rw [hA'l] at h; simpa using h
                  have hMb : val 18446744073709551616 (l :: D) < val 18446744073709551616 (V00 ++ [nx, tv]) * 18446744073709551616 := by
                    have hl' := hAd.right.head
                    rw [val_cons, hVV]; omega
                  refine c_skip ?_
                  refine hK71 _ _ ?_
                  refine fg7 4 5 6 13 14 15 16 (gS rfl (gS rfl (gS rfl (gS rfl (gS rfl (gS rfl (gS rfl g0))))))) (gS rfl (gS rfl (gS rfl (gS rfl (gS rfl (gS rfl g0)))))) (gS rfl (gS rfl (gS rfl (gS rfl (gS rfl g0))))) (gS rfl (gS rfl (gS rfl (gS rfl g0)))) (gS rfl (gS rfl (gS rfl g0))) (gS rfl (gS rfl g0)) (gS rfl g0) (fun g => ?_)
                  refine c_seq (fun K74 hK74 => ?_)
                  refine c_block (fun Q75 hQ75 => ?_)
                  refine c_seq (fun K76 hK76 => ?_)
                  refine c_region ?_
                  refine l_step (y_moveV (et (gS rfl (gS rfl (gS rfl (gS rfl g0)))) rfl)) ?_
                  refine l_step (y_moveV (et (gS rfl g0) rfl)) ?_
                  refine l_step (y_sub (et g0 rfl) rfl ((wrapU_subN (b := 1) uk8 ?_ ?_).trans (castE (show (A' ++ [l]).length - 1 = A'.length by simp)))) ?_
                  simp
                  (simp; omega)
                  have hR := RoundWide_spec b54 b59 (17 - (A'.length + 1) - n) (8 - n) nx tv A' (l :: D) V00 W70 (by omega) (by simp; omega) (by omega) (by simp; omega) (Dig.cons hAd.right.head hDd) hVVd htv hMb k54 k59
                  rw [← hnV] at hR
                  refine l_eff (e_callV cal_403 (aC (et (gS rfl (gS rfl (gS rfl (gS rfl (gS rfl (gS rfl g0)))))) rfl) (aC (et (gS rfl (gS rfl (gS rfl (gS rfl (gS rfl g0))))) rfl) (aC (et (gS rfl (gS rfl g0)) rfl) (aC (et g0 rfl) aN)))) hR) (fun v77 w77 h77 => ?_)
                  obtain ⟨q, f, tb, E0, rfl, hq, hE0l, hE0d, hE0v, nU, c77⟩ := h77
                  replace k2 := k2.ch c77 (by omega)
                  replace k3 := k3.ch c77 (by omega)
                  replace k59 := k59.ch c77 (by omega)
                  replace kB := kB.ch c77 (by omega)
                  replace kM := kM.ch c77 (by omega)
                  replace k54 := nU
                  replace V70 := V70.cc c77 (by intro b hb; first | omega | (simp at hb ⊢; omega))
                  replace U := U.cc c77 (by intro b hb; first | exact hb ▸ f54 | omega)
                  obtain ⟨E, hEe, hEl, hEd, hEv0⟩ := top_zero E0 n hE0d (by rw [hE0l]; simp [hDl]) (by rw [hE0v, hVV]; exact Nat.lt_trans (Nat.mod_lt _ (by omega)) hV2hi)
                  have hEv : val 18446744073709551616 E < bn * 2 ^ s := by rw [hEv0, hE0v, hVV]; exact Nat.mod_lt _ (by omega)
                  have hqB : q < 18446744073709551616 := by rw [hq, Nat.div_lt_iff_lt_mul (by omega), Nat.mul_comm]; exact hMb
                  have hk := kn_keep A' (l :: D) E0 Qs (17 - (A'.length + 1) - n) (bn * 2 ^ s) _ q (by rw [hq, hVV]) hE0l (by rw [hE0v, hVV]) (by simpa using hacc)
                  have hrep : E0 ++ List.replicate (17 - (A'.length + 1) - n) 0 = E ++ List.replicate (17 - A'.length - n) 0 := by
                    rw [hEe, List.append_assoc, List.singleton_append, rep_snoc]; congr 2; omega
                  rw [hrep] at hk
                  replace k54 : Blk w77 b54 (uL (A' ++ (E ++ List.replicate (17 - A'.length - n) 0))).toArray := by have h := k54; rw [hrep] at h; exact h
                  have hacc2 := hk
                  refine l_step (y_moveV (et g0 rfl)) ?_
                  refine l_step (y_ext (et g0 rfl) rfl) ?_
                  refine l_step (y_ext (et (gS rfl g0) rfl) rfl) ?_
                  refine l_step (y_ext (et (gS rfl (gS rfl g0)) rfl) rfl) ?_
                  refine l_step (y_assignV (et (gS rfl (gS rfl g0)) rfl)) ?_
                  refine l_step (y_assignV (et (gS rfl (gS rfl g0)) rfl)) ?_
                  refine l_step (y_assignV (et (gS rfl (gS rfl g0)) rfl)) ?_
                  refine l_nil ?_
                  refine hK76 _ _ ?_
                  refine fg9 4 5 6 13 14 15 16 18 19 (gS rfl (gS rfl (gS rfl (gS rfl (gS rfl (gS rfl (gS rfl (gS rfl (gS rfl (gS rfl (gS rfl (gS rfl (gS rfl (gS rfl (gS rfl (gS rfl (gS rfl g0))))))))))))))))) (gS rfl (gS rfl (gS rfl (gS rfl (gS rfl (gS rfl (gS rfl (gS rfl (gS rfl (gS rfl (gS rfl (gS rfl (gS rfl (gS rfl (gS rfl (gS rfl g0)))))))))))))))) (gS rfl (gS rfl (gS rfl (gS rfl (gS rfl (gS rfl (gS rfl (gS rfl (gS rfl (gS rfl (gS rfl (gS rfl (gS rfl (gS rfl (gS rfl g0))))))))))))))) (gS rfl (gS rfl (gS rfl (gS rfl (gS rfl (gS rfl (gS rfl (gS rfl (gS rfl (gS rfl (gS rfl (gS rfl (gS rfl (gS rfl g0)))))))))))))) (gS rfl (gS rfl (gS rfl (gS rfl (gS rfl (gS rfl (gS rfl (gS rfl (gS rfl (gS rfl (gS rfl (gS rfl (gS rfl g0))))))))))))) (gS rfl (gS rfl (gS rfl (gS rfl (gS rfl (gS rfl (gS rfl (gS rfl (gS rfl (gS rfl (gS rfl (gS rfl g0)))))))))))) (gS rfl (gS rfl (gS rfl (gS rfl (gS rfl (gS rfl (gS rfl (gS rfl (gS rfl (gS rfl (gS rfl g0))))))))))) (gS rfl g0) g0 (fun g => ?_)
                  refine c_seq (fun K78 hK78 => ?_)
                  refine c_region ?_
                  refine l_step (y_fld fld_407_1 (et (gS rfl (gS rfl (gS rfl (gS rfl (gS rfl (gS rfl (gS rfl g0))))))) rfl)) ?_
                  refine l_step (y_load1 one_5 (et g0 rfl) (at1 (k3.cell rfl))) ?_
                  refine l_step (y_moveV (et (gS rfl (gS rfl (gS rfl g0))) rfl)) ?_
                  refine l_step (y_add (et (gS rfl g0) rfl) (et g0 rfl) (wrapU_add uk8)) ?_
                  refine l_step (y_fld fld_407_1 (et (gS rfl (gS rfl (gS rfl (gS rfl (gS rfl (gS rfl (gS rfl (gS rfl (gS rfl (gS rfl (gS rfl g0))))))))))) rfl)) ?_
                  refine l_effN (e_store sz_5 (et g0 rfl) (cellsV (et (gS rfl g0) rfl) rfl) rfl (by first | exact one_bL _ | exact one_uL _ | (intro v hv; simp at hv; subst hv; rfl)) k3 (by first | exact Nat.le_of_ble_eq_true rfl | simp | omega)) (fun v79 w79 h79 => ?_)
                  obtain ⟨rfl, x79⟩ := h79
                  replace k2 := k2.ch x79.ch (by omega)
                  replace k54 := k54.ch x79.ch (by omega)
                  replace k59 := k59.ch x79.ch (by omega)
                  replace kB := kB.ch x79.ch (by first | omega | omega)
                  replace kM := kM.ch x79.ch (by first | omega | omega)
                  replace k3 := x79.blk
                  replace U := U.st x79 f3
                  replace V70 := V70.st x79 (by omega)
                  replace k3 : Blk w79 b3 (bL [pa, (pb + f) % 256, pc]).toArray := k3
                  refine l_nil ?_
                  refine hK78 _ _ ?_
                  refine fg8 4 5 6 13 14 15 16 19 (gS rfl (gS rfl (gS rfl (gS rfl (gS rfl (gS rfl (gS rfl (gS rfl (gS rfl (gS rfl (gS rfl (gS rfl (gS rfl g0))))))))))))) (gS rfl (gS rfl (gS rfl (gS rfl (gS rfl (gS rfl (gS rfl (gS rfl (gS rfl (gS rfl (gS rfl (gS rfl g0)))))))))))) (gS rfl (gS rfl (gS rfl (gS rfl (gS rfl (gS rfl (gS rfl (gS rfl (gS rfl (gS rfl (gS rfl g0))))))))))) (gS rfl (gS rfl (gS rfl (gS rfl (gS rfl (gS rfl (gS rfl (gS rfl (gS rfl (gS rfl g0)))))))))) (gS rfl (gS rfl (gS rfl (gS rfl (gS rfl (gS rfl (gS rfl (gS rfl (gS rfl g0))))))))) (gS rfl (gS rfl (gS rfl (gS rfl (gS rfl (gS rfl (gS rfl (gS rfl g0)))))))) (gS rfl (gS rfl (gS rfl (gS rfl (gS rfl (gS rfl (gS rfl g0))))))) (gS rfl (gS rfl (gS rfl (gS rfl (gS rfl g0))))) (fun g => ?_)
                  refine c_seq (fun K80 hK80 => ?_)
                  refine c_region ?_
                  refine l_step (y_moveV (et g0 rfl)) ?_
                  refine l_nil ?_
                  refine hK80 _ _ ?_
                  refine fg8 4 5 6 13 14 15 16 120 (gS rfl (gS rfl (gS rfl (gS rfl (gS rfl (gS rfl (gS rfl (gS rfl g0)))))))) (gS rfl (gS rfl (gS rfl (gS rfl (gS rfl (gS rfl (gS rfl g0))))))) (gS rfl (gS rfl (gS rfl (gS rfl (gS rfl (gS rfl g0)))))) (gS rfl (gS rfl (gS rfl (gS rfl (gS rfl g0))))) (gS rfl (gS rfl (gS rfl (gS rfl g0)))) (gS rfl (gS rfl (gS rfl g0))) (gS rfl (gS rfl g0)) g0 (fun g => ?_)
                  refine c_cond (et g0 rfl) (fun cB7 => ?_) (fun cB7 => ?_)
                  · skip
                    
                    refine c_region ?_
                    refine l_step (y_fld fld_407_2 (et (gS rfl (gS rfl (gS rfl (gS rfl (gS rfl (gS rfl g0)))))) rfl)) ?_
                    refine l_step (y_load1 one_5 (et g0 rfl) (at1 (k3.cell rfl))) ?_
                    refine l_step (y_add (et g0 rfl) rfl (wrapU_add (b := 1) uk8)) ?_
                    refine l_step (y_fld fld_407_2 (et (gS rfl (gS rfl (gS rfl (gS rfl (gS rfl (gS rfl (gS rfl (gS rfl (gS rfl g0))))))))) rfl)) ?_
                    refine l_effN (e_store sz_5 (et g0 rfl) (cellsV (et (gS rfl g0) rfl) rfl) rfl (by first | exact one_bL _ | exact one_uL _ | (intro v hv; simp at hv; subst hv; rfl)) k3 (by first | exact Nat.le_of_ble_eq_true rfl | simp | omega)) (fun v82 w82 h82 => ?_)
                    obtain ⟨rfl, x82⟩ := h82
                    replace k2 := k2.ch x82.ch (by omega)
                    replace k54 := k54.ch x82.ch (by omega)
                    replace k59 := k59.ch x82.ch (by omega)
                    replace kB := kB.ch x82.ch (by first | omega | omega)
                    replace kM := kM.ch x82.ch (by first | omega | omega)
                    replace k3 := x82.blk
                    replace U := U.st x82 f3
                    replace V70 := V70.st x82 (by omega)
                    replace k3 : Blk w82 b3 (bL [pa, (pb + f) % 256, (pc + 1) % 256]).toArray := k3
                    have hpN : [pa, (pb + f) % 256, (pc + 1) % 256].length = 3 := rfl
                    refine l_nil ?_
                    refine hQ75 _ _ _ (in_normal ?_)
                    refine hK74 _ _ ?_
                    refine fg7 4 5 6 13 14 15 16 (gS rfl (gS rfl (gS rfl (gS rfl (gS rfl (gS rfl (gS rfl (gS rfl (gS rfl (gS rfl (gS rfl g0))))))))))) (gS rfl (gS rfl (gS rfl (gS rfl (gS rfl (gS rfl (gS rfl (gS rfl (gS rfl (gS rfl g0)))))))))) (gS rfl (gS rfl (gS rfl (gS rfl (gS rfl (gS rfl (gS rfl (gS rfl (gS rfl g0))))))))) (gS rfl (gS rfl (gS rfl (gS rfl (gS rfl (gS rfl (gS rfl (gS rfl g0)))))))) (gS rfl (gS rfl (gS rfl (gS rfl (gS rfl (gS rfl (gS rfl g0))))))) (gS rfl (gS rfl (gS rfl (gS rfl (gS rfl (gS rfl g0)))))) (gS rfl (gS rfl (gS rfl (gS rfl (gS rfl g0))))) (fun g => ?_)
                    refine c_region ?_
                    refine l_step (y_moveV (et g0 rfl)) ?_
                    refine l_step (y_sub (et g0 rfl) rfl ((wrapU_subN (b := 1) uk8 ?_ ?_).trans (castE (show (A' ++ [l]).length - 1 = A'.length by simp)))) ?_
                    simp
                    (simp; omega)
                    refine l_step (y_assignV (et g0 rfl)) ?_
                    refine l_nil ?_
                    refine fK7 4 5 6 13 14 15 16 (gS rfl (gS rfl (gS rfl (gS rfl (gS rfl (gS rfl (gS rfl (gS rfl (gS rfl g0))))))))) (gS rfl (gS rfl (gS rfl (gS rfl (gS rfl (gS rfl (gS rfl (gS rfl g0)))))))) (gS rfl (gS rfl (gS rfl (gS rfl (gS rfl (gS rfl (gS rfl g0))))))) (gS rfl (gS rfl (gS rfl (gS rfl (gS rfl (gS rfl g0)))))) (gS rfl (gS rfl (gS rfl (gS rfl (gS rfl g0))))) (gS rfl (gS rfl (gS rfl (gS rfl g0)))) g0 (fun g => ?_)
                    exact hK70 ((A').length) _ _ (by simp) ⟨g, A', E, (q :: Qs), _, rfl, rfl, by omega, hEl, hAd.left, hEd, Dig.cons hqB hQd, by simp; omega, hpN, hEv, hacc2, k54, k3, V70⟩
                  · skip
                    
                    have hpN : [pa, (pb + f) % 256, pc].length = 3 := rfl
                    refine c_skip ?_
                    refine hQ75 _ _ _ (in_normal ?_)
                    refine hK74 _ _ ?_
                    refine fg7 4 5 6 13 14 15 16 (gS rfl (gS rfl (gS rfl (gS rfl (gS rfl (gS rfl (gS rfl g0))))))) (gS rfl (gS rfl (gS rfl (gS rfl (gS rfl (gS rfl g0)))))) (gS rfl (gS rfl (gS rfl (gS rfl (gS rfl g0))))) (gS rfl (gS rfl (gS rfl (gS rfl g0)))) (gS rfl (gS rfl (gS rfl g0))) (gS rfl (gS rfl g0)) (gS rfl g0) (fun g => ?_)
                    refine c_region ?_
                    refine l_step (y_moveV (et g0 rfl)) ?_
                    refine l_step (y_sub (et g0 rfl) rfl ((wrapU_subN (b := 1) uk8 ?_ ?_).trans (castE (show (A' ++ [l]).length - 1 = A'.length by simp)))) ?_
                    simp
                    (simp; omega)
                    refine l_step (y_assignV (et g0 rfl)) ?_
                    refine l_nil ?_
                    refine fK7 4 5 6 13 14 15 16 (gS rfl (gS rfl (gS rfl (gS rfl (gS rfl (gS rfl (gS rfl (gS rfl (gS rfl g0))))))))) (gS rfl (gS rfl (gS rfl (gS rfl (gS rfl (gS rfl (gS rfl (gS rfl g0)))))))) (gS rfl (gS rfl (gS rfl (gS rfl (gS rfl (gS rfl (gS rfl g0))))))) (gS rfl (gS rfl (gS rfl (gS rfl (gS rfl (gS rfl g0)))))) (gS rfl (gS rfl (gS rfl (gS rfl (gS rfl g0))))) (gS rfl (gS rfl (gS rfl (gS rfl g0)))) g0 (fun g => ?_)
                    exact hK70 ((A').length) _ _ (by simp) ⟨g, A', E, (q :: Qs), _, rfl, rfl, by omega, hEl, hAd.left, hEd, Dig.cons hqB hQd, by simp; omega, hpN, hEv, hacc2, k54, k3, V70⟩
                · skip
                  
                  have hA0 : A = [] := List.eq_nil_of_length_eq_zero (by have := of_decide_eq_false cB6; omega)
                  subst hA0
                  obtain ⟨pa, pb, pc, rfl⟩ := list3 hp3
                  replace k54 : Blk W70 b54 (uL (D ++ List.replicate (17 - 0 - n) 0)).toArray := k54
                  obtain ⟨R4, hR4⟩ : ∃ R4, ((D ++ List.replicate (17 - 0 - n) 0).drop 0).take 8 = R4 := ⟨_, rfl⟩
                  have hR4l : R4.length = 8 := by rw [← hR4]; simp; omega
                  have hR4d : Dig 18446744073709551616 R4 := by rw [← hR4]; exact ((hDd.app (Dig.rep _ _ (by decide))).drop 0).take 8
                  have hR4v : val 18446744073709551616 R4 = val 18446744073709551616 D := by
                    have h1 : val 18446744073709551616 (D ++ List.replicate (17 - 0 - n) 0) = val 18446744073709551616 D := by rw [val_append, val_rep]; simp
                    rw [← hR4, List.drop_zero, take_val _ 8 (by simp; omega) (by rw [h1]; exact Nat.lt_of_lt_of_le (Nat.lt_trans hDv hV2hi) hp8), h1]
                  have hfin := kn_done (val 18446744073709551616 Xl) bn s (bn * 2 ^ s) (val 18446744073709551616 D) (val 18446744073709551616 Qs) rfl (by have h := hacc; simpa [val_append, val_rep] using h) hDv
                  refine c_exit ?_
                  refine hQ69 _ _ _ (in_exit ?_)
                  refine hK67 _ _ ?_
                  refine fg4 4 5 13 15 (gS rfl (gS rfl (gS rfl (gS rfl (gS rfl (gS rfl (gS rfl g0))))))) (gS rfl (gS rfl (gS rfl (gS rfl (gS rfl (gS rfl g0)))))) (gS rfl (gS rfl (gS rfl (gS rfl g0)))) (gS rfl (gS rfl g0)) (fun g => ?_)
                  refine c_seq (fun K83 hK83 => ?_)
                  refine c_region ?_
                  refine l_step (y_slA010 Hvaa.underlying447 sz_26 (et (gS rfl g0) rfl) rfl ?_ ?_) ?_
                  decide
                  decide
                  refine l_step (y_s2a Hvaa.underlying336 (et g0 rfl) ?_) ?_
                  decide
                  refine l_step (y_loadR agg_336 sz_336 (et g0 rfl) (by rw [length_uL, hR4l]) (at1R (show Row _ _ 0 (uL R4) from hR4 ▸ (k54.limbs 0 8)))) ?_
                  refine l_effN (e_store sz_336 (et (gS rfl (gS rfl (gS rfl (gS rfl (gS rfl (gS rfl g0)))))) rfl) (cellsV (et g0 rfl) rfl) (by rw [length_uL, hR4l]) (by exact one_uL _) k2 (by (simp only [List.size_toArray, length_uL, hR4l, List.length_replicate]; decide))) (fun v84 w84 h84 => ?_)
                  obtain ⟨rfl, x84⟩ := h84
                  replace k3 := k3.ch x84.ch (by omega)
                  replace k54 := k54.ch x84.ch (by omega)
                  replace k59 := k59.ch x84.ch (by omega)
                  replace kB := kB.ch x84.ch (by first | omega | omega)
                  replace kM := kM.ch x84.ch (by first | omega | omega)
                  replace k2 := x84.blk.full (by simp only [List.size_toArray, length_uL, hR4l, List.length_replicate])
                  replace U := U.st x84 f2
                  refine l_nil ?_
                  refine hK83 _ _ ?_
                  refine fg3 4 5 15 (gS rfl (gS rfl (gS rfl (gS rfl (gS rfl (gS rfl g0)))))) (gS rfl (gS rfl (gS rfl (gS rfl (gS rfl g0))))) (gS rfl (gS rfl (gS rfl g0))) (fun g => ?_)
                  refine c_seq (fun K85 hK85 => ?_)
                  refine c_region ?_
                  refine l_step ((y_slA000 Hvaa.underlying336 sz_26 (et (gS rfl (gS rfl g0)) rfl) ).to (slE (o' := 0) (l' := R4.length) (c' := 8) rfl (by rw [hR4l]) rfl)) ?_
                  refine l_step (y_moveV (et (gS rfl g0) rfl)) ?_
                  refine l_eff (e_callV cal_404 (aC (et (gS rfl g0) rfl) (aC (et g0 rfl) aN)) (shiftDown_spec b2 0 8 s [] R4 [] _ hs64 rfl (by omega) hR4d (by simpa using k2))) (fun v86 w86 h86 => ?_)
                  obtain ⟨rfl, R5, hR5l, hR5d, hR5v, nR, c86⟩ := h86
                  replace k3 := k3.ch c86 (by omega)
                  replace k54 := k54.ch c86 (by omega)
                  replace k59 := k59.ch c86 (by omega)
                  replace kB := kB.ch c86 (by omega)
                  replace kM := kM.ch c86 (by omega)
                  replace k2 := nR
                  replace U := U.cc c86 (by intro b hb; first | exact hb ▸ f2 | omega)
                  replace k2 : Blk w86 b2 (uL R5).toArray := by simpa using k2
                  have hR54 : R5.length = 8 := by omega
                  refine l_nil ?_
                  refine hK85 _ _ ?_
                  refine fg2 4 5 (gS rfl (gS rfl (gS rfl (gS rfl (gS rfl g0))))) (gS rfl (gS rfl (gS rfl (gS rfl g0)))) (fun g => ?_)
                  refine c_seq (fun K87 hK87 => ?_)
                  refine c_draw Up 3 [(0, true), (1, true), (2, false), (3, false)] (by kernel_rfl) (fun w88 hu => ⟨Up.refl _, ?_⟩)
                  replace k2 := k2.up hu
                  replace k3 := k3.up hu
                  replace k54 := k54.up hu
                  replace k59 := k59.up hu
                  replace kB := kB.up hu
                  replace kM := kM.up hu
                  replace U := U.tr hu
                  have SU := Up.refl w88
                  refine p_step (by exact rfl) (y_loadB agg_336 sz_336 (et (gS rfl g0) rfl) (by rw [size_uL, hR54]) (atSB k2)) ?_
                  refine p_step (by exact rfl) (y_loadB agg_407 sz_407 (et (gS rfl g0) rfl) (by first | (simp only [Value.cells, hV, aV, bV, wV, wL, List.size_toArray, length_bL, length_uL, length_be, size_spl, List.length_cons, List.length_nil, List.length_replicate, Nat.zero_add, Nat.reduceAdd, Nat.reduceLeDiff, Nat.le_refl]; done) | rfl) (atSB k3)) ?_
                  refine p_effN (by exact rfl) (e_storeS sz_336 (et (gS rfl (gS rfl (gS rfl g0))) rfl) (cellsV (et (gS rfl g0) rfl) rfl) (by rw [length_uL, hR54]) (by first | exact one_bL _ | exact one_uL _ | (intro v hv; simp at hv; subst hv; rfl)) k2) (fun v89 w89 h89 => ?_)
                  obtain ⟨rfl, x89⟩ := h89
                  replace k2 := k2.up x89
                  replace k3 := k3.up x89
                  replace k54 := k54.up x89
                  replace k59 := k59.up x89
                  replace kB := kB.up x89
                  replace kM := kM.up x89
                  replace U := U.tr x89
                  refine ⟨.inr (SU.tr x89), ?_⟩
                  replace SU := SU.tr x89
                  refine p_effN (by exact rfl) (e_storeS sz_407 (et (gS rfl (gS rfl g0)) rfl) (cellsV (et g0 rfl) rfl) (by first | (simp only [Value.cells, hV, aV, bV, wV, wL, List.size_toArray, length_bL, length_uL, length_be, size_spl, List.length_cons, List.length_nil, List.length_replicate, Nat.zero_add, Nat.reduceAdd, Nat.reduceLeDiff, Nat.le_refl]; done) | rfl) (by first | exact one_bL _ | exact one_uL _ | (intro v hv; simp at hv; subst hv; rfl)) k3) (fun v90 w90 h90 => ?_)
                  obtain ⟨rfl, x90⟩ := h90
                  replace k2 := k2.up x90
                  replace k3 := k3.up x90
                  replace k54 := k54.up x90
                  replace k59 := k59.up x90
                  replace kB := kB.up x90
                  replace kM := kM.up x90
                  replace U := U.tr x90
                  refine ⟨.inl rfl, ?_⟩
                  refine p_nil ?_
                  refine hK87 _ _ ?_
                  refine fg2 4 5 (gS rfl (gS rfl (gS rfl g0))) (gS rfl (gS rfl g0)) (fun g => ?_)
                  refine c_ret ?_
                  refine ret2 rfl (res_blk agg_336 sz_336 (et (gS rfl g0) rfl) (by first | rfl | (rw [size_uL, hR54]; done) | (rw [size_uL, hR0l]; done) | (rw [size_uL]; rfl) | (rw [size_uL]; simp; done)) k2) (res_blk agg_407 sz_407 (et g0 rfl) (by first | rfl | (rw [size_uL, hR54]; done) | (rw [size_uL, hR0l]; done) | (rw [size_uL]; rfl) | (rw [size_uL]; simp; done)) k3) ?_
                  exact ⟨R5, [pa, pb, pc], rfl, hR54, rfl, hR5d, by rw [if_neg hb0, ← hfin.2, ← hR4v, ← hR5v], U⟩
    · skip
      have hP0 : P = [] := List.eq_nil_of_length_eq_zero (by have := of_decide_eq_false q12; omega)
      have hres := Lim.of P r hdP (.inl hP0)
      clear hP0 hlen
      obtain ⟨T, rfl⟩ : ∃ T, T = P := ⟨_, rfl⟩
      have hlT := congrArg List.length hP
      simp only [List.length_append, List.length_replicate] at hlT
      have hvX : val 18446744073709551616 Xl = val 18446744073709551616 T := by rw [hP, val_append, val_rep]; simp
      rw [← hP, hvX] at hres
      refine l_gskip (j := 2) (t := 24) (by exact rfl) (by exact rfl) (et g0 rfl) (by decide) (by decide) ?_
      refine l_gskip (j := 2) (t := 24) (by exact rfl) (by exact rfl) (et (gS rfl g0) rfl) (by decide) (by decide) ?_
      refine l_gskip (j := 2) (t := 24) (by exact rfl) (by exact rfl) (et (gS rfl (gS rfl g0)) rfl) (by decide) (by decide) ?_
      refine l_gskip (j := 2) (t := 24) (by exact rfl) (by exact rfl) (et (gS rfl (gS rfl (gS rfl g0))) rfl) (by decide) (by decide) ?_
      refine l_gskip (j := 2) (t := 24) (by exact rfl) (by exact rfl) (et (gS rfl (gS rfl (gS rfl (gS rfl g0)))) rfl) (by decide) (by decide) ?_
      refine l_gskip (j := 2) (t := 24) (by exact rfl) (by exact rfl) (et (gS rfl (gS rfl (gS rfl (gS rfl (gS rfl g0))))) rfl) (by decide) (by decide) ?_
      refine l_gskip (j := 2) (t := 24) (by exact rfl) (by exact rfl) (et (gS rfl (gS rfl (gS rfl (gS rfl (gS rfl (gS rfl g0)))))) rfl) (by decide) (by decide) ?_
      refine l_step (y_pickF (et (gS rfl (gS rfl (gS rfl (gS rfl (gS rfl (gS rfl (gS rfl g0))))))) rfl) rfl) ?_
      refine l_nil ?_
      refine hK11 _ _ ?_
      refine fg7 0 1 4 5 6 7 32 (gS rfl (gS rfl (gS rfl (gS rfl (gS rfl (gS rfl (gS rfl (gS rfl (gS rfl (gS rfl (gS rfl (gS rfl (gS rfl (gS rfl (gS rfl (gS rfl (gS rfl g0))))))))))))))))) (gS rfl (gS rfl (gS rfl (gS rfl (gS rfl (gS rfl (gS rfl (gS rfl (gS rfl (gS rfl (gS rfl (gS rfl (gS rfl (gS rfl (gS rfl (gS rfl g0)))))))))))))))) (gS rfl (gS rfl (gS rfl (gS rfl (gS rfl (gS rfl (gS rfl (gS rfl (gS rfl (gS rfl (gS rfl (gS rfl (gS rfl (gS rfl (gS rfl g0))))))))))))))) (gS rfl (gS rfl (gS rfl (gS rfl (gS rfl (gS rfl (gS rfl (gS rfl (gS rfl (gS rfl (gS rfl (gS rfl (gS rfl (gS rfl g0)))))))))))))) (gS rfl (gS rfl (gS rfl (gS rfl (gS rfl (gS rfl (gS rfl (gS rfl (gS rfl (gS rfl (gS rfl (gS rfl (gS rfl g0))))))))))))) (gS rfl (gS rfl (gS rfl (gS rfl (gS rfl (gS rfl (gS rfl (gS rfl (gS rfl (gS rfl (gS rfl (gS rfl g0)))))))))))) g0 (fun g => ?_)
      refine c_false (et g0 rfl) rfl ?_
      refine c_exit ?_
      refine hQ8 _ _ _ (in_exit ?_)
      refine hK7 _ _ ?_
      refine fg6 0 1 4 5 6 7 (gS rfl (gS rfl (gS rfl (gS rfl (gS rfl (gS rfl g0)))))) (gS rfl (gS rfl (gS rfl (gS rfl (gS rfl g0))))) (gS rfl (gS rfl (gS rfl (gS rfl g0)))) (gS rfl (gS rfl (gS rfl g0))) (gS rfl (gS rfl g0)) (gS rfl g0) (fun g => ?_)
      refine c_seq (fun K92 hK92 => ?_)
      refine c_seq (fun K93 hK93 => ?_)
      refine c_region ?_
      refine l_step (y_moveV (et (gS rfl g0) rfl)) ?_
      refine l_step (y_eql (et g0 rfl) rfl) ?_
      refine l_nil ?_
      refine hK93 _ _ ?_
      refine fg7 0 1 4 5 6 7 36 (gS rfl (gS rfl (gS rfl (gS rfl (gS rfl (gS rfl (gS rfl g0))))))) (gS rfl (gS rfl (gS rfl (gS rfl (gS rfl (gS rfl g0)))))) (gS rfl (gS rfl (gS rfl (gS rfl (gS rfl g0))))) (gS rfl (gS rfl (gS rfl (gS rfl g0)))) (gS rfl (gS rfl (gS rfl g0))) (gS rfl (gS rfl g0)) g0 (fun g => ?_)
      refine c_cond (et g0 rfl) (fun cB2 => ?_) (fun cB2 => ?_)
      · skip
        
        have hz : n = 0 := by have := of_decide_eq_true cB2; omega
        subst hz
        have hb0 : bn = 0 := hn.zero
        refine c_seq (fun K95 hK95 => ?_)
        refine c_draw Up 3 [(0, true), (1, true), (2, false), (3, false)] (by kernel_rfl) (fun w96 hu => ⟨Up.refl _, ?_⟩)
        replace k2 := k2.up hu
        replace k3 := k3.up hu
        replace kB := kB.up hu
        replace kM := kM.up hu
        replace U := U.tr hu
        have SU := Up.refl w96
        refine p_step (by exact rfl) (y_loadB agg_336 sz_336 (et (gS rfl (gS rfl (gS rfl (gS rfl g0)))) rfl) (by rw [size_uL]; simp) (atSB k2)) ?_
        refine p_step (by exact rfl) (y_loadB agg_407 sz_407 (et (gS rfl (gS rfl (gS rfl (gS rfl g0)))) rfl) (by first | (simp only [Value.cells, hV, aV, bV, wV, wL, List.size_toArray, length_bL, length_uL, length_be, size_spl, List.length_cons, List.length_nil, List.length_replicate, Nat.zero_add, Nat.reduceAdd, Nat.reduceLeDiff, Nat.le_refl]; done) | rfl) (atSB k3)) ?_
        refine p_effN (by exact rfl) (e_storeS sz_336 (et (gS rfl (gS rfl (gS rfl (gS rfl (gS rfl (gS rfl g0)))))) rfl) (cellsV (et (gS rfl g0) rfl) rfl) (by rw [length_uL]; simp) (by first | exact one_bL _ | exact one_uL _ | (intro v hv; simp at hv; subst hv; rfl)) k2) (fun v97 w97 h97 => ?_)
        obtain ⟨rfl, x97⟩ := h97
        replace k2 := k2.up x97
        replace k3 := k3.up x97
        replace kB := kB.up x97
        replace kM := kM.up x97
        replace U := U.tr x97
        refine ⟨.inr (SU.tr x97), ?_⟩
        replace SU := SU.tr x97
        refine p_effN (by exact rfl) (e_storeS sz_407 (et (gS rfl (gS rfl (gS rfl (gS rfl (gS rfl g0))))) rfl) (cellsV (et g0 rfl) rfl) (by first | (simp only [Value.cells, hV, aV, bV, wV, wL, List.size_toArray, length_bL, length_uL, length_be, size_spl, List.length_cons, List.length_nil, List.length_replicate, Nat.zero_add, Nat.reduceAdd, Nat.reduceLeDiff, Nat.le_refl]; done) | rfl) (by first | exact one_bL _ | exact one_uL _ | (intro v hv; simp at hv; subst hv; rfl)) k3) (fun v98 w98 h98 => ?_)
        obtain ⟨rfl, x98⟩ := h98
        replace k2 := k2.up x98
        replace k3 := k3.up x98
        replace kB := kB.up x98
        replace kM := kM.up x98
        replace U := U.tr x98
        refine ⟨.inl rfl, ?_⟩
        refine p_nil ?_
        refine hK95 _ _ ?_
        refine fg2 4 5 (gS rfl (gS rfl (gS rfl (gS rfl (gS rfl (gS rfl g0)))))) (gS rfl (gS rfl (gS rfl (gS rfl (gS rfl g0))))) (fun g => ?_)
        refine c_ret ?_
        refine ret2 rfl (res_blk agg_336 sz_336 (et (gS rfl g0) rfl) (by first | rfl | (rw [size_uL, hR54]; done) | (rw [size_uL, hR0l]; done) | (rw [size_uL]; rfl) | (rw [size_uL]; simp; done)) k2) (res_blk agg_407 sz_407 (et g0 rfl) (by first | rfl | (rw [size_uL, hR54]; done) | (rw [size_uL, hR0l]; done) | (rw [size_uL]; rfl) | (rw [size_uL]; simp; done)) k3) ?_
        exact ⟨List.replicate 8 0, [0, 0, 0], rfl, by simp, rfl, Dig.rep _ _ (by decide), by rw [val_rep, if_pos hb0], U⟩
      · skip
        
        have hz : n ≠ 0 := by have := of_decide_eq_false cB2; omega
        have hb0 : bn ≠ 0 := by
          intro h0
          have h1 := hn.ge hz
          rw [h0] at h1
          have h2 : 0 < 18446744073709551616 ^ (n - 1) := Nat.pow_pos (by decide)
          omega
        refine c_skip ?_
        refine hK92 _ _ ?_
        refine fg6 0 1 4 5 6 7 (gS rfl (gS rfl (gS rfl (gS rfl (gS rfl (gS rfl g0)))))) (gS rfl (gS rfl (gS rfl (gS rfl (gS rfl g0))))) (gS rfl (gS rfl (gS rfl (gS rfl g0)))) (gS rfl (gS rfl (gS rfl g0))) (gS rfl (gS rfl g0)) (gS rfl g0) (fun g => ?_)
        refine c_seq (fun K99 hK99 => ?_)
        refine c_seq (fun K100 hK100 => ?_)
        refine c_region ?_
        refine l_step (y_moveV (et g0 rfl)) ?_
        refine l_step (y_moveV (et (gS rfl (gS rfl g0)) rfl)) ?_
        refine l_step (y_lss (et (gS rfl g0) rfl) (et g0 rfl)) ?_
        refine l_nil ?_
        refine hK100 _ _ ?_
        refine fg7 0 1 4 5 6 7 41 (gS rfl (gS rfl (gS rfl (gS rfl (gS rfl (gS rfl (gS rfl (gS rfl g0)))))))) (gS rfl (gS rfl (gS rfl (gS rfl (gS rfl (gS rfl (gS rfl g0))))))) (gS rfl (gS rfl (gS rfl (gS rfl (gS rfl (gS rfl g0)))))) (gS rfl (gS rfl (gS rfl (gS rfl (gS rfl g0))))) (gS rfl (gS rfl (gS rfl (gS rfl g0)))) (gS rfl (gS rfl (gS rfl g0))) g0 (fun g => ?_)
        refine c_cond (et g0 rfl) (fun cB3 => ?_) (fun cB3 => ?_)
        · skip
          
          have htn : T.length < n := by have := of_decide_eq_true cB3; omega
          have hsm : val 18446744073709551616 T < bn := Nat.lt_of_lt_of_le hres.lt (Nat.le_trans (Nat.pow_le_pow_right (by decide) (by omega)) (hn.ge hz))
          have hsm8 : val 18446744073709551616 Xl < 18446744073709551616 ^ 8 := by rw [hvX]; exact Nat.lt_trans hsm hbn
          obtain ⟨R0, hR0⟩ : ∃ R0, (Xl.drop 0).take 8 = R0 := ⟨_, rfl⟩
          have hR0l : R0.length = 8 := by rw [← hR0]; simp [hx16]
          have hR0d : Dig 18446744073709551616 R0 := by rw [← hR0]; exact (hdx.drop 0).take 8
          have hR0v : val 18446744073709551616 R0 = val 18446744073709551616 Xl := by rw [← hR0, List.drop_zero]; exact take_val _ 8 (by omega) hsm8
          refine c_seq (fun K102 hK102 => ?_)
          refine c_draw (Ch (fun k => k = b2)) 7 [(0, true), (1, true), (2, true), (3, true), (4, true), (5, true), (6, false), (7, false)] (by kernel_rfl) (fun w103 hu => ⟨Ch.refl _ _, ?_⟩)
          replace k2 := k2.up hu
          replace k3 := k3.up hu
          replace kB := kB.up hu
          replace kM := kM.up hu
          replace U := U.tr hu
          have SU : (Ch (fun k => k = b2)) w103 w103 := Ch.refl _ _
          refine p_step (by exact rfl) (y_moveV (et (gS rfl (gS rfl (gS rfl (gS rfl (gS rfl (gS rfl g0)))))) rfl)) ?_
          refine p_step (by exact rfl) (y_nil (et g0 rfl)) ?_
          refine p_step (by exact rfl) (y_slA010 Hvaa.underlying405 sz_26 (et g0 rfl) rfl ?_ ?_) ?_
          decide
          decide
          refine p_step (by exact rfl) (y_s2a Hvaa.underlying336 (et g0 rfl) ?_) ?_
          decide
          refine p_step (by exact rfl) (y_loadR agg_336 sz_336 (et g0 rfl) (by rw [length_uL, hR0l]) (atCR (show Row _ _ 0 (uL R0) from hR0 ▸ (kB.limbs 0 8)) (by omega))) ?_
          refine p_step (by exact rfl) (y_loadB agg_407 sz_407 (et (gS rfl (gS rfl (gS rfl (gS rfl (gS rfl (gS rfl (gS rfl (gS rfl g0)))))))) rfl) (by first | (simp only [Value.cells, hV, aV, bV, wV, wL, List.size_toArray, length_bL, length_uL, length_be, size_spl, List.length_cons, List.length_nil, List.length_replicate, Nat.zero_add, Nat.reduceAdd, Nat.reduceLeDiff, Nat.le_refl]; done) | rfl) (atCB k3 (by omega))) ?_
          refine p_effN (by exact rfl) (e_store sz_336 (et (gS rfl (gS rfl (gS rfl (gS rfl (gS rfl (gS rfl (gS rfl (gS rfl (gS rfl (gS rfl g0)))))))))) rfl) (cellsV (et (gS rfl g0) rfl) rfl) (by rw [length_uL, hR0l]) (by exact one_uL _) k2 (by (simp only [List.size_toArray, length_uL, hR0l, List.length_replicate]; decide))) (fun v104 w104 h104 => ?_)
          obtain ⟨rfl, x104⟩ := h104
          replace k3 := k3.ch x104.ch (by omega)
          replace kB := kB.ch x104.ch (by first | omega | omega)
          replace kM := kM.ch x104.ch (by first | omega | omega)
          replace k2 := x104.blk.full (by simp only [List.size_toArray, length_uL, hR0l, List.length_replicate])
          replace U := U.st x104 f2
          refine ⟨.inr (SU.st x104 (by omega)), ?_⟩
          replace SU := SU.st x104 (by omega)
          refine p_effN (by exact rfl) (e_storeS sz_407 (et (gS rfl (gS rfl (gS rfl (gS rfl (gS rfl (gS rfl (gS rfl (gS rfl (gS rfl g0))))))))) rfl) (cellsV (et g0 rfl) rfl) (by first | (simp only [Value.cells, hV, aV, bV, wV, wL, List.size_toArray, length_bL, length_uL, length_be, size_spl, List.length_cons, List.length_nil, List.length_replicate, Nat.zero_add, Nat.reduceAdd, Nat.reduceLeDiff, Nat.le_refl]; done) | rfl) (by first | exact one_bL _ | exact one_uL _ | (intro v hv; simp at hv; subst hv; rfl)) k3) (fun v105 w105 h105 => ?_)
          obtain ⟨rfl, x105⟩ := h105
          replace k2 := k2.up x105
          replace k3 := k3.up x105
          replace kB := kB.up x105
          replace kM := kM.up x105
          replace U := U.tr x105
          refine ⟨.inl rfl, ?_⟩
          refine p_nil ?_
          refine hK102 _ _ ?_
          refine fg2 4 5 (gS rfl (gS rfl (gS rfl (gS rfl (gS rfl (gS rfl (gS rfl (gS rfl (gS rfl (gS rfl g0)))))))))) (gS rfl (gS rfl (gS rfl (gS rfl (gS rfl (gS rfl (gS rfl (gS rfl (gS rfl g0))))))))) (fun g => ?_)
          refine c_ret ?_
          refine ret2 rfl (res_blk agg_336 sz_336 (et (gS rfl g0) rfl) (by first | rfl | (rw [size_uL, hR54]; done) | (rw [size_uL, hR0l]; done) | (rw [size_uL]; rfl) | (rw [size_uL]; simp; done)) k2) (res_blk agg_407 sz_407 (et g0 rfl) (by first | rfl | (rw [size_uL, hR54]; done) | (rw [size_uL, hR0l]; done) | (rw [size_uL]; rfl) | (rw [size_uL]; simp; done)) k3) ?_
          exact ⟨R0, [0, 0, 0], rfl, hR0l, rfl, hR0d, by rw [if_neg hb0, hR0v, Nat.mod_eq_of_lt (by rw [hvX]; exact hsm)], U⟩
        · skip
          
          have htn : n ≤ T.length := by have := of_decide_eq_false cB3; omega
          refine c_skip ?_
          refine hK99 _ _ ?_
          refine fg6 0 1 4 5 6 7 (gS rfl (gS rfl (gS rfl (gS rfl (gS rfl (gS rfl g0)))))) (gS rfl (gS rfl (gS rfl (gS rfl (gS rfl g0))))) (gS rfl (gS rfl (gS rfl (gS rfl g0)))) (gS rfl (gS rfl (gS rfl g0))) (gS rfl (gS rfl g0)) (gS rfl g0) (fun g => ?_)
          refine c_seq (fun K106 hK106 => ?_)
          refine c_region ?_
          refine l_step (y_moveV (et g0 rfl)) ?_
          refine l_step (y_moveV (et (gS rfl (gS rfl g0)) rfl)) ?_
          refine l_step (y_sub (et (gS rfl g0) rfl) (et g0 rfl) (wrapU_subN uk8 ?_ ?_)) ?_
          omega
          omega
          refine l_step (y_add (et g0 rfl) rfl (wrapU_addN (b := 1) uk8 ?_)) ?_
          omega
          refine l_step (y_fld fld_407_0 (et (gS rfl (gS rfl (gS rfl (gS rfl (gS rfl (gS rfl g0)))))) rfl)) ?_
          refine l_effN (e_store sz_5 (et g0 rfl) (cellsV (et (gS rfl g0) rfl) rfl) rfl (by first | exact one_bL _ | exact one_uL _ | (intro v hv; simp at hv; subst hv; rfl)) k3 (by first | exact Nat.le_of_ble_eq_true rfl | simp | omega)) (fun v107 w107 h107 => ?_)
          obtain ⟨rfl, x107⟩ := h107
          replace k2 := k2.ch x107.ch (by omega)
          replace kB := kB.ch x107.ch (by first | omega | omega)
          replace kM := kM.ch x107.ch (by first | omega | omega)
          replace k3 := x107.blk
          replace U := U.st x107 f3
          replace k3 : Blk w107 b3 (bL [T.length - n + 1, 0, 0]).toArray := k3
          refine l_nil ?_
          refine hK106 _ _ ?_
          refine fg6 0 1 4 5 6 7 (gS rfl (gS rfl (gS rfl (gS rfl (gS rfl (gS rfl (gS rfl (gS rfl (gS rfl (gS rfl g0)))))))))) (gS rfl (gS rfl (gS rfl (gS rfl (gS rfl (gS rfl (gS rfl (gS rfl (gS rfl g0))))))))) (gS rfl (gS rfl (gS rfl (gS rfl (gS rfl (gS rfl (gS rfl (gS rfl g0)))))))) (gS rfl (gS rfl (gS rfl (gS rfl (gS rfl (gS rfl (gS rfl g0))))))) (gS rfl (gS rfl (gS rfl (gS rfl (gS rfl (gS rfl g0)))))) (gS rfl (gS rfl (gS rfl (gS rfl (gS rfl g0))))) (fun g => ?_)
          refine c_seq (fun K108 hK108 => ?_)
          refine c_seq (fun K109 hK109 => ?_)
          refine c_region ?_
          refine l_step (y_moveV (et (gS rfl g0) rfl)) ?_
          refine l_step (y_eql (et g0 rfl) rfl) ?_
          refine l_nil ?_
          refine hK109 _ _ ?_
          refine fg7 0 1 4 5 6 7 54 (gS rfl (gS rfl (gS rfl (gS rfl (gS rfl (gS rfl (gS rfl g0))))))) (gS rfl (gS rfl (gS rfl (gS rfl (gS rfl (gS rfl g0)))))) (gS rfl (gS rfl (gS rfl (gS rfl (gS rfl g0))))) (gS rfl (gS rfl (gS rfl (gS rfl g0)))) (gS rfl (gS rfl (gS rfl g0))) (gS rfl (gS rfl g0)) g0 (fun g => ?_)
          refine c_cond (et g0 rfl) (fun cB4 => ?_) (fun cB4 => ?_)
          · skip
            
            have hn1 : n = 1 := by have := of_decide_eq_true cB4; omega
            subst hn1
            obtain ⟨v0, Vr, rfl⟩ := cons_of_len (l := Vl) (by omega)
            have hv0 := hVd.head
            have hbv : bn = v0 := by
              have h1 := hn.lt
              rw [Nat.pow_one] at h1
              rw [val_cons] at hVv
              omega
            have hv00 : 0 < v0 := by omega
            refine c_seq (fun K111 hK111 => ?_)
            refine c_region ?_
            refine l_step y_assignC ?_
            refine l_nil ?_
            refine hK111 _ _ ?_
            refine fg6 0 1 4 5 7 8 (gS rfl (gS rfl (gS rfl (gS rfl (gS rfl (gS rfl (gS rfl g0))))))) (gS rfl (gS rfl (gS rfl (gS rfl (gS rfl (gS rfl g0)))))) (gS rfl (gS rfl (gS rfl (gS rfl (gS rfl g0))))) (gS rfl (gS rfl (gS rfl (gS rfl g0)))) (gS rfl (gS rfl g0)) g0 (fun g => ?_)
            refine c_seq (fun K112 hK112 => ?_)
            refine c_seq (fun K113 hK113 => ?_)
            refine c_region ?_
            refine l_step (y_moveV (et (gS rfl g0) rfl)) ?_
            refine l_step (y_assignV (et g0 rfl)) ?_
            refine l_nil ?_
            refine hK113 _ _ ?_
            refine fg6 0 1 4 5 8 9 (gS rfl (gS rfl (gS rfl (gS rfl (gS rfl (gS rfl (gS rfl g0))))))) (gS rfl (gS rfl (gS rfl (gS rfl (gS rfl (gS rfl g0)))))) (gS rfl (gS rfl (gS rfl (gS rfl (gS rfl g0))))) (gS rfl (gS rfl (gS rfl (gS rfl g0)))) (gS rfl (gS rfl g0)) g0 (fun g => ?_)
            refine c_block (fun Q114 hQ114 => ?_)
            refine fg6 0 1 4 5 8 9 (gS rfl (gS rfl (gS rfl (gS rfl (gS rfl g0))))) (gS rfl (gS rfl (gS rfl (gS rfl g0)))) (gS rfl (gS rfl (gS rfl g0))) (gS rfl (gS rfl g0)) (gS rfl g0) g0 (fun g => ?_)
            refine c_loop (fun k_ s_ W115 => ∃ (g : Nat → Value) (rm i : Nat), s_ = (upd (upd (upd (upd (upd (upd g 0 (.pointer (some ⟨bx, 0, none⟩))) 1 (.pointer (some ⟨bm, 0, none⟩))) 4 (.pointer (some ⟨b2, 0, none⟩))) 5 (.pointer (some ⟨b3, 0, none⟩))) 8 (.int .u64 (rm : Nat))) 9 (.int .u8 (i : Nat))) ∧ i = k_ ∧ (i ≤ T.length) ∧ (rm = val 18446744073709551616 (Xl.drop i) % v0) ∧ Ch (fun k => False) w107 W115) ((T.length)) ?_ ?_
            · exact ⟨g, 0, T.length, rfl, rfl, Nat.le_refl _, by rw [hP, List.drop_left, val_rep]; simp, Ch.refl _ _⟩
            · skip
              intro k_ s_ W115 hI K115 hK115
              obtain ⟨g, rm, i, rfl, rfl, hi, hrm, V115⟩ := hI
              replace k2 := k2.ch V115 (by exact fun h => h)
              replace k3 := k3.ch V115 (by exact fun h => h)
              replace kB := kB.ch V115 (by first | exact fun h => h | exact fun _ h => h.elim)
              replace kM := kM.ch V115 (by first | exact fun h => h | exact fun _ h => h.elim)
              replace U := U.cc V115 (by intro b hb; first | exact hb.elim | omega | (simp at hb ⊢; omega))
              refine c_seq (fun K116 hK116 => ?_)
              refine c_seq (fun K117 hK117 => ?_)
              refine c_region ?_
              refine l_step (y_moveV (et g0 rfl)) ?_
              refine l_step (y_gtr (et g0 rfl) rfl) ?_
              refine l_nil ?_
              refine hK117 _ _ ?_
              refine fg7 0 1 4 5 8 9 57 (gS rfl (gS rfl (gS rfl (gS rfl (gS rfl (gS rfl (gS rfl g0))))))) (gS rfl (gS rfl (gS rfl (gS rfl (gS rfl (gS rfl g0)))))) (gS rfl (gS rfl (gS rfl (gS rfl (gS rfl g0))))) (gS rfl (gS rfl (gS rfl (gS rfl g0)))) (gS rfl (gS rfl (gS rfl g0))) (gS rfl (gS rfl g0)) g0 (fun g => ?_)
              refine c_cond (et g0 rfl) (fun cB5 => ?_) (fun cB5 => ?_)
              · skip
                simp only [decide_eq_true_eq, decide_eq_false_iff_not, Int.not_lt, Int.not_le, Bool.not_eq_true', Bool.not_eq_false', Bool.not_eq_eq_eq_not, Bool.not_true, Bool.not_false] at cB5
                obtain ⟨i', rfl⟩ : ∃ i', i = i' + 1 := ⟨i - 1, by omega⟩
                have hxi := hdx _ (List.getElem_mem (l := Xl) (n := i') (by omega))
                have hrl : rm < v0 := by rw [hrm]; exact Nat.mod_lt _ hv00
                refine c_skip ?_
                refine hK116 _ _ ?_
                refine fg6 0 1 4 5 8 9 (gS rfl (gS rfl (gS rfl (gS rfl (gS rfl (gS rfl g0)))))) (gS rfl (gS rfl (gS rfl (gS rfl (gS rfl g0))))) (gS rfl (gS rfl (gS rfl (gS rfl g0)))) (gS rfl (gS rfl (gS rfl g0))) (gS rfl (gS rfl g0)) (gS rfl g0) (fun g => ?_)
                refine c_seq (fun K119 hK119 => ?_)
                refine c_block (fun Q120 hQ120 => ?_)
                refine c_seq (fun K121 hK121 => ?_)
                refine c_draw Up 19 [(0, true), (1, true), (2, true), (3, true), (4, true), (5, true), (6, true), (7, true), (8, true), (9, true), (10, true), (11, false), (12, true), (13, true), (14, true), (15, true), (16, true), (17, true), (18, true)] (by kernel_rfl) (fun w122 hu => ⟨Up.refl _, ?_⟩)
                replace k2 := k2.up hu
                replace k3 := k3.up hu
                replace kB := kB.up hu
                replace kM := kM.up hu
                replace U := U.tr hu
                replace V115 := V115.tr hu
                have SU := Up.refl w122
                refine p_step (by exact rfl) (y_moveV (et (gS rfl g0) rfl)) ?_
                refine p_step (by exact rfl) (y_moveV (et (gS rfl (gS rfl (gS rfl (gS rfl (gS rfl (gS rfl g0)))))) rfl)) ?_
                refine p_step (by exact rfl) (y_moveV (et (gS rfl (gS rfl g0)) rfl)) ?_
                refine p_step (by exact rfl) (y_sub (et g0 rfl) rfl ((wrapU_subN (b := 1) uk8 ?_ ?_).trans (castE (show i' + 1 - 1 = i' by omega)))) ?_
                omega
                omega
                refine p_step (by exact rfl) (y_nil (et (gS rfl (gS rfl g0)) rfl)) ?_
                refine p_step (by exact rfl) (y_idxA Hvaa.underlying405 sz_26 (et g0 rfl) (et (gS rfl g0) rfl) ?_ ?_) ?_
                exact Int.natCast_nonneg _
                omega
                refine p_step (by exact rfl) (y_load1 one_26 (et g0 rfl) (atS (kB.cell (uL_getI (i := i') (by omega) (by omega))))) ?_
                refine p_step (by exact rfl) (y_moveV (et (gS rfl (gS rfl (gS rfl (gS rfl (gS rfl (gS rfl (gS rfl (gS rfl (gS rfl (gS rfl (gS rfl g0))))))))))) rfl)) ?_
                refine p_step (by exact rfl) (y_nil (et g0 rfl)) ?_
                refine p_step (by exact rfl) (y_idxAC 0 0 Hvaa.underlying336 sz_26 (et g0 rfl) rfl rfl rfl) ?_
                refine p_step (by exact rfl) (y_load1 one_26 (et g0 rfl) (atS (kM.cell (uL_get [] v0 Vr _ rfl)))) ?_
                refine p_eff (by exact rfl) (e_callV cal_370 (aC (et (gS rfl (gS rfl (gS rfl (gS rfl (gS rfl (gS rfl (gS rfl (gS rfl (gS rfl (gS rfl g0)))))))))) rfl) (aC (et (gS rfl (gS rfl (gS rfl (gS rfl g0)))) rfl) (aC (et g0 rfl) aN))) (div64_spec rm Xl[i'] v0 _ hxi hv0 hrl)) (fun v123 w123 h123 => ?_)
                obtain ⟨rfl, u123⟩ := h123
                replace k2 := k2.up u123
                replace k3 := k3.up u123
                replace kB := kB.up u123
                replace kM := kM.up u123
                replace U := U.tr u123
                replace V115 := V115.tr u123
                refine ⟨.inr (SU.tr u123), ?_⟩
                replace SU := SU.tr u123
                refine p_step (by exact rfl) (y_moveV (et g0 rfl)) ?_
                refine p_step (by exact rfl) (y_ext (et g0 rfl) rfl) ?_
                refine p_step (by exact rfl) (y_ext (et (gS rfl g0) rfl) rfl) ?_
                refine p_step (by exact rfl) (y_ext (et (gS rfl (gS rfl g0)) rfl) rfl) ?_
                refine p_step (by exact rfl) (y_assignV (et (gS rfl (gS rfl g0)) rfl)) ?_
                refine p_step (by exact rfl) (y_assignV (et (gS rfl (gS rfl g0)) rfl)) ?_
                refine p_step (by exact rfl) (y_assignV (et (gS rfl (gS rfl g0)) rfl)) ?_
                refine p_nil ?_
                refine hK121 _ _ ?_
                refine fg6 0 1 4 5 9 11 (gS rfl (gS rfl (gS rfl (gS rfl (gS rfl (gS rfl (gS rfl (gS rfl (gS rfl (gS rfl (gS rfl (gS rfl (gS rfl (gS rfl (gS rfl (gS rfl (gS rfl (gS rfl (gS rfl (gS rfl (gS rfl (gS rfl (gS rfl (gS rfl g0)))))))))))))))))))))))) (gS rfl (gS rfl (gS rfl (gS rfl (gS rfl (gS rfl (gS rfl (gS rfl (gS rfl (gS rfl (gS rfl (gS rfl (gS rfl (gS rfl (gS rfl (gS rfl (gS rfl (gS rfl (gS rfl (gS rfl (gS rfl (gS rfl (gS rfl g0))))))))))))))))))))))) (gS rfl (gS rfl (gS rfl (gS rfl (gS rfl (gS rfl (gS rfl (gS rfl (gS rfl (gS rfl (gS rfl (gS rfl (gS rfl (gS rfl (gS rfl (gS rfl (gS rfl (gS rfl (gS rfl (gS rfl (gS rfl (gS rfl g0)))))))))))))))))))))) (gS rfl (gS rfl (gS rfl (gS rfl (gS rfl (gS rfl (gS rfl (gS rfl (gS rfl (gS rfl (gS rfl (gS rfl (gS rfl (gS rfl (gS rfl (gS rfl (gS rfl (gS rfl (gS rfl (gS rfl (gS rfl g0))))))))))))))))))))) (gS rfl (gS rfl (gS rfl (gS rfl (gS rfl (gS rfl (gS rfl (gS rfl (gS rfl (gS rfl (gS rfl (gS rfl (gS rfl (gS rfl (gS rfl (gS rfl (gS rfl (gS rfl (gS rfl g0))))))))))))))))))) (gS rfl g0) (fun g => ?_)
                refine c_region ?_
                refine l_step (y_moveV (et g0 rfl)) ?_
                refine l_step (y_assignV (et g0 rfl)) ?_
                refine l_nil ?_
                refine hQ120 _ _ _ (in_normal ?_)
                refine hK119 _ _ ?_
                refine fg6 0 1 4 5 9 8 (gS rfl (gS rfl (gS rfl (gS rfl (gS rfl (gS rfl (gS rfl g0))))))) (gS rfl (gS rfl (gS rfl (gS rfl (gS rfl (gS rfl g0)))))) (gS rfl (gS rfl (gS rfl (gS rfl (gS rfl g0))))) (gS rfl (gS rfl (gS rfl (gS rfl g0)))) (gS rfl (gS rfl (gS rfl g0))) g0 (fun g => ?_)
                refine c_region ?_
                refine l_step (y_moveV (et (gS rfl g0) rfl)) ?_
                refine l_step (y_sub (et g0 rfl) rfl ((wrapU_subN (b := 1) uk8 ?_ ?_).trans (castE (show i' + 1 - 1 = i' by omega)))) ?_
                omega
                omega
                refine l_step (y_assignV (et g0 rfl)) ?_
                refine l_nil ?_
                refine fK6 0 1 4 5 8 9 (gS rfl (gS rfl (gS rfl (gS rfl (gS rfl (gS rfl (gS rfl (gS rfl g0)))))))) (gS rfl (gS rfl (gS rfl (gS rfl (gS rfl (gS rfl (gS rfl g0))))))) (gS rfl (gS rfl (gS rfl (gS rfl (gS rfl (gS rfl g0)))))) (gS rfl (gS rfl (gS rfl (gS rfl (gS rfl g0))))) (gS rfl (gS rfl (gS rfl g0))) g0 (fun g => ?_)
                exact hK115 ((i')) _ _ (by omega) ⟨g, ((rm * 18446744073709551616 + Xl[i']) % v0), i', rfl, rfl, by omega, by rw [val_dropU (by omega)]; exact rest_step hrm, V115⟩
              · skip
                simp only [decide_eq_true_eq, decide_eq_false_iff_not, Int.not_lt, Int.not_le, Bool.not_eq_true', Bool.not_eq_false', Bool.not_eq_eq_eq_not, Bool.not_true, Bool.not_false] at cB5
                have hi0 : i = 0 := by omega
                subst hi0
                rw [List.drop_zero] at hrm
                have hrl : rm < v0 := by rw [hrm]; exact Nat.mod_lt _ hv00
                refine c_exit ?_
                refine hQ114 _ _ _ (in_exit ?_)
                refine hK112 _ _ ?_
                refine fg3 4 5 8 (gS rfl (gS rfl (gS rfl (gS rfl g0)))) (gS rfl (gS rfl (gS rfl g0))) (gS rfl (gS rfl g0)) (fun g => ?_)
                refine c_seq (fun K124 hK124 => ?_)
                refine c_region ?_
                refine l_step (y_moveV (et g0 rfl)) ?_
                refine l_step (y_idxAC 0 0 Hvaa.underlying336 sz_26 (et (gS rfl (gS rfl (gS rfl g0))) rfl) rfl rfl rfl) ?_
                refine l_effN (e_store sz_26 (et g0 rfl) (cellsV (et (gS rfl g0) rfl) rfl) rfl (by first | exact one_bL _ | exact one_uL _ | (intro v hv; simp at hv; subst hv; rfl)) k2 (by (simp only [List.size_toArray, length_uL, List.length_replicate]; omega))) (fun v125 w125 h125 => ?_)
                obtain ⟨rfl, x125⟩ := h125
                replace k3 := k3.ch x125.ch (by omega)
                replace kB := kB.ch x125.ch (by first | omega | omega)
                replace kM := kM.ch x125.ch (by first | omega | omega)
                replace k2 := x125.blk
                replace U := U.st x125 f2
                replace k2 : Blk w125 b2 (uL (rm :: List.replicate 7 0)).toArray := k2
                refine l_nil ?_
                refine hK124 _ _ ?_
                refine fg2 4 5 (gS rfl (gS rfl (gS rfl (gS rfl g0)))) (gS rfl (gS rfl (gS rfl g0))) (fun g => ?_)
                refine c_seq (fun K126 hK126 => ?_)
                refine c_draw Up 3 [(0, true), (1, true), (2, false), (3, false)] (by kernel_rfl) (fun w127 hu => ⟨Up.refl _, ?_⟩)
                replace k2 := k2.up hu
                replace k3 := k3.up hu
                replace kB := kB.up hu
                replace kM := kM.up hu
                replace U := U.tr hu
                have SU := Up.refl w127
                refine p_step (by exact rfl) (y_loadB agg_336 sz_336 (et (gS rfl g0) rfl) (by rw [size_uL]; simp) (atSB k2)) ?_
                refine p_step (by exact rfl) (y_loadB agg_407 sz_407 (et (gS rfl g0) rfl) (by first | (simp only [Value.cells, hV, aV, bV, wV, wL, List.size_toArray, length_bL, length_uL, length_be, size_spl, List.length_cons, List.length_nil, List.length_replicate, Nat.zero_add, Nat.reduceAdd, Nat.reduceLeDiff, Nat.le_refl]; done) | rfl) (atSB k3)) ?_
                refine p_effN (by exact rfl) (e_storeS sz_336 (et (gS rfl (gS rfl (gS rfl g0))) rfl) (cellsV (et (gS rfl g0) rfl) rfl) (by rw [length_uL]; simp) (by first | exact one_bL _ | exact one_uL _ | (intro v hv; simp at hv; subst hv; rfl)) k2) (fun v128 w128 h128 => ?_)
                obtain ⟨rfl, x128⟩ := h128
                replace k2 := k2.up x128
                replace k3 := k3.up x128
                replace kB := kB.up x128
                replace kM := kM.up x128
                replace U := U.tr x128
                refine ⟨.inr (SU.tr x128), ?_⟩
                replace SU := SU.tr x128
                refine p_effN (by exact rfl) (e_storeS sz_407 (et (gS rfl (gS rfl g0)) rfl) (cellsV (et g0 rfl) rfl) (by first | (simp only [Value.cells, hV, aV, bV, wV, wL, List.size_toArray, length_bL, length_uL, length_be, size_spl, List.length_cons, List.length_nil, List.length_replicate, Nat.zero_add, Nat.reduceAdd, Nat.reduceLeDiff, Nat.le_refl]; done) | rfl) (by first | exact one_bL _ | exact one_uL _ | (intro v hv; simp at hv; subst hv; rfl)) k3) (fun v129 w129 h129 => ?_)
                obtain ⟨rfl, x129⟩ := h129
                replace k2 := k2.up x129
                replace k3 := k3.up x129
                replace kB := kB.up x129
                replace kM := kM.up x129
                replace U := U.tr x129
                refine ⟨.inl rfl, ?_⟩
                refine p_nil ?_
                refine hK126 _ _ ?_
                refine fg2 4 5 (gS rfl (gS rfl (gS rfl g0))) (gS rfl (gS rfl g0)) (fun g => ?_)
                refine c_ret ?_
                refine ret2 rfl (res_blk agg_336 sz_336 (et (gS rfl g0) rfl) (by first | rfl | (rw [size_uL, hR54]; done) | (rw [size_uL, hR0l]; done) | (rw [size_uL]; rfl) | (rw [size_uL]; simp; done)) k2) (res_blk agg_407 sz_407 (et g0 rfl) (by first | rfl | (rw [size_uL, hR54]; done) | (rw [size_uL, hR0l]; done) | (rw [size_uL]; rfl) | (rw [size_uL]; simp; done)) k3) ?_
                exact ⟨_, _, rfl, rfl, rfl, Dig.cons (by omega) (Dig.rep _ 7 (by decide)), by rw [if_neg hb0, val_cons, val_rep, hbv, ← hrm]; simp, U⟩
          · skip
            
            have hn2 : 2 ≤ n := by have := of_decide_eq_false cB4; omega
            refine c_skip ?_
            refine hK108 _ _ ?_
            refine fg5 0 1 4 5 6 (gS rfl (gS rfl (gS rfl (gS rfl (gS rfl (gS rfl g0)))))) (gS rfl (gS rfl (gS rfl (gS rfl (gS rfl g0))))) (gS rfl (gS rfl (gS rfl (gS rfl g0)))) (gS rfl (gS rfl (gS rfl g0))) (gS rfl (gS rfl g0)) (fun g => ?_)
            refine c_seq (fun K130 hK130 => ?_)
            refine c_region ?_
            refine l_eff (e_alloc zr_447) (fun v131 w131 h131 => ?_)
            obtain ⟨b131, rfl, n131⟩ := h131
            have d2_131 : b2 < b131 := Nat.lt_of_lt_of_le k2.lt n131.fresh
            have d3_131 : b3 < b131 := Nat.lt_of_lt_of_le k3.lt n131.fresh
            have f131 : w.heap.size ≤ b131 := Nat.le_trans U.size n131.fresh
            replace k2 := k2.up n131.up
            replace k3 := k3.up n131.up
            replace kB := kB.up n131.up
            replace kM := kM.up n131.up
            replace U := U.tr n131.up
            have k131 := n131.blk
            replace k131 : Blk w131 b131 (uL (List.replicate 16 0 ++ [0])).toArray := k131
            refine l_nil ?_
            refine hK130 _ _ ?_
            refine c_seq (fun K132 hK132 => ?_)
            refine c_draw Up 4 [(0, true), (1, true), (2, true), (3, true), (4, false)] (by kernel_rfl) (fun w133 hu => ⟨Up.refl _, ?_⟩)
            replace k2 := k2.up hu
            replace k3 := k3.up hu
            replace k131 := k131.up hu
            replace kB := kB.up hu
            replace kM := kM.up hu
            replace U := U.tr hu
            have SU := Up.refl w133
            refine p_step (by exact rfl) (y_slA000 Hvaa.underlying447 sz_26 (et g0 rfl) ) ?_
            refine p_step (by exact rfl) (y_moveV (et (gS rfl (gS rfl (gS rfl (gS rfl (gS rfl (gS rfl g0)))))) rfl)) ?_
            refine p_step (by exact rfl) (y_nil (et g0 rfl)) ?_
            refine p_step (by exact rfl) (y_slA000 Hvaa.underlying405 sz_26 (et g0 rfl) ) ?_
            refine p_eff (by exact rfl) (e_copy (l := uL ((Xl.drop 0).take 16)) Hvaa.underlying317 sz_26 (et (gS rfl (gS rfl (gS rfl g0))) rfl) (et g0 rfl) (by rw [length_uL]; simp [hx16]) (kB.limbs 0 16) (one_uL _) k131 (by rw [size_uL, length_uL]; simp [hx16])) (fun v134 w134 h134 => ?_)
            obtain ⟨rfl, x134⟩ := h134
            replace k2 := k2.ch x134.ch (by omega)
            replace k3 := k3.ch x134.ch (by omega)
            replace kB := kB.ch x134.ch (by omega)
            replace kM := kM.ch x134.ch (by omega)
            replace k131 := x134.blk
            replace U := U.cc x134.ch (by intro b hb; first | exact hb ▸ f131 | omega)
            refine ⟨.inl rfl, ?_⟩
            replace k131 : Blk w134 b131 (uL (Xl ++ [0])).toArray := by
              have h := k131
              rw [List.drop_zero, List.take_of_length_le (by omega), uL_append, spl_pre _ _ _ (by simp [length_uL, hx16])] at h
              rw [uL_append]; exact h
            obtain ⟨Wd, t, hdec, hWl, hWd, hWv⟩ := dec_list Vl n (by omega) (by omega) hVd (by rw [hVv]; exact hn.lt)
            have ht1 : 1 ≤ t := top_ge Wd t 1 hWd (by rw [hWv, Nat.one_mul, hWl, hVv]; exact hn.ge hz)
            have htB : t < 18446744073709551616 := hWd.right.head
            obtain ⟨s, hs, hs64, hnlo, hnhi⟩ := norm_of t ht1 htB
            have hV2lo : 9223372036854775808 * 18446744073709551616 ^ (n - 1) ≤ bn * 2 ^ s := norm_lo Wd t s bn n (by rw [hWv, hVv]) hWl hnlo
            have hV2hi : bn * 2 ^ s < 18446744073709551616 ^ n := norm_hi Wd t s bn n (by rw [hWv, hVv]) hWl (by omega) hWd.left hs64 hnhi
            refine p_nil ?_
            refine hK132 _ _ ?_
            refine fg5 1 4 5 6 13 (gS rfl (gS rfl (gS rfl (gS rfl (gS rfl (gS rfl (gS rfl (gS rfl (gS rfl g0))))))))) (gS rfl (gS rfl (gS rfl (gS rfl (gS rfl (gS rfl (gS rfl (gS rfl g0)))))))) (gS rfl (gS rfl (gS rfl (gS rfl (gS rfl (gS rfl (gS rfl g0))))))) (gS rfl (gS rfl (gS rfl (gS rfl (gS rfl (gS rfl g0)))))) (gS rfl (gS rfl (gS rfl (gS rfl (gS rfl g0))))) (fun g => ?_)
            refine c_seq (fun K135 hK135 => ?_)
            refine c_region ?_
            refine l_step (y_moveV (et (gS rfl (gS rfl (gS rfl (gS rfl g0)))) rfl)) ?_
            refine l_step (y_nil (et g0 rfl)) ?_
            refine l_step (y_loadB agg_336 sz_336 (et g0 rfl) (by rw [size_uL, hV8]) (at1B kM)) ?_
            refine l_eff (e_alloc zr_336) (fun v136 w136 h136 => ?_)
            obtain ⟨b136, rfl, n136⟩ := h136
            have d2_136 : b2 < b136 := Nat.lt_of_lt_of_le k2.lt n136.fresh
            have d3_136 : b3 < b136 := Nat.lt_of_lt_of_le k3.lt n136.fresh
            have d131_136 : b131 < b136 := Nat.lt_of_lt_of_le k131.lt n136.fresh
            have f136 : w.heap.size ≤ b136 := Nat.le_trans U.size n136.fresh
            replace k2 := k2.up n136.up
            replace k3 := k3.up n136.up
            replace k131 := k131.up n136.up
            replace kB := kB.up n136.up
            replace kM := kM.up n136.up
            replace U := U.tr n136.up
            have k136 := n136.blk
            refine l_effN (e_store sz_336 (et g0 rfl) (cellsV (et (gS rfl g0) rfl) rfl) (by rw [length_uL, hV8]) (by exact one_uL _) k136 (by exact Nat.le_refl _)) (fun v137 w137 h137 => ?_)
            obtain ⟨rfl, x137⟩ := h137
            replace k2 := k2.ch x137.ch (by omega)
            replace k3 := k3.ch x137.ch (by omega)
            replace k131 := k131.ch x137.ch (by omega)
            replace kB := kB.ch x137.ch (by first | omega | omega)
            replace kM := kM.ch x137.ch (by first | omega | omega)
            replace k136 := x137.blk.full (by rw [length_uL, hV8]; rfl)
            replace U := U.st x137 f136
            refine l_nil ?_
            refine hK135 _ _ ?_
            refine fg5 4 5 6 13 14 (gS rfl (gS rfl (gS rfl (gS rfl (gS rfl (gS rfl (gS rfl g0))))))) (gS rfl (gS rfl (gS rfl (gS rfl (gS rfl (gS rfl g0)))))) (gS rfl (gS rfl (gS rfl (gS rfl (gS rfl g0))))) (gS rfl (gS rfl (gS rfl (gS rfl g0)))) g0 (fun g => ?_)
            refine c_seq (fun K138 hK138 => ?_)
            refine c_region ?_
            refine l_step (y_moveV (et (gS rfl (gS rfl g0)) rfl)) ?_
            refine l_step (y_sub (et g0 rfl) rfl (wrapU_subN (b := 1) uk8 ?_ ?_)) ?_
            omega
            omega
            refine l_step (y_idxA Hvaa.underlying336 sz_26 (et (gS rfl (gS rfl g0)) rfl) (et g0 rfl) ?_ ?_) ?_
            exact Int.natCast_nonneg _
            omega
            refine l_step (y_load1 one_26 (et g0 rfl) (at1 ((show Blk _ _ (uL (Wd ++ t :: List.replicate (Vl.length - n) 0)).toArray from (by have h := k136; rw [hdec] at h; simpa using h)).cell (uL_get Wd t _ _ (by simp; omega))))) ?_
            refine l_eff (e_callV cal_401 (aC (et g0 rfl) aN) (lz64_spec t _ htB)) (fun v139 w139 h139 => ?_)
            obtain ⟨rfl, u139⟩ := h139
            replace k2 := k2.up u139
            replace k3 := k3.up u139
            replace k131 := k131.up u139
            replace k136 := k136.up u139
            replace kB := kB.up u139
            replace kM := kM.up u139
            replace U := U.tr u139
            refine l_step (y_conv Hvaa.underlying3 Hvaa.underlying5 (et g0 rfl) (cvS8 hs)) ?_
            refine l_step (y_assignV (et g0 rfl)) ?_
            refine l_nil ?_
            refine hK138 _ _ ?_
            refine fg6 4 5 6 13 14 15 (gS rfl (gS rfl (gS rfl (gS rfl (gS rfl (gS rfl (gS rfl (gS rfl (gS rfl (gS rfl (gS rfl g0))))))))))) (gS rfl (gS rfl (gS rfl (gS rfl (gS rfl (gS rfl (gS rfl (gS rfl (gS rfl (gS rfl g0)))))))))) (gS rfl (gS rfl (gS rfl (gS rfl (gS rfl (gS rfl (gS rfl (gS rfl (gS rfl g0))))))))) (gS rfl (gS rfl (gS rfl (gS rfl (gS rfl (gS rfl (gS rfl (gS rfl g0)))))))) (gS rfl (gS rfl (gS rfl (gS rfl (gS rfl (gS rfl (gS rfl g0))))))) g0 (fun g => ?_)
            refine c_seq (fun K140 hK140 => ?_)
            refine c_region ?_
            refine l_step ((y_slA000 Hvaa.underlying447 sz_26 (et (gS rfl (gS rfl g0)) rfl) ).to (slE (o' := 0) (l' := (Xl ++ [0]).length) (c' := 17) rfl (by simp [hx16]) rfl)) ?_
            refine l_step (y_moveV (et (gS rfl g0) rfl)) ?_
            refine l_eff (e_callV cal_402 (aC (et (gS rfl g0) rfl) (aC (et g0 rfl) aN)) (shiftUp_spec b131 0 17 s [] (Xl ++ [0]) [] _ hs64 rfl (by simp; omega) (hdx.app (Dig.one (by decide))) (by simpa using k131))) (fun v141 w141 h141 => ?_)
            obtain ⟨rfl, U9, c9, hU9l, hU9, hc9, hU9v, nU, c141⟩ := h141
            replace k2 := k2.ch c141 (by omega)
            replace k3 := k3.ch c141 (by omega)
            replace k136 := k136.ch c141 (by omega)
            replace kB := kB.ch c141 (by omega)
            replace kM := kM.ch c141 (by omega)
            replace k131 := nU
            replace U := U.cc c141 (by intro b hb; first | exact hb ▸ f131 | omega)
            refine l_nil ?_
            refine hK140 _ _ ?_
            refine fg6 4 5 6 13 14 15 (gS rfl (gS rfl (gS rfl (gS rfl (gS rfl (gS rfl (gS rfl (gS rfl g0)))))))) (gS rfl (gS rfl (gS rfl (gS rfl (gS rfl (gS rfl (gS rfl g0))))))) (gS rfl (gS rfl (gS rfl (gS rfl (gS rfl (gS rfl g0)))))) (gS rfl (gS rfl (gS rfl (gS rfl (gS rfl g0))))) (gS rfl (gS rfl (gS rfl (gS rfl g0)))) (gS rfl (gS rfl (gS rfl g0))) (fun g => ?_)
            refine c_seq (fun K142 hK142 => ?_)
            refine c_region ?_
            refine l_step ((y_slA000 Hvaa.underlying336 sz_26 (et (gS rfl g0) rfl) ).to (slE (o' := 0) (l' := Vl.length) (c' := 8) rfl (by omega) rfl)) ?_
            refine l_step (y_moveV (et (gS rfl g0) rfl)) ?_
            refine l_eff (e_callV cal_402 (aC (et (gS rfl g0) rfl) (aC (et g0 rfl) aN)) (shiftUp_spec b136 0 8 s [] Vl [] _ hs64 rfl (by omega) hVd (by simpa using k136))) (fun v143 w143 h143 => ?_)
            obtain ⟨rfl, V4, c4, hV4l, hV4d, hc4, hV4v, nV, c143⟩ := h143
            replace k2 := k2.ch c143 (by omega)
            replace k3 := k3.ch c143 (by omega)
            replace k131 := k131.ch c143 (by omega)
            replace kB := kB.ch c143 (by omega)
            replace kM := kM.ch c143 (by omega)
            replace k136 := nV
            replace U := U.cc c143 (by intro b hb; first | exact hb ▸ f136 | omega)
            have hb1 : 18446744073709551616 ^ (n - 1) ≤ bn := hn.ge hz
            have hp8 : 18446744073709551616 ^ n ≤ 18446744073709551616 ^ 8 := Nat.pow_le_pow_right (by decide) (by omega)
            have hc40 : c4 = 0 := by
              rw [hVv, hV8] at hV4v
              rcases Nat.eq_zero_or_pos c4 with h | h
              · exact h
              · exfalso
                have h1 : 1 * 18446744073709551616 ^ 8 ≤ c4 * 18446744073709551616 ^ 8 := Nat.mul_le_mul_right _ h
                omega
            subst hc40
            have hV4e : val 18446744073709551616 V4 = bn * 2 ^ s := by rw [Nat.zero_mul, Nat.add_zero, hVv] at hV4v; exact hV4v
            obtain ⟨Wv, tv, hdv, hWvl, hWvd, hWvv⟩ := dec_list V4 n (by omega) (by omega) hV4d (by rw [hV4e]; exact hV2hi)
            have htv : 9223372036854775808 ≤ tv := top_ge Wv tv _ hWvd (by rw [hWvv, hV4e, hWvl]; exact hV2lo)
            have hc90 : c9 = 0 := by
              have h1 : val 18446744073709551616 (Xl ++ [0]) = val 18446744073709551616 Xl := by rw [val_snoc]; simp
              have h2 := val_lt hdx
              rw [hx16] at h2
              rw [h1] at hU9v
              have h3 : val 18446744073709551616 Xl * 2 ^ s < 18446744073709551616 ^ 16 * 18446744073709551616 := Nat.mul_lt_mul'' h2 (Nat.lt_of_lt_of_le (Nat.pow_lt_pow_right (by decide) hs64) (Nat.le_refl (2 ^ 64)))
              rcases Nat.eq_zero_or_pos c9 with h | h
              · exact h
              · exfalso
                have h4 : 1 * 18446744073709551616 ^ (Xl ++ [0]).length ≤ c9 * 18446744073709551616 ^ (Xl ++ [0]).length := Nat.mul_le_mul_right _ h
                rw [show (Xl ++ [(0 : Nat)]).length = 16 + 1 by simp [hx16], Nat.pow_succ] at h4 hU9v
                omega
            subst hc90
            have hU9e : val 18446744073709551616 U9 = val 18446744073709551616 Xl * 2 ^ s := by
              rw [Nat.zero_mul, Nat.add_zero, val_snoc, Nat.mul_zero, Nat.add_zero] at hU9v; exact hU9v
            obtain ⟨A0, D0, hAD, hA0l, hD0l, hA0d, hD0d, hD0v⟩ := kn_init U9 (val 18446744073709551616 Xl) s bn n T.length 17 (by rw [hU9l]; simp [hx16]) hU9 hU9e (by rw [hvX]; exact hres.lt) hs64 hb1 (by omega) htn (by omega)
            obtain ⟨V00, nx, rfl⟩ := snoc_of_len (l := Wv) (by omega)
            have hnV : n = V00.length + 2 := by simp at hWvl; omega
            have hVVe : V00 ++ [nx] ++ [tv] = V00 ++ [nx, tv] := by simp
            rw [hVVe] at hdv hWvd hWvv
            have hVVd := hWvd
            have hVV : val 18446744073709551616 (V00 ++ [nx, tv]) = bn * 2 ^ s := by rw [hWvv, hV4e]
            have hV48 : V4.length = 8 := by omega
            replace k136 : Blk w143 b136 (uL ((V00 ++ [nx, tv]) ++ List.replicate (8 - n) 0)).toArray := by have h := k136; rw [hdv, hV48] at h; simpa using h
            replace k131 : Blk w143 b131 (uL (A0 ++ (D0 ++ List.replicate (17 - A0.length - n) 0))).toArray := by have h := k131; rw [hAD] at h; simpa using h
            refine l_nil ?_
            refine hK142 _ _ ?_
            refine fg6 4 5 6 13 14 15 (gS rfl (gS rfl (gS rfl (gS rfl (gS rfl (gS rfl (gS rfl (gS rfl g0)))))))) (gS rfl (gS rfl (gS rfl (gS rfl (gS rfl (gS rfl (gS rfl g0))))))) (gS rfl (gS rfl (gS rfl (gS rfl (gS rfl (gS rfl g0)))))) (gS rfl (gS rfl (gS rfl (gS rfl (gS rfl g0))))) (gS rfl (gS rfl (gS rfl (gS rfl g0)))) (gS rfl (gS rfl (gS rfl g0))) (fun g => ?_)
            refine c_seq (fun K144 hK144 => ?_)
            refine c_seq (fun K145 hK145 => ?_)
            refine c_region ?_
            refine l_step (y_fld fld_407_0 (et (gS rfl (gS rfl (gS rfl (gS rfl g0)))) rfl)) ?_
            refine l_step (y_load1 one_5 (et g0 rfl) (at1 (k3.cell (show (bL [T.length - n + 1, 0, 0]).toArray[0]? = some (.int .u8 ((T.length - n + 1 : Nat) : Int)) from rfl)))) ?_
            refine l_step (y_assignV (et g0 rfl)) ?_
            refine l_nil ?_
            refine hK145 _ _ ?_
            refine fg7 4 5 6 13 14 15 16 (gS rfl (gS rfl (gS rfl (gS rfl (gS rfl (gS rfl (gS rfl (gS rfl g0)))))))) (gS rfl (gS rfl (gS rfl (gS rfl (gS rfl (gS rfl (gS rfl g0))))))) (gS rfl (gS rfl (gS rfl (gS rfl (gS rfl (gS rfl g0)))))) (gS rfl (gS rfl (gS rfl (gS rfl (gS rfl g0))))) (gS rfl (gS rfl (gS rfl (gS rfl g0)))) (gS rfl (gS rfl (gS rfl g0))) g0 (fun g => ?_)
            refine c_block (fun Q146 hQ146 => ?_)
            refine fg7 4 5 6 13 14 15 16 (gS rfl (gS rfl (gS rfl (gS rfl (gS rfl (gS rfl g0)))))) (gS rfl (gS rfl (gS rfl (gS rfl (gS rfl g0))))) (gS rfl (gS rfl (gS rfl (gS rfl g0)))) (gS rfl (gS rfl (gS rfl g0))) (gS rfl (gS rfl g0)) (gS rfl g0) g0 (fun g => ?_)
            rw [show ((T.length - n + 1 : Nat) : Int) = ((A0.length : Nat) : Int) by rw [hA0l]]
            refine c_loop (fun k_ s_ W147 => ∃ (g : Nat → Value) (A D Qs p : List Nat), s_ = (upd (upd (upd (upd (upd (upd (upd g 4 (.pointer (some ⟨b2, 0, none⟩))) 5 (.pointer (some ⟨b3, 0, none⟩))) 6 (.int .u8 (n : Nat))) 13 (.pointer (some ⟨b131, 0, none⟩))) 14 (.pointer (some ⟨b136, 0, none⟩))) 15 (.int .u8 (s : Nat))) 16 (.int .u8 (A.length : Nat))) ∧ A.length = k_ ∧ (A.length + n ≤ 17) ∧ (D.length = n) ∧ (Dig 18446744073709551616 A) ∧ (Dig 18446744073709551616 D) ∧ (Dig 18446744073709551616 Qs) ∧ (A.length + Qs.length = 16) ∧ (p.length = 3) ∧ (val 18446744073709551616 D < bn * 2 ^ s) ∧ (val 18446744073709551616 (A ++ (D ++ List.replicate (17 - A.length - n) 0)) + bn * 2 ^ s * val 18446744073709551616 (List.replicate A.length 0 ++ Qs) = val 18446744073709551616 Xl * 2 ^ s) ∧ Blk W147 b131 ((uL (A ++ (D ++ List.replicate (17 - A.length - n) 0))).toArray) ∧ Blk W147 b3 ((bL p).toArray) ∧ Ch (fun k => k = b131 ∨ k = b3) w143 W147) ((A0).length) ?_ ?_
            · exact ⟨g, A0, D0, (List.replicate (16 - A0.length) 0), [T.length - n + 1, 0, 0], rfl, rfl, by omega, hD0l, hA0d, hD0d, Dig.rep _ _ (by decide), by simp; omega, rfl, hD0v, by rw [← hAD, hU9e, val_append, val_rep, val_rep]; simp, k131, k3, Ch.refl _ _⟩
            · skip
              intro k_ s_ W147 hI K147 hK147
              obtain ⟨g, A, D, Qs, p, rfl, rfl, hAl, hDl, hAd, hDd, hQd, hQl, hp3, hDv, hacc, nk131, nk3, V147⟩ := hI
              replace k2 := k2.ch V147 (by omega)
              replace k136 := k136.ch V147 (by omega)
              replace kB := kB.ch V147 (by omega)
              replace kM := kM.ch V147 (by omega)
              replace k131 := nk131
              replace k3 := nk3
              replace U := U.cc V147 (by intro b hb; first | exact hb.elim | omega | (simp at hb ⊢; omega))
              refine c_seq (fun K148 hK148 => ?_)
              refine c_seq (fun K149 hK149 => ?_)
              refine c_region ?_
              refine l_step (y_moveV (et g0 rfl)) ?_
              refine l_step (y_gtr (et g0 rfl) rfl) ?_
              refine l_nil ?_
              refine hK149 _ _ ?_
              refine fg8 4 5 6 13 14 15 16 104 (gS rfl (gS rfl (gS rfl (gS rfl (gS rfl (gS rfl (gS rfl (gS rfl g0)))))))) (gS rfl (gS rfl (gS rfl (gS rfl (gS rfl (gS rfl (gS rfl g0))))))) (gS rfl (gS rfl (gS rfl (gS rfl (gS rfl (gS rfl g0)))))) (gS rfl (gS rfl (gS rfl (gS rfl (gS rfl g0))))) (gS rfl (gS rfl (gS rfl (gS rfl g0)))) (gS rfl (gS rfl (gS rfl g0))) (gS rfl (gS rfl g0)) g0 (fun g => ?_)
              refine c_cond (et g0 rfl) (fun cB6 => ?_) (fun cB6 => ?_)
              · skip
                
                obtain ⟨A', l, rfl⟩ := snoc_of_len (l := A) (by have := of_decide_eq_true cB6; omega)
                obtain ⟨pa, pb, pc, rfl⟩ := list3 hp3
                have hA'l : (A' ++ [l]).length = A'.length + 1 := by simp
                rw [hA'l] at hAl hQl hacc
                replace k131 : Blk W147 b131 (uL (A' ++ ((l :: D) ++ List.replicate (17 - (A'.length + 1) - n) 0))).toArray := by have h := k131; rw [hA'l] at h; simpa using h
                have hMb : val 18446744073709551616 (l :: D) < val 18446744073709551616 (V00 ++ [nx, tv]) * 18446744073709551616 := by
                  have hl' := hAd.right.head
                  rw [val_cons, hVV]; omega
                refine c_skip ?_
                refine hK148 _ _ ?_
                refine fg7 4 5 6 13 14 15 16 (gS rfl (gS rfl (gS rfl (gS rfl (gS rfl (gS rfl (gS rfl g0))))))) (gS rfl (gS rfl (gS rfl (gS rfl (gS rfl (gS rfl g0)))))) (gS rfl (gS rfl (gS rfl (gS rfl (gS rfl g0))))) (gS rfl (gS rfl (gS rfl (gS rfl g0)))) (gS rfl (gS rfl (gS rfl g0))) (gS rfl (gS rfl g0)) (gS rfl g0) (fun g => ?_)
                refine c_seq (fun K151 hK151 => ?_)
                refine c_block (fun Q152 hQ152 => ?_)
                refine c_seq (fun K153 hK153 => ?_)
                refine c_region ?_
                refine l_step (y_moveV (et (gS rfl (gS rfl (gS rfl (gS rfl g0)))) rfl)) ?_
                refine l_step (y_moveV (et (gS rfl g0) rfl)) ?_
                refine l_step (y_sub (et g0 rfl) rfl ((wrapU_subN (b := 1) uk8 ?_ ?_).trans (castE (show (A' ++ [l]).length - 1 = A'.length by simp)))) ?_
                simp
                (simp; omega)
                have hR := RoundWide_spec b131 b136 (17 - (A'.length + 1) - n) (8 - n) nx tv A' (l :: D) V00 W147 (by omega) (by simp; omega) (by omega) (by simp; omega) (Dig.cons hAd.right.head hDd) hVVd htv hMb k131 k136
                rw [← hnV] at hR
                refine l_eff (e_callV cal_403 (aC (et (gS rfl (gS rfl (gS rfl (gS rfl (gS rfl (gS rfl g0)))))) rfl) (aC (et (gS rfl (gS rfl (gS rfl (gS rfl (gS rfl g0))))) rfl) (aC (et (gS rfl (gS rfl g0)) rfl) (aC (et g0 rfl) aN)))) hR) (fun v154 w154 h154 => ?_)
                obtain ⟨q, f, tb, E0, rfl, hq, hE0l, hE0d, hE0v, nU, c154⟩ := h154
                replace k2 := k2.ch c154 (by omega)
                replace k3 := k3.ch c154 (by omega)
                replace k136 := k136.ch c154 (by omega)
                replace kB := kB.ch c154 (by omega)
                replace kM := kM.ch c154 (by omega)
                replace k131 := nU
                replace V147 := V147.cc c154 (by intro b hb; first | omega | (simp at hb ⊢; omega))
                replace U := U.cc c154 (by intro b hb; first | exact hb ▸ f131 | omega)
                obtain ⟨E, hEe, hEl, hEd, hEv0⟩ := top_zero E0 n hE0d (by rw [hE0l]; simp [hDl]) (by rw [hE0v, hVV]; exact Nat.lt_trans (Nat.mod_lt _ (by omega)) hV2hi)
                have hEv : val 18446744073709551616 E < bn * 2 ^ s := by rw [hEv0, hE0v, hVV]; exact Nat.mod_lt _ (by omega)
                have hqB : q < 18446744073709551616 := by rw [hq, Nat.div_lt_iff_lt_mul (by omega), Nat.mul_comm]; exact hMb
                have hk := kn_keep A' (l :: D) E0 Qs (17 - (A'.length + 1) - n) (bn * 2 ^ s) _ q (by rw [hq, hVV]) hE0l (by rw [hE0v, hVV]) (by simpa using hacc)
                have hrep : E0 ++ List.replicate (17 - (A'.length + 1) - n) 0 = E ++ List.replicate (17 - A'.length - n) 0 := by
                  rw [hEe, List.append_assoc, List.singleton_append, rep_snoc]; congr 2; omega
                rw [hrep] at hk
                replace k131 : Blk w154 b131 (uL (A' ++ (E ++ List.replicate (17 - A'.length - n) 0))).toArray := by have h := k131; rw [hrep] at h; exact h
                have hacc2 := hk
                refine l_step (y_moveV (et g0 rfl)) ?_
                refine l_step (y_ext (et g0 rfl) rfl) ?_
                refine l_step (y_ext (et (gS rfl g0) rfl) rfl) ?_
                refine l_step (y_ext (et (gS rfl (gS rfl g0)) rfl) rfl) ?_
                refine l_step (y_assignV (et (gS rfl (gS rfl g0)) rfl)) ?_
                refine l_step (y_assignV (et (gS rfl (gS rfl g0)) rfl)) ?_
                refine l_step (y_assignV (et (gS rfl (gS rfl g0)) rfl)) ?_
                refine l_nil ?_
                refine hK153 _ _ ?_
                refine fg9 4 5 6 13 14 15 16 18 19 (gS rfl (gS rfl (gS rfl (gS rfl (gS rfl (gS rfl (gS rfl (gS rfl (gS rfl (gS rfl (gS rfl (gS rfl (gS rfl (gS rfl (gS rfl (gS rfl (gS rfl g0))))))))))))))))) (gS rfl (gS rfl (gS rfl (gS rfl (gS rfl (gS rfl (gS rfl (gS rfl (gS rfl (gS rfl (gS rfl (gS rfl (gS rfl (gS rfl (gS rfl (gS rfl g0)))))))))))))))) (gS rfl (gS rfl (gS rfl (gS rfl (gS rfl (gS rfl (gS rfl (gS rfl (gS rfl (gS rfl (gS rfl (gS rfl (gS rfl (gS rfl (gS rfl g0))))))))))))))) (gS rfl (gS rfl (gS rfl (gS rfl (gS rfl (gS rfl (gS rfl (gS rfl (gS rfl (gS rfl (gS rfl (gS rfl (gS rfl (gS rfl g0)))))))))))))) (gS rfl (gS rfl (gS rfl (gS rfl (gS rfl (gS rfl (gS rfl (gS rfl (gS rfl (gS rfl (gS rfl (gS rfl (gS rfl g0))))))))))))) (gS rfl (gS rfl (gS rfl (gS rfl (gS rfl (gS rfl (gS rfl (gS rfl (gS rfl (gS rfl (gS rfl (gS rfl g0)))))))))))) (gS rfl (gS rfl (gS rfl (gS rfl (gS rfl (gS rfl (gS rfl (gS rfl (gS rfl (gS rfl (gS rfl g0))))))))))) (gS rfl g0) g0 (fun g => ?_)
                refine c_seq (fun K155 hK155 => ?_)
                refine c_region ?_
                refine l_step (y_fld fld_407_1 (et (gS rfl (gS rfl (gS rfl (gS rfl (gS rfl (gS rfl (gS rfl g0))))))) rfl)) ?_
                refine l_step (y_load1 one_5 (et g0 rfl) (at1 (k3.cell rfl))) ?_
                refine l_step (y_moveV (et (gS rfl (gS rfl (gS rfl g0))) rfl)) ?_
                refine l_step (y_add (et (gS rfl g0) rfl) (et g0 rfl) (wrapU_add uk8)) ?_
                refine l_step (y_fld fld_407_1 (et (gS rfl (gS rfl (gS rfl (gS rfl (gS rfl (gS rfl (gS rfl (gS rfl (gS rfl (gS rfl (gS rfl g0))))))))))) rfl)) ?_
                refine l_effN (e_store sz_5 (et g0 rfl) (cellsV (et (gS rfl g0) rfl) rfl) rfl (by first | exact one_bL _ | exact one_uL _ | (intro v hv; simp at hv; subst hv; rfl)) k3 (by first | exact Nat.le_of_ble_eq_true rfl | simp | omega)) (fun v156 w156 h156 => ?_)
                obtain ⟨rfl, x156⟩ := h156
                replace k2 := k2.ch x156.ch (by omega)
                replace k131 := k131.ch x156.ch (by omega)
                replace k136 := k136.ch x156.ch (by omega)
                replace kB := kB.ch x156.ch (by first | omega | omega)
                replace kM := kM.ch x156.ch (by first | omega | omega)
                replace k3 := x156.blk
                replace U := U.st x156 f3
                replace V147 := V147.st x156 (by omega)
                replace k3 : Blk w156 b3 (bL [pa, (pb + f) % 256, pc]).toArray := k3
                refine l_nil ?_
                refine hK155 _ _ ?_
                refine fg8 4 5 6 13 14 15 16 19 (gS rfl (gS rfl (gS rfl (gS rfl (gS rfl (gS rfl (gS rfl (gS rfl (gS rfl (gS rfl (gS rfl (gS rfl (gS rfl g0))))))))))))) (gS rfl (gS rfl (gS rfl (gS rfl (gS rfl (gS rfl (gS rfl (gS rfl (gS rfl (gS rfl (gS rfl (gS rfl g0)))))))))))) (gS rfl (gS rfl (gS rfl (gS rfl (gS rfl (gS rfl (gS rfl (gS rfl (gS rfl (gS rfl (gS rfl g0))))))))))) (gS rfl (gS rfl (gS rfl (gS rfl (gS rfl (gS rfl (gS rfl (gS rfl (gS rfl (gS rfl g0)))))))))) (gS rfl (gS rfl (gS rfl (gS rfl (gS rfl (gS rfl (gS rfl (gS rfl (gS rfl g0))))))))) (gS rfl (gS rfl (gS rfl (gS rfl (gS rfl (gS rfl (gS rfl (gS rfl g0)))))))) (gS rfl (gS rfl (gS rfl (gS rfl (gS rfl (gS rfl (gS rfl g0))))))) (gS rfl (gS rfl (gS rfl (gS rfl (gS rfl g0))))) (fun g => ?_)
                refine c_seq (fun K157 hK157 => ?_)
                refine c_region ?_
                refine l_step (y_moveV (et g0 rfl)) ?_
                refine l_nil ?_
                refine hK157 _ _ ?_
                refine fg8 4 5 6 13 14 15 16 120 (gS rfl (gS rfl (gS rfl (gS rfl (gS rfl (gS rfl (gS rfl (gS rfl g0)))))))) (gS rfl (gS rfl (gS rfl (gS rfl (gS rfl (gS rfl (gS rfl g0))))))) (gS rfl (gS rfl (gS rfl (gS rfl (gS rfl (gS rfl g0)))))) (gS rfl (gS rfl (gS rfl (gS rfl (gS rfl g0))))) (gS rfl (gS rfl (gS rfl (gS rfl g0)))) (gS rfl (gS rfl (gS rfl g0))) (gS rfl (gS rfl g0)) g0 (fun g => ?_)
                refine c_cond (et g0 rfl) (fun cB7 => ?_) (fun cB7 => ?_)
                · skip
                  
                  refine c_region ?_
                  refine l_step (y_fld fld_407_2 (et (gS rfl (gS rfl (gS rfl (gS rfl (gS rfl (gS rfl g0)))))) rfl)) ?_
                  refine l_step (y_load1 one_5 (et g0 rfl) (at1 (k3.cell rfl))) ?_
                  refine l_step (y_add (et g0 rfl) rfl (wrapU_add (b := 1) uk8)) ?_
                  refine l_step (y_fld fld_407_2 (et (gS rfl (gS rfl (gS rfl (gS rfl (gS rfl (gS rfl (gS rfl (gS rfl (gS rfl g0))))))))) rfl)) ?_
                  refine l_effN (e_store sz_5 (et g0 rfl) (cellsV (et (gS rfl g0) rfl) rfl) rfl (by first | exact one_bL _ | exact one_uL _ | (intro v hv; simp at hv; subst hv; rfl)) k3 (by first | exact Nat.le_of_ble_eq_true rfl | simp | omega)) (fun v159 w159 h159 => ?_)
                  obtain ⟨rfl, x159⟩ := h159
                  replace k2 := k2.ch x159.ch (by omega)
                  replace k131 := k131.ch x159.ch (by omega)
                  replace k136 := k136.ch x159.ch (by omega)
                  replace kB := kB.ch x159.ch (by first | omega | omega)
                  replace kM := kM.ch x159.ch (by first | omega | omega)
                  replace k3 := x159.blk
                  replace U := U.st x159 f3
                  replace V147 := V147.st x159 (by omega)
                  replace k3 : Blk w159 b3 (bL [pa, (pb + f) % 256, (pc + 1) % 256]).toArray := k3
                  have hpN : [pa, (pb + f) % 256, (pc + 1) % 256].length = 3 := rfl
                  refine l_nil ?_
                  refine hQ152 _ _ _ (in_normal ?_)
                  refine hK151 _ _ ?_
                  refine fg7 4 5 6 13 14 15 16 (gS rfl (gS rfl (gS rfl (gS rfl (gS rfl (gS rfl (gS rfl (gS rfl (gS rfl (gS rfl (gS rfl g0))))))))))) (gS rfl (gS rfl (gS rfl (gS rfl (gS rfl (gS rfl (gS rfl (gS rfl (gS rfl (gS rfl g0)))))))))) (gS rfl (gS rfl (gS rfl (gS rfl (gS rfl (gS rfl (gS rfl (gS rfl (gS rfl g0))))))))) (gS rfl (gS rfl (gS rfl (gS rfl (gS rfl (gS rfl (gS rfl (gS rfl g0)))))))) (gS rfl (gS rfl (gS rfl (gS rfl (gS rfl (gS rfl (gS rfl g0))))))) (gS rfl (gS rfl (gS rfl (gS rfl (gS rfl (gS rfl g0)))))) (gS rfl (gS rfl (gS rfl (gS rfl (gS rfl g0))))) (fun g => ?_)
                  refine c_region ?_
                  refine l_step (y_moveV (et g0 rfl)) ?_
                  refine l_step (y_sub (et g0 rfl) rfl ((wrapU_subN (b := 1) uk8 ?_ ?_).trans (castE (show (A' ++ [l]).length - 1 = A'.length by simp)))) ?_
                  simp
                  (simp; omega)
                  refine l_step (y_assignV (et g0 rfl)) ?_
                  refine l_nil ?_
                  refine fK7 4 5 6 13 14 15 16 (gS rfl (gS rfl (gS rfl (gS rfl (gS rfl (gS rfl (gS rfl (gS rfl (gS rfl g0))))))))) (gS rfl (gS rfl (gS rfl (gS rfl (gS rfl (gS rfl (gS rfl (gS rfl g0)))))))) (gS rfl (gS rfl (gS rfl (gS rfl (gS rfl (gS rfl (gS rfl g0))))))) (gS rfl (gS rfl (gS rfl (gS rfl (gS rfl (gS rfl g0)))))) (gS rfl (gS rfl (gS rfl (gS rfl (gS rfl g0))))) (gS rfl (gS rfl (gS rfl (gS rfl g0)))) g0 (fun g => ?_)
                  exact hK147 ((A').length) _ _ (by simp) ⟨g, A', E, (q :: Qs), _, rfl, rfl, by omega, hEl, hAd.left, hEd, Dig.cons hqB hQd, by simp; omega, hpN, hEv, hacc2, k131, k3, V147⟩
                · skip
                  
                  have hpN : [pa, (pb + f) % 256, pc].length = 3 := rfl
                  refine c_skip ?_
                  refine hQ152 _ _ _ (in_normal ?_)
                  refine hK151 _ _ ?_
                  refine fg7 4 5 6 13 14 15 16 (gS rfl (gS rfl (gS rfl (gS rfl (gS rfl (gS rfl (gS rfl g0))))))) (gS rfl (gS rfl (gS rfl (gS rfl (gS rfl (gS rfl g0)))))) (gS rfl (gS rfl (gS rfl (gS rfl (gS rfl g0))))) (gS rfl (gS rfl (gS rfl (gS rfl g0)))) (gS rfl (gS rfl (gS rfl g0))) (gS rfl (gS rfl g0)) (gS rfl g0) (fun g => ?_)
                  refine c_region ?_
                  refine l_step (y_moveV (et g0 rfl)) ?_
                  refine l_step (y_sub (et g0 rfl) rfl ((wrapU_subN (b := 1) uk8 ?_ ?_).trans (castE (show (A' ++ [l]).length - 1 = A'.length by simp)))) ?_
                  simp
                  (simp; omega)
                  refine l_step (y_assignV (et g0 rfl)) ?_
                  refine l_nil ?_
                  refine fK7 4 5 6 13 14 15 16 (gS rfl (gS rfl (gS rfl (gS rfl (gS rfl (gS rfl (gS rfl (gS rfl (gS rfl g0))))))))) (gS rfl (gS rfl (gS rfl (gS rfl (gS rfl (gS rfl (gS rfl (gS rfl g0)))))))) (gS rfl (gS rfl (gS rfl (gS rfl (gS rfl (gS rfl (gS rfl g0))))))) (gS rfl (gS rfl (gS rfl (gS rfl (gS rfl (gS rfl g0)))))) (gS rfl (gS rfl (gS rfl (gS rfl (gS rfl g0))))) (gS rfl (gS rfl (gS rfl (gS rfl g0)))) g0 (fun g => ?_)
                  exact hK147 ((A').length) _ _ (by simp) ⟨g, A', E, (q :: Qs), _, rfl, rfl, by omega, hEl, hAd.left, hEd, Dig.cons hqB hQd, by simp; omega, hpN, hEv, hacc2, k131, k3, V147⟩
              · skip
                
                have hA0 : A = [] := List.eq_nil_of_length_eq_zero (by have := of_decide_eq_false cB6; omega)
                subst hA0
                obtain ⟨pa, pb, pc, rfl⟩ := list3 hp3
                replace k131 : Blk W147 b131 (uL (D ++ List.replicate (17 - 0 - n) 0)).toArray := k131
                obtain ⟨R4, hR4⟩ : ∃ R4, ((D ++ List.replicate (17 - 0 - n) 0).drop 0).take 8 = R4 := ⟨_, rfl⟩
                have hR4l : R4.length = 8 := by rw [← hR4]; simp; omega
                have hR4d : Dig 18446744073709551616 R4 := by rw [← hR4]; exact ((hDd.app (Dig.rep _ _ (by decide))).drop 0).take 8
                have hR4v : val 18446744073709551616 R4 = val 18446744073709551616 D := by
                  have h1 : val 18446744073709551616 (D ++ List.replicate (17 - 0 - n) 0) = val 18446744073709551616 D := by rw [val_append, val_rep]; simp
                  rw [← hR4, List.drop_zero, take_val _ 8 (by simp; omega) (by rw [h1]; exact Nat.lt_of_lt_of_le (Nat.lt_trans hDv hV2hi) hp8), h1]
                have hfin := kn_done (val 18446744073709551616 Xl) bn s (bn * 2 ^ s) (val 18446744073709551616 D) (val 18446744073709551616 Qs) rfl (by have h := hacc; simpa [val_append, val_rep] using h) hDv
                refine c_exit ?_
                refine hQ146 _ _ _ (in_exit ?_)
                refine hK144 _ _ ?_
                refine fg4 4 5 13 15 (gS rfl (gS rfl (gS rfl (gS rfl (gS rfl (gS rfl (gS rfl g0))))))) (gS rfl (gS rfl (gS rfl (gS rfl (gS rfl (gS rfl g0)))))) (gS rfl (gS rfl (gS rfl (gS rfl g0)))) (gS rfl (gS rfl g0)) (fun g => ?_)
                refine c_seq (fun K160 hK160 => ?_)
                refine c_region ?_
                refine l_step (y_slA010 Hvaa.underlying447 sz_26 (et (gS rfl g0) rfl) rfl ?_ ?_) ?_
                decide
                decide
                refine l_step (y_s2a Hvaa.underlying336 (et g0 rfl) ?_) ?_
                decide
                refine l_step (y_loadR agg_336 sz_336 (et g0 rfl) (by rw [length_uL, hR4l]) (at1R (show Row _ _ 0 (uL R4) from hR4 ▸ (k131.limbs 0 8)))) ?_
                refine l_effN (e_store sz_336 (et (gS rfl (gS rfl (gS rfl (gS rfl (gS rfl (gS rfl g0)))))) rfl) (cellsV (et g0 rfl) rfl) (by rw [length_uL, hR4l]) (by exact one_uL _) k2 (by (simp only [List.size_toArray, length_uL, hR4l, List.length_replicate]; decide))) (fun v161 w161 h161 => ?_)
                obtain ⟨rfl, x161⟩ := h161
                replace k3 := k3.ch x161.ch (by omega)
                replace k131 := k131.ch x161.ch (by omega)
                replace k136 := k136.ch x161.ch (by omega)
                replace kB := kB.ch x161.ch (by first | omega | omega)
                replace kM := kM.ch x161.ch (by first | omega | omega)
                replace k2 := x161.blk.full (by simp only [List.size_toArray, length_uL, hR4l, List.length_replicate])
                replace U := U.st x161 f2
                refine l_nil ?_
                refine hK160 _ _ ?_
                refine fg3 4 5 15 (gS rfl (gS rfl (gS rfl (gS rfl (gS rfl (gS rfl g0)))))) (gS rfl (gS rfl (gS rfl (gS rfl (gS rfl g0))))) (gS rfl (gS rfl (gS rfl g0))) (fun g => ?_)
                refine c_seq (fun K162 hK162 => ?_)
                refine c_region ?_
                refine l_step ((y_slA000 Hvaa.underlying336 sz_26 (et (gS rfl (gS rfl g0)) rfl) ).to (slE (o' := 0) (l' := R4.length) (c' := 8) rfl (by rw [hR4l]) rfl)) ?_
                refine l_step (y_moveV (et (gS rfl g0) rfl)) ?_
                refine l_eff (e_callV cal_404 (aC (et (gS rfl g0) rfl) (aC (et g0 rfl) aN)) (shiftDown_spec b2 0 8 s [] R4 [] _ hs64 rfl (by omega) hR4d (by simpa using k2))) (fun v163 w163 h163 => ?_)
                obtain ⟨rfl, R5, hR5l, hR5d, hR5v, nR, c163⟩ := h163
                replace k3 := k3.ch c163 (by omega)
                replace k131 := k131.ch c163 (by omega)
                replace k136 := k136.ch c163 (by omega)
                replace kB := kB.ch c163 (by omega)
                replace kM := kM.ch c163 (by omega)
                replace k2 := nR
                replace U := U.cc c163 (by intro b hb; first | exact hb ▸ f2 | omega)
                replace k2 : Blk w163 b2 (uL R5).toArray := by simpa using k2
                have hR54 : R5.length = 8 := by omega
                refine l_nil ?_
                refine hK162 _ _ ?_
                refine fg2 4 5 (gS rfl (gS rfl (gS rfl (gS rfl (gS rfl g0))))) (gS rfl (gS rfl (gS rfl (gS rfl g0)))) (fun g => ?_)
                refine c_seq (fun K164 hK164 => ?_)
                refine c_draw Up 3 [(0, true), (1, true), (2, false), (3, false)] (by kernel_rfl) (fun w165 hu => ⟨Up.refl _, ?_⟩)
                replace k2 := k2.up hu
                replace k3 := k3.up hu
                replace k131 := k131.up hu
                replace k136 := k136.up hu
                replace kB := kB.up hu
                replace kM := kM.up hu
                replace U := U.tr hu
                have SU := Up.refl w165
                refine p_step (by exact rfl) (y_loadB agg_336 sz_336 (et (gS rfl g0) rfl) (by rw [size_uL, hR54]) (atSB k2)) ?_
                refine p_step (by exact rfl) (y_loadB agg_407 sz_407 (et (gS rfl g0) rfl) (by first | (simp only [Value.cells, hV, aV, bV, wV, wL, List.size_toArray, length_bL, length_uL, length_be, size_spl, List.length_cons, List.length_nil, List.length_replicate, Nat.zero_add, Nat.reduceAdd, Nat.reduceLeDiff, Nat.le_refl]; done) | rfl) (atSB k3)) ?_
                refine p_effN (by exact rfl) (e_storeS sz_336 (et (gS rfl (gS rfl (gS rfl g0))) rfl) (cellsV (et (gS rfl g0) rfl) rfl) (by rw [length_uL, hR54]) (by first | exact one_bL _ | exact one_uL _ | (intro v hv; simp at hv; subst hv; rfl)) k2) (fun v166 w166 h166 => ?_)
                obtain ⟨rfl, x166⟩ := h166
                replace k2 := k2.up x166
                replace k3 := k3.up x166
                replace k131 := k131.up x166
                replace k136 := k136.up x166
                replace kB := kB.up x166
                replace kM := kM.up x166
                replace U := U.tr x166
                refine ⟨.inr (SU.tr x166), ?_⟩
                replace SU := SU.tr x166
                refine p_effN (by exact rfl) (e_storeS sz_407 (et (gS rfl (gS rfl g0)) rfl) (cellsV (et g0 rfl) rfl) (by first | (simp only [Value.cells, hV, aV, bV, wV, wL, List.size_toArray, length_bL, length_uL, length_be, size_spl, List.length_cons, List.length_nil, List.length_replicate, Nat.zero_add, Nat.reduceAdd, Nat.reduceLeDiff, Nat.le_refl]; done) | rfl) (by first | exact one_bL _ | exact one_uL _ | (intro v hv; simp at hv; subst hv; rfl)) k3) (fun v167 w167 h167 => ?_)
                obtain ⟨rfl, x167⟩ := h167
                replace k2 := k2.up x167
                replace k3 := k3.up x167
                replace k131 := k131.up x167
                replace k136 := k136.up x167
                replace kB := kB.up x167
                replace kM := kM.up x167
                replace U := U.tr x167
                refine ⟨.inl rfl, ?_⟩
                refine p_nil ?_
                refine hK164 _ _ ?_
                refine fg2 4 5 (gS rfl (gS rfl (gS rfl g0))) (gS rfl (gS rfl g0)) (fun g => ?_)
                refine c_ret ?_
                refine ret2 rfl (res_blk agg_336 sz_336 (et (gS rfl g0) rfl) (by first | rfl | (rw [size_uL, hR54]; done) | (rw [size_uL, hR0l]; done) | (rw [size_uL]; rfl) | (rw [size_uL]; simp; done)) k2) (res_blk agg_407 sz_407 (et g0 rfl) (by first | rfl | (rw [size_uL, hR54]; done) | (rw [size_uL, hR0l]; done) | (rw [size_uL]; rfl) | (rw [size_uL]; simp; done)) k3) ?_
                exact ⟨R5, [pa, pb, pc], rfl, hR54, rfl, hR5d, by rw [if_neg hb0, ← hfin.2, ← hR4v, ← hR5v], U⟩
end Go.Proofs.YgvaawGreat
