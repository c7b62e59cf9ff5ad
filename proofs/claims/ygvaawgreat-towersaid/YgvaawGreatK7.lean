import Derived.Test.YgvaawGreatK6
set_option maxRecDepth 100000
set_option maxHeartbeats 4000000
set_option linter.unusedSimpArgs false
set_option linter.unusedVariables false
namespace Go.Proofs.YgvaawGreat
open Go
/-- the lanes with the first i words of a block laid on them -/
def w8 (m : List Nat) (j : Nat) : Nat := ofBE ((m.drop (8 * j)).take 8)
def xorK (m : List Nat) (i : Nat) (l : List Nat) : List Nat := l.mapIdx (fun j x => if j < i then x ^^^ trnN (w8 m j) else x)
def absL (l m : List Nat) : List Nat := rndN 24 (xorK m 17 l)
theorem trn_lt {x : Nat} (hx : x < 18446744073709551616) : trnN x < 18446744073709551616 := by
  have h1 : ∀ y : Nat, y < 18446744073709551616 → trn1 y < 18446744073709551616 := fun y hy => or64 (and64 (by decide)) (mod64 _)
  have h2 : ∀ y : Nat, y < 18446744073709551616 → trn2 y < 18446744073709551616 := fun y hy => or64 (and64 (by decide)) (mod64 _)
  have h3 : ∀ y : Nat, y < 18446744073709551616 → trn3 y < 18446744073709551616 := fun y hy => or64 (shr64 hy) (mod64 _)
  exact h3 _ (h2 _ (h1 _ hx))
theorem w8_lt {m : List Nat} (hd : Dig 256 m) (j : Nat) : w8 m j < 18446744073709551616 := by
  unfold w8
  have h := ofBE_lt ((m.drop (8 * j)).take 8) (fun d h => hd d (List.mem_of_mem_drop (List.mem_of_mem_take h)))
  refine Nat.lt_of_lt_of_le h ?_
  rw [show (18446744073709551616 : Nat) = 256 ^ 8 by decide]
  exact Nat.pow_le_pow_right (by decide) (by rw [List.length_take]; omega)
theorem xorK_len (m : List Nat) (i : Nat) (l : List Nat) : (xorK m i l).length = l.length := by simp [xorK]
theorem xorK_zero (m l : List Nat) : xorK m 0 l = l := by
  apply List.ext_getElem?
  intro j
  simp [xorK]
theorem xorK_lan {m l : List Nat} (hd : Dig 256 m) (h : Lan l) (i : Nat) : Lan (xorK m i l) := by
  refine ⟨by rw [xorK_len]; exact h.len, fun x hx => ?_⟩
  unfold xorK at hx
  obtain ⟨j, hj, rfl⟩ := List.getElem_of_mem hx
  rw [List.getElem_mapIdx]
  split
  · exact x64 (h.lt _ (List.getElem_mem _)) (trn_lt (w8_lt hd j))
  · exact h.lt _ (List.getElem_mem _)
theorem xorK_get {m l : List Nat} {i : Nat} (hi : i < l.length) : (xorK m i l)[i]? = l[i]? := by
  unfold xorK
  rw [List.getElem?_mapIdx, List.getElem?_eq_getElem hi]
  simp
theorem xorK_set {m l : List Nat} {i : Nat} (hi : i < l.length) : (xorK m i l).set i (l[i] ^^^ trnN (w8 m i)) = xorK m (i + 1) l := by
  apply List.ext_getElem?
  intro j
  rw [List.getElem?_set]
  by_cases hij : i = j
  · subst hij
    rw [if_pos rfl, if_pos (by rw [xorK_len]; exact hi)]
    unfold xorK
    rw [List.getElem?_mapIdx, List.getElem?_eq_getElem hi]
    simp
  · rw [if_neg hij]
    unfold xorK
    rw [List.getElem?_mapIdx, List.getElem?_mapIdx]
    cases l[j]? with
    | none => rfl
    | some x =>
      simp only [Option.map_some]
      congr 1
      by_cases h1 : j < i
      · rw [if_pos h1, if_pos (by omega)]
      · rw [if_neg h1, if_neg (by omega)]
theorem lan_celli {l : List Nat} {i : Nat} (hi : i < l.length) : (uL l).toArray[i]? = some (.int .u64 ((l[i] : Nat) : Int)) := by
  rw [List.getElem?_toArray, uL, List.getElem?_map, List.getElem?_eq_getElem hi]
  rfl
theorem lan_seti {l : List Nat} {i x : Nat} : spl (uL l).toArray i [.int .u64 (x : Nat)] = (uL (l.set i x)).toArray := by
  show (uL l).toArray.setIfInBounds i _ = _
  rw [List.setIfInBounds_toArray, uL, uL, List.map_set]
  rfl
theorem Row.part8 {w : World} {b o i : Nat} {m : List Nat} (h : Row w b o (bL m)) (hi : 8 * i + 8 ≤ m.length) : Row w b (o + 8 * i) (bL ((m.drop (8 * i)).take 8)) := by
  intro j v hv
  have hj : j < 8 := by
    have := (List.getElem?_eq_some_iff.1 hv).1
    rw [length_bL, List.length_take] at this
    omega
  rw [Nat.add_assoc]
  refine h (8 * i + j) v ?_
  rw [← hv]
  simp only [bL, List.getElem?_map, List.getElem?_take, List.getElem?_drop, if_pos hj]
theorem kec_absorb {b bb oo : Nat} {l m : List Nat} {w : World} (hl : Lan l) (kA : Blk w b (uL l).toArray) (hR : Row w bb oo (bL m)) (hm : m.length = 136) (hd : Dig 256 m) (hbb : bb ≠ b) (lB : bb < w.heap.size) :
    Ret 242 [.pointer (some ⟨b, 0, none⟩), .pointer (some ⟨bb, oo, none⟩)] w (fun v w' => v = .tuple #[] ∧ Blk w' b (uL (absL l m)).toArray ∧ Ch (fun k => k = b) w w') := by
  have lA := kA.lt
  refine enter (n := 32) Hvaa.func242 rfl rfl (Nat.le_of_ble_eq_true rfl) ?_
  have U : Ch (fun k => k = b) w w := Ch.refl _ w
  refine c_seq (fun K1 hK1 => ?_)
  refine c_seq (fun K2 hK2 => ?_)
  refine c_region ?_
  refine l_step y_assignC ?_
  refine l_nil ?_
  refine hK2 _ _ ?_
  refine c_block (fun Q3 hQ3 => ?_)
  refine fg3 0 1 4 (gS rfl g0) (gS rfl (gS rfl g0)) g0 (fun g => ?_)
  replace kA : Blk w b (uL (xorK m 0 l)).toArray := by rw [xorK_zero]; exact kA
  refine c_loop (fun k_ s_ W4 => ∃ (g : Nat → Value) (i : Nat), s_ = (upd (upd (upd g 0 (.pointer (some ⟨b, 0, none⟩))) 1 (.pointer (some ⟨bb, oo, none⟩))) 4 (.int .i64 (i : Nat))) ∧ 17 - i = k_ ∧ (i ≤ 17) ∧ Blk W4 b ((uL (xorK m i l)).toArray) ∧ Ch (fun k => k = b) w W4) (17 - (0)) ?_ ?_
  · exact ⟨g, 0, rfl, rfl, Nat.zero_le _, kA, Ch.refl _ _⟩
  · skip
    intro k_ s_ W4 hI K4 hK4
    obtain ⟨g, i, rfl, rfl, hi, nkA, V4⟩ := hI
    replace hR := hR.ch V4 (by omega)
    replace kA := nkA
    replace U := U.cc V4 (by intro b hb; first | exact hb.elim | omega | (simp at hb ⊢; omega))
    refine c_seq (fun K5 hK5 => ?_)
    refine c_seq (fun K6 hK6 => ?_)
    refine c_region ?_
    refine l_step (y_moveV (et g0 rfl)) ?_
    refine l_step (y_lss (et g0 rfl) rfl) ?_
    refine l_nil ?_
    refine hK6 _ _ ?_
    refine fg4 0 1 4 8 (gS rfl (gS rfl (gS rfl (gS rfl g0)))) (gS rfl (gS rfl (gS rfl g0))) (gS rfl (gS rfl g0)) g0 (fun g => ?_)
    refine c_cond (et g0 rfl) (fun cB1 => ?_) (fun cB1 => ?_)
    · skip
      
      have hil : i < 17 := by have := of_decide_eq_true cB1; omega
      refine c_skip ?_
      refine hK5 _ _ ?_
      refine fg3 0 1 4 (gS rfl (gS rfl (gS rfl g0))) (gS rfl (gS rfl g0)) (gS rfl g0) (fun g => ?_)
      refine c_seq (fun K8 hK8 => ?_)
      refine c_block (fun Q9 hQ9 => ?_)
      refine c_seq (fun K10 hK10 => ?_)
      refine c_region ?_
      refine l_step (y_moveV (et (gS rfl g0) rfl)) ?_
      refine l_step (y_nil (et g0 rfl)) ?_
      refine l_step (y_slA000 Hvaa.underlying322 sz_5 (et g0 rfl) ) ?_
      refine l_step (y_moveV (et (gS rfl (gS rfl (gS rfl g0))) rfl)) ?_
      refine l_step (y_mul rfl (et g0 rfl) (mulIN (x := 8) ?_)) ?_
      omega
      refine l_eff (e_callV cal_156 (aC (et (gS rfl (gS rfl g0)) rfl) (aC (et g0 rfl) aN)) (be64_l _ _ _ _ _ ((m.drop (8 * i)).take 8) _ (by omega) (Nat.le_refl _) (by decide) (by rw [List.length_take, List.length_drop]; omega) (fun d h => hd d (List.mem_of_mem_drop (List.mem_of_mem_take h))) (hR.part8 (by omega)))) (fun v11 w11 h11 => ?_)
      obtain ⟨rfl, u11⟩ := h11
      replace kA := kA.up u11
      replace hR := hR.up u11
      replace U := U.tr u11
      replace V4 := V4.tr u11
      refine l_step (y_moveV (et g0 rfl)) ?_
      refine l_step (y_ext (et g0 rfl) rfl) ?_
      refine l_step (y_ext (et (gS rfl g0) rfl) rfl) ?_
      refine l_step (y_assignV (et (gS rfl g0) rfl)) ?_
      refine l_step (y_assignV (et (gS rfl g0) rfl)) ?_
      refine l_nil ?_
      refine hK10 _ _ ?_
      refine fg4 0 1 4 5 (gS rfl (gS rfl (gS rfl (gS rfl (gS rfl (gS rfl (gS rfl (gS rfl (gS rfl (gS rfl (gS rfl (gS rfl (gS rfl g0))))))))))))) (gS rfl (gS rfl (gS rfl (gS rfl (gS rfl (gS rfl (gS rfl (gS rfl (gS rfl (gS rfl (gS rfl (gS rfl g0)))))))))))) (gS rfl (gS rfl (gS rfl (gS rfl (gS rfl (gS rfl (gS rfl (gS rfl (gS rfl (gS rfl (gS rfl g0))))))))))) (gS rfl g0) (fun g => ?_)
      refine c_draw Up 10 [(0, true), (1, true), (2, true), (3, true), (4, true), (5, true), (8, true), (6, false), (7, true), (9, true), (10, false)] (by kernel_rfl) (fun w12 hu => ⟨Up.refl _, ?_⟩)
      replace kA := kA.up hu
      replace hR := hR.up hu
      replace U := U.tr hu
      replace V4 := V4.tr hu
      have SU := Up.refl w12
      refine p_step (by exact rfl) (y_moveV (et (gS rfl (gS rfl (gS rfl g0))) rfl)) ?_
      refine p_step (by exact rfl) (y_moveV (et (gS rfl (gS rfl g0)) rfl)) ?_
      refine p_step (by exact rfl) (y_nil (et (gS rfl g0) rfl)) ?_
      refine p_step (by exact rfl) (y_idxA Hvaa.underlying318 sz_26 (et g0 rfl) (et (gS rfl g0) rfl) ?_ ?_) ?_
      omega
      omega
      have hil5 : i < l.length := by rw [hl.len]; omega
      have hxc : (uL (xorK m i l)).toArray[i]? = some (.int .u64 ((l[i] : Nat) : Int)) := by
        rw [lan_celli (by rw [xorK_len]; exact hil5)]
        have h9 := xorK_get (m := m) hil5
        rw [List.getElem?_eq_getElem (by rw [xorK_len]; exact hil5), List.getElem?_eq_getElem hil5] at h9
        rw [Option.some.inj h9]
      refine p_step (by exact rfl) (y_load1 one_26 (et g0 rfl) (atS (kA.cell (by simpa using hxc)))) ?_
      refine p_step (by exact rfl) (y_moveV (et (gS rfl (gS rfl (gS rfl (gS rfl (gS rfl g0))))) rfl)) ?_
      refine p_step (by exact rfl) (y_nil (et (gS rfl (gS rfl (gS rfl (gS rfl (gS rfl g0))))) rfl)) ?_
      refine p_eff (by exact rfl) (e_callV cal_243 (aC (et (gS rfl g0) rfl) aN) (kec_turned _ _ (w8_lt hd i))) (fun v13 w13 h13 => ?_)
      obtain ⟨rfl, u13⟩ := h13
      replace kA := kA.up u13
      replace hR := hR.up u13
      replace U := U.tr u13
      replace V4 := V4.tr u13
      refine ⟨.inr (SU.tr u13), ?_⟩
      replace SU := SU.tr u13
      refine p_step (by exact rfl) (y_xor uk64 (et (gS rfl (gS rfl (gS rfl g0))) rfl) (et g0 rfl) ?_ ?_) ?_
      exact hl.lt _ (List.getElem_mem _)
      exact trn_lt (w8_lt hd i)
      refine p_step (by exact rfl) (y_idxA Hvaa.underlying318 sz_26 (et (gS rfl (gS rfl g0)) rfl) (et (gS rfl (gS rfl (gS rfl (gS rfl (gS rfl (gS rfl (gS rfl g0))))))) rfl) ?_ ?_) ?_
      omega
      omega
      refine p_effN (by exact rfl) (e_store sz_26 (et g0 rfl) (cellsV (et (gS rfl g0) rfl) rfl) rfl (by intro v hv; simp at hv; subst hv; rfl) kA (by (rw [List.size_toArray, uL, List.length_map, xorK_len, hl.len]; omega))) (fun v14 w14 h14 => ?_)
      obtain ⟨rfl, x14⟩ := h14
      replace hR := hR.ch x14.ch (by omega)
      replace kA := x14.blk
      replace U := U.st x14 (.inl (by first | rfl | (simp; done)))
      replace V4 := V4.st x14 (by omega)
      refine ⟨.inl rfl, ?_⟩
      replace kA : Blk w14 b (uL (xorK m (i + 1) l)).toArray := by
        have h9 := kA
        simp only [Nat.zero_add, Nat.mul_one, Int.toNat_natCast] at h9
        rw [lan_seti] at h9
        rw [← xorK_set hil5]
        exact h9
      refine p_nil ?_
      refine hQ9 _ _ _ (in_normal ?_)
      refine hK8 _ _ ?_
      refine fg3 0 1 4 (gS rfl (gS rfl (gS rfl (gS rfl (gS rfl (gS rfl (gS rfl (gS rfl (gS rfl (gS rfl (gS rfl (gS rfl (gS rfl g0))))))))))))) (gS rfl (gS rfl (gS rfl (gS rfl (gS rfl (gS rfl (gS rfl (gS rfl (gS rfl (gS rfl (gS rfl (gS rfl g0)))))))))))) (gS rfl (gS rfl (gS rfl (gS rfl (gS rfl (gS rfl (gS rfl (gS rfl (gS rfl (gS rfl (gS rfl g0))))))))))) (fun g => ?_)
      refine c_region ?_
      refine l_step (y_moveV (et g0 rfl)) ?_
      refine l_step (y_add (et g0 rfl) rfl (addIN (y := 1) ?_)) ?_
      omega
      refine l_step (y_assignV (et g0 rfl)) ?_
      refine l_nil ?_
      refine fK3 0 1 4 (gS rfl (gS rfl (gS rfl (gS rfl (gS rfl g0))))) (gS rfl (gS rfl (gS rfl (gS rfl g0)))) g0 (fun g => ?_)
      exact hK4 (17 - ((i + 1))) _ _ (by omega) ⟨g, (i + 1), rfl, rfl, by omega, kA, V4⟩
    · skip
      
      have hil : i = 17 := by have := of_decide_eq_false cB1; omega
      subst hil
      refine c_exit ?_
      refine hQ3 _ _ _ (in_exit ?_)
      refine hK1 _ _ ?_
      refine fg1 0 (gS rfl (gS rfl (gS rfl g0))) (fun g => ?_)
      refine c_region ?_
      refine l_step (y_moveV (et g0 rfl)) ?_
      refine l_eff (e_callV cal_353 (aC (et g0 rfl) aN) (kec_F (xorK_lan hd hl 17) kA)) (fun v15 w15 h15 => ?_)
      obtain ⟨rfl, kA15, c15⟩ := h15
      replace hR := hR.ch c15 (by omega)
      replace kA := kA15
      replace U := U.cc c15 (by intro b hb; first | omega | exact .inl hb | exact .inr (hb ▸ U))
      refine l_nil ?_
      refine end0 rfl ?_
      exact ⟨rfl, kA, U⟩
end Go.Proofs.YgvaawGreat
