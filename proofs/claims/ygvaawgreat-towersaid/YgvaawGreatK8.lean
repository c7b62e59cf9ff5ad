import Derived.Test.YgvaawGreatK7
set_option maxRecDepth 100000
set_option maxHeartbeats 4000000
set_option linter.unusedSimpArgs false
set_option linter.unusedVariables false
namespace Go.Proofs.YgvaawGreat
open Go
theorem WV.dropg {s0 c k b o : Nat} {w : World} {l : List Nat} (h : WV s0 w (.slice (some ⟨b, o, none⟩) l.length c) l) (hk : k ≤ l.length) : WV s0 w (.slice (some (if c = k then ⟨b, o, none⟩ else ⟨b, o + k * 1, none⟩)) (l.length - k) (c - k)) (l.drop k) := by
  rcases Nat.lt_or_ge k l.length with h1 | h1
  · obtain ⟨a', c', e, h2, h3⟩ := h.val
    cases e
    rw [if_neg (by omega)]
    exact h.drop0 h1
  · have hkl : k = l.length := by omega
    subst hkl
    obtain ⟨a', c', e, h2, h3⟩ := h.val
    cases e
    rw [List.drop_length, Nat.sub_self]
    rcases h.at' with ⟨⟨q, e⟩, h9⟩ | ⟨b', o', c'', e, hb, _⟩
    · subst h9
      injection e with e1 e2 e3
      subst e3
      exact ⟨Dig.nil 256, .inl ⟨⟨_, rfl⟩, rfl⟩⟩
    · cases e
      refine ⟨Dig.nil 256, .inr ⟨b, if c = l.length then o else o + l.length * 1, c - l.length, ?_, hb, Nat.zero_le _, by omega, fun i v hv => by simp [bL] at hv⟩⟩
      split <;> rfl
def padK (l : List Nat) : List Nat := ((l ++ List.replicate (136 - l.length) 0).set l.length 1).set 135 ((((l ++ List.replicate (136 - l.length) 0).set l.length 1)[135]?.getD 0) ||| 128)
def ksW (n : Nat) (s l : List Nat) : List Nat := if h : 136 ≤ n then ksW (n - 136) (absL s (l.take 136)) (l.drop 136) else absL s (padK l)
def ksL (s l : List Nat) : List Nat := ksW l.length s l
theorem ksL_step {s l : List Nat} (h : 136 ≤ l.length) : ksL s l = ksL (absL s (l.take 136)) (l.drop 136) := by
  unfold ksL
  rw [ksW, dif_pos h, List.length_drop]
theorem ksL_last {s l : List Nat} (h : ¬ 136 ≤ l.length) : ksL s l = absL s (padK l) := by
  unfold ksL
  rw [ksW, dif_neg h]
def outK (s : List Nat) (i : Nat) : List Nat := (List.range i).flatMap (fun j => be 8 (trnN (s[j]?.getD 0))) ++ List.replicate (32 - 8 * i) 0
def ksN (l : List Nat) : Nat := ofBE (outK (ksL (List.replicate 25 0) l) 4)
theorem abs_lan {s m : List Nat} (hd : Dig 256 m) (h : Lan s) : Lan (absL s m) := rndN_lan (xorK_lan hd h 17) 24
theorem lan_zero : Lan (List.replicate 25 0) := ⟨rfl, fun x hx => by rw [List.eq_of_mem_replicate hx]; decide⟩
theorem padK_len {l : List Nat} (h : ¬ 136 ≤ l.length) : (padK l).length = 136 := by
  unfold padK
  rw [List.length_set, List.length_set, List.length_append, List.length_replicate]
  omega
theorem or8 {a b : Nat} (ha : a < 256) (hb : b < 256) : a ||| b < 256 := Nat.or_lt_two_pow (n := 8) ha hb
theorem dig_set {l : List Nat} {i x : Nat} (h : Dig 256 l) (hx : x < 256) : Dig 256 (l.set i x) := fun d hd => by
  rcases List.mem_or_eq_of_mem_set hd with hd | rfl
  · exact h d hd
  · exact hx
theorem dig_getD {l : List Nat} (h : Dig 256 l) (i : Nat) : l[i]?.getD 0 < 256 := by
  cases hi : l[i]? with
  | none => decide
  | some x => exact h x (List.mem_of_getElem? hi)
theorem dig_p1 {l : List Nat} (h : Dig 256 l) : Dig 256 ((l ++ List.replicate (136 - l.length) 0).set l.length 1) := dig_set (fun d hd => by
  rcases List.mem_append.1 hd with hd | hd
  · exact h d hd
  · rw [List.eq_of_mem_replicate hd]; decide) (by decide)
theorem padK_dig {l : List Nat} (h : Dig 256 l) : Dig 256 (padK l) := dig_set (dig_p1 h) (or8 (dig_getD (dig_p1 h) _) (by decide))
theorem flat8 (g : Nat → Nat) : ∀ i, ((List.range i).flatMap (fun j => be 8 (g j))).length = 8 * i
  | 0 => rfl
  | i + 1 => by rw [List.range_succ, List.flatMap_append, List.length_append, flat8 g i, List.flatMap_singleton, length_be]; omega
theorem app_skip {A B C R : List Nat} {j : Nat} (h : B.length = C.length) (hj : A.length + B.length ≤ j) : (A ++ (B ++ R))[j]? = (A ++ (C ++ R))[j]? := by
  rw [← List.append_assoc, ← List.append_assoc, List.getElem?_append_right (by rw [List.length_append]; omega), List.getElem?_append_right (by rw [List.length_append]; omega), List.length_append, List.length_append, h]
theorem outK_len (s : List Nat) (i : Nat) (hi : i ≤ 4) : (outK s i).length = 32 := by
  unfold outK
  rw [List.length_append, List.length_replicate, flat8 (fun j => trnN (s[j]?.getD 0))]
  omega
theorem outK_next {s : List Nat} {i : Nat} (hi : i < 4) : spl (bL (outK s i)).toArray (0 + 8 * i) (bL (be 8 (trnN (s[i]?.getD 0)))) = (bL (outK s (i + 1))).toArray := by
  have hf : ((List.range i).flatMap (fun j => be 8 (trnN (s[j]?.getD 0)))).length = 8 * i := by
    exact flat8 (fun j => trnN (s[j]?.getD 0)) i
  unfold outK
  rw [List.range_succ, List.flatMap_append, List.flatMap_singleton]
  have e : List.replicate (32 - 8 * i) 0 = List.replicate 8 0 ++ List.replicate (32 - 8 * (i + 1)) 0 := by
    rw [List.replicate_append_replicate]
    congr 1
    omega
  rw [e, Nat.zero_add]
  generalize (List.range i).flatMap (fun j => be 8 (trnN (s[j]?.getD 0))) = A at hf ⊢
  have hz : 8 * i + (bL (be 8 (trnN (s[i]?.getD 0)))).length ≤ (bL (A ++ (List.replicate 8 0 ++ List.replicate (32 - 8 * (i + 1)) 0))).toArray.size := by
    rw [length_bL, length_be, List.size_toArray, length_bL, List.length_append, List.length_append, List.length_replicate]
    omega
  apply Array.ext_getElem?
  intro j
  by_cases h1 : 8 * i ≤ j ∧ j < 8 * i + 8
  · have hj : j - 8 * i < (bL (be 8 (trnN (s[i]?.getD 0)))).length := by rw [length_bL, length_be]; omega
    have := get_spl_in hz (List.getElem?_eq_getElem hj)
    rw [show 8 * i + (j - 8 * i) = j by omega] at this
    rw [this, List.getElem?_toArray, ← List.getElem?_eq_getElem hj]
    simp only [bL, List.getElem?_map]
    rw [List.append_assoc, List.getElem?_append_right (by omega), hf, List.getElem?_append_left (by rw [length_be]; omega)]
  · rw [get_spl_out hz (by rw [length_bL, length_be]; omega), List.getElem?_toArray, List.getElem?_toArray]
    simp only [bL, List.getElem?_map]
    congr 1
    rw [List.append_assoc]
    rcases Nat.lt_or_ge j (8 * i) with h2 | h2
    · rw [List.getElem?_append_left (by omega), List.getElem?_append_left (by omega)]
    · exact app_skip (by rw [List.length_replicate, length_be]) (by rw [List.length_replicate]; omega)
theorem Row.takeR {w : World} {b o k : Nat} {l : List Nat} (h : Row w b o (bL l)) : Row w b o (bL (l.take k)) := fun i v hv => by
  refine h i v ?_
  rw [show bL (l.take k) = (bL l).take k by simp [bL], List.getElem?_take] at hv
  split at hv
  · exact hv
  · cases hv
theorem pad_copy {l : List Nat} (h : ¬ 136 ≤ l.length) : spl (bL (List.replicate 136 0)).toArray 0 (bL (l.take 136)) = (bL (l ++ List.replicate (136 - l.length) 0)).toArray := by
  rw [spl_head _ _ l.length (by rw [length_bL, List.length_replicate]; omega) (by rw [length_bL, List.length_take]; omega), List.take_of_length_le (by omega), bL_append]
  congr 2
  rw [bL, List.map_replicate, List.drop_replicate, bL, List.map_replicate]
theorem bL_setA {l : List Nat} {i x : Nat} : spl (bL l).toArray i [bval x] = (bL (l.set i x)).toArray := by
  show (bL l).toArray.setIfInBounds i _ = _
  rw [List.setIfInBounds_toArray, bL, bL, List.map_set]
theorem bL_getA {l : List Nat} {i : Nat} (h : i < l.length) : (bL l).toArray[i]? = some (bval (l[i]?.getD 0)) := by
  rw [List.getElem?_toArray, bL, List.getElem?_map, List.getElem?_eq_getElem h]
  rfl
theorem be_ks (l : List Nat) : be 32 (ksN l) = outK (ksL (List.replicate 25 0) l) 4 := by
  have h := be_ofBE (outK (ksL (List.replicate 25 0) l) 4) (fun d hd => by
    unfold outK at hd
    rcases List.mem_append.1 hd with hd | hd
    · obtain ⟨j, _, hd⟩ := List.mem_flatMap.1 hd
      exact be_lt _ _ d hd
    · rw [List.eq_of_mem_replicate hd]; decide)
  rw [outK_len _ _ (Nat.le_refl _)] at h
  exact h
theorem ks_lan : ∀ {l s : List Nat}, Dig 256 l → Lan s → Lan (ksL s l) := by
  intro l
  induction hn : l.length using Nat.strongRecOn generalizing l with
  | _ n ih =>
    intro s hd hs
    by_cases h : 136 ≤ l.length
    · rw [ksL_step h]
      exact ih (l.drop 136).length (by rw [List.length_drop]; omega) rfl (fun d h => hd d (List.mem_of_mem_drop h)) (abs_lan (fun d h => hd d (List.mem_of_mem_take h)) hs)
    · rw [ksL_last h]
      exact abs_lan (padK_dig hd) hs
theorem kec_Sum {s0 c : Nat} {a : Option Addr} {l : List Nat} {w : World} (hW : WV s0 w (.slice a l.length c) l) (hs0 : s0 ≤ w.heap.size) :
    Ret 166 [.slice a l.length c] w (fun v w' => v = hV (ksN l) ∧ Up w w') := by
  have hW0 := hW
  refine enter (n := 40) Hvaa.func166 rfl rfl (Nat.le_of_ble_eq_true rfl) ?_
  have U := Up.refl w
  refine c_seq (fun K1 hK1 => ?_)
  refine c_region ?_
  refine l_eff (e_alloc zr_27) (fun v2 w2 h2 => ?_)
  obtain ⟨b2, rfl, n2⟩ := h2
  have f2 : w.heap.size ≤ b2 := Nat.le_trans U.size n2.fresh
  replace hW := hW.up n2.up
  replace U := U.tr n2.up
  have k2 := n2.blk
  refine l_nil ?_
  refine hK1 _ _ ?_
  refine c_seq (fun K3 hK3 => ?_)
  refine c_region ?_
  refine l_eff (e_alloc zr_318) (fun v4 w4 h4 => ?_)
  obtain ⟨b4, rfl, n4⟩ := h4
  have d2_4 : b2 < b4 := Nat.lt_of_lt_of_le k2.lt n4.fresh
  have f4 : w.heap.size ≤ b4 := Nat.le_trans U.size n4.fresh
  replace k2 := k2.up n4.up
  replace hW := hW.up n4.up
  replace U := U.tr n4.up
  have k4 := n4.blk
  replace k4 : Blk w4 b4 (uL (List.replicate 25 0)).toArray := k4
  refine l_nil ?_
  refine hK3 _ _ ?_
  refine c_seq (fun K5 hK5 => ?_)
  refine c_block (fun Q6 hQ6 => ?_)
  refine fg3 0 2 3 (gS rfl (gS rfl g0)) (gS rfl g0) g0 (fun g => ?_)
  refine c_loop (fun k_ s_ W7 => ∃ (g : Nat → Value) (v : Value) (r st : List Nat), s_ = (upd (upd (upd g 0 v) 2 (.pointer (some ⟨b2, 0, none⟩))) 3 (.pointer (some ⟨b4, 0, none⟩))) ∧ r.length = k_ ∧ (WV s0 W7 v r) ∧ (Lan st) ∧ (ksL st r = ksL (List.replicate 25 0) l) ∧ Blk W7 b4 ((uL st).toArray) ∧ Ch (fun k => k = b4) w4 W7) ((l).length) ?_ ?_
  · exact ⟨g, _, l, _, rfl, rfl, hW, lan_zero, rfl, k4, Ch.refl _ _⟩
  · skip
    intro k_ s_ W7 hI K7 hK7
    obtain ⟨g, v, r, st, rfl, rfl, hV, hst, hks, nk4, V7⟩ := hI
    replace k2 := k2.ch V7 (by omega)
    replace hW := hW.ch V7 (by first | omega | (intro b hb; omega))
    replace k4 := nk4
    replace U := U.cc V7 (by intro b hb; first | exact hb.elim | omega | (simp at hb ⊢; omega))
    obtain ⟨va, vc, rfl, hvl, hvc⟩ := hV.val
    refine c_seq (fun K8 hK8 => ?_)
    refine c_seq (fun K9 hK9 => ?_)
    refine c_region ?_
    refine l_step (y_moveV (et (gS rfl (gS rfl g0)) rfl)) ?_
    refine l_step (y_len Hvaa.underlying38 (et g0 rfl)) ?_
    refine l_step (y_geq (et g0 rfl) rfl) ?_
    refine l_nil ?_
    refine hK9 _ _ ?_
    refine fg4 0 2 3 9 (gS rfl (gS rfl (gS rfl (gS rfl (gS rfl g0))))) (gS rfl (gS rfl (gS rfl (gS rfl g0)))) (gS rfl (gS rfl (gS rfl g0))) g0 (fun g => ?_)
    refine c_cond (et g0 rfl) (fun cB1 => ?_) (fun cB1 => ?_)
    · skip
      
      have hge : 136 ≤ r.length := by have := of_decide_eq_true cB1; omega
      obtain ⟨db, do_, rfl, hdb, hdr⟩ := hV.at (by omega)
      refine c_skip ?_
      refine hK8 _ _ ?_
      refine fg3 0 2 3 (gS rfl (gS rfl (gS rfl g0))) (gS rfl (gS rfl g0)) (gS rfl g0) (fun g => ?_)
      refine c_block (fun Q11 hQ11 => ?_)
      refine c_seq (fun K12 hK12 => ?_)
      refine c_region ?_
      refine l_step (y_moveV (et (gS rfl (gS rfl g0)) rfl)) ?_
      refine l_step (y_slS010n (j := 136) Hvaa.underlying38 sz_5 (et g0 rfl) rfl ?_) ?_
      omega
      refine l_step (y_s2a Hvaa.underlying322 (et g0 rfl) ?_) ?_
      omega
      refine l_eff (e_callV cal_242 (aC (et (gS rfl (gS rfl (gS rfl g0))) rfl) (aC (et g0 rfl) aN)) (kec_absorb hst k4 (hdr.takeR (k := 136)) (by rw [List.length_take]; omega) (hV.take hge).dig (by omega) (Nat.lt_of_lt_of_le hdb (Nat.le_trans hs0 U.size)))) (fun v13 w13 h13 => ?_)
      obtain ⟨rfl, ka13, c13⟩ := h13
      replace hdr := hdr.ch c13 (by omega)
      replace k2 := k2.ch c13 (by first | omega | (intro b hb; omega))
      replace hW := hW.ch c13 (by first | omega | (intro b hb; omega))
      replace hV := hV.ch c13 (by first | omega | (intro b hb; omega))
      replace k4 := ka13
      replace V7 := V7.cc c13 (by intro b hb; first | omega | (simp at hb ⊢; omega) | (have := hOo.lim b hb.symm; omega))
      replace U := U.cc c13 (by intro b hb; first | exact hb ▸ f4 | omega)
      refine l_nil ?_
      refine hK12 _ _ ?_
      refine fg3 0 2 3 (gS rfl (gS rfl (gS rfl (gS rfl (gS rfl (gS rfl g0)))))) (gS rfl (gS rfl (gS rfl (gS rfl (gS rfl g0))))) (gS rfl (gS rfl (gS rfl (gS rfl g0)))) (fun g => ?_)
      refine c_region ?_
      refine l_step (y_moveV (et (gS rfl (gS rfl g0)) rfl)) ?_
      refine l_step (y_slS100g Hvaa.underlying38 sz_5 (et g0 rfl) rfl ?_ ?_) ?_
      omega
      omega
      refine l_step (y_assignV (et g0 rfl)) ?_
      refine l_nil ?_
      refine hQ11 _ _ _ (in_normal ?_)
      refine fK3 0 2 3 g0 (gS rfl (gS rfl (gS rfl (gS rfl g0)))) (gS rfl (gS rfl (gS rfl g0))) (fun g => ?_)
      exact hK7 (((List.drop 136 r)).length) _ _ (by rw [List.length_drop]; omega) ⟨g, _, (List.drop 136 r), _, rfl, rfl, hV.dropg hge, abs_lan (hV.take hge).dig hst, by rw [← hks, ksL_step hge], k4, V7⟩
    · skip
      
      have hge : ¬ 136 ≤ r.length := by have := of_decide_eq_false cB1; omega
      refine c_exit ?_
      refine hQ6 _ _ _ (in_exit ?_)
      refine hK5 _ _ ?_
      refine fg3 0 2 3 (gS rfl (gS rfl (gS rfl g0))) (gS rfl (gS rfl g0)) (gS rfl g0) (fun g => ?_)
      refine c_seq (fun K14 hK14 => ?_)
      refine c_region ?_
      refine l_eff (e_alloc zr_322) (fun v15 w15 h15 => ?_)
      obtain ⟨b15, rfl, n15⟩ := h15
      have d2_15 : b2 < b15 := Nat.lt_of_lt_of_le k2.lt n15.fresh
      have d4_15 : b4 < b15 := Nat.lt_of_lt_of_le k4.lt n15.fresh
      have f15 : w.heap.size ≤ b15 := Nat.le_trans U.size n15.fresh
      replace k2 := k2.up n15.up
      replace k4 := k4.up n15.up
      replace hW := hW.up n15.up
      replace hV := hV.up n15.up
      replace U := U.tr n15.up
      have k15 := n15.blk
      replace k15 : Blk w15 b15 (bL (List.replicate 136 0)).toArray := k15
      refine l_nil ?_
      refine hK14 _ _ ?_
      refine c_seq (fun K16 hK16 => ?_)
      refine c_region ?_
      refine l_step (y_slA000 Hvaa.underlying322 sz_5 (et g0 rfl) ) ?_
      refine l_step (y_moveV (et (gS rfl (gS rfl (gS rfl (gS rfl g0)))) rfl)) ?_
      refine l_eff (e_copyW Hvaa.underlying38 (et (gS rfl g0) rfl) (et g0 rfl) hV k15 (by rw [List.size_toArray, length_bL, List.length_replicate]; omega)) (fun v17 w17 h17 => ?_)
      obtain ⟨rfl, x17⟩ := h17
      replace k2 := k2.ch x17.ch (by first | omega | (intro b hb; omega))
      replace k4 := k4.ch x17.ch (by first | omega | (intro b hb; omega))
      replace hW := hW.ch x17.ch (by first | omega | (intro b hb; omega))
      replace hV := hV.ch x17.ch (by first | omega | (intro b hb; omega))
      replace k15 := x17.blk
      replace U := U.cc x17.ch (by intro b hb; first | exact hb ▸ f15 | omega)
      rw [pad_copy hge] at k15
      refine l_nil ?_
      refine hK16 _ _ ?_
      refine fg4 0 2 3 4 (gS rfl (gS rfl (gS rfl (gS rfl (gS rfl (gS rfl g0)))))) (gS rfl (gS rfl (gS rfl (gS rfl (gS rfl g0))))) (gS rfl (gS rfl (gS rfl (gS rfl g0)))) (gS rfl (gS rfl (gS rfl g0))) (fun g => ?_)
      refine c_seq (fun K18 hK18 => ?_)
      refine c_region ?_
      refine l_step (y_moveV (et (gS rfl (gS rfl (gS rfl g0))) rfl)) ?_
      refine l_step (y_len Hvaa.underlying38 (et g0 rfl)) ?_
      refine l_step (y_idxA Hvaa.underlying322 sz_5 (et (gS rfl (gS rfl g0)) rfl) (et g0 rfl) ?_ ?_) ?_
      omega
      omega
      refine l_effN (e_store sz_5 (et g0 rfl) (cellsV rfl rfl) rfl (by intro v hv; simp at hv; subst hv; rfl) k15 (by (rw [List.size_toArray, length_bL, List.length_append, List.length_replicate]; omega))) (fun v19 w19 h19 => ?_)
      obtain ⟨rfl, x19⟩ := h19
      replace k2 := k2.ch x19.ch (by omega)
      replace k4 := k4.ch x19.ch (by omega)
      replace hW := hW.ch x19.ch (by first | omega | (first | omega | (intro b hb; omega)))
      replace k15 := x19.blk
      replace hV := hV.wr x19 (by first | omega | (right; omega))
      replace U := U.st x19 f15
      have h9 := k15
      simp only [Nat.zero_add, Nat.mul_one, Int.toNat_natCast] at h9
      replace k15 : Blk w19 b15 (bL ((r ++ List.replicate (136 - r.length) 0).set r.length 1)).toArray := by rw [← bL_setA]; exact h9
      refine l_nil ?_
      refine hK18 _ _ ?_
      refine fg3 2 3 4 (gS rfl (gS rfl (gS rfl (gS rfl (gS rfl g0))))) (gS rfl (gS rfl (gS rfl (gS rfl g0)))) (gS rfl (gS rfl (gS rfl g0))) (fun g => ?_)
      refine c_seq (fun K20 hK20 => ?_)
      refine c_region ?_
      refine l_step (y_idxAC 135 135 Hvaa.underlying322 sz_5 (et g0 rfl) rfl rfl rfl) ?_
      refine l_step (y_load1 one_5 (et g0 rfl) (at1 (k15.cell (bL_getA (i := 135) (by rw [List.length_set, List.length_append, List.length_replicate]; omega))))) ?_
      refine l_step (y_or uk8 (p := 128) (et g0 rfl) rfl ?_ ?_) ?_
      exact dig_getD (dig_p1 hV.dig) _
      decide
      refine l_step (y_idxAC 135 135 Hvaa.underlying322 sz_5 (et (gS rfl (gS rfl (gS rfl g0))) rfl) rfl rfl rfl) ?_
      refine l_effN (e_store sz_5 (et g0 rfl) (cellsV (et (gS rfl g0) rfl) rfl) rfl (by intro v hv; simp at hv; subst hv; rfl) k15 (by (rw [List.size_toArray, length_bL, List.length_set, List.length_append, List.length_replicate]; omega))) (fun v21 w21 h21 => ?_)
      obtain ⟨rfl, x21⟩ := h21
      replace k2 := k2.ch x21.ch (by omega)
      replace k4 := k4.ch x21.ch (by omega)
      replace hW := hW.ch x21.ch (by first | omega | (first | omega | (intro b hb; omega)))
      replace k15 := x21.blk
      replace hV := hV.wr x21 (by first | omega | (right; omega))
      replace U := U.st x21 f15
      have h8 := k15
      replace k15 : Blk w21 b15 (bL (padK r)).toArray := by unfold padK; rw [← bL_setA]; exact h8
      refine l_nil ?_
      refine hK20 _ _ ?_
      refine fg3 2 3 4 (gS rfl (gS rfl (gS rfl (gS rfl (gS rfl (gS rfl g0)))))) (gS rfl (gS rfl (gS rfl (gS rfl (gS rfl g0))))) (gS rfl (gS rfl (gS rfl (gS rfl g0)))) (fun g => ?_)
      refine c_seq (fun K22 hK22 => ?_)
      refine c_region ?_
      refine l_eff (e_callV cal_242 (aC (et (gS rfl g0) rfl) (aC (et g0 rfl) aN)) (kec_absorb hst k4 (k15.row (RowIn.self (bL (padK r)))) (padK_len hge) (padK_dig hV.dig) (by omega) k15.lt)) (fun v23 w23 h23 => ?_)
      obtain ⟨rfl, ka23, c23⟩ := h23
      replace k2 := k2.ch c23 (by first | omega | (intro b hb; omega))
      replace k15 := k15.ch c23 (by first | omega | (intro b hb; omega))
      replace hW := hW.ch c23 (by first | omega | (intro b hb; omega))
      replace hV := hV.ch c23 (by first | omega | (intro b hb; omega))
      replace k4 := ka23
      replace U := U.cc c23 (by intro b hb; first | exact hb ▸ f4 | omega)
      rw [← ksL_last hge, hks] at k4
      refine l_nil ?_
      refine hK22 _ _ ?_
      refine fg2 2 3 (gS rfl (gS rfl (gS rfl g0))) (gS rfl (gS rfl g0)) (fun g => ?_)
      refine c_seq (fun K24 hK24 => ?_)
      refine c_region ?_
      refine l_eff (e_alloc zr_27) (fun v25 w25 h25 => ?_)
      obtain ⟨b25, rfl, n25⟩ := h25
      have d2_25 : b2 < b25 := Nat.lt_of_lt_of_le k2.lt n25.fresh
      have d4_25 : b4 < b25 := Nat.lt_of_lt_of_le k4.lt n25.fresh
      have d15_25 : b15 < b25 := Nat.lt_of_lt_of_le k15.lt n25.fresh
      have f25 : w.heap.size ≤ b25 := Nat.le_trans U.size n25.fresh
      replace k2 := k2.up n25.up
      replace k4 := k4.up n25.up
      replace k15 := k15.up n25.up
      replace hW := hW.up n25.up
      replace hV := hV.up n25.up
      replace U := U.tr n25.up
      have k25 := n25.blk
      replace k25 : Blk w25 b25 (bL (outK (ksL (List.replicate 25 0) l) 0)).toArray := k25
      refine l_nil ?_
      refine hK24 _ _ ?_
      refine c_seq (fun K26 hK26 => ?_)
      refine c_seq (fun K27 hK27 => ?_)
      refine c_region ?_
      refine l_step y_assignC ?_
      refine l_nil ?_
      refine hK27 _ _ ?_
      refine c_block (fun Q28 hQ28 => ?_)
      refine fg4 2 3 5 6 (gS rfl (gS rfl (gS rfl g0))) (gS rfl (gS rfl g0)) (gS rfl g0) g0 (fun g => ?_)
      refine c_loop (fun k_ s_ W29 => ∃ (g : Nat → Value) (i : Nat), s_ = (upd (upd (upd (upd g 2 (.pointer (some ⟨b2, 0, none⟩))) 3 (.pointer (some ⟨b4, 0, none⟩))) 5 (.pointer (some ⟨b25, 0, none⟩))) 6 (.int .i64 (i : Nat))) ∧ 4 - i = k_ ∧ (i ≤ 4) ∧ Blk W29 b25 ((bL (outK (ksL (List.replicate 25 0) l) i)).toArray) ∧ Ch (fun k => k = b25) w25 W29) (4 - (0)) ?_ ?_
      · exact ⟨g, 0, rfl, rfl, Nat.zero_le _, k25, Ch.refl _ _⟩
      · skip
        intro k_ s_ W29 hI K29 hK29
        obtain ⟨g, i, rfl, rfl, hi, nk25, V29⟩ := hI
        replace k2 := k2.ch V29 (by omega)
        replace k4 := k4.ch V29 (by omega)
        replace k15 := k15.ch V29 (by omega)
        replace hW := hW.ch V29 (by first | omega | (intro b hb; omega))
        replace hV := hV.ch V29 (by first | omega | (intro q hq; omega))
        replace k25 := nk25
        replace U := U.cc V29 (by intro b hb; first | exact hb.elim | omega | (simp at hb ⊢; omega))
        refine c_seq (fun K30 hK30 => ?_)
        refine c_seq (fun K31 hK31 => ?_)
        refine c_region ?_
        refine l_step (y_moveV (et g0 rfl)) ?_
        refine l_step (y_lss (et g0 rfl) rfl) ?_
        refine l_nil ?_
        refine hK31 _ _ ?_
        refine fg5 2 3 5 6 28 (gS rfl (gS rfl (gS rfl (gS rfl (gS rfl g0))))) (gS rfl (gS rfl (gS rfl (gS rfl g0)))) (gS rfl (gS rfl (gS rfl g0))) (gS rfl (gS rfl g0)) g0 (fun g => ?_)
        refine c_cond (et g0 rfl) (fun cB2 => ?_) (fun cB2 => ?_)
        · skip
          
          have hil : i < 4 := by have := of_decide_eq_true cB2; omega
          refine c_skip ?_
          refine hK30 _ _ ?_
          refine fg4 2 3 5 6 (gS rfl (gS rfl (gS rfl (gS rfl g0)))) (gS rfl (gS rfl (gS rfl g0))) (gS rfl (gS rfl g0)) (gS rfl g0) (fun g => ?_)
          refine c_seq (fun K33 hK33 => ?_)
          refine c_block (fun Q34 hQ34 => ?_)
          refine c_draw Up 7 [(0, true), (1, true), (2, true), (3, true), (4, true), (5, true), (6, false), (7, false)] (by kernel_rfl) (fun w35 hu => ⟨Up.refl _, ?_⟩)
          replace k2 := k2.up hu
          replace k4 := k4.up hu
          replace k15 := k15.up hu
          replace k25 := k25.up hu
          replace hW := hW.up hu
          replace hV := hV.up hu
          replace U := U.tr hu
          replace V29 := V29.tr hu
          have SU := Up.refl w35
          refine p_step (by exact rfl) (y_slA000 Hvaa.underlying27 sz_5 (et (gS rfl g0) rfl) ) ?_
          refine p_step (by exact rfl) (y_moveV (et (gS rfl g0) rfl)) ?_
          refine p_step (by exact rfl) (y_mul rfl (et g0 rfl) (mulIN (x := 8) ?_)) ?_
          omega
          refine p_step (by exact rfl) (y_moveV (et (gS rfl (gS rfl (gS rfl g0))) rfl)) ?_
          refine p_step (by exact rfl) (y_idxA Hvaa.underlying318 sz_26 (et (gS rfl (gS rfl (gS rfl (gS rfl (gS rfl (gS rfl g0)))))) rfl) (et g0 rfl) ?_ ?_) ?_
          omega
          omega
          have hls : Lan (ksL (List.replicate 25 0) l) := ks_lan hW0.dig lan_zero
          have hl4 : i < (ksL (List.replicate 25 0) l).length := by rw [hls.len]; omega
          refine p_step (by exact rfl) (y_load1 one_26 (et g0 rfl) (atS (k4.cell (by simpa using lan_celli hl4)))) ?_
          refine p_eff (by exact rfl) (e_callV cal_243 (aC (et g0 rfl) aN) (kec_turned _ _ (hls.lt _ (List.getElem_mem hl4)))) (fun v36 w36 h36 => ?_)
          obtain ⟨rfl, u36⟩ := h36
          replace k2 := k2.up u36
          replace k4 := k4.up u36
          replace k15 := k15.up u36
          replace k25 := k25.up u36
          replace hW := hW.up u36
          replace hV := hV.up u36
          replace U := U.tr u36
          replace V29 := V29.tr u36
          refine ⟨.inr (SU.tr u36), ?_⟩
          replace SU := SU.tr u36
          refine p_eff (by exact rfl) (e_callV cal_158 (aC (et (gS rfl (gS rfl (gS rfl (gS rfl (gS rfl (gS rfl g0)))))) rfl) (aC (et (gS rfl (gS rfl (gS rfl (gS rfl g0)))) rfl) (aC (et g0 rfl) aN))) (putbe64_l _ _ _ _ _ _ _ _ (by omega) (Nat.le_refl _) (by decide) (by rw [List.size_toArray, length_bL, outK_len _ _ hi]; decide) (trn_lt (hls.lt _ (List.getElem_mem hl4))) k25)) (fun v37 w37 h37 => ?_)
          obtain ⟨rfl, kb37, c37⟩ := h37
          replace k2 := k2.ch c37 (by first | omega | (intro b hb; omega))
          replace k4 := k4.ch c37 (by first | omega | (intro b hb; omega))
          replace k15 := k15.ch c37 (by first | omega | (intro b hb; omega))
          replace hW := hW.ch c37 (by first | omega | (intro b hb; omega))
          replace hV := hV.ch c37 (by first | omega | (intro b hb; omega))
          replace k25 := kb37
          replace V29 := V29.cc c37 (by intro b hb; first | omega | (simp at hb ⊢; omega) | (have := hOo.lim b hb.symm; omega))
          replace U := U.cc c37 (by intro b hb; first | exact hb ▸ f25 | omega)
          have h7 := k25
          have e7 : (ksL (List.replicate 25 0) l)[i]?.getD 0 = (ksL (List.replicate 25 0) l)[i] := by rw [List.getElem?_eq_getElem hl4]; rfl
          replace k25 : Blk w37 b25 (bL (outK (ksL (List.replicate 25 0) l) (i + 1))).toArray := by rw [← outK_next hil, e7]; exact h7
          refine ⟨.inl rfl, ?_⟩
          refine p_nil ?_
          refine hQ34 _ _ _ (in_normal ?_)
          refine hK33 _ _ ?_
          refine fg4 2 3 5 6 (gS rfl (gS rfl (gS rfl (gS rfl (gS rfl (gS rfl (gS rfl (gS rfl (gS rfl (gS rfl (gS rfl g0))))))))))) (gS rfl (gS rfl (gS rfl (gS rfl (gS rfl (gS rfl (gS rfl (gS rfl (gS rfl (gS rfl g0)))))))))) (gS rfl (gS rfl (gS rfl (gS rfl (gS rfl (gS rfl (gS rfl (gS rfl (gS rfl g0))))))))) (gS rfl (gS rfl (gS rfl (gS rfl (gS rfl (gS rfl (gS rfl (gS rfl g0)))))))) (fun g => ?_)
          refine c_region ?_
          refine l_step (y_moveV (et g0 rfl)) ?_
          refine l_step (y_add (et g0 rfl) rfl (addIN (y := 1) ?_)) ?_
          omega
          refine l_step (y_assignV (et g0 rfl)) ?_
          refine l_nil ?_
          refine fK4 2 3 5 6 (gS rfl (gS rfl (gS rfl (gS rfl (gS rfl (gS rfl g0)))))) (gS rfl (gS rfl (gS rfl (gS rfl (gS rfl g0))))) (gS rfl (gS rfl (gS rfl (gS rfl g0)))) g0 (fun g => ?_)
          exact hK29 (4 - ((i + 1))) _ _ (by omega) ⟨g, (i + 1), rfl, rfl, by omega, k25, V29⟩
        · skip
          
          have hil : i = 4 := by have := of_decide_eq_false cB2; omega
          subst hil
          refine c_exit ?_
          refine hQ28 _ _ _ (in_exit ?_)
          refine hK26 _ _ ?_
          refine fg2 2 5 (gS rfl (gS rfl (gS rfl (gS rfl g0)))) (gS rfl (gS rfl g0)) (fun g => ?_)
          refine c_seq (fun K38 hK38 => ?_)
          refine c_region ?_
          refine l_step (y_loadB agg_27 sz_27 (et g0 rfl) (by rw [List.size_toArray, length_bL, outK_len _ _ (Nat.le_refl _)]) (at1B k25)) ?_
          refine l_effN (e_store sz_27 (et (gS rfl (gS rfl g0)) rfl) (cellsV (et g0 rfl) rfl) (by rw [length_bL, outK_len _ _ (Nat.le_refl _)]) (by exact one_bL _) k2 (by exact Nat.le_of_ble_eq_true rfl)) (fun v39 w39 h39 => ?_)
          obtain ⟨rfl, x39⟩ := h39
          replace k4 := k4.ch x39.ch (by omega)
          replace k15 := k15.ch x39.ch (by omega)
          replace k25 := k25.ch x39.ch (by omega)
          replace hW := hW.ch x39.ch (by first | omega | (first | omega | (intro b hb; omega)))
          replace k2 := x39.blk.full (by rw [length_bL, outK_len _ _ (Nat.le_refl _)]; rfl)
          replace hV := hV.wr x39 (by first | omega | (right; omega))
          replace U := U.st x39 f2
          refine l_nil ?_
          refine hK38 _ _ ?_
          refine fg1 2 (gS rfl (gS rfl g0)) (fun g => ?_)
          refine c_ret ?_
          refine ret1 rfl (res_blk agg_27 sz_27 (et g0 rfl) (by rw [List.size_toArray, length_bL, outK_len _ _ (Nat.le_refl _)]) k2) ?_
          exact ⟨by show _ = bV (be 32 (ksN l)); rw [be_ks]; rfl, U⟩
end Go.Proofs.YgvaawGreat
