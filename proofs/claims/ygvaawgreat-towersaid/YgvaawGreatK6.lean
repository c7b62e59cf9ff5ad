import Derived.Test.YgvaawGreatK5
set_option maxRecDepth 100000
set_option maxHeartbeats 4000000
set_option linter.unusedSimpArgs false
set_option linter.unusedVariables false
namespace Go.Proofs.YgvaawGreat
open Go
theorem rnd1_lan {i : Nat} {l : List Nat} (h : Lan l) : Lan (rnd1 i l) := by
  have hr := rnd_lan h
  refine ⟨by unfold rnd1; rw [List.length_set]; exact hr.len, fun x hx => ?_⟩
  unfold rnd1 at hx
  rcases List.mem_or_eq_of_mem_set hx with hx | rfl
  · exact hr.lt x hx
  · refine x64 ?_ (kRC_lt i)
    have h0 : 0 < (rnd l).length := by rw [hr.len]; decide
    rw [List.getElem?_eq_getElem h0]
    exact hr.lt _ (List.getElem_mem h0)
theorem rndN_lan {l : List Nat} (h : Lan l) : ∀ i, Lan (rndN i l)
  | 0 => h
  | i + 1 => rnd1_lan (rndN_lan h i)
theorem lan_cell {l : List Nat} (h : Lan l) : (uL l).toArray[0]? = some (.int .u64 ((l[0]?.getD 0 : Nat) : Int)) := by
  have h0 : 0 < l.length := by rw [h.len]; decide
  rw [List.getElem?_toArray, uL, List.getElem?_map, List.getElem?_eq_getElem h0]
  rfl
theorem lan_set {l : List Nat} {x : Nat} : spl (uL l).toArray 0 [.int .u64 (x : Nat)] = (uL (l.set 0 x)).toArray := by
  show (uL l).toArray.setIfInBounds 0 _ = _
  rw [List.setIfInBounds_toArray, uL, uL, List.map_set]
  rfl
theorem lan0 {l : List Nat} (h : Lan l) : l[0]?.getD 0 < 18446744073709551616 := by
  have h0 : 0 < l.length := by rw [h.len]; decide
  rw [List.getElem?_eq_getElem h0]
  exact h.lt _ (List.getElem_mem h0)
theorem kec_F {b : Nat} {l : List Nat} {w : World} (hl : Lan l) (kA : Blk w b (uL l).toArray) :
    Ret 353 [.pointer (some ⟨b, 0, none⟩)] w (fun v w' => v = .tuple #[] ∧ Blk w' b (uL (rndN 24 l)).toArray ∧ Ch (fun k => k = b) w w') := by
  have lA := kA.lt
  refine enter (n := 20) Hvaa.func353 rfl rfl (Nat.le_of_ble_eq_true rfl) ?_
  have U : Ch (fun k => k = b) w w := Ch.refl _ w
  refine c_seq (fun K1 hK1 => ?_)
  refine c_seq (fun K2 hK2 => ?_)
  refine c_region ?_
  refine l_step (y_moveV (et g0 rfl)) ?_
  refine l_step (y_eqlNil Hvaa.underlying320 (et g0 rfl) rfl) ?_
  refine l_nil ?_
  refine hK2 _ _ ?_
  refine fg2 0 4 (gS rfl (gS rfl g0)) g0 (fun g => ?_)
  refine c_false (et g0 rfl) rfl ?_
  refine c_skip ?_
  refine hK1 _ _ ?_
  refine fg1 0 (gS rfl g0) (fun g => ?_)
  refine c_seq (fun K4 hK4 => ?_)
  refine c_region ?_
  refine l_step y_assignC ?_
  refine l_nil ?_
  refine hK4 _ _ ?_
  refine c_block (fun Q5 hQ5 => ?_)
  refine fg2 0 2 (gS rfl g0) g0 (fun g => ?_)
  refine c_loop (fun k_ s_ W6 => ∃ (g : Nat → Value) (i : Nat), s_ = (upd (upd g 0 (.pointer (some ⟨b, 0, none⟩))) 2 (.int .u8 (i : Nat))) ∧ 24 - i = k_ ∧ (i ≤ 24) ∧ Blk W6 b ((uL (rndN i l)).toArray) ∧ Ch (fun k => k = b) w W6) (24 - (0)) ?_ ?_
  · exact ⟨g, 0, rfl, rfl, Nat.zero_le _, kA, Ch.refl _ _⟩
  · skip
    intro k_ s_ W6 hI K6 hK6
    obtain ⟨g, i, rfl, rfl, hi, nkA, V6⟩ := hI
    replace kA := nkA
    replace U := U.cc V6 (by intro b hb; first | exact hb.elim | omega | (simp at hb ⊢; omega))
    refine c_seq (fun K7 hK7 => ?_)
    refine c_seq (fun K8 hK8 => ?_)
    refine c_region ?_
    refine l_step (y_moveV (et g0 rfl)) ?_
    refine l_step (y_lss (et g0 rfl) rfl) ?_
    refine l_nil ?_
    refine hK8 _ _ ?_
    refine fg3 0 2 6 (gS rfl (gS rfl (gS rfl g0))) (gS rfl (gS rfl g0)) g0 (fun g => ?_)
    refine c_cond (et g0 rfl) (fun cB2 => ?_) (fun cB2 => ?_)
    · skip
      
      have hil : i < 24 := by have := of_decide_eq_true cB2; omega
      refine c_skip ?_
      refine hK7 _ _ ?_
      refine fg2 0 2 (gS rfl (gS rfl g0)) (gS rfl g0) (fun g => ?_)
      refine c_seq (fun K10 hK10 => ?_)
      refine c_block (fun Q11 hQ11 => ?_)
      refine c_seq (fun K12 hK12 => ?_)
      refine c_region ?_
      refine l_step (y_moveV (et (gS rfl g0) rfl)) ?_
      refine l_eff (e_callV cal_397 (aC (et g0 rfl) aN) (kec_rnd (rndN_lan hl i) kA)) (fun v13 w13 h13 => ?_)
      obtain ⟨rfl, kA13, c13⟩ := h13
      replace kA := kA13
      replace V6 := V6.cc c13 (by intro b hb; first | omega | (simp at hb ⊢; omega) | (have := hOo.lim b hb.symm; omega))
      replace U := U.cc c13 (by intro b hb; first | omega | exact .inl hb | exact .inr (hb ▸ U))
      refine l_nil ?_
      refine hK12 _ _ ?_
      refine fg2 0 2 (gS rfl (gS rfl (gS rfl g0))) (gS rfl (gS rfl g0)) (fun g => ?_)
      refine c_draw Up 9 [(0, true), (1, true), (2, true), (3, true), (4, true), (7, true), (5, false), (6, true), (8, true), (9, false)] (by kernel_rfl) (fun w14 hu => ⟨Up.refl _, ?_⟩)
      replace kA := kA.up hu
      replace U := U.tr hu
      replace V6 := V6.tr hu
      have SU := Up.refl w14
      refine p_step (by exact rfl) (y_moveV (et (gS rfl g0) rfl)) ?_
      refine p_step (by exact rfl) (y_nil (et g0 rfl)) ?_
      refine p_step (by exact rfl) (y_idxAC 0 0 Hvaa.underlying318 sz_26 (et g0 rfl) rfl rfl rfl) ?_
      refine p_step (by exact rfl) (y_load1 one_26 (et g0 rfl) (atS (kA.cell (lan_cell (rnd_lan (rndN_lan hl i)))))) ?_
      refine p_step (by exact rfl) (y_moveV (et (gS rfl (gS rfl (gS rfl (gS rfl g0)))) rfl)) ?_
      refine p_step (by exact rfl) (y_nil (et (gS rfl (gS rfl (gS rfl (gS rfl g0)))) rfl)) ?_
      refine p_eff (by exact rfl) (e_callV cal_398 (aC (et (gS rfl g0) rfl) aN) (kec_RC _ _ (by omega))) (fun v15 w15 h15 => ?_)
      obtain ⟨rfl, u15⟩ := h15
      replace kA := kA.up u15
      replace U := U.tr u15
      replace V6 := V6.tr u15
      refine ⟨.inr (SU.tr u15), ?_⟩
      replace SU := SU.tr u15
      refine p_step (by exact rfl) (y_xor uk64 (et (gS rfl (gS rfl (gS rfl g0))) rfl) (et g0 rfl) ?_ ?_) ?_
      exact lan0 (rnd_lan (rndN_lan hl i))
      exact kRC_lt i
      refine p_step (by exact rfl) (y_idxAC 0 0 Hvaa.underlying318 sz_26 (et (gS rfl (gS rfl g0)) rfl) rfl rfl rfl) ?_
      refine p_effN (by exact rfl) (e_store sz_26 (et g0 rfl) (cellsV (et (gS rfl g0) rfl) rfl) rfl (by intro v hv; simp at hv; subst hv; rfl) kA (by (rw [List.size_toArray, uL, List.length_map, (rnd_lan (rndN_lan hl i)).len]; decide))) (fun v16 w16 h16 => ?_)
      obtain ⟨rfl, x16⟩ := h16
      replace kA := x16.blk
      replace U := U.st x16 (.inl (by first | rfl | (simp; done)))
      replace V6 := V6.st x16 (by omega)
      refine ⟨.inl rfl, ?_⟩
      replace kA : Blk w16 b (uL (rndN (i + 1) l)).toArray := by
        have h9 := kA
        rw [show (0 + 0 * 1 : Nat) = 0 from rfl, lan_set] at h9
        exact h9
      refine p_nil ?_
      refine hQ11 _ _ _ (in_normal ?_)
      refine hK10 _ _ ?_
      refine fg2 0 2 (gS rfl (gS rfl (gS rfl (gS rfl (gS rfl (gS rfl (gS rfl (gS rfl (gS rfl (gS rfl g0)))))))))) (gS rfl (gS rfl (gS rfl (gS rfl (gS rfl (gS rfl (gS rfl (gS rfl (gS rfl g0))))))))) (fun g => ?_)
      refine c_region ?_
      refine l_step (y_moveV (et g0 rfl)) ?_
      refine l_step (y_add (et g0 rfl) rfl (wrapU_addN (b := 1) uk8 ?_)) ?_
      omega
      refine l_step (y_assignV (et g0 rfl)) ?_
      refine l_nil ?_
      refine fK2 0 2 (gS rfl (gS rfl (gS rfl (gS rfl g0)))) g0 (fun g => ?_)
      exact hK6 (24 - ((i + 1))) _ _ (by omega) ⟨g, (i + 1), rfl, rfl, by omega, kA, V6⟩
    · skip
      
      have hil : i = 24 := by have := of_decide_eq_false cB2; omega
      subst hil
      refine c_exit ?_
      refine hQ5 _ _ _ (in_exit ?_)
      refine end0 rfl ?_
      exact ⟨rfl, kA, U⟩
def trn1 (x : Nat) : Nat := (x / 256 &&& 71777214294589695) ||| ((x &&& 71777214294589695) * 256 % 18446744073709551616)
def trn2 (x : Nat) : Nat := (x / 65536 &&& 281470681808895) ||| ((x &&& 281470681808895) * 65536 % 18446744073709551616)
def trn3 (x : Nat) : Nat := (x / 4294967296) ||| (x * 4294967296 % 18446744073709551616)
def trnN (x : Nat) : Nat := trn3 (trn2 (trn1 x))
theorem or64 {a b : Nat} (ha : a < 18446744073709551616) (hb : b < 18446744073709551616) : a ||| b < 18446744073709551616 := Nat.or_lt_two_pow (n := 64) ha hb
theorem shr64 {a k : Nat} (ha : a < 18446744073709551616) : a / k < 18446744073709551616 := Nat.lt_of_le_of_lt (Nat.div_le_self _ _) ha
theorem mod64 (a : Nat) : a % 18446744073709551616 < 18446744073709551616 := Nat.mod_lt _ (by decide)
theorem kec_turned (x : Nat) (w : World) (hx : x < 18446744073709551616) :
    Ret 243 [.int .u64 x] w (fun v w' => v = .int .u64 (trnN x : Nat) ∧ Up w w') := by
  refine enter (n := 22) Hvaa.func243 rfl rfl (Nat.le_of_ble_eq_true rfl) ?_
  have U := Up.refl w
  refine c_seq (fun K1 hK1 => ?_)
  refine c_region ?_
  refine l_step y_assignC ?_
  refine l_nil ?_
  refine hK1 _ _ ?_
  refine fg1 0 (gS rfl g0) (fun g => ?_)
  refine c_seq (fun K2 hK2 => ?_)
  refine c_region ?_
  refine l_step (y_moveV (et g0 rfl)) ?_
  refine l_step (y_shr (et g0 rfl) rfl (by decide) (shr64C 8 256 (by decide) rfl)) ?_
  refine l_step (y_and uk64 (p := 71777214294589695) (et g0 rfl) rfl ?_ ?_) ?_
  repeat' first | assumption | exact mod64 _ | refine or64 ?_ ?_ | refine and64 ?_ | refine shr64 ?_ | decide
  repeat' first | assumption | exact mod64 _ | refine or64 ?_ ?_ | refine and64 ?_ | refine shr64 ?_ | decide
  refine l_step (y_moveV (et (gS rfl (gS rfl (gS rfl g0))) rfl)) ?_
  refine l_step (y_and uk64 (p := 71777214294589695) (et g0 rfl) rfl ?_ ?_) ?_
  repeat' first | assumption | exact mod64 _ | refine or64 ?_ ?_ | refine and64 ?_ | refine shr64 ?_ | decide
  repeat' first | assumption | exact mod64 _ | refine or64 ?_ ?_ | refine and64 ?_ | refine shr64 ?_ | decide
  refine l_step (y_shl (et g0 rfl) rfl (by decide) (shl64C 8 256 (by decide) rfl)) ?_
  refine l_step (y_or uk64 (et (gS rfl (gS rfl (gS rfl g0))) rfl) (et g0 rfl) ?_ ?_) ?_
  repeat' first | assumption | exact mod64 _ | refine or64 ?_ ?_ | refine and64 ?_ | refine shr64 ?_ | decide
  repeat' first | assumption | exact mod64 _ | refine or64 ?_ ?_ | refine and64 ?_ | refine shr64 ?_ | decide
  refine l_step (y_assignV (et g0 rfl)) ?_
  refine l_nil ?_
  refine hK2 _ _ ?_
  refine fg1 0 g0 (fun g => ?_)
  refine c_seq (fun K3 hK3 => ?_)
  refine c_region ?_
  refine l_step (y_moveV (et g0 rfl)) ?_
  refine l_step (y_shr (et g0 rfl) rfl (by decide) (shr64C 16 65536 (by decide) rfl)) ?_
  refine l_step (y_and uk64 (p := 281470681808895) (et g0 rfl) rfl ?_ ?_) ?_
  repeat' first | assumption | exact mod64 _ | refine or64 ?_ ?_ | refine and64 ?_ | refine shr64 ?_ | decide
  repeat' first | assumption | exact mod64 _ | refine or64 ?_ ?_ | refine and64 ?_ | refine shr64 ?_ | decide
  refine l_step (y_moveV (et (gS rfl (gS rfl (gS rfl g0))) rfl)) ?_
  refine l_step (y_and uk64 (p := 281470681808895) (et g0 rfl) rfl ?_ ?_) ?_
  repeat' first | assumption | exact mod64 _ | refine or64 ?_ ?_ | refine and64 ?_ | refine shr64 ?_ | decide
  repeat' first | assumption | exact mod64 _ | refine or64 ?_ ?_ | refine and64 ?_ | refine shr64 ?_ | decide
  refine l_step (y_shl (et g0 rfl) rfl (by decide) (shl64C 16 65536 (by decide) rfl)) ?_
  refine l_step (y_or uk64 (et (gS rfl (gS rfl (gS rfl g0))) rfl) (et g0 rfl) ?_ ?_) ?_
  repeat' first | assumption | exact mod64 _ | refine or64 ?_ ?_ | refine and64 ?_ | refine shr64 ?_ | decide
  repeat' first | assumption | exact mod64 _ | refine or64 ?_ ?_ | refine and64 ?_ | refine shr64 ?_ | decide
  refine l_step (y_assignV (et g0 rfl)) ?_
  refine l_nil ?_
  refine hK3 _ _ ?_
  refine fg1 0 g0 (fun g => ?_)
  refine c_seq (fun K4 hK4 => ?_)
  refine c_region ?_
  refine l_step (y_moveV (et g0 rfl)) ?_
  refine l_step (y_shr (et g0 rfl) rfl (by decide) (shr64C 32 4294967296 (by decide) rfl)) ?_
  refine l_step (y_moveV (et (gS rfl (gS rfl g0)) rfl)) ?_
  refine l_step (y_shl (et g0 rfl) rfl (by decide) (shl64C 32 4294967296 (by decide) rfl)) ?_
  refine l_step (y_or uk64 (et (gS rfl (gS rfl g0)) rfl) (et g0 rfl) ?_ ?_) ?_
  repeat' first | assumption | exact mod64 _ | refine or64 ?_ ?_ | refine and64 ?_ | refine shr64 ?_ | decide
  repeat' first | assumption | exact mod64 _ | refine or64 ?_ ?_ | refine and64 ?_ | refine shr64 ?_ | decide
  refine l_step (y_assignV (et g0 rfl)) ?_
  refine l_nil ?_
  refine hK4 _ _ ?_
  refine fg1 2 g0 (fun g => ?_)
  refine c_ret ?_
  refine ret1 rfl (res_tmp (et g0 rfl)) ?_
  exact ⟨rfl, U⟩
end Go.Proofs.YgvaawGreat
