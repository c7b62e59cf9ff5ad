import Derived.Test.YgvaawGreatX2
set_option maxRecDepth 100000
set_option maxHeartbeats 4000000
set_option linter.unusedSimpArgs false
set_option linter.unusedVariables false
namespace Go.Proofs.YgvaawGreat
open Go
def oL (l : List Bool) : List Value := l.map Value.bool
theorem oL_get {m : List Bool} {j : Nat} {x : Bool} (h : m[j]? = some x) : (oL m).toArray[j]? = some (.bool x) := by rw [List.getElem?_toArray, oL, List.getElem?_map, h]; rfl
theorem oL_set {m : List Bool} {j : Nat} {x : Bool} : spl (oL m).toArray (0 + j * 1) [.bool x] = (oL (m.set j x)).toArray := by
  rw [Nat.zero_add, Nat.mul_one]
  show (oL m).toArray.setIfInBounds j (.bool x) = _
  rw [List.setIfInBounds_toArray, oL, oL, List.map_set]
def shL (l : List Bool) (i : Nat) : List Bool := l.take (i + 1) ++ (l.drop i).take (7 - i)
theorem sh_get {a0 a1 a2 a3 a4 a5 a6 a7 : Bool} {i : Nat} (h0 : 0 < i) (h7 : i ≤ 7) : (shL [a0, a1, a2, a3, a4, a5, a6, a7] i)[i - 1]? = [a0, a1, a2, a3, a4, a5, a6, a7][i - 1]? := by
  rcases (show i = 1 ∨ i = 2 ∨ i = 3 ∨ i = 4 ∨ i = 5 ∨ i = 6 ∨ i = 7 by omega) with rfl | rfl | rfl | rfl | rfl | rfl | rfl <;> rfl
theorem sh_set {a0 a1 a2 a3 a4 a5 a6 a7 x : Bool} {i : Nat} (h0 : 0 < i) (h7 : i ≤ 7) (hx : [a0, a1, a2, a3, a4, a5, a6, a7][i - 1]? = some x) : (shL [a0, a1, a2, a3, a4, a5, a6, a7] i).set i x = shL [a0, a1, a2, a3, a4, a5, a6, a7] (i - 1) := by
  rcases (show i = 1 ∨ i = 2 ∨ i = 3 ∨ i = 4 ∨ i = 5 ∨ i = 6 ∨ i = 7 by omega) with rfl | rfl | rfl | rfl | rfl | rfl | rfl <;> (cases hx; rfl)
def turnL (l : List Bool) : List Bool := match l with
  | [a0, a1, a2, a3, a4, a5, a6, a7] => [a7, a0, a1, a2, a3 != a7, a4 != a7, a5 != a7, a6]
  | l => l
theorem km_turn (br : Nat) (a0 a1 a2 a3 a4 a5 a6 a7 : Bool) (w : World) (kR : Blk w br (oL [a0, a1, a2, a3, a4, a5, a6, a7]).toArray) :
    Ret 422 [.pointer (some ⟨br, 0, none⟩)] w (fun v w' => v = .tuple #[] ∧ Ch (fun k => k = br) w w' ∧ Blk w' br (oL (turnL [a0, a1, a2, a3, a4, a5, a6, a7])).toArray) := by
  refine enter (n := 53) Hvaa.func422 rfl rfl (Nat.le_of_ble_eq_true rfl) ?_
  have U : Ch (fun k => k = br) w w := Ch.refl _ w
  refine c_seq (fun K1 hK1 => ?_)
  exact (by
    refine c_region ?_
    refine l_step (y_moveV (et g0 rfl)) ?_
    refine l_step (y_nil (et g0 rfl)) ?_
    refine l_step (y_idxAC 7 7 Hvaa.underlying473 sz_4 (et g0 rfl) rfl rfl rfl) ?_
    refine l_step (y_load1 one_4 (et g0 rfl) (at1 (kR.cell (oL_get (m := [a0, a1, a2, a3, a4, a5, a6, a7]) rfl)))) ?_
    refine l_step (y_assignV (et g0 rfl)) ?_
    refine l_nil ?_
    refine hK1 _ _ ?_
    refine fg2 0 2 (gS rfl (gS rfl (gS rfl (gS rfl (gS rfl g0))))) g0 (fun g => ?_)
    refine c_seq (fun K2 hK2 => ?_)
    refine c_seq (fun K3 hK3 => ?_)
    exact (by
      refine c_region ?_
      refine l_step y_assignC ?_
      refine l_nil ?_
      refine hK3 _ _ ?_
      refine c_block (fun Q4 hQ4 => ?_)
      refine fg3 0 2 3 (gS rfl (gS rfl g0)) (gS rfl g0) g0 (fun g => ?_)
      refine c_loop (fun k_ s_ W5 => ∃ (g : Nat → Value) (i : Nat), s_ = (upd (upd (upd g 0 (.pointer (some ⟨br, 0, none⟩))) 2 (.bool a7)) 3 (.int .i64 (i : Nat))) ∧ i = k_ ∧ (i ≤ 7) ∧ Blk W5 br ((oL (shL [a0, a1, a2, a3, a4, a5, a6, a7] i)).toArray) ∧ Ch (fun k => k = br) w W5) ((7)) ?_ ?_
      · exact ⟨g, 7, rfl, rfl, Nat.le_refl _, kR, Ch.refl _ _⟩
      · skip
        intro k_ s_ W5 hI K5 hK5
        obtain ⟨g, i, rfl, rfl, hi, nkR, V5⟩ := hI
        replace kR := nkR
        replace U := U.cc V5 (by intro b hb; first | exact hb.elim | omega | (simp at hb ⊢; omega))
        refine c_seq (fun K6 hK6 => ?_)
        refine c_seq (fun K7 hK7 => ?_)
        exact (by
          refine c_region ?_
          refine l_step (y_moveV (et g0 rfl)) ?_
          refine l_step (y_gtr (et g0 rfl) rfl) ?_
          refine l_nil ?_
          refine hK7 _ _ ?_
          refine fg4 0 2 3 9 (gS rfl (gS rfl (gS rfl (gS rfl g0)))) (gS rfl (gS rfl (gS rfl g0))) (gS rfl (gS rfl g0)) g0 (fun g => ?_)
          refine c_cond (et g0 rfl) (fun cB1 => ?_) (fun cB1 => ?_)
          · skip
            
            have hi0 : 0 < i := by have := of_decide_eq_true cB1; omega
            obtain ⟨x, hx⟩ : ∃ x, [a0, a1, a2, a3, a4, a5, a6, a7][i - 1]? = some x := ⟨_, List.getElem?_eq_getElem (by simp; omega)⟩
            refine c_skip ?_
            refine hK6 _ _ ?_
            refine fg3 0 2 3 (gS rfl (gS rfl (gS rfl g0))) (gS rfl (gS rfl g0)) (gS rfl g0) (fun g => ?_)
            refine c_seq (fun K9 hK9 => ?_)
            refine c_block (fun Q10 hQ10 => ?_)
            exact (by
              refine c_draw Up 10 [(0, true), (1, true), (2, true), (3, true), (4, true), (5, true), (6, true), (7, true), (8, true), (9, true), (10, false)] (by kernel_rfl) (fun w11 hu => ⟨Up.refl _, ?_⟩)
              replace kR := kR.up hu
              replace U := U.tr hu
              replace V5 := V5.tr hu
              have SU := Up.refl w11
              refine p_step (by exact rfl) (y_moveV (et (gS rfl (gS rfl g0)) rfl)) ?_
              refine p_step (by exact rfl) (y_moveV (et (gS rfl g0) rfl)) ?_
              refine p_step (by exact rfl) (y_moveV (et (gS rfl (gS rfl (gS rfl (gS rfl g0)))) rfl)) ?_
              refine p_step (by exact rfl) (y_moveV (et (gS rfl (gS rfl (gS rfl g0))) rfl)) ?_
              refine p_step (by exact rfl) (y_sub (et g0 rfl) rfl (subIN (y := 1) ?_ ?_)) ?_
              omega
              omega
              refine p_step (by exact rfl) (y_nil (et (gS rfl (gS rfl g0)) rfl)) ?_
              refine p_step (by exact rfl) (y_idxA Hvaa.underlying473 sz_4 (et g0 rfl) (et (gS rfl g0) rfl) ?_ ?_) ?_
              omega
              omega
              refine p_step (by exact rfl) (y_load1 one_4 (et g0 rfl) (atS (kR.cell (oL_get (by rw [Nat.zero_add, Nat.mul_one]; exact (sh_get hi0 hi).trans hx))))) ?_
              refine p_step (by exact rfl) (y_nil (et (gS rfl (gS rfl (gS rfl (gS rfl (gS rfl (gS rfl (gS rfl g0))))))) rfl)) ?_
              refine p_step (by exact rfl) (y_idxA Hvaa.underlying473 sz_4 (et g0 rfl) (et (gS rfl (gS rfl (gS rfl (gS rfl (gS rfl (gS rfl (gS rfl g0))))))) rfl) ?_ ?_) ?_
              omega
              omega
              refine p_effN (by exact rfl) (e_store sz_4 (et g0 rfl) (cellsV (et (gS rfl (gS rfl g0)) rfl) rfl) rfl (by intro u hu; simp at hu; subst hu; rfl) kR (by (simp [oL, shL]; omega))) (fun v12 w12 h12 => ?_)
              obtain ⟨rfl, x12⟩ := h12
              replace kR := x12.blk
              replace U := U.st x12 (.inl (by first | rfl | (simp; done)))
              replace V5 := V5.st x12 (by omega)
              refine ⟨.inl rfl, ?_⟩
              rw [show (0 : Nat) + ((i : Nat) : Int).toNat * 1 = 0 + i * 1 from rfl, oL_set, sh_set hi0 hi hx] at kR
              refine p_nil ?_
              refine hQ10 _ _ _ (in_normal ?_)
              refine hK9 _ _ ?_
              refine fg3 0 2 3 (gS rfl (gS rfl (gS rfl (gS rfl (gS rfl (gS rfl (gS rfl (gS rfl (gS rfl (gS rfl (gS rfl (gS rfl g0)))))))))))) (gS rfl (gS rfl (gS rfl (gS rfl (gS rfl (gS rfl (gS rfl (gS rfl (gS rfl (gS rfl (gS rfl g0))))))))))) (gS rfl (gS rfl (gS rfl (gS rfl (gS rfl (gS rfl (gS rfl (gS rfl (gS rfl (gS rfl g0)))))))))) (fun g => ?_)
              refine c_region ?_
              exact (by
                refine l_step (y_moveV (et g0 rfl)) ?_
                refine l_step (y_sub (et g0 rfl) rfl (subIN (y := 1) ?_ ?_)) ?_
                omega
                omega
                refine l_step (y_assignV (et g0 rfl)) ?_
                refine l_nil ?_
                refine fK3 0 2 3 (gS rfl (gS rfl (gS rfl (gS rfl (gS rfl g0))))) (gS rfl (gS rfl (gS rfl (gS rfl g0)))) g0 (fun g => ?_)
                exact hK5 (((i - 1))) _ _ (by omega) ⟨g, (i - 1), rfl, rfl, by omega, kR, V5⟩))
          · skip
            
            have hi0 : i = 0 := by have := of_decide_eq_false cB1; omega
            subst hi0
            replace kR : Blk W5 br (oL [a0, a0, a1, a2, a3, a4, a5, a6]).toArray := kR
            refine c_exit ?_
            refine hQ4 _ _ _ (in_exit ?_)
            refine hK2 _ _ ?_
            refine fg2 0 2 (gS rfl (gS rfl (gS rfl g0))) (gS rfl (gS rfl g0)) (fun g => ?_)
            refine c_seq (fun K13 hK13 => ?_)
            exact (by
              refine c_region ?_
              refine l_step (y_moveV (et (gS rfl g0) rfl)) ?_
              refine l_step (y_moveV (et (gS rfl g0) rfl)) ?_
              refine l_step (y_nil (et (gS rfl g0) rfl)) ?_
              refine l_step (y_idxAC 0 0 Hvaa.underlying473 sz_4 (et g0 rfl) rfl rfl rfl) ?_
              refine l_effN (e_store sz_4 (et g0 rfl) (cellsV (et (gS rfl (gS rfl g0)) rfl) rfl) rfl (by first | exact one_bL _ | exact one_uL _ | (intro v hv; simp at hv; subst hv; rfl)) kR (by first | exact Nat.le_of_ble_eq_true rfl | (simp; done) | (simp; omega) | omega)) (fun v14 w14 h14 => ?_)
              obtain ⟨rfl, x14⟩ := h14
              replace kR := x14.blk
              replace U := U.st x14 (.inl (by first | rfl | (simp; done)))
              replace kR : Blk w14 br (oL [a7, a0, a1, a2, a3, a4, a5, a6]).toArray := kR
              refine l_nil ?_
              refine hK13 _ _ ?_
              refine fg2 0 2 (gS rfl (gS rfl (gS rfl (gS rfl (gS rfl g0))))) (gS rfl (gS rfl (gS rfl (gS rfl g0)))) (fun g => ?_)
              refine c_seq (fun K15 hK15 => ?_)
              exact (by
                refine c_draw Up 9 [(0, true), (1, true), (2, true), (3, true), (4, true), (5, true), (6, true), (7, true), (8, true), (9, false)] (by kernel_rfl) (fun w16 hu => ⟨Up.refl _, ?_⟩)
                replace kR := kR.up hu
                replace U := U.tr hu
                have SU := Up.refl w16
                refine p_step (by exact rfl) (y_moveV (et (gS rfl g0) rfl)) ?_
                refine p_step (by exact rfl) (y_moveV (et (gS rfl (gS rfl g0)) rfl)) ?_
                refine p_step (by exact rfl) (y_nil (et g0 rfl)) ?_
                refine p_step (by exact rfl) (y_idxAC 4 4 Hvaa.underlying473 sz_4 (et g0 rfl) rfl rfl rfl) ?_
                refine p_step (by exact rfl) (y_load1 one_4 (et g0 rfl) (atS (kR.cell rfl))) ?_
                refine p_step (by exact rfl) (y_moveV (et (gS rfl (gS rfl (gS rfl (gS rfl (gS rfl g0))))) rfl)) ?_
                refine p_step (by exact rfl) (y_neqB Hvaa.underlying4 (et (gS rfl g0) rfl) (et g0 rfl)) ?_
                refine p_step (by exact rfl) (y_nil (et (gS rfl (gS rfl (gS rfl (gS rfl (gS rfl (gS rfl g0)))))) rfl)) ?_
                refine p_step (by exact rfl) (y_idxAC 4 4 Hvaa.underlying473 sz_4 (et g0 rfl) rfl rfl rfl) ?_
                refine p_effN (by exact rfl) (e_store sz_4 (et g0 rfl) (cellsV (et (gS rfl (gS rfl g0)) rfl) rfl) rfl (by first | exact one_bL _ | exact one_uL _ | (intro v hv; simp at hv; subst hv; rfl)) kR (by first | exact Nat.le_of_ble_eq_true rfl | (simp; done) | (simp; omega) | omega)) (fun v17 w17 h17 => ?_)
                obtain ⟨rfl, x17⟩ := h17
                replace kR := x17.blk
                replace U := U.st x17 (.inl (by first | rfl | (simp; done)))
                refine ⟨.inl rfl, ?_⟩
                replace kR : Blk w17 br (oL [a7, a0, a1, a2, a3 != a7, a4, a5, a6]).toArray := kR
                refine p_nil ?_
                refine hK15 _ _ ?_
                refine fg2 0 2 (gS rfl (gS rfl (gS rfl (gS rfl (gS rfl (gS rfl (gS rfl (gS rfl (gS rfl (gS rfl g0)))))))))) (gS rfl (gS rfl (gS rfl (gS rfl (gS rfl (gS rfl (gS rfl (gS rfl (gS rfl g0))))))))) (fun g => ?_)
                refine c_seq (fun K18 hK18 => ?_)
                exact (by
                  refine c_draw Up 9 [(0, true), (1, true), (2, true), (3, true), (4, true), (5, true), (6, true), (7, true), (8, true), (9, false)] (by kernel_rfl) (fun w19 hu => ⟨Up.refl _, ?_⟩)
                  replace kR := kR.up hu
                  replace U := U.tr hu
                  have SU := Up.refl w19
                  refine p_step (by exact rfl) (y_moveV (et (gS rfl g0) rfl)) ?_
                  refine p_step (by exact rfl) (y_moveV (et (gS rfl (gS rfl g0)) rfl)) ?_
                  refine p_step (by exact rfl) (y_nil (et g0 rfl)) ?_
                  refine p_step (by exact rfl) (y_idxAC 5 5 Hvaa.underlying473 sz_4 (et g0 rfl) rfl rfl rfl) ?_
                  refine p_step (by exact rfl) (y_load1 one_4 (et g0 rfl) (atS (kR.cell rfl))) ?_
                  refine p_step (by exact rfl) (y_moveV (et (gS rfl (gS rfl (gS rfl (gS rfl (gS rfl g0))))) rfl)) ?_
                  refine p_step (by exact rfl) (y_neqB Hvaa.underlying4 (et (gS rfl g0) rfl) (et g0 rfl)) ?_
                  refine p_step (by exact rfl) (y_nil (et (gS rfl (gS rfl (gS rfl (gS rfl (gS rfl (gS rfl g0)))))) rfl)) ?_
                  refine p_step (by exact rfl) (y_idxAC 5 5 Hvaa.underlying473 sz_4 (et g0 rfl) rfl rfl rfl) ?_
                  refine p_effN (by exact rfl) (e_store sz_4 (et g0 rfl) (cellsV (et (gS rfl (gS rfl g0)) rfl) rfl) rfl (by first | exact one_bL _ | exact one_uL _ | (intro v hv; simp at hv; subst hv; rfl)) kR (by first | exact Nat.le_of_ble_eq_true rfl | (simp; done) | (simp; omega) | omega)) (fun v20 w20 h20 => ?_)
                  obtain ⟨rfl, x20⟩ := h20
                  replace kR := x20.blk
                  replace U := U.st x20 (.inl (by first | rfl | (simp; done)))
                  refine ⟨.inl rfl, ?_⟩
                  replace kR : Blk w20 br (oL [a7, a0, a1, a2, a3 != a7, a4 != a7, a5, a6]).toArray := kR
                  refine p_nil ?_
                  refine hK18 _ _ ?_
                  refine fg2 0 2 (gS rfl (gS rfl (gS rfl (gS rfl (gS rfl (gS rfl (gS rfl (gS rfl (gS rfl (gS rfl g0)))))))))) (gS rfl (gS rfl (gS rfl (gS rfl (gS rfl (gS rfl (gS rfl (gS rfl (gS rfl g0))))))))) (fun g => ?_)
                  refine c_draw Up 9 [(0, true), (1, true), (2, true), (3, true), (4, true), (5, true), (6, true), (7, true), (8, true), (9, false)] (by kernel_rfl) (fun w21 hu => ⟨Up.refl _, ?_⟩)
                  replace kR := kR.up hu
                  replace U := U.tr hu
                  have SU := Up.refl w21
                  refine p_step (by exact rfl) (y_moveV (et (gS rfl g0) rfl)) ?_
                  refine p_step (by exact rfl) (y_moveV (et (gS rfl (gS rfl g0)) rfl)) ?_
                  refine p_step (by exact rfl) (y_nil (et g0 rfl)) ?_
                  refine p_step (by exact rfl) (y_idxAC 6 6 Hvaa.underlying473 sz_4 (et g0 rfl) rfl rfl rfl) ?_
                  refine p_step (by exact rfl) (y_load1 one_4 (et g0 rfl) (atS (kR.cell rfl))) ?_
                  exact (by
                    refine p_step (by exact rfl) (y_moveV (et (gS rfl (gS rfl (gS rfl (gS rfl (gS rfl g0))))) rfl)) ?_
                    refine p_step (by exact rfl) (y_neqB Hvaa.underlying4 (et (gS rfl g0) rfl) (et g0 rfl)) ?_
                    refine p_step (by exact rfl) (y_nil (et (gS rfl (gS rfl (gS rfl (gS rfl (gS rfl (gS rfl g0)))))) rfl)) ?_
                    refine p_step (by exact rfl) (y_idxAC 6 6 Hvaa.underlying473 sz_4 (et g0 rfl) rfl rfl rfl) ?_
                    refine p_effN (by exact rfl) (e_store sz_4 (et g0 rfl) (cellsV (et (gS rfl (gS rfl g0)) rfl) rfl) rfl (by first | exact one_bL _ | exact one_uL _ | (intro v hv; simp at hv; subst hv; rfl)) kR (by first | exact Nat.le_of_ble_eq_true rfl | (simp; done) | (simp; omega) | omega)) (fun v22 w22 h22 => ?_)
                    obtain ⟨rfl, x22⟩ := h22
                    replace kR := x22.blk
                    replace U := U.st x22 (.inl (by first | rfl | (simp; done)))
                    refine ⟨.inl rfl, ?_⟩
                    replace kR : Blk w22 br (oL [a7, a0, a1, a2, a3 != a7, a4 != a7, a5 != a7, a6]).toArray := kR
                    refine p_nil ?_
                    refine end0 rfl ?_
                    exact ⟨rfl, U, kR⟩)))))))
end Go.Proofs.YgvaawGreat
