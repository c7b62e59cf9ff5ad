import Derived.Test.YgvaawGreatK9
set_option maxRecDepth 100000
set_option maxHeartbeats 4000000
set_option linter.unusedSimpArgs false
set_option linter.unusedVariables false
namespace Go.Proofs.YgvaawGreat
open Go
/-- lanes laid so far, by x and then by y -/
structure Dn (f : KS) (i j : Nat) (C : Array Value) : Prop where
  size : C.size = 1600
  get : ∀ x y z, x < 5 → y < 5 → z < 64 → (x < i ∨ (x = i ∧ y < j)) → C[x * 320 + y * 64 + z]? = some (.bool (f x y z))
def laneV (f : KS) (x y : Nat) : List Value := (List.range 64).map (fun z => Value.bool (f x y z))
theorem lane_len (f : KS) (x y : Nat) : (laneV f x y).length = 64 := by simp [laneV]
theorem lane_one (f : KS) (x y : Nat) : ∀ v ∈ laneV f x y, v.one1 = true := by
  intro v hv
  obtain ⟨z, _, rfl⟩ := List.mem_map.1 hv
  rfl
theorem lane_row {a : KS} {x y : Nat} (hx : x < 5) (hy : y < 5) : RowIn (kCells a) (x * 320 + y * 64) (laneV a x y) := by
  intro z v hv
  have hz : z < 64 := by have := (List.getElem?_eq_some_iff.1 hv).1; rw [lane_len] at this; exact this
  unfold laneV at hv
  rw [List.getElem?_map, List.getElem?_range hz] at hv
  rw [kc_at hx hy hz]
  exact hv
theorem Dn.zero {f : KS} {C : Array Value} (h : C.size = 1600) : Dn f 0 0 C := ⟨h, fun x y z _ _ _ h => by omega⟩
theorem Dn.row {f : KS} {i : Nat} {C : Array Value} (h : Dn f i 5 C) : Dn f (i + 1) 0 C := ⟨h.size, fun x y z hx hy hz h9 => h.get x y z hx hy hz (by omega)⟩
theorem Dn.step {f : KS} {i j : Nat} {C : Array Value} (h : Dn f i j C) (hi : i < 5) (hj : j < 5) : Dn f i (j + 1) (spl C (i * 320 + j * 64) (laneV f i j)) := by
  have hz : i * 320 + j * 64 + (laneV f i j).length ≤ C.size := by rw [lane_len, h.size]; omega
  refine ⟨by rw [size_spl]; exact h.size, fun x y z hx hy hz' h9 => ?_⟩
  by_cases he : x = i ∧ y = j
  · obtain ⟨rfl, rfl⟩ := he
    refine get_spl_in hz ?_
    unfold laneV
    rw [List.getElem?_map, List.getElem?_range hz']
    rfl
  · rw [get_spl_out hz (by rw [lane_len]; omega)]
    exact h.get x y z hx hy hz' (by omega)
theorem Dn.full {f : KS} {C : Array Value} (h : Dn f 5 0 C) : C = kCells f := by
  apply Array.ext_getElem?
  intro i
  by_cases hi : i < 1600
  · rw [kc_get hi]
    have := h.get (i / 320) (i / 64 % 5) (i % 64) (by omega) (by omega) (by omega) (by omega)
    rw [show i / 320 * 320 + i / 64 % 5 * 64 + i % 64 = i by omega] at this
    exact this
  · rw [Array.getElem?_eq_none (by rw [h.size]; omega), Array.getElem?_eq_none (by rw [kc_size]; omega)]
theorem kc_one (f : KS) : ∀ v ∈ (kCells f).toList, v.one1 = true := by
  intro v hv
  unfold kCells at hv
  obtain ⟨z, _, rfl⟩ := List.mem_map.1 hv
  rfl
theorem km_pi {bA : Nat} {a : KS} {w : World} (kA : Blk w bA (kCells a)) :
    Ret 390 [.pointer (some ⟨bA, 0, none⟩)] w (fun v w' => v = .agg (kCells (kPi a)) ∧ Up w w') := by
  have lA := kA.lt
  refine enter (n := 29) Hvaa.func390 rfl rfl (Nat.le_of_ble_eq_true rfl) ?_
  have U := Up.refl w
  refine c_seq (fun K1 hK1 => ?_)
  refine c_region ?_
  refine l_eff (e_alloc zr_438) (fun v2 w2 h2 => ?_)
  obtain ⟨b2, rfl, n2⟩ := h2
  have f2 : w.heap.size ≤ b2 := Nat.le_trans U.size n2.fresh
  replace kA := kA.up n2.up
  replace U := U.tr n2.up
  have k2 := n2.blk
  obtain ⟨zs2, hz2, k2⟩ : ∃ cs : Array Value, cs.size = 1600 ∧ Blk w2 b2 cs := ⟨_, rfl, k2⟩
  refine l_nil ?_
  refine hK1 _ _ ?_
  refine c_seq (fun K3 hK3 => ?_)
  refine c_seq (fun K4 hK4 => ?_)
  refine c_region ?_
  refine l_step y_moveC ?_
  refine l_nil ?_
  refine hK4 _ _ ?_
  refine c_block (fun Q5 hQ5 => ?_)
  refine fg3 0 2 5 (gS rfl (gS rfl g0)) (gS rfl g0) g0 (fun g => ?_)
  refine c_loop (fun k_ s_ W6 => ∃ (g : Nat → Value) (C : Array Value) (i : Nat), s_ = (upd (upd (upd g 0 (.pointer (some ⟨bA, 0, none⟩))) 2 (.pointer (some ⟨b2, 0, none⟩))) 5 (.int .i64 (i : Nat))) ∧ 5 - i = k_ ∧ (i ≤ 5) ∧ (Dn (kPi a) i 0 C) ∧ Blk W6 b2 (C) ∧ Ch (fun k => k = b2) w2 W6) (5 - (0)) ?_ ?_
  · exact ⟨g, _, 0, rfl, rfl, Nat.zero_le _, Dn.zero hz2, k2, Ch.refl _ _⟩
  · skip
    intro k_ s_ W6 hI K6 hK6
    obtain ⟨g, C, i, rfl, rfl, hi, hC, nk2, V6⟩ := hI
    replace kA := kA.ch V6 (by omega)
    replace k2 := nk2
    replace U := U.cc V6 (by intro b hb; first | exact hb.elim | omega | (simp at hb ⊢; omega))
    refine c_seq (fun K7 hK7 => ?_)
    refine c_region ?_
    refine l_step (y_lss (et g0 rfl) rfl) ?_
    refine l_nil ?_
    refine hK7 _ _ ?_
    refine c_seq (fun K8 hK8 => ?_)
    refine c_cond (et g0 rfl) (fun cB1 => ?_) (fun cB1 => ?_)
    · skip
      
      have hil : i < 5 := by have := of_decide_eq_true cB1; omega
      refine c_skip ?_
      refine hK8 _ _ ?_
      refine fg3 0 2 5 (gS rfl (gS rfl (gS rfl g0))) (gS rfl (gS rfl g0)) (gS rfl g0) (fun g => ?_)
      refine c_seq (fun K10 hK10 => ?_)
      refine c_block (fun Q11 hQ11 => ?_)
      refine c_seq (fun K12 hK12 => ?_)
      refine c_region ?_
      refine l_step (y_moveV (et g0 rfl)) ?_
      refine l_step (y_assignV (et g0 rfl)) ?_
      refine l_nil ?_
      refine hK12 _ _ ?_
      refine fg4 0 2 5 3 (gS rfl (gS rfl (gS rfl (gS rfl g0)))) (gS rfl (gS rfl (gS rfl g0))) (gS rfl (gS rfl g0)) g0 (fun g => ?_)
      refine c_seq (fun K13 hK13 => ?_)
      refine c_region ?_
      refine l_step y_moveC ?_
      refine l_nil ?_
      refine hK13 _ _ ?_
      refine c_block (fun Q14 hQ14 => ?_)
      refine fg5 0 2 3 5 8 (gS rfl (gS rfl (gS rfl (gS rfl g0)))) (gS rfl (gS rfl (gS rfl g0))) (gS rfl g0) (gS rfl (gS rfl g0)) g0 (fun g => ?_)
      refine c_loop (fun k_ s_ W15 => ∃ (g : Nat → Value) (D : Array Value) (j : Nat), s_ = (upd (upd (upd (upd (upd g 0 (.pointer (some ⟨bA, 0, none⟩))) 2 (.pointer (some ⟨b2, 0, none⟩))) 3 (.int .i64 (i : Nat))) 5 (.int .i64 (i : Nat))) 8 (.int .i64 (j : Nat))) ∧ 5 - j = k_ ∧ (j ≤ 5) ∧ (Dn (kPi a) i j D) ∧ Blk W15 b2 (D) ∧ Ch (fun k => k = b2) W6 W15) (5 - (0)) ?_ ?_
      · exact ⟨g, _, 0, rfl, rfl, Nat.zero_le _, hC, k2, Ch.refl _ _⟩
      · skip
        intro k_ s_ W15 hI K15 hK15
        obtain ⟨g, D, j, rfl, rfl, hj, hD, nk2, V15⟩ := hI
        replace kA := kA.ch V15 (by omega)
        replace k2 := nk2
        replace V6 := V6.cc V15 (by intro b hb; first | exact hb.elim | omega)
        replace U := U.cc V15 (by intro b hb; first | exact hb.elim | omega | (simp at hb ⊢; omega))
        refine c_seq (fun K16 hK16 => ?_)
        refine c_region ?_
        refine l_step (y_lss (et g0 rfl) rfl) ?_
        refine l_nil ?_
        refine hK16 _ _ ?_
        refine c_seq (fun K17 hK17 => ?_)
        refine c_cond (et g0 rfl) (fun cB2 => ?_) (fun cB2 => ?_)
        · skip
          
          have hjl : j < 5 := by have := of_decide_eq_true cB2; omega
          refine c_skip ?_
          refine hK17 _ _ ?_
          refine fg5 0 2 3 5 8 (gS rfl (gS rfl (gS rfl (gS rfl (gS rfl g0))))) (gS rfl (gS rfl (gS rfl (gS rfl g0)))) (gS rfl (gS rfl (gS rfl g0))) (gS rfl (gS rfl g0)) (gS rfl g0) (fun g => ?_)
          refine c_seq (fun K19 hK19 => ?_)
          refine c_block (fun Q20 hQ20 => ?_)
          refine c_seq (fun K21 hK21 => ?_)
          refine c_region ?_
          refine l_step (y_moveV (et g0 rfl)) ?_
          refine l_step (y_assignV (et g0 rfl)) ?_
          refine l_nil ?_
          refine hK21 _ _ ?_
          refine fg6 0 2 3 5 8 4 (gS rfl (gS rfl (gS rfl (gS rfl (gS rfl (gS rfl g0)))))) (gS rfl (gS rfl (gS rfl (gS rfl (gS rfl g0))))) (gS rfl (gS rfl (gS rfl (gS rfl g0)))) (gS rfl (gS rfl (gS rfl g0))) (gS rfl (gS rfl g0)) g0 (fun g => ?_)
          refine c_draw Up 15 [(0, true), (1, true), (2, true), (3, true), (4, true), (5, true), (6, true), (7, true), (8, true), (9, true), (10, true), (11, true), (12, true), (13, true), (14, true), (15, false)] (by kernel_rfl) (fun w22 hu => ⟨Up.refl _, ?_⟩)
          replace k2 := k2.up hu
          replace kA := kA.up hu
          replace U := U.tr hu
          replace V6 := V6.tr hu
          replace V15 := V15.tr hu
          have SU := Up.refl w22
          refine p_step (by exact rfl) (y_moveV (et (gS rfl (gS rfl (gS rfl g0))) rfl)) ?_
          refine p_step (by exact rfl) (y_moveV (et (gS rfl g0) rfl)) ?_
          refine p_step (by exact rfl) (y_moveV (et (gS rfl (gS rfl (gS rfl (gS rfl (gS rfl (gS rfl (gS rfl g0))))))) rfl)) ?_
          refine p_step (by exact rfl) (y_moveV (et (gS rfl (gS rfl (gS rfl (gS rfl (gS rfl (gS rfl g0)))))) rfl)) ?_
          refine p_step (by exact rfl) (y_moveV (et (gS rfl (gS rfl (gS rfl (gS rfl g0)))) rfl)) ?_
          refine p_step (by exact rfl) (y_mul rfl (et g0 rfl) (mulIN (x := 3) ?_)) ?_
          omega
          refine p_step (by exact rfl) (y_add (et (gS rfl (gS rfl g0)) rfl) (et g0 rfl) (addIN ?_)) ?_
          omega
          refine p_step (by exact rfl) (y_rem (et g0 rfl) rfl (by decide) (remN (b := 5))) ?_
          refine p_step (by exact rfl) (y_moveV (et (gS rfl (gS rfl (gS rfl (gS rfl (gS rfl (gS rfl (gS rfl (gS rfl (gS rfl (gS rfl (gS rfl g0))))))))))) rfl)) ?_
          refine p_step (by exact rfl) (y_nil (et (gS rfl (gS rfl (gS rfl (gS rfl (gS rfl (gS rfl g0)))))) rfl)) ?_
          refine p_step (by exact rfl) (y_idxA Hvaa.underlying438 sz_436 (et g0 rfl) (et (gS rfl (gS rfl g0)) rfl) ?_ ?_) ?_
          omega
          omega
          refine p_step (by exact rfl) (y_idxA Hvaa.underlying436 sz_435 (et g0 rfl) (et (gS rfl (gS rfl g0)) rfl) ?_ ?_) ?_
          omega
          omega
          have hp9 : (i + 3 * j) % 5 < 5 := Nat.mod_lt _ (by decide)
          have hr9 : RowIn (kCells a) (0 + (i + 3 * j) % 5 * 320 + i * 64) (laneV (kPi a) i j) := by rw [Nat.zero_add]; exact lane_row (a := a) hp9 hil
          refine p_step (by exact rfl) (y_loadR agg_435 sz_435 (et g0 rfl) (lane_len _ _ _) (atSR (kA.row hr9))) ?_
          refine p_step (by exact rfl) (y_idxA Hvaa.underlying438 sz_436 (et (gS rfl (gS rfl (gS rfl (gS rfl (gS rfl (gS rfl (gS rfl (gS rfl (gS rfl (gS rfl (gS rfl (gS rfl (gS rfl (gS rfl (gS rfl (gS rfl (gS rfl g0))))))))))))))))) rfl) (et (gS rfl (gS rfl (gS rfl (gS rfl (gS rfl (gS rfl (gS rfl (gS rfl (gS rfl (gS rfl (gS rfl (gS rfl g0)))))))))))) rfl) ?_ ?_) ?_
          omega
          omega
          refine p_step (by exact rfl) (y_idxA Hvaa.underlying436 sz_435 (et g0 rfl) (et (gS rfl (gS rfl (gS rfl (gS rfl (gS rfl (gS rfl (gS rfl (gS rfl (gS rfl (gS rfl (gS rfl (gS rfl g0)))))))))))) rfl) ?_ ?_) ?_
          omega
          omega
          refine p_effN (by exact rfl) (e_store sz_435 (et g0 rfl) (cellsV (et (gS rfl (gS rfl g0)) rfl) rfl) (lane_len _ _ _) (by exact lane_one _ _ _) k2 (by (rw [hD.size]; simp only [Int.toNat_natCast]; omega))) (fun v23 w23 h23 => ?_)
          obtain ⟨rfl, x23⟩ := h23
          replace kA := kA.ch x23.ch (by first | omega | (omega))
          replace k2 := x23.blk
          replace U := U.st x23 f2
          replace V6 := V6.st x23 (by omega)
          replace V15 := V15.st x23 (by omega)
          refine ⟨.inl rfl, ?_⟩
          simp only [Nat.zero_add, Int.toNat_natCast] at k2
          refine p_nil ?_
          refine hQ20 _ _ _ (in_normal ?_)
          refine hK19 _ _ ?_
          refine fg5 0 2 3 5 8 (gS rfl (gS rfl (gS rfl (gS rfl (gS rfl (gS rfl (gS rfl (gS rfl (gS rfl (gS rfl (gS rfl (gS rfl (gS rfl (gS rfl (gS rfl (gS rfl (gS rfl (gS rfl (gS rfl (gS rfl g0)))))))))))))))))))) (gS rfl (gS rfl (gS rfl (gS rfl (gS rfl (gS rfl (gS rfl (gS rfl (gS rfl (gS rfl (gS rfl (gS rfl (gS rfl (gS rfl (gS rfl (gS rfl (gS rfl (gS rfl (gS rfl g0))))))))))))))))))) (gS rfl (gS rfl (gS rfl (gS rfl (gS rfl (gS rfl (gS rfl (gS rfl (gS rfl (gS rfl (gS rfl (gS rfl (gS rfl (gS rfl (gS rfl (gS rfl (gS rfl (gS rfl g0)))))))))))))))))) (gS rfl (gS rfl (gS rfl (gS rfl (gS rfl (gS rfl (gS rfl (gS rfl (gS rfl (gS rfl (gS rfl (gS rfl (gS rfl (gS rfl (gS rfl (gS rfl (gS rfl g0))))))))))))))))) (gS rfl (gS rfl (gS rfl (gS rfl (gS rfl (gS rfl (gS rfl (gS rfl (gS rfl (gS rfl (gS rfl (gS rfl (gS rfl (gS rfl (gS rfl (gS rfl g0)))))))))))))))) (fun g => ?_)
          refine c_region ?_
          refine l_step (y_add (et g0 rfl) rfl (addIN (y := 1) ?_)) ?_
          omega
          refine l_step (y_moveV (et g0 rfl)) ?_
          refine l_nil ?_
          refine fK5 0 2 3 5 8 (gS rfl (gS rfl (gS rfl (gS rfl (gS rfl (gS rfl g0)))))) (gS rfl (gS rfl (gS rfl (gS rfl (gS rfl g0))))) (gS rfl (gS rfl (gS rfl (gS rfl g0)))) (gS rfl (gS rfl (gS rfl g0))) g0 (fun g => ?_)
          exact hK15 (5 - ((j + 1))) _ _ (by omega) ⟨g, _, (j + 1), rfl, rfl, by omega, hD.step hil hjl, k2, V15⟩
        · skip
          
          have hjl : j = 5 := by have := of_decide_eq_false cB2; omega
          subst hjl
          refine c_exit ?_
          refine hQ14 _ _ _ (in_exit ?_)
          refine hQ11 _ _ _ (in_normal ?_)
          refine hK10 _ _ ?_
          refine fg3 0 2 5 (gS rfl (gS rfl (gS rfl (gS rfl (gS rfl g0))))) (gS rfl (gS rfl (gS rfl (gS rfl g0)))) (gS rfl (gS rfl g0)) (fun g => ?_)
          refine c_region ?_
          refine l_step (y_add (et g0 rfl) rfl (addIN (y := 1) ?_)) ?_
          omega
          refine l_step (y_moveV (et g0 rfl)) ?_
          refine l_nil ?_
          refine fK3 0 2 5 (gS rfl (gS rfl (gS rfl (gS rfl g0)))) (gS rfl (gS rfl (gS rfl g0))) g0 (fun g => ?_)
          exact hK6 (5 - ((i + 1))) _ _ (by omega) ⟨g, _, (i + 1), rfl, rfl, by omega, hD.row, k2, V6⟩
    · skip
      
      have hil : i = 5 := by have := of_decide_eq_false cB1; omega
      subst hil
      have hfull := hC.full
      refine c_exit ?_
      refine hQ5 _ _ _ (in_exit ?_)
      refine hK3 _ _ ?_
      refine fg1 2 (gS rfl (gS rfl g0)) (fun g => ?_)
      refine c_seq (fun K24 hK24 => ?_)
      refine c_region ?_
      refine l_step (y_loadB agg_438 sz_438 (et g0 rfl) hC.size (at1B k2)) ?_
      refine l_effN (e_storeS sz_438 (et (gS rfl g0) rfl) (cellsV (et g0 rfl) rfl) hC.size (by rw [hfull]; exact kc_one _) k2) (fun v25 w25 h25 => ?_)
      obtain ⟨rfl, x25⟩ := h25
      replace k2 := k2.up x25
      replace kA := kA.up x25
      replace U := U.tr x25
      refine l_nil ?_
      refine hK24 _ _ ?_
      refine fg1 2 (gS rfl g0) (fun g => ?_)
      refine c_ret ?_
      refine ret1 rfl (res_blk agg_438 sz_438 (et g0 rfl) hC.size k2) ?_
      exact ⟨by rw [hfull], U⟩
end Go.Proofs.YgvaawGreat
