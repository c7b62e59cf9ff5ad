import Derived.Test.YgvaawGreatK11
import Derived.Test.YgvaawGreatK2
set_option maxRecDepth 100000
set_option maxHeartbeats 4000000
set_option linter.unusedSimpArgs false
set_option linter.unusedVariables false
namespace Go.Proofs.YgvaawGreat
open Go
theorem off_lt {x y : Nat} (hx : x < 5) (hy : y < 5) : kOff x y < 64 := by
  have : ∀ p q : Fin 5, kOff p.1 q.1 < 64 := by decide
  exact this ⟨x, hx⟩ ⟨y, hy⟩
/-- a lane turned by k, as two copies lay it -/
theorem rho_lay {a : KS} {i j : Nat} {C : Array Value} (hi : i < 5) (hj : j < 5) (hz : C.size = 1600) : spl (spl C (i * 320 + j * 64 + kOff i j) ((laneV a i j).take (64 - kOff i j))) (i * 320 + j * 64) ((laneV a i j).drop (64 - kOff i j)) = spl C (i * 320 + j * 64) (laneV (kRho a) i j) := by
  have hk := off_lt hi hj
  have h1 : i * 320 + j * 64 + kOff i j + ((laneV a i j).take (64 - kOff i j)).length ≤ C.size := by rw [List.length_take, lane_len, hz]; omega
  have h2 : i * 320 + j * 64 + ((laneV a i j).drop (64 - kOff i j)).length ≤ (spl C (i * 320 + j * 64 + kOff i j) ((laneV a i j).take (64 - kOff i j))).size := by rw [size_spl, List.length_drop, lane_len, hz]; omega
  have h3 : i * 320 + j * 64 + (laneV (kRho a) i j).length ≤ C.size := by rw [lane_len, hz]; omega
  apply Array.ext_getElem?
  intro q
  by_cases hq : i * 320 + j * 64 ≤ q ∧ q < i * 320 + j * 64 + 64
  · obtain ⟨z, rfl⟩ : ∃ z, q = i * 320 + j * 64 + z := ⟨q - (i * 320 + j * 64), by omega⟩
    have hzz : z < 64 := by omega
    have e1 : (laneV (kRho a) i j)[z]? = some (.bool (a i j ((z + 64 - kOff i j) % 64))) := by
      unfold laneV kRho
      rw [List.getElem?_map, List.getElem?_range hzz]; rfl
    rw [get_spl_in h3 e1]
    by_cases hzk : z < kOff i j
    · have e2 : ((laneV a i j).drop (64 - kOff i j))[z]? = some (.bool (a i j ((z + 64 - kOff i j) % 64))) := by
        rw [List.getElem?_drop]
        unfold laneV
        rw [List.getElem?_map, List.getElem?_range (by omega), show (z + 64 - kOff i j) % 64 = 64 - kOff i j + z by rw [Nat.mod_eq_of_lt (by omega)]; omega]
        rfl
      rw [get_spl_in h2 e2]
    · rw [get_spl_out h2 (by rw [List.length_drop, lane_len]; omega)]
      have e3 : ((laneV a i j).take (64 - kOff i j))[z - kOff i j]? = some (.bool (a i j ((z + 64 - kOff i j) % 64))) := by
        rw [List.getElem?_take, if_pos (by omega)]
        unfold laneV
        rw [List.getElem?_map, List.getElem?_range (by omega), show (z + 64 - kOff i j) % 64 = z - kOff i j by omega]
        rfl
      have := get_spl_in h1 e3
      rw [show i * 320 + j * 64 + kOff i j + (z - kOff i j) = i * 320 + j * 64 + z by omega] at this
      exact this
  · rw [get_spl_out h2 (by rw [List.length_drop, lane_len]; omega), get_spl_out h1 (by rw [List.length_take, lane_len]; omega), get_spl_out h3 (by rw [lane_len]; omega)]
theorem z4_eq {b o k : Nat} (hk : k < 64) : Value.slice (some (if 64 = ((64 - k : Nat) : Int).toNat then (⟨b, o, none⟩ : Addr) else ⟨b, o + ((64 - k : Nat) : Int).toNat * 1, none⟩)) (64 - ((64 - k : Nat) : Int).toNat) (64 - ((64 - k : Nat) : Int).toNat) = .slice (some ⟨b, o + (if k = 0 then 0 else 64 - k), none⟩) k k := by
  rw [Int.toNat_natCast]
  by_cases h : k = 0
  · subst h; rfl
  · rw [if_neg (by omega), if_neg h, Nat.mul_one, show 64 - (64 - k) = k by omega]
theorem rho_row {w : World} {b o k : Nat} {L : List Value} (hL : L.length = 64) (h : Row w b (o + (64 - k)) (L.drop (64 - k))) : Row w b (o + (if k = 0 then 0 else 64 - k)) (L.drop (64 - k)) := by
  by_cases h0 : k = 0
  · subst h0
    intro i v hv
    rw [List.drop_of_length_le (by omega)] at hv
    simp at hv
  · rw [if_neg h0]; exact h
theorem km_rho {bA : Nat} {a : KS} {w : World} (kA : Blk w bA (kCells a)) :
    Ret 389 [.pointer (some ⟨bA, 0, none⟩)] w (fun v w' => v = .agg (kCells (kRho a)) ∧ Up w w') := by
  have lA := kA.lt
  refine enter (n := 53) Hvaa.func389 rfl rfl (Nat.le_of_ble_eq_true rfl) ?_
  have U := Up.refl w
  refine c_seq (fun K1 hK1 => ?_)
  refine c_region ?_
  refine l_eff (e_alloc zr_438) (fun v2 w2 h2 => ?_)
  obtain ⟨b2, rfl, n2⟩ := h2
  have f2 : w.heap.size ≤ b2 := Nat.le_trans U.size n2.fresh
  replace kA := kA.up n2.up
  replace U := U.tr n2.up
  have k2 := n2.blk
  obtain ⟨zs2, hz2, k2⟩ : ∃ cs : Array Value, cs.size = 1600 ∧ Blk w2 b2 cs := ⟨_, rfl, k2⟩
  refine l_nil ?_
  refine hK1 _ _ ?_
  refine c_seq (fun K3 hK3 => ?_)
  refine c_seq (fun K4 hK4 => ?_)
  refine c_region ?_
  refine l_step y_moveC ?_
  refine l_nil ?_
  refine hK4 _ _ ?_
  refine c_block (fun Q5 hQ5 => ?_)
  refine fg3 0 2 6 (gS rfl (gS rfl g0)) (gS rfl g0) g0 (fun g => ?_)
  refine c_loop (fun k_ s_ W6 => ∃ (g : Nat → Value) (C : Array Value) (i : Nat), s_ = (upd (upd (upd g 0 (.pointer (some ⟨bA, 0, none⟩))) 2 (.pointer (some ⟨b2, 0, none⟩))) 6 (.int .i64 (i : Nat))) ∧ 5 - i = k_ ∧ (i ≤ 5) ∧ (Dn (kRho a) i 0 C) ∧ Blk W6 b2 (C) ∧ Ch (fun k => k = b2) w2 W6) (5 - (0)) ?_ ?_
  · exact ⟨g, _, 0, rfl, rfl, Nat.zero_le _, Dn.zero hz2, k2, Ch.refl _ _⟩
  · skip
    intro k_ s_ W6 hI K6 hK6
    obtain ⟨g, C, i, rfl, rfl, hi, hC, nk2, V6⟩ := hI
    replace kA := kA.ch V6 (by omega)
    replace k2 := nk2
    replace U := U.cc V6 (by intro b hb; first | exact hb.elim | omega | (simp at hb ⊢; omega))
    refine c_seq (fun K7 hK7 => ?_)
    refine c_region ?_
    refine l_step (y_lss (et g0 rfl) rfl) ?_
    refine l_nil ?_
    refine hK7 _ _ ?_
    refine c_seq (fun K8 hK8 => ?_)
    refine c_cond (et g0 rfl) (fun cB1 => ?_) (fun cB1 => ?_)
    · skip
      
      have hil : i < 5 := by have := of_decide_eq_true cB1; omega
      refine c_skip ?_
      refine hK8 _ _ ?_
      refine fg3 0 2 6 (gS rfl (gS rfl (gS rfl g0))) (gS rfl (gS rfl g0)) (gS rfl g0) (fun g => ?_)
      refine c_seq (fun K10 hK10 => ?_)
      refine c_block (fun Q11 hQ11 => ?_)
      refine c_seq (fun K12 hK12 => ?_)
      refine c_region ?_
      refine l_step (y_moveV (et g0 rfl)) ?_
      refine l_step (y_assignV (et g0 rfl)) ?_
      refine l_nil ?_
      refine hK12 _ _ ?_
      refine fg4 0 2 6 3 (gS rfl (gS rfl (gS rfl (gS rfl g0)))) (gS rfl (gS rfl (gS rfl g0))) (gS rfl (gS rfl g0)) g0 (fun g => ?_)
      refine c_seq (fun K13 hK13 => ?_)
      refine c_region ?_
      refine l_step y_moveC ?_
      refine l_nil ?_
      refine hK13 _ _ ?_
      refine c_block (fun Q14 hQ14 => ?_)
      refine fg5 0 2 3 6 9 (gS rfl (gS rfl (gS rfl (gS rfl g0)))) (gS rfl (gS rfl (gS rfl g0))) (gS rfl g0) (gS rfl (gS rfl g0)) g0 (fun g => ?_)
      refine c_loop (fun k_ s_ W15 => ∃ (g : Nat → Value) (D : Array Value) (j : Nat), s_ = (upd (upd (upd (upd (upd g 0 (.pointer (some ⟨bA, 0, none⟩))) 2 (.pointer (some ⟨b2, 0, none⟩))) 3 (.int .i64 (i : Nat))) 6 (.int .i64 (i : Nat))) 9 (.int .i64 (j : Nat))) ∧ 5 - j = k_ ∧ (j ≤ 5) ∧ (Dn (kRho a) i j D) ∧ Blk W15 b2 (D) ∧ Ch (fun k => k = b2) W6 W15) (5 - (0)) ?_ ?_
      · exact ⟨g, _, 0, rfl, rfl, Nat.zero_le _, hC, k2, Ch.refl _ _⟩
      · skip
        intro k_ s_ W15 hI K15 hK15
        obtain ⟨g, D, j, rfl, rfl, hj, hD, nk2, V15⟩ := hI
        replace kA := kA.ch V15 (by omega)
        replace k2 := nk2
        replace V6 := V6.cc V15 (by intro b hb; first | exact hb.elim | omega)
        replace U := U.cc V15 (by intro b hb; first | exact hb.elim | omega | (simp at hb ⊢; omega))
        refine c_seq (fun K16 hK16 => ?_)
        refine c_region ?_
        refine l_step (y_lss (et g0 rfl) rfl) ?_
        refine l_nil ?_
        refine hK16 _ _ ?_
        refine c_seq (fun K17 hK17 => ?_)
        refine c_cond (et g0 rfl) (fun cB2 => ?_) (fun cB2 => ?_)
        · skip
          
          have hjl : j < 5 := by have := of_decide_eq_true cB2; omega
          obtain ⟨k, hk9⟩ : ∃ k, Hid (k = kOff i j) := ⟨_, ⟨rfl⟩⟩
          have hk : k < 64 := by rw [hk9.out]; exact off_lt hil hjl
          refine c_skip ?_
          refine hK17 _ _ ?_
          refine fg5 0 2 3 6 9 (gS rfl (gS rfl (gS rfl (gS rfl (gS rfl g0))))) (gS rfl (gS rfl (gS rfl (gS rfl g0)))) (gS rfl (gS rfl (gS rfl g0))) (gS rfl (gS rfl g0)) (gS rfl g0) (fun g => ?_)
          refine c_seq (fun K19 hK19 => ?_)
          refine c_block (fun Q20 hQ20 => ?_)
          refine c_seq (fun K21 hK21 => ?_)
          refine c_region ?_
          refine l_step (y_moveV (et g0 rfl)) ?_
          refine l_step (y_assignV (et g0 rfl)) ?_
          refine l_nil ?_
          refine hK21 _ _ ?_
          refine fg6 0 2 3 6 9 4 (gS rfl (gS rfl (gS rfl (gS rfl (gS rfl (gS rfl g0)))))) (gS rfl (gS rfl (gS rfl (gS rfl (gS rfl g0))))) (gS rfl (gS rfl (gS rfl (gS rfl g0)))) (gS rfl (gS rfl (gS rfl g0))) (gS rfl (gS rfl g0)) g0 (fun g => ?_)
          refine c_seq (fun K22 hK22 => ?_)
          refine c_region ?_
          refine l_step (y_moveV (et (gS rfl (gS rfl (gS rfl g0))) rfl)) ?_
          refine l_step (y_conv Hvaa.underlying3 Hvaa.underlying5 (et g0 rfl) (wrapU_id uk8 ?_)) ?_
          omega
          refine l_step (y_moveV (et (gS rfl (gS rfl g0)) rfl)) ?_
          refine l_step (y_conv Hvaa.underlying3 Hvaa.underlying5 (et g0 rfl) (wrapU_id uk8 ?_)) ?_
          omega
          refine l_eff (e_callV cal_413 (aC (et (gS rfl (gS rfl g0)) rfl) (aC (et g0 rfl) aN)) (km_offset i j _ (by omega) (by omega))) (fun v23 w23 h23 => ?_)
          obtain ⟨rfl, u23⟩ := h23
          rw [show offN i j = k by rw [offN, if_pos ⟨hil, hjl⟩, hk9.out]]
          replace k2 := k2.up u23
          replace kA := kA.up u23
          replace U := U.tr u23
          replace V6 := V6.tr u23
          replace V15 := V15.tr u23
          refine l_step (y_rem (et g0 rfl) rfl (by decide) (remN (b := 64))) ?_
          rw [Nat.mod_eq_of_lt hk]
          refine l_step (y_assignV (et g0 rfl)) ?_
          refine l_nil ?_
          refine hK22 _ _ ?_
          refine fg7 0 2 3 6 9 4 5 (gS rfl (gS rfl (gS rfl (gS rfl (gS rfl (gS rfl (gS rfl (gS rfl (gS rfl (gS rfl (gS rfl (gS rfl g0)))))))))))) (gS rfl (gS rfl (gS rfl (gS rfl (gS rfl (gS rfl (gS rfl (gS rfl (gS rfl (gS rfl (gS rfl g0))))))))))) (gS rfl (gS rfl (gS rfl (gS rfl (gS rfl (gS rfl (gS rfl (gS rfl (gS rfl (gS rfl g0)))))))))) (gS rfl (gS rfl (gS rfl (gS rfl (gS rfl (gS rfl (gS rfl (gS rfl (gS rfl g0))))))))) (gS rfl (gS rfl (gS rfl (gS rfl (gS rfl (gS rfl (gS rfl (gS rfl g0)))))))) (gS rfl (gS rfl (gS rfl (gS rfl (gS rfl (gS rfl (gS rfl g0))))))) g0 (fun g => ?_)
          refine c_seq (fun K24 hK24 => ?_)
          refine c_draw Up 15 [(0, true), (1, true), (2, true), (3, true), (4, true), (5, true), (6, true), (7, true), (8, true), (9, true), (10, true), (11, true), (12, true), (13, true), (14, true), (15, false)] (by kernel_rfl) (fun w25 hu => ⟨Up.refl _, ?_⟩)
          replace k2 := k2.up hu
          replace kA := kA.up hu
          replace U := U.tr hu
          replace V6 := V6.tr hu
          replace V15 := V15.tr hu
          have SU := Up.refl w25
          refine p_step (by exact rfl) (y_moveV (et (gS rfl (gS rfl (gS rfl (gS rfl g0)))) rfl)) ?_
          refine p_step (by exact rfl) (y_moveV (et (gS rfl (gS rfl g0)) rfl)) ?_
          refine p_step (by exact rfl) (y_idxA Hvaa.underlying438 sz_436 (et (gS rfl (gS rfl (gS rfl (gS rfl (gS rfl (gS rfl (gS rfl g0))))))) rfl) (et (gS rfl g0) rfl) ?_ ?_) ?_
          omega
          omega
          refine p_step (by exact rfl) (y_idxA Hvaa.underlying436 sz_435 (et g0 rfl) (et (gS rfl g0) rfl) ?_ ?_) ?_
          omega
          omega
          refine p_step (by exact rfl) (y_moveV (et (gS rfl (gS rfl (gS rfl (gS rfl g0)))) rfl)) ?_
          refine p_step (by exact rfl) (y_slA100 Hvaa.underlying435 sz_4 (et (gS rfl g0) rfl) (et g0 rfl) ?_ ?_ ?_) ?_
          omega
          omega
          omega
          refine p_step (by exact rfl) (y_moveV (et (gS rfl (gS rfl (gS rfl (gS rfl (gS rfl (gS rfl (gS rfl (gS rfl (gS rfl (gS rfl (gS rfl (gS rfl g0)))))))))))) rfl)) ?_
          refine p_step (by exact rfl) (y_moveV (et (gS rfl (gS rfl (gS rfl (gS rfl (gS rfl (gS rfl (gS rfl (gS rfl (gS rfl (gS rfl (gS rfl g0))))))))))) rfl)) ?_
          refine p_step (by exact rfl) (y_moveV (et (gS rfl (gS rfl (gS rfl (gS rfl (gS rfl (gS rfl (gS rfl (gS rfl (gS rfl g0))))))))) rfl)) ?_
          refine p_step (by exact rfl) (y_nil (et (gS rfl (gS rfl g0)) rfl)) ?_
          refine p_step (by exact rfl) (y_idxA Hvaa.underlying438 sz_436 (et g0 rfl) (et (gS rfl (gS rfl g0)) rfl) ?_ ?_) ?_
          omega
          omega
          refine p_step (by exact rfl) (y_idxA Hvaa.underlying436 sz_435 (et g0 rfl) (et (gS rfl (gS rfl g0)) rfl) ?_ ?_) ?_
          omega
          omega
          refine p_step (by exact rfl) (y_moveV (et (gS rfl (gS rfl (gS rfl (gS rfl (gS rfl (gS rfl (gS rfl (gS rfl (gS rfl (gS rfl (gS rfl (gS rfl g0)))))))))))) rfl)) ?_
          refine p_step (by exact rfl) (y_sub rfl (et g0 rfl) (wrapU_subN (a := 64) uk8 ?_ ?_)) ?_
          omega
          omega
          refine p_step (by exact rfl) (y_slA010 Hvaa.underlying435 sz_4 (et (gS rfl (gS rfl g0)) rfl) (et g0 rfl) ?_ ?_) ?_
          omega
          omega
          have hr9 : Row w25 bA (0 + i * 320 + j * 64) ((laneV a i j).take (64 - k)) := kA.row (by rw [Nat.zero_add]; exact (lane_row hil hjl).take _)
          refine p_eff (by exact rfl) (e_copyK (l := (laneV a i j).take (64 - k)) Hvaa.underlying215 sz_4 (et (gS rfl (gS rfl (gS rfl (gS rfl (gS rfl (gS rfl (gS rfl (gS rfl (gS rfl g0))))))))) rfl) (et g0 rfl) (by rw [List.length_take, lane_len]; simp only [Int.toNat_natCast]; omega) (by simpa using hr9) (fun v hv => lane_one _ _ _ v (List.mem_of_mem_take hv)) k2 (by rw [List.length_take, lane_len, hD.size]; simp only [Int.toNat_natCast]; omega)) (fun v26 w26 h26 => ?_)
          obtain ⟨rfl, x26⟩ := h26
          replace kA := kA.ch x26.ch (by omega)
          replace k2 := x26.blk
          replace V6 := V6.cc x26.ch (by intro b hb; first | omega | (simp at hb ⊢; omega) | (have := hOo.lim b hb.symm; omega))
          replace V15 := V15.cc x26.ch (by intro b hb; first | omega | (simp at hb ⊢; omega) | (have := hOo.lim b hb.symm; omega))
          replace U := U.cc x26.ch (by intro b hb; first | exact hb ▸ f2 | omega)
          refine ⟨.inl rfl, ?_⟩
          refine p_nil ?_
          refine hK24 _ _ ?_
          refine fg7 0 2 3 6 9 4 5 (gS rfl (gS rfl (gS rfl (gS rfl (gS rfl (gS rfl (gS rfl (gS rfl (gS rfl (gS rfl (gS rfl (gS rfl (gS rfl (gS rfl (gS rfl (gS rfl (gS rfl (gS rfl (gS rfl (gS rfl (gS rfl (gS rfl g0)))))))))))))))))))))) (gS rfl (gS rfl (gS rfl (gS rfl (gS rfl (gS rfl (gS rfl (gS rfl (gS rfl (gS rfl (gS rfl (gS rfl (gS rfl (gS rfl (gS rfl (gS rfl (gS rfl (gS rfl (gS rfl (gS rfl (gS rfl g0))))))))))))))))))))) (gS rfl (gS rfl (gS rfl (gS rfl (gS rfl (gS rfl (gS rfl (gS rfl (gS rfl (gS rfl (gS rfl (gS rfl (gS rfl (gS rfl (gS rfl (gS rfl (gS rfl (gS rfl (gS rfl (gS rfl g0)))))))))))))))))))) (gS rfl (gS rfl (gS rfl (gS rfl (gS rfl (gS rfl (gS rfl (gS rfl (gS rfl (gS rfl (gS rfl (gS rfl (gS rfl (gS rfl (gS rfl (gS rfl (gS rfl (gS rfl (gS rfl g0))))))))))))))))))) (gS rfl (gS rfl (gS rfl (gS rfl (gS rfl (gS rfl (gS rfl (gS rfl (gS rfl (gS rfl (gS rfl (gS rfl (gS rfl (gS rfl (gS rfl (gS rfl (gS rfl (gS rfl g0)))))))))))))))))) (gS rfl (gS rfl (gS rfl (gS rfl (gS rfl (gS rfl (gS rfl (gS rfl (gS rfl (gS rfl (gS rfl (gS rfl (gS rfl (gS rfl (gS rfl (gS rfl (gS rfl g0))))))))))))))))) (gS rfl (gS rfl (gS rfl (gS rfl (gS rfl (gS rfl (gS rfl (gS rfl (gS rfl (gS rfl (gS rfl (gS rfl (gS rfl (gS rfl (gS rfl (gS rfl g0)))))))))))))))) (fun g => ?_)
          refine c_draw Up 15 [(0, true), (1, true), (2, true), (3, true), (4, true), (5, true), (6, true), (7, true), (8, true), (9, true), (10, true), (11, true), (12, true), (13, true), (14, true), (15, false)] (by kernel_rfl) (fun w27 hu => ⟨Up.refl _, ?_⟩)
          replace k2 := k2.up hu
          replace kA := kA.up hu
          replace U := U.tr hu
          replace V6 := V6.tr hu
          replace V15 := V15.tr hu
          have SU := Up.refl w27
          refine p_step (by exact rfl) (y_moveV (et (gS rfl (gS rfl (gS rfl (gS rfl g0)))) rfl)) ?_
          refine p_step (by exact rfl) (y_moveV (et (gS rfl (gS rfl g0)) rfl)) ?_
          refine p_step (by exact rfl) (y_idxA Hvaa.underlying438 sz_436 (et (gS rfl (gS rfl (gS rfl (gS rfl (gS rfl (gS rfl (gS rfl g0))))))) rfl) (et (gS rfl g0) rfl) ?_ ?_) ?_
          omega
          omega
          refine p_step (by exact rfl) (y_idxA Hvaa.underlying436 sz_435 (et g0 rfl) (et (gS rfl g0) rfl) ?_ ?_) ?_
          omega
          omega
          refine p_step (by exact rfl) (y_moveV (et (gS rfl (gS rfl (gS rfl (gS rfl g0)))) rfl)) ?_
          refine p_step (by exact rfl) (y_slA010 Hvaa.underlying435 sz_4 (et (gS rfl g0) rfl) (et g0 rfl) ?_ ?_) ?_
          omega
          omega
          refine p_step (by exact rfl) (y_moveV (et (gS rfl (gS rfl (gS rfl (gS rfl (gS rfl (gS rfl (gS rfl (gS rfl (gS rfl (gS rfl (gS rfl (gS rfl g0)))))))))))) rfl)) ?_
          refine p_step (by exact rfl) (y_moveV (et (gS rfl (gS rfl (gS rfl (gS rfl (gS rfl (gS rfl (gS rfl (gS rfl (gS rfl (gS rfl (gS rfl g0))))))))))) rfl)) ?_
          refine p_step (by exact rfl) (y_moveV (et (gS rfl (gS rfl (gS rfl (gS rfl (gS rfl (gS rfl (gS rfl (gS rfl (gS rfl g0))))))))) rfl)) ?_
          refine p_step (by exact rfl) (y_nil (et (gS rfl (gS rfl g0)) rfl)) ?_
          refine p_step (by exact rfl) (y_idxA Hvaa.underlying438 sz_436 (et g0 rfl) (et (gS rfl (gS rfl g0)) rfl) ?_ ?_) ?_
          omega
          omega
          refine p_step (by exact rfl) (y_idxA Hvaa.underlying436 sz_435 (et g0 rfl) (et (gS rfl (gS rfl g0)) rfl) ?_ ?_) ?_
          omega
          omega
          refine p_step (by exact rfl) (y_moveV (et (gS rfl (gS rfl (gS rfl (gS rfl (gS rfl (gS rfl (gS rfl (gS rfl (gS rfl (gS rfl (gS rfl (gS rfl g0)))))))))))) rfl)) ?_
          refine p_step (by exact rfl) (y_sub rfl (et g0 rfl) (wrapU_subN (a := 64) uk8 ?_ ?_)) ?_
          omega
          omega
          refine p_step (by exact rfl) ((y_slA100g Hvaa.underlying435 sz_4 (et (gS rfl (gS rfl g0)) rfl) (et g0 rfl) ?_ ?_).to (z4_eq hk)) ?_
          omega
          omega
          have hr8 : Row w27 bA (0 + i * 320 + j * 64 + (64 - k)) ((laneV a i j).drop (64 - k)) := kA.row (by rw [Nat.zero_add]; exact (lane_row hil hjl).drop _)
          refine p_eff (by exact rfl) (e_copyK (l := (laneV a i j).drop (64 - k)) Hvaa.underlying215 sz_4 (et (gS rfl (gS rfl (gS rfl (gS rfl (gS rfl (gS rfl (gS rfl (gS rfl (gS rfl g0))))))))) rfl) (et g0 rfl) (by rw [List.length_drop, lane_len]; simp only [Int.toNat_natCast]; omega) (rho_row (lane_len _ _ _) hr8) (fun v hv => lane_one _ _ _ v (List.mem_of_mem_drop hv)) k2 (by rw [List.length_drop, lane_len, size_spl, hD.size]; simp only [Int.toNat_natCast]; omega)) (fun v28 w28 h28 => ?_)
          obtain ⟨rfl, x28⟩ := h28
          replace kA := kA.ch x28.ch (by omega)
          replace k2 := x28.blk
          replace V6 := V6.cc x28.ch (by intro b hb; first | omega | (simp at hb ⊢; omega) | (have := hOo.lim b hb.symm; omega))
          replace V15 := V15.cc x28.ch (by intro b hb; first | omega | (simp at hb ⊢; omega) | (have := hOo.lim b hb.symm; omega))
          replace U := U.cc x28.ch (by intro b hb; first | exact hb ▸ f2 | omega)
          have h9 := k2
          simp only [Nat.zero_add, Nat.mul_one, Int.toNat_natCast] at h9
          rw [hk9.out, rho_lay hil hjl hD.size] at h9
          replace k2 := h9
          refine ⟨.inl rfl, ?_⟩
          refine p_nil ?_
          refine hQ20 _ _ _ (in_normal ?_)
          refine hK19 _ _ ?_
          refine fg5 0 2 3 6 9 (gS rfl (gS rfl (gS rfl (gS rfl (gS rfl (gS rfl (gS rfl (gS rfl (gS rfl (gS rfl (gS rfl (gS rfl (gS rfl (gS rfl (gS rfl (gS rfl (gS rfl (gS rfl (gS rfl (gS rfl (gS rfl (gS rfl g0)))))))))))))))))))))) (gS rfl (gS rfl (gS rfl (gS rfl (gS rfl (gS rfl (gS rfl (gS rfl (gS rfl (gS rfl (gS rfl (gS rfl (gS rfl (gS rfl (gS rfl (gS rfl (gS rfl (gS rfl (gS rfl (gS rfl (gS rfl g0))))))))))))))))))))) (gS rfl (gS rfl (gS rfl (gS rfl (gS rfl (gS rfl (gS rfl (gS rfl (gS rfl (gS rfl (gS rfl (gS rfl (gS rfl (gS rfl (gS rfl (gS rfl (gS rfl (gS rfl (gS rfl (gS rfl g0)))))))))))))))))))) (gS rfl (gS rfl (gS rfl (gS rfl (gS rfl (gS rfl (gS rfl (gS rfl (gS rfl (gS rfl (gS rfl (gS rfl (gS rfl (gS rfl (gS rfl (gS rfl (gS rfl (gS rfl (gS rfl g0))))))))))))))))))) (gS rfl (gS rfl (gS rfl (gS rfl (gS rfl (gS rfl (gS rfl (gS rfl (gS rfl (gS rfl (gS rfl (gS rfl (gS rfl (gS rfl (gS rfl (gS rfl (gS rfl (gS rfl g0)))))))))))))))))) (fun g => ?_)
          refine c_region ?_
          refine l_step (y_add (et g0 rfl) rfl (addIN (y := 1) ?_)) ?_
          omega
          refine l_step (y_moveV (et g0 rfl)) ?_
          refine l_nil ?_
          refine fK5 0 2 3 6 9 (gS rfl (gS rfl (gS rfl (gS rfl (gS rfl (gS rfl g0)))))) (gS rfl (gS rfl (gS rfl (gS rfl (gS rfl g0))))) (gS rfl (gS rfl (gS rfl (gS rfl g0)))) (gS rfl (gS rfl (gS rfl g0))) g0 (fun g => ?_)
          exact hK15 (5 - ((j + 1))) _ _ (by omega) ⟨g, _, (j + 1), rfl, rfl, by omega, hD.step hil hjl, k2, V15⟩
        · skip
          
          have hjl : j = 5 := by have := of_decide_eq_false cB2; omega
          subst hjl
          refine c_exit ?_
          refine hQ14 _ _ _ (in_exit ?_)
          refine hQ11 _ _ _ (in_normal ?_)
          refine hK10 _ _ ?_
          refine fg3 0 2 6 (gS rfl (gS rfl (gS rfl (gS rfl (gS rfl g0))))) (gS rfl (gS rfl (gS rfl (gS rfl g0)))) (gS rfl (gS rfl g0)) (fun g => ?_)
          refine c_region ?_
          refine l_step (y_add (et g0 rfl) rfl (addIN (y := 1) ?_)) ?_
          omega
          refine l_step (y_moveV (et g0 rfl)) ?_
          refine l_nil ?_
          refine fK3 0 2 6 (gS rfl (gS rfl (gS rfl (gS rfl g0)))) (gS rfl (gS rfl (gS rfl g0))) g0 (fun g => ?_)
          exact hK6 (5 - ((i + 1))) _ _ (by omega) ⟨g, _, (i + 1), rfl, rfl, by omega, hD.row, k2, V6⟩
    · skip
      
      have hil : i = 5 := by have := of_decide_eq_false cB1; omega
      subst hil
      have hfull := hC.full
      refine c_exit ?_
      refine hQ5 _ _ _ (in_exit ?_)
      refine hK3 _ _ ?_
      refine fg1 2 (gS rfl (gS rfl g0)) (fun g => ?_)
      refine c_seq (fun K29 hK29 => ?_)
      refine c_region ?_
      refine l_step (y_loadB agg_438 sz_438 (et g0 rfl) hC.size (at1B k2)) ?_
      refine l_effN (e_storeS sz_438 (et (gS rfl g0) rfl) (cellsV (et g0 rfl) rfl) hC.size (by rw [hfull]; exact kc_one _) k2) (fun v30 w30 h30 => ?_)
      obtain ⟨rfl, x30⟩ := h30
      replace k2 := k2.up x30
      replace kA := kA.up x30
      replace U := U.tr x30
      refine l_nil ?_
      refine hK29 _ _ ?_
      refine fg1 2 (gS rfl g0) (fun g => ?_)
      refine c_ret ?_
      refine ret1 rfl (res_blk agg_438 sz_438 (et g0 rfl) hC.size k2) ?_
      exact ⟨by rw [hfull], U⟩
end Go.Proofs.YgvaawGreat
