import Derived.Test.YgvaawGreatK12
set_option maxRecDepth 100000
set_option maxHeartbeats 4000000
set_option linter.unusedSimpArgs false
set_option linter.unusedVariables false
namespace Go.Proofs.YgvaawGreat
open Go
/-! theta -/
def cCells (f : Nat → Nat → Bool) : Array Value := ((List.range 320).map (fun i => Value.bool (f (i / 64) (i % 64)))).toArray
theorem cc_size (f : Nat → Nat → Bool) : (cCells f).size = 320 := by simp [cCells]
theorem cc_get {f : Nat → Nat → Bool} {i : Nat} (h : i < 320) : (cCells f)[i]? = some (.bool (f (i / 64) (i % 64))) := by
  unfold cCells
  rw [List.getElem?_toArray, List.getElem?_map, List.getElem?_range h]
  rfl
theorem cc_same {f g : Nat → Nat → Bool} (h : ∀ x z, x < 5 → z < 64 → f x z = g x z) : cCells f = cCells g := by
  apply Array.ext_getElem?
  intro i
  by_cases hi : i < 320
  · rw [cc_get hi, cc_get hi, h _ _ (by omega) (by omega)]
  · rw [Array.getElem?_eq_none (by rw [cc_size]; omega), Array.getElem?_eq_none (by rw [cc_size]; omega)]
theorem cc_at {f : Nat → Nat → Bool} {x z : Nat} (hx : x < 5) (hz : z < 64) : (cCells f)[x * 64 + z]? = some (.bool (f x z)) := by
  rw [cc_get (by omega), show (x * 64 + z) / 64 = x by omega, show (x * 64 + z) % 64 = z by omega]
theorem cc_set {f : Nat → Nat → Bool} {x z : Nat} {v : Bool} (hx : x < 5) (hz : z < 64) : spl (cCells f) (x * 64 + z) [.bool v] = cCells (fun x' z' => if x' = x ∧ z' = z then v else f x' z') := by
  apply Array.ext_getElem?
  intro i
  show ((cCells f).setIfInBounds _ _)[i]? = _
  by_cases hi : i < 320
  · rw [cc_get hi]
    by_cases he : x * 64 + z = i
    · subst he
      rw [Array.getElem?_setIfInBounds_self, if_pos (by rw [cc_size]; exact hi), if_pos (by omega)]
    · rw [Array.getElem?_setIfInBounds_ne he, cc_get hi, if_neg (by omega)]
  · rw [Array.getElem?_eq_none (by rw [Array.size_setIfInBounds, cc_size]; omega), Array.getElem?_eq_none (by rw [cc_size]; omega)]
def xsK (a : KS) (x z : Nat) : Nat → Bool
  | 0 => false
  | m + 1 => xsK a x z m ^^ a x m z
theorem xsK_five (a : KS) (x z : Nat) : xsK a x z 5 = kC a x z := by simp [xsK, kC]
/-- the columns summed so far -/
def cP (a : KS) (i j n : Nat) : Nat → Nat → Bool := fun x z => if x < i then kC a x z else if x = i then xsK a x z (if z < n then j + 1 else j) else false
theorem cP_zero (a : KS) : cP a 0 0 0 = fun _ _ => false := by
  funext x z
  unfold cP
  rw [if_neg (by omega)]
  split
  · rw [if_neg (by omega)]; rfl
  · rfl
theorem cP_at (a : KS) (i j n : Nat) : cP a i j n i n = xsK a i n j := by
  unfold cP
  rw [if_neg (by omega), if_pos rfl, if_neg (by omega)]
theorem cP_next {a : KS} {i j n : Nat} : (fun x' z' => if x' = i ∧ z' = n then (xsK a i n j ^^ a i j n) else cP a i j n x' z') = cP a i j (n + 1) := by
  funext x z
  by_cases h : x = i ∧ z = n
  · obtain ⟨rfl, rfl⟩ := h
    rw [if_pos ⟨rfl, rfl⟩]
    unfold cP
    rw [if_neg (by omega), if_pos rfl, if_pos (by omega)]
    rfl
  · rw [if_neg h]
    unfold cP
    by_cases h1 : x < i
    · rw [if_pos h1, if_pos h1]
    · rw [if_neg h1, if_neg h1]
      by_cases h2 : x = i
      · rw [if_pos h2, if_pos h2]
        by_cases h3 : z < n
        · rw [if_pos h3, if_pos (by omega)]
        · rw [if_neg h3, if_neg (by omega)]
      · rw [if_neg h2, if_neg h2]
theorem cP_row {a : KS} {i j : Nat} : cCells (cP a i j 64) = cCells (cP a i (j + 1) 0) := cc_same fun x z hx hz => by
  unfold cP
  simp only [if_pos hz, if_neg (show ¬ z < 0 by omega)]
theorem cP_col {a : KS} {i : Nat} : cCells (cP a i 5 0) = cCells (cP a (i + 1) 0 0) := cc_same fun x z hx hz => by
  unfold cP
  simp only [if_neg (show ¬ z < 0 by omega)]
  by_cases h1 : x < i
  · rw [if_pos h1, if_pos (by omega)]
  · rw [if_neg h1]
    by_cases h2 : x = i
    · rw [if_pos h2, if_pos (by omega)]
      exact xsK_five a x z
    · rw [if_neg h2, if_neg (by omega)]
      by_cases h3 : x = i + 1
      · rw [if_pos h3]; rfl
      · rw [if_neg h3]
theorem cP_full {a : KS} : cCells (cP a 5 0 0) = cCells (kC a) := cc_same fun x z hx hz => by
  unfold cP
  rw [if_pos hx]
theorem neq_xor (p q : Bool) : (!(p == q)) = (p ^^ q) := by cases p <;> cases q <;> rfl
theorem cP_set {a : KS} {i j n : Nat} (hi : i < 5) (hn : n < 64) : spl (cCells (cP a i j n)) (i * 64 + n) [.bool (!(xsK a i n j == a i j n))] = cCells (cP a i j (n + 1)) := by
  rw [cc_set hi hn, neq_xor, cP_next]
/-- the state mixed so far -/
def thK (a : KS) (i j n : Nat) : KS := fun x y z => if x < i ∨ (x = i ∧ (y < j ∨ (y = j ∧ z < n))) then kTheta a x y z else a x y z
theorem thK_zero (a : KS) : thK a 0 0 0 = a := by
  funext x y z
  unfold thK
  rw [if_neg (by omega)]
theorem thK_at (a : KS) (i j n : Nat) : thK a i j n i j n = a i j n := by
  unfold thK
  rw [if_neg (by omega)]
theorem thK_next {a : KS} {i j n : Nat} : upK (thK a i j n) i j n (kTheta a i j n) = thK a i j (n + 1) := by
  funext x y z
  unfold upK thK
  by_cases h : x = i ∧ y = j ∧ z = n
  · obtain ⟨rfl, rfl, rfl⟩ := h
    rw [if_pos ⟨rfl, rfl, rfl⟩, if_pos (by omega)]
  · rw [if_neg h]
    by_cases h2 : x < i ∨ (x = i ∧ (y < j ∨ (y = j ∧ z < n)))
    · rw [if_pos h2, if_pos (by omega)]
    · rw [if_neg h2, if_neg (by omega)]
theorem thK_row {a : KS} {i j : Nat} : kCells (thK a i j 64) = kCells (thK a i (j + 1) 0) := kc_same fun x y z hx hy hz => by
  unfold thK
  by_cases h : x < i ∨ (x = i ∧ (y < j ∨ (y = j ∧ z < 64)))
  · rw [if_pos h, if_pos (by omega)]
  · rw [if_neg h, if_neg (by omega)]
theorem thK_col {a : KS} {i : Nat} : kCells (thK a i 5 0) = kCells (thK a (i + 1) 0 0) := kc_same fun x y z hx hy hz => by
  unfold thK
  by_cases h : x < i ∨ (x = i ∧ (y < 5 ∨ (y = 5 ∧ z < 0)))
  · rw [if_pos h, if_pos (by omega)]
  · rw [if_neg h, if_neg (by omega)]
theorem thK_full {a : KS} : kCells (thK a 5 0 0) = kCells (kTheta a) := kc_same fun x y z hx hy hz => by
  unfold thK
  rw [if_pos (by omega)]
/-- what is added to the lanes of column x -/
def dK (a : KS) (x z : Nat) : Bool := kC a ((x + 4) % 5) z ^^ kC a ((x + 1) % 5) ((z + 63) % 64)
def dCells (a : KS) (x n : Nat) : Array Value := ((List.range 64).map (fun z => Value.bool (if z < n then dK a x z else false))).toArray
theorem dc_size (a : KS) (x n : Nat) : (dCells a x n).size = 64 := by simp [dCells]
theorem dc_get {a : KS} {x n z : Nat} (h : z < 64) : (dCells a x n)[z]? = some (.bool (if z < n then dK a x z else false)) := by
  unfold dCells
  rw [List.getElem?_toArray, List.getElem?_map, List.getElem?_range h]
  rfl
theorem dc_next {a : KS} {x n : Nat} (hn : n < 64) : spl (dCells a x n) n [.bool (dK a x n)] = dCells a x (n + 1) := by
  apply Array.ext_getElem?
  intro i
  show ((dCells a x n).setIfInBounds _ _)[i]? = _
  by_cases hi : i < 64
  · rw [dc_get hi]
    by_cases he : n = i
    · subst he
      rw [Array.getElem?_setIfInBounds_self, if_pos (by rw [dc_size]; exact hi), if_pos (by omega)]
    · rw [Array.getElem?_setIfInBounds_ne he, dc_get hi]
      by_cases h1 : i < n
      · rw [if_pos h1, if_pos (by omega)]
      · rw [if_neg h1, if_neg (by omega)]
  · rw [Array.getElem?_eq_none (by rw [Array.size_setIfInBounds, dc_size]; omega), Array.getElem?_eq_none (by rw [dc_size]; omega)]
theorem theta_eq (a : KS) (x y z : Nat) : (a x y z ^^ dK a x z) = kTheta a x y z := rfl
theorem km_theta {bA : Nat} {a : KS} {w : World} (kA : Blk w bA (kCells a)) :
    Ret 388 [.pointer (some ⟨bA, 0, none⟩)] w (fun v w' => v = .tuple #[] ∧ Blk w' bA (kCells (kTheta a)) ∧ Ch (fun k => k = bA) w w') := by
  have lA := kA.lt
  refine enter (n := 107) Hvaa.func388 rfl rfl (Nat.le_of_ble_eq_true rfl) ?_
  have U : Ch (fun k => k = bA) w w := Ch.refl _ w
  refine c_seq (fun K1 hK1 => ?_)
  refine c_region ?_
  refine l_eff (e_alloc zr_436) (fun v2 w2 h2 => ?_)
  obtain ⟨b2, rfl, n2⟩ := h2
  have f2 : w.heap.size ≤ b2 := Nat.le_trans U.size n2.fresh
  replace kA := kA.up n2.up
  replace U := U.tr n2.up
  have k2 := n2.blk
  replace k2 : Blk w2 b2 (cCells (cP a 0 0 0)) := by rw [cP_zero]; exact k2
  refine l_nil ?_
  refine hK1 _ _ ?_
  refine c_seq (fun K3 hK3 => ?_)
  refine c_seq (fun K4 hK4 => ?_)
  refine c_region ?_
  refine l_step y_moveC ?_
  refine l_nil ?_
  refine hK4 _ _ ?_
  refine c_block (fun Q5 hQ5 => ?_)
  refine fg3 0 2 16 (gS rfl (gS rfl g0)) (gS rfl g0) g0 (fun g => ?_)
  refine c_loop (fun k_ s_ W6 => ∃ (g : Nat → Value) (i : Nat), s_ = (upd (upd (upd g 0 (.pointer (some ⟨bA, 0, none⟩))) 2 (.pointer (some ⟨b2, 0, none⟩))) 16 (.int .i64 (i : Nat))) ∧ 5 - i = k_ ∧ (i ≤ 5) ∧ Blk W6 b2 (cCells (cP a i 0 0)) ∧ Ch (fun k => k = b2) w2 W6) (5 - (0)) ?_ ?_
  · exact ⟨g, 0, rfl, rfl, Nat.zero_le _, k2, Ch.refl _ _⟩
  · skip
    intro k_ s_ W6 hI K6 hK6
    obtain ⟨g, i, rfl, rfl, hi, nk2, V6⟩ := hI
    replace kA := kA.ch V6 (by omega)
    replace k2 := nk2
    replace U := U.cc V6 (by intro b hb; first | exact hb.elim | omega | (simp at hb ⊢; omega))
    refine c_seq (fun K7 hK7 => ?_)
    refine c_region ?_
    refine l_step (y_lss (et g0 rfl) rfl) ?_
    refine l_nil ?_
    refine hK7 _ _ ?_
    refine c_seq (fun K8 hK8 => ?_)
    refine c_cond (et g0 rfl) (fun cB1 => ?_) (fun cB1 => ?_)
    · skip
      
      have hil : i < 5 := by have := of_decide_eq_true cB1; omega
      refine c_skip ?_
      refine hK8 _ _ ?_
      refine fg3 0 2 16 (gS rfl (gS rfl (gS rfl g0))) (gS rfl (gS rfl g0)) (gS rfl g0) (fun g => ?_)
      refine c_seq (fun K10 hK10 => ?_)
      refine c_block (fun Q11 hQ11 => ?_)
      refine c_seq (fun K12 hK12 => ?_)
      refine c_region ?_
      refine l_step (y_moveV (et g0 rfl)) ?_
      refine l_step (y_assignV (et g0 rfl)) ?_
      refine l_nil ?_
      refine hK12 _ _ ?_
      refine fg4 0 2 16 3 (gS rfl (gS rfl (gS rfl (gS rfl g0)))) (gS rfl (gS rfl (gS rfl g0))) (gS rfl (gS rfl g0)) g0 (fun g => ?_)
      refine c_seq (fun K13 hK13 => ?_)
      refine c_region ?_
      refine l_step y_moveC ?_
      refine l_nil ?_
      refine hK13 _ _ ?_
      refine c_block (fun Q14 hQ14 => ?_)
      refine fg5 0 2 3 16 19 (gS rfl (gS rfl (gS rfl (gS rfl g0)))) (gS rfl (gS rfl (gS rfl g0))) (gS rfl g0) (gS rfl (gS rfl g0)) g0 (fun g => ?_)
      refine c_loop (fun k_ s_ W15 => ∃ (g : Nat → Value) (j : Nat), s_ = (upd (upd (upd (upd (upd g 0 (.pointer (some ⟨bA, 0, none⟩))) 2 (.pointer (some ⟨b2, 0, none⟩))) 3 (.int .i64 (i : Nat))) 16 (.int .i64 (i : Nat))) 19 (.int .i64 (j : Nat))) ∧ 5 - j = k_ ∧ (j ≤ 5) ∧ Blk W15 b2 (cCells (cP a i j 0)) ∧ Ch (fun k => k = b2) W6 W15) (5 - (0)) ?_ ?_
      · exact ⟨g, 0, rfl, rfl, Nat.zero_le _, k2, Ch.refl _ _⟩
      · skip
        intro k_ s_ W15 hI K15 hK15
        obtain ⟨g, j, rfl, rfl, hj, nk2, V15⟩ := hI
        replace kA := kA.ch V15 (by omega)
        replace k2 := nk2
        replace V6 := V6.cc V15 (by intro b hb; first | exact hb.elim | omega)
        replace U := U.cc V15 (by intro b hb; first | exact hb.elim | omega | (simp at hb ⊢; omega))
        refine c_seq (fun K16 hK16 => ?_)
        refine c_region ?_
        refine l_step (y_lss (et g0 rfl) rfl) ?_
        refine l_nil ?_
        refine hK16 _ _ ?_
        refine c_seq (fun K17 hK17 => ?_)
        refine c_cond (et g0 rfl) (fun cB2 => ?_) (fun cB2 => ?_)
        · skip
          
          have hjl : j < 5 := by have := of_decide_eq_true cB2; omega
          refine c_skip ?_
          refine hK17 _ _ ?_
          refine fg5 0 2 3 16 19 (gS rfl (gS rfl (gS rfl (gS rfl (gS rfl g0))))) (gS rfl (gS rfl (gS rfl (gS rfl g0)))) (gS rfl (gS rfl (gS rfl g0))) (gS rfl (gS rfl g0)) (gS rfl g0) (fun g => ?_)
          refine c_seq (fun K19 hK19 => ?_)
          refine c_block (fun Q20 hQ20 => ?_)
          refine c_seq (fun K21 hK21 => ?_)
          refine c_region ?_
          refine l_step (y_moveV (et g0 rfl)) ?_
          refine l_step (y_assignV (et g0 rfl)) ?_
          refine l_nil ?_
          refine hK21 _ _ ?_
          refine fg6 0 2 3 16 19 4 (gS rfl (gS rfl (gS rfl (gS rfl (gS rfl (gS rfl g0)))))) (gS rfl (gS rfl (gS rfl (gS rfl (gS rfl g0))))) (gS rfl (gS rfl (gS rfl (gS rfl g0)))) (gS rfl (gS rfl (gS rfl g0))) (gS rfl (gS rfl g0)) g0 (fun g => ?_)
          refine c_seq (fun K22 hK22 => ?_)
          refine c_region ?_
          refine l_step (y_moveV (et (gS rfl (gS rfl (gS rfl (gS rfl (gS rfl g0))))) rfl)) ?_
          refine l_step (y_moveV (et (gS rfl (gS rfl (gS rfl (gS rfl g0)))) rfl)) ?_
          refine l_step (y_moveV (et (gS rfl (gS rfl g0)) rfl)) ?_
          refine l_step (y_nil (et (gS rfl (gS rfl g0)) rfl)) ?_
          refine l_step (y_idxA Hvaa.underlying438 sz_436 (et g0 rfl) (et (gS rfl (gS rfl g0)) rfl) ?_ ?_) ?_
          omega
          omega
          refine l_step (y_idxA Hvaa.underlying436 sz_435 (et g0 rfl) (et (gS rfl (gS rfl g0)) rfl) ?_ ?_) ?_
          omega
          omega
          refine l_step y_moveC ?_
          refine l_nil ?_
          refine hK22 _ _ ?_
          refine fg7 0 2 3 16 19 27 28 (gS rfl (gS rfl (gS rfl (gS rfl (gS rfl (gS rfl (gS rfl (gS rfl (gS rfl (gS rfl (gS rfl (gS rfl g0)))))))))))) (gS rfl (gS rfl (gS rfl (gS rfl (gS rfl (gS rfl (gS rfl (gS rfl (gS rfl (gS rfl (gS rfl g0))))))))))) (gS rfl (gS rfl (gS rfl (gS rfl (gS rfl (gS rfl (gS rfl (gS rfl (gS rfl (gS rfl g0)))))))))) (gS rfl (gS rfl (gS rfl (gS rfl (gS rfl (gS rfl (gS rfl (gS rfl (gS rfl g0))))))))) (gS rfl (gS rfl (gS rfl (gS rfl (gS rfl (gS rfl (gS rfl (gS rfl g0)))))))) (gS rfl g0) g0 (fun g => ?_)
          refine c_block (fun Q23 hQ23 => ?_)
          refine fg7 0 2 3 16 19 27 28 (gS rfl (gS rfl (gS rfl (gS rfl (gS rfl (gS rfl g0)))))) (gS rfl (gS rfl (gS rfl (gS rfl (gS rfl g0))))) (gS rfl (gS rfl (gS rfl (gS rfl g0)))) (gS rfl (gS rfl (gS rfl g0))) (gS rfl (gS rfl g0)) (gS rfl g0) g0 (fun g => ?_)
          refine c_loop (fun k_ s_ W24 => ∃ (g : Nat → Value) (n : Nat), s_ = (upd (upd (upd (upd (upd (upd (upd g 0 (.pointer (some ⟨bA, 0, none⟩))) 2 (.pointer (some ⟨b2, 0, none⟩))) 3 (.int .i64 (i : Nat))) 16 (.int .i64 (i : Nat))) 19 (.int .i64 (j : Nat))) 27 (.pointer (some ⟨bA, 0 + i * 320 + j * 64, none⟩))) 28 (.int .i64 (n : Nat))) ∧ 64 - n = k_ ∧ (n ≤ 64) ∧ Blk W24 b2 (cCells (cP a i j n)) ∧ Ch (fun k => k = b2) W15 W24) (64 - (0)) ?_ ?_
          · exact ⟨g, 0, rfl, rfl, Nat.zero_le _, k2, Ch.refl _ _⟩
          · skip
            intro k_ s_ W24 hI K24 hK24
            obtain ⟨g, n, rfl, rfl, hn, nk2, V24⟩ := hI
            replace kA := kA.ch V24 (by omega)
            replace k2 := nk2
            replace V6 := V6.cc V24 (by intro b hb; first | exact hb.elim | omega)
            replace V15 := V15.cc V24 (by intro b hb; first | exact hb.elim | omega)
            replace U := U.cc V24 (by intro b hb; first | exact hb.elim | omega | (simp at hb ⊢; omega))
            refine c_seq (fun K25 hK25 => ?_)
            refine c_region ?_
            refine l_step (y_lss (et g0 rfl) rfl) ?_
            refine l_nil ?_
            refine hK25 _ _ ?_
            refine c_seq (fun K26 hK26 => ?_)
            refine c_cond (et g0 rfl) (fun cB3 => ?_) (fun cB3 => ?_)
            · skip
              
              have hnl : n < 64 := by have := of_decide_eq_true cB3; omega
              refine c_skip ?_
              refine hK26 _ _ ?_
              refine fg7 0 2 3 16 19 27 28 (gS rfl (gS rfl (gS rfl (gS rfl (gS rfl (gS rfl (gS rfl g0))))))) (gS rfl (gS rfl (gS rfl (gS rfl (gS rfl (gS rfl g0)))))) (gS rfl (gS rfl (gS rfl (gS rfl (gS rfl g0))))) (gS rfl (gS rfl (gS rfl (gS rfl g0)))) (gS rfl (gS rfl (gS rfl g0))) (gS rfl (gS rfl g0)) (gS rfl g0) (fun g => ?_)
              refine c_seq (fun K28 hK28 => ?_)
              refine c_block (fun Q29 hQ29 => ?_)
              refine c_seq (fun K30 hK30 => ?_)
              refine c_draw Up 6 [(0, true), (1, true), (2, true), (3, true), (4, true), (5, true)] (by kernel_rfl) (fun w31 hu => ⟨Up.refl _, ?_⟩)
              replace k2 := k2.up hu
              replace kA := kA.up hu
              replace U := U.tr hu
              replace V6 := V6.tr hu
              replace V15 := V15.tr hu
              replace V24 := V24.tr hu
              have SU := Up.refl w31
              refine p_step (by exact rfl) (y_moveV (et g0 rfl)) ?_
              refine p_step (by exact rfl) (y_nil (et (gS rfl (gS rfl g0)) rfl)) ?_
              refine p_step (by exact rfl) (y_idxA Hvaa.underlying435 sz_4 (et g0 rfl) (et (gS rfl (gS rfl g0)) rfl) ?_ ?_) ?_
              omega
              omega
              refine p_step (by exact rfl) (y_load1 one_4 (et g0 rfl) (atS (kA.cell (by have h9 := kc_at (a := a) (x := i) (y := j) (z := n) hil hjl hnl; simpa using h9)))) ?_
              refine p_step (by exact rfl) (y_assignV (et (gS rfl (gS rfl (gS rfl g0))) rfl)) ?_
              refine p_step (by exact rfl) (y_assignV (et (gS rfl g0) rfl)) ?_
              refine p_nil ?_
              refine hK30 _ _ ?_
              refine fg9 0 2 3 16 19 27 28 5 6 (gS rfl (gS rfl (gS rfl (gS rfl (gS rfl (gS rfl (gS rfl (gS rfl (gS rfl (gS rfl (gS rfl (gS rfl g0)))))))))))) (gS rfl (gS rfl (gS rfl (gS rfl (gS rfl (gS rfl (gS rfl (gS rfl (gS rfl (gS rfl (gS rfl g0))))))))))) (gS rfl (gS rfl (gS rfl (gS rfl (gS rfl (gS rfl (gS rfl (gS rfl (gS rfl (gS rfl g0)))))))))) (gS rfl (gS rfl (gS rfl (gS rfl (gS rfl (gS rfl (gS rfl (gS rfl (gS rfl g0))))))))) (gS rfl (gS rfl (gS rfl (gS rfl (gS rfl (gS rfl (gS rfl (gS rfl g0)))))))) (gS rfl (gS rfl (gS rfl (gS rfl (gS rfl (gS rfl (gS rfl g0))))))) (gS rfl (gS rfl (gS rfl (gS rfl (gS rfl (gS rfl g0)))))) (gS rfl g0) g0 (fun g => ?_)
              refine c_draw Up 11 [(0, true), (1, true), (2, true), (3, true), (4, true), (5, true), (6, true), (7, true), (8, true), (9, true), (10, true), (11, false)] (by kernel_rfl) (fun w32 hu => ⟨Up.refl _, ?_⟩)
              replace k2 := k2.up hu
              replace kA := kA.up hu
              replace U := U.tr hu
              replace V6 := V6.tr hu
              replace V15 := V15.tr hu
              replace V24 := V24.tr hu
              have SU := Up.refl w32
              refine p_step (by exact rfl) (y_moveV (et (gS rfl (gS rfl (gS rfl (gS rfl (gS rfl (gS rfl g0)))))) rfl)) ?_
              refine p_step (by exact rfl) (y_moveV (et (gS rfl (gS rfl g0)) rfl)) ?_
              refine p_step (by exact rfl) (y_moveV (et (gS rfl (gS rfl (gS rfl (gS rfl (gS rfl (gS rfl (gS rfl (gS rfl g0)))))))) rfl)) ?_
              refine p_step (by exact rfl) (y_moveV (et (gS rfl (gS rfl (gS rfl (gS rfl g0)))) rfl)) ?_
              refine p_step (by exact rfl) (y_idxA Hvaa.underlying436 sz_435 (et (gS rfl (gS rfl (gS rfl (gS rfl (gS rfl (gS rfl (gS rfl (gS rfl (gS rfl (gS rfl (gS rfl g0))))))))))) rfl) (et (gS rfl g0) rfl) ?_ ?_) ?_
              omega
              omega
              refine p_step (by exact rfl) (y_idxA Hvaa.underlying435 sz_4 (et g0 rfl) (et (gS rfl g0) rfl) ?_ ?_) ?_
              omega
              omega
              refine p_step (by exact rfl) (y_load1 one_4 (et g0 rfl) (atS (k2.cell (by have h9 := cc_at (f := cP a i j n) (x := i) (z := n) hil hnl; rw [cP_at] at h9; simpa using h9)))) ?_
              refine p_step (by exact rfl) (y_moveV (et (gS rfl (gS rfl (gS rfl (gS rfl (gS rfl (gS rfl (gS rfl g0))))))) rfl)) ?_
              refine p_step (by exact rfl) (y_neqB Hvaa.underlying4 (et (gS rfl g0) rfl) (et g0 rfl)) ?_
              refine p_step (by exact rfl) (y_idxA Hvaa.underlying436 sz_435 (et (gS rfl (gS rfl (gS rfl (gS rfl (gS rfl (gS rfl (gS rfl (gS rfl (gS rfl (gS rfl (gS rfl (gS rfl (gS rfl (gS rfl (gS rfl (gS rfl g0)))))))))))))))) rfl) (et (gS rfl (gS rfl (gS rfl (gS rfl (gS rfl (gS rfl (gS rfl (gS rfl g0)))))))) rfl) ?_ ?_) ?_
              omega
              omega
              refine p_step (by exact rfl) (y_idxA Hvaa.underlying435 sz_4 (et g0 rfl) (et (gS rfl (gS rfl (gS rfl (gS rfl (gS rfl (gS rfl (gS rfl (gS rfl g0)))))))) rfl) ?_ ?_) ?_
              omega
              omega
              refine p_effN (by exact rfl) (e_store sz_4 (et g0 rfl) (cellsV (et (gS rfl (gS rfl g0)) rfl) rfl) rfl (by intro v hv; simp at hv; subst hv; rfl) k2 (by (rw [cc_size]; simp only [Int.toNat_natCast]; omega))) (fun v33 w33 h33 => ?_)
              obtain ⟨rfl, x33⟩ := h33
              replace kA := kA.ch x33.ch (by first | omega | (omega))
              replace k2 := x33.blk
              replace U := U.st x33 (.inr f2)
              replace V6 := V6.st x33 (by omega)
              replace V15 := V15.st x33 (by omega)
              replace V24 := V24.st x33 (by omega)
              refine ⟨.inl rfl, ?_⟩
              have h9 := k2
              simp only [Nat.zero_add, Nat.mul_one, Int.toNat_natCast] at h9
              rw [cP_set hil hnl] at h9
              replace k2 := h9
              refine p_nil ?_
              refine hQ29 _ _ _ (in_normal ?_)
              refine hK28 _ _ ?_
              refine fg7 0 2 3 16 19 27 28 (gS rfl (gS rfl (gS rfl (gS rfl (gS rfl (gS rfl (gS rfl (gS rfl (gS rfl (gS rfl (gS rfl (gS rfl (gS rfl (gS rfl (gS rfl (gS rfl (gS rfl (gS rfl (gS rfl g0))))))))))))))))))) (gS rfl (gS rfl (gS rfl (gS rfl (gS rfl (gS rfl (gS rfl (gS rfl (gS rfl (gS rfl (gS rfl (gS rfl (gS rfl (gS rfl (gS rfl (gS rfl (gS rfl (gS rfl g0)))))))))))))))))) (gS rfl (gS rfl (gS rfl (gS rfl (gS rfl (gS rfl (gS rfl (gS rfl (gS rfl (gS rfl (gS rfl (gS rfl (gS rfl (gS rfl (gS rfl (gS rfl (gS rfl g0))))))))))))))))) (gS rfl (gS rfl (gS rfl (gS rfl (gS rfl (gS rfl (gS rfl (gS rfl (gS rfl (gS rfl (gS rfl (gS rfl (gS rfl (gS rfl (gS rfl (gS rfl g0)))))))))))))))) (gS rfl (gS rfl (gS rfl (gS rfl (gS rfl (gS rfl (gS rfl (gS rfl (gS rfl (gS rfl (gS rfl (gS rfl (gS rfl (gS rfl (gS rfl g0))))))))))))))) (gS rfl (gS rfl (gS rfl (gS rfl (gS rfl (gS rfl (gS rfl (gS rfl (gS rfl (gS rfl (gS rfl (gS rfl (gS rfl (gS rfl g0)))))))))))))) (gS rfl (gS rfl (gS rfl (gS rfl (gS rfl (gS rfl (gS rfl (gS rfl (gS rfl (gS rfl (gS rfl (gS rfl (gS rfl g0))))))))))))) (fun g => ?_)
              refine c_region ?_
              refine l_step (y_add (et g0 rfl) rfl (addIN (y := 1) ?_)) ?_
              omega
              refine l_step (y_moveV (et g0 rfl)) ?_
              refine l_nil ?_
              refine fK7 0 2 3 16 19 27 28 (gS rfl (gS rfl (gS rfl (gS rfl (gS rfl (gS rfl (gS rfl (gS rfl g0)))))))) (gS rfl (gS rfl (gS rfl (gS rfl (gS rfl (gS rfl (gS rfl g0))))))) (gS rfl (gS rfl (gS rfl (gS rfl (gS rfl (gS rfl g0)))))) (gS rfl (gS rfl (gS rfl (gS rfl (gS rfl g0))))) (gS rfl (gS rfl (gS rfl (gS rfl g0)))) (gS rfl (gS rfl (gS rfl g0))) g0 (fun g => ?_)
              exact hK24 (64 - ((n + 1))) _ _ (by omega) ⟨g, (n + 1), rfl, rfl, by omega, k2, V24⟩
            · skip
              
              have hnl : n = 64 := by have := of_decide_eq_false cB3; omega
              subst hnl
              refine c_exit ?_
              refine hQ23 _ _ _ (in_exit ?_)
              refine hQ20 _ _ _ (in_normal ?_)
              refine hK19 _ _ ?_
              refine fg5 0 2 3 16 19 (gS rfl (gS rfl (gS rfl (gS rfl (gS rfl (gS rfl (gS rfl g0))))))) (gS rfl (gS rfl (gS rfl (gS rfl (gS rfl (gS rfl g0)))))) (gS rfl (gS rfl (gS rfl (gS rfl (gS rfl g0))))) (gS rfl (gS rfl (gS rfl (gS rfl g0)))) (gS rfl (gS rfl (gS rfl g0))) (fun g => ?_)
              refine c_region ?_
              refine l_step (y_add (et g0 rfl) rfl (addIN (y := 1) ?_)) ?_
              omega
              refine l_step (y_moveV (et g0 rfl)) ?_
              refine l_nil ?_
              refine fK5 0 2 3 16 19 (gS rfl (gS rfl (gS rfl (gS rfl (gS rfl (gS rfl g0)))))) (gS rfl (gS rfl (gS rfl (gS rfl (gS rfl g0))))) (gS rfl (gS rfl (gS rfl (gS rfl g0)))) (gS rfl (gS rfl (gS rfl g0))) g0 (fun g => ?_)
              rw [cP_row] at k2
              exact hK15 (5 - ((j + 1))) _ _ (by omega) ⟨g, (j + 1), rfl, rfl, by omega, k2, V15⟩
        · skip
          
          have hjl : j = 5 := by have := of_decide_eq_false cB2; omega
          subst hjl
          refine c_exit ?_
          refine hQ14 _ _ _ (in_exit ?_)
          refine hQ11 _ _ _ (in_normal ?_)
          refine hK10 _ _ ?_
          refine fg3 0 2 16 (gS rfl (gS rfl (gS rfl (gS rfl (gS rfl g0))))) (gS rfl (gS rfl (gS rfl (gS rfl g0)))) (gS rfl (gS rfl g0)) (fun g => ?_)
          refine c_region ?_
          refine l_step (y_add (et g0 rfl) rfl (addIN (y := 1) ?_)) ?_
          omega
          refine l_step (y_moveV (et g0 rfl)) ?_
          refine l_nil ?_
          refine fK3 0 2 16 (gS rfl (gS rfl (gS rfl (gS rfl g0)))) (gS rfl (gS rfl (gS rfl g0))) g0 (fun g => ?_)
          rw [cP_col] at k2
          exact hK6 (5 - ((i + 1))) _ _ (by omega) ⟨g, (i + 1), rfl, rfl, by omega, k2, V6⟩
    · skip
      
      have hil : i = 5 := by have := of_decide_eq_false cB1; omega
      subst hil
      rw [cP_full] at k2
      refine c_exit ?_
      refine hQ5 _ _ _ (in_exit ?_)
      refine hK3 _ _ ?_
      refine fg2 0 2 (gS rfl (gS rfl (gS rfl g0))) (gS rfl (gS rfl g0)) (fun g => ?_)
      refine c_seq (fun K34 hK34 => ?_)
      refine c_region ?_
      refine l_step y_moveC ?_
      refine l_nil ?_
      refine hK34 _ _ ?_
      refine c_block (fun Q35 hQ35 => ?_)
      refine fg3 0 2 48 (gS rfl (gS rfl g0)) (gS rfl g0) g0 (fun g => ?_)
      replace kA : Blk W6 bA (kCells (thK a 0 0 0)) := by rw [thK_zero]; exact kA
      refine c_loop (fun k_ s_ W36 => ∃ (g : Nat → Value) (i : Nat), s_ = (upd (upd (upd g 0 (.pointer (some ⟨bA, 0, none⟩))) 2 (.pointer (some ⟨b2, 0, none⟩))) 48 (.int .i64 (i : Nat))) ∧ 5 - i = k_ ∧ (i ≤ 5) ∧ Blk W36 bA (kCells (thK a i 0 0)) ∧ Ch (fun k => k = bA) W6 W36) (5 - (0)) ?_ ?_
      · exact ⟨g, 0, rfl, rfl, Nat.zero_le _, kA, Ch.refl _ _⟩
      · skip
        intro k_ s_ W36 hI K36 hK36
        obtain ⟨g, i, rfl, rfl, hi, nkA, V36⟩ := hI
        replace k2 := k2.ch V36 (by omega)
        replace kA := nkA
        replace U := U.cc V36 (by intro b hb; first | exact hb.elim | omega | (simp at hb ⊢; omega))
        refine c_seq (fun K37 hK37 => ?_)
        refine c_region ?_
        refine l_step (y_lss (et g0 rfl) rfl) ?_
        refine l_nil ?_
        refine hK37 _ _ ?_
        refine c_seq (fun K38 hK38 => ?_)
        refine c_cond (et g0 rfl) (fun cB4 => ?_) (fun cB4 => ?_)
        · skip
          
          have hil : i < 5 := by have := of_decide_eq_true cB4; omega
          have hp1 : (i + 4) % 5 < 5 := Nat.mod_lt _ (by decide)
          have hp2 : (i + 1) % 5 < 5 := Nat.mod_lt _ (by decide)
          refine c_skip ?_
          refine hK38 _ _ ?_
          refine fg3 0 2 48 (gS rfl (gS rfl (gS rfl g0))) (gS rfl (gS rfl g0)) (gS rfl g0) (fun g => ?_)
          refine c_seq (fun K40 hK40 => ?_)
          refine c_block (fun Q41 hQ41 => ?_)
          refine c_seq (fun K42 hK42 => ?_)
          refine c_region ?_
          refine l_step (y_moveV (et g0 rfl)) ?_
          refine l_step (y_assignV (et g0 rfl)) ?_
          refine l_nil ?_
          refine hK42 _ _ ?_
          refine fg4 0 2 48 7 (gS rfl (gS rfl (gS rfl (gS rfl g0)))) (gS rfl (gS rfl (gS rfl g0))) (gS rfl (gS rfl g0)) g0 (fun g => ?_)
          refine c_seq (fun K43 hK43 => ?_)
          refine c_region ?_
          refine l_step (y_moveV (et g0 rfl)) ?_
          refine l_step (y_add (et g0 rfl) rfl (addIN (y := 4) ?_)) ?_
          omega
          refine l_step (y_rem (et g0 rfl) rfl (by decide) (remN (b := 5))) ?_
          refine l_step (y_idxA Hvaa.underlying436 sz_435 (et (gS rfl (gS rfl (gS rfl (gS rfl (gS rfl g0))))) rfl) (et g0 rfl) ?_ ?_) ?_
          omega
          omega
          refine l_step (y_assignV (et g0 rfl)) ?_
          refine l_nil ?_
          refine hK43 _ _ ?_
          refine fg5 0 2 48 7 8 (gS rfl (gS rfl (gS rfl (gS rfl (gS rfl (gS rfl (gS rfl (gS rfl g0)))))))) (gS rfl (gS rfl (gS rfl (gS rfl (gS rfl (gS rfl (gS rfl g0))))))) (gS rfl (gS rfl (gS rfl (gS rfl (gS rfl (gS rfl g0)))))) (gS rfl (gS rfl (gS rfl (gS rfl (gS rfl g0))))) g0 (fun g => ?_)
          refine c_seq (fun K44 hK44 => ?_)
          refine c_region ?_
          refine l_step (y_moveV (et (gS rfl g0) rfl)) ?_
          refine l_step (y_add (et g0 rfl) rfl (addIN (y := 1) ?_)) ?_
          omega
          refine l_step (y_rem (et g0 rfl) rfl (by decide) (remN (b := 5))) ?_
          refine l_step (y_idxA Hvaa.underlying436 sz_435 (et (gS rfl (gS rfl (gS rfl (gS rfl (gS rfl (gS rfl g0)))))) rfl) (et g0 rfl) ?_ ?_) ?_
          omega
          omega
          refine l_step (y_assignV (et g0 rfl)) ?_
          refine l_nil ?_
          refine hK44 _ _ ?_
          refine fg6 0 2 48 7 8 9 (gS rfl (gS rfl (gS rfl (gS rfl (gS rfl (gS rfl (gS rfl (gS rfl (gS rfl g0))))))))) (gS rfl (gS rfl (gS rfl (gS rfl (gS rfl (gS rfl (gS rfl (gS rfl g0)))))))) (gS rfl (gS rfl (gS rfl (gS rfl (gS rfl (gS rfl (gS rfl g0))))))) (gS rfl (gS rfl (gS rfl (gS rfl (gS rfl (gS rfl g0)))))) (gS rfl (gS rfl (gS rfl (gS rfl (gS rfl g0))))) g0 (fun g => ?_)
          refine c_seq (fun K45 hK45 => ?_)
          refine c_region ?_
          refine l_eff (e_alloc zr_435) (fun v46 w46 h46 => ?_)
          obtain ⟨b46, rfl, n46⟩ := h46
          have d2_46 : b2 < b46 := Nat.lt_of_lt_of_le k2.lt n46.fresh
          have f46 : w.heap.size ≤ b46 := Nat.le_trans U.size n46.fresh
          have fV36_46 := Nat.le_trans V36.size n46.fresh
          replace k2 := k2.up n46.up
          replace kA := kA.up n46.up
          replace U := U.tr n46.up
          replace V36 := V36.tr n46.up
          have k46 := n46.blk
          replace k46 : Blk w46 b46 (dCells a i 0) := k46
          refine l_nil ?_
          refine hK45 _ _ ?_
          refine c_seq (fun K47 hK47 => ?_)
          refine c_seq (fun K48 hK48 => ?_)
          refine c_region ?_
          refine l_step y_moveC ?_
          refine l_nil ?_
          refine hK48 _ _ ?_
          refine c_block (fun Q49 hQ49 => ?_)
          refine fg8 0 2 7 8 9 10 48 59 (gS rfl (gS rfl (gS rfl (gS rfl (gS rfl (gS rfl (gS rfl g0))))))) (gS rfl (gS rfl (gS rfl (gS rfl (gS rfl (gS rfl g0)))))) (gS rfl (gS rfl (gS rfl (gS rfl g0)))) (gS rfl (gS rfl (gS rfl g0))) (gS rfl (gS rfl g0)) (gS rfl g0) (gS rfl (gS rfl (gS rfl (gS rfl (gS rfl g0))))) g0 (fun g => ?_)
          refine c_loop (fun k_ s_ W50 => ∃ (g : Nat → Value) (n : Nat), s_ = (upd (upd (upd (upd (upd (upd (upd (upd g 0 (.pointer (some ⟨bA, 0, none⟩))) 2 (.pointer (some ⟨b2, 0, none⟩))) 7 (.int .i64 (i : Nat))) 8 (.pointer (some ⟨b2, 0 + ((i + 4) % 5) * 64, none⟩))) 9 (.pointer (some ⟨b2, 0 + ((i + 1) % 5) * 64, none⟩))) 10 (.pointer (some ⟨b46, 0, none⟩))) 48 (.int .i64 (i : Nat))) 59 (.int .i64 (n : Nat))) ∧ 64 - n = k_ ∧ (n ≤ 64) ∧ Blk W50 b46 (dCells a i n) ∧ Ch (fun k => k = b46) w46 W50) (64 - (0)) ?_ ?_
          · exact ⟨g, 0, rfl, rfl, Nat.zero_le _, k46, Ch.refl _ _⟩
          · skip
            intro k_ s_ W50 hI K50 hK50
            obtain ⟨g, n, rfl, rfl, hn, nk46, V50⟩ := hI
            replace k2 := k2.ch V50 (by omega)
            replace kA := kA.ch V50 (by omega)
            replace k46 := nk46
            replace V36 := V36.cc V50 (by intro b hb; first | exact hb.elim | omega)
            replace U := U.cc V50 (by intro b hb; first | exact hb.elim | omega | (simp at hb ⊢; omega))
            refine c_seq (fun K51 hK51 => ?_)
            refine c_region ?_
            refine l_step (y_lss (et g0 rfl) rfl) ?_
            refine l_nil ?_
            refine hK51 _ _ ?_
            refine c_seq (fun K52 hK52 => ?_)
            refine c_cond (et g0 rfl) (fun cB5 => ?_) (fun cB5 => ?_)
            · skip
              
              have hnl : n < 64 := by have := of_decide_eq_true cB5; omega
              have hm9 : (n + 63) % 64 < 64 := Nat.mod_lt _ (by decide)
              refine c_skip ?_
              refine hK52 _ _ ?_
              refine fg8 0 2 7 8 9 10 48 59 (gS rfl (gS rfl (gS rfl (gS rfl (gS rfl (gS rfl (gS rfl (gS rfl g0)))))))) (gS rfl (gS rfl (gS rfl (gS rfl (gS rfl (gS rfl (gS rfl g0))))))) (gS rfl (gS rfl (gS rfl (gS rfl (gS rfl (gS rfl g0)))))) (gS rfl (gS rfl (gS rfl (gS rfl (gS rfl g0))))) (gS rfl (gS rfl (gS rfl (gS rfl g0)))) (gS rfl (gS rfl (gS rfl g0))) (gS rfl (gS rfl g0)) (gS rfl g0) (fun g => ?_)
              refine c_seq (fun K54 hK54 => ?_)
              refine c_block (fun Q55 hQ55 => ?_)
              refine c_seq (fun K56 hK56 => ?_)
              refine c_region ?_
              refine l_step (y_moveV (et g0 rfl)) ?_
              refine l_step (y_assignV (et g0 rfl)) ?_
              refine l_nil ?_
              refine hK56 _ _ ?_
              refine fg9 0 2 7 8 9 10 48 59 11 (gS rfl (gS rfl (gS rfl (gS rfl (gS rfl (gS rfl (gS rfl (gS rfl (gS rfl g0))))))))) (gS rfl (gS rfl (gS rfl (gS rfl (gS rfl (gS rfl (gS rfl (gS rfl g0)))))))) (gS rfl (gS rfl (gS rfl (gS rfl (gS rfl (gS rfl (gS rfl g0))))))) (gS rfl (gS rfl (gS rfl (gS rfl (gS rfl (gS rfl g0)))))) (gS rfl (gS rfl (gS rfl (gS rfl (gS rfl g0))))) (gS rfl (gS rfl (gS rfl (gS rfl g0)))) (gS rfl (gS rfl (gS rfl g0))) (gS rfl (gS rfl g0)) g0 (fun g => ?_)
              refine c_draw Up 15 [(0, true), (1, true), (2, true), (3, true), (4, true), (5, true), (6, true), (7, true), (8, true), (9, true), (10, true), (11, true), (12, true), (13, true), (14, true), (15, false)] (by kernel_rfl) (fun w57 hu => ⟨Up.refl _, ?_⟩)
              replace k2 := k2.up hu
              replace k46 := k46.up hu
              replace kA := kA.up hu
              replace U := U.tr hu
              replace V36 := V36.tr hu
              replace V50 := V50.tr hu
              have SU := Up.refl w57
              refine p_step (by exact rfl) (y_moveV (et g0 rfl)) ?_
              refine p_step (by exact rfl) (y_moveV (et (gS rfl (gS rfl (gS rfl (gS rfl (gS rfl (gS rfl g0)))))) rfl)) ?_
              refine p_step (by exact rfl) (y_moveV (et (gS rfl (gS rfl g0)) rfl)) ?_
              refine p_step (by exact rfl) (y_nil (et (gS rfl g0) rfl)) ?_
              refine p_step (by exact rfl) (y_idxA Hvaa.underlying435 sz_4 (et g0 rfl) (et (gS rfl g0) rfl) ?_ ?_) ?_
              omega
              omega
              refine p_step (by exact rfl) (y_load1 one_4 (et g0 rfl) (atS (k2.cell (by have h9 := cc_at (f := kC a) (x := (i + 4) % 5) (z := n) hp1 hnl; simpa using h9)))) ?_
              refine p_step (by exact rfl) (y_moveV (et (gS rfl (gS rfl (gS rfl (gS rfl (gS rfl (gS rfl (gS rfl (gS rfl (gS rfl (gS rfl g0)))))))))) rfl)) ?_
              refine p_step (by exact rfl) (y_moveV (et (gS rfl (gS rfl (gS rfl (gS rfl (gS rfl (gS rfl (gS rfl g0))))))) rfl)) ?_
              refine p_step (by exact rfl) (y_add (et g0 rfl) rfl (addIN (y := 63) ?_)) ?_
              omega
              refine p_step (by exact rfl) (y_rem (et g0 rfl) rfl (by decide) (remN (b := 64))) ?_
              refine p_step (by exact rfl) (y_nil (et (gS rfl (gS rfl (gS rfl g0))) rfl)) ?_
              refine p_step (by exact rfl) (y_idxA Hvaa.underlying435 sz_4 (et g0 rfl) (et (gS rfl g0) rfl) ?_ ?_) ?_
              omega
              omega
              refine p_step (by exact rfl) (y_load1 one_4 (et g0 rfl) (atS (k2.cell (by have h9 := cc_at (f := kC a) (x := (i + 1) % 5) (z := (n + 63) % 64) hp2 hm9; simp only [Nat.zero_add, Nat.mul_one, Int.toNat_natCast]; exact h9)))) ?_
              refine p_step (by exact rfl) (y_neqB Hvaa.underlying4 (et (gS rfl (gS rfl (gS rfl (gS rfl (gS rfl (gS rfl (gS rfl g0))))))) rfl) (et g0 rfl)) ?_
              refine p_step (by exact rfl) (y_idxA Hvaa.underlying435 sz_4 (et (gS rfl (gS rfl (gS rfl (gS rfl (gS rfl (gS rfl (gS rfl (gS rfl (gS rfl (gS rfl (gS rfl (gS rfl (gS rfl (gS rfl (gS rfl (gS rfl (gS rfl g0))))))))))))))))) rfl) (et (gS rfl (gS rfl (gS rfl (gS rfl (gS rfl (gS rfl (gS rfl (gS rfl (gS rfl (gS rfl (gS rfl (gS rfl (gS rfl g0))))))))))))) rfl) ?_ ?_) ?_
              omega
              omega
              refine p_effN (by exact rfl) (e_store sz_4 (et g0 rfl) (cellsV (et (gS rfl g0) rfl) rfl) rfl (by intro v hv; simp at hv; subst hv; rfl) k46 (by (rw [dc_size]; simp only [Int.toNat_natCast]; omega))) (fun v58 w58 h58 => ?_)
              obtain ⟨rfl, x58⟩ := h58
              replace k2 := k2.ch x58.ch (by omega)
              replace kA := kA.ch x58.ch (by first | omega | (omega))
              replace k46 := x58.blk
              replace U := U.st x58 (.inr f46)
              replace V36 := V36.st x58 (by omega)
              replace V50 := V50.st x58 (by omega)
              refine ⟨.inl rfl, ?_⟩
              have h9 := k46
              simp only [Nat.zero_add, Nat.mul_one, Int.toNat_natCast] at h9
              replace k46 : Blk w58 b46 (dCells a i (n + 1)) := by rw [← dc_next hnl, dK, ← neq_xor]; exact h9
              refine p_nil ?_
              refine hQ55 _ _ _ (in_normal ?_)
              refine hK54 _ _ ?_
              refine fg8 0 2 7 8 9 10 48 59 (gS rfl (gS rfl (gS rfl (gS rfl (gS rfl (gS rfl (gS rfl (gS rfl (gS rfl (gS rfl (gS rfl (gS rfl (gS rfl (gS rfl (gS rfl (gS rfl (gS rfl (gS rfl (gS rfl (gS rfl (gS rfl (gS rfl (gS rfl g0))))))))))))))))))))))) (gS rfl (gS rfl (gS rfl (gS rfl (gS rfl (gS rfl (gS rfl (gS rfl (gS rfl (gS rfl (gS rfl (gS rfl (gS rfl (gS rfl (gS rfl (gS rfl (gS rfl (gS rfl (gS rfl (gS rfl (gS rfl (gS rfl g0)))))))))))))))))))))) (gS rfl (gS rfl (gS rfl (gS rfl (gS rfl (gS rfl (gS rfl (gS rfl (gS rfl (gS rfl (gS rfl (gS rfl (gS rfl (gS rfl (gS rfl (gS rfl (gS rfl (gS rfl (gS rfl (gS rfl (gS rfl g0))))))))))))))))))))) (gS rfl (gS rfl (gS rfl (gS rfl (gS rfl (gS rfl (gS rfl (gS rfl (gS rfl (gS rfl (gS rfl (gS rfl (gS rfl (gS rfl (gS rfl (gS rfl (gS rfl (gS rfl (gS rfl (gS rfl g0)))))))))))))))))))) (gS rfl (gS rfl (gS rfl (gS rfl (gS rfl (gS rfl (gS rfl (gS rfl (gS rfl (gS rfl (gS rfl (gS rfl (gS rfl (gS rfl (gS rfl (gS rfl (gS rfl (gS rfl (gS rfl g0))))))))))))))))))) (gS rfl (gS rfl (gS rfl (gS rfl (gS rfl (gS rfl (gS rfl (gS rfl (gS rfl (gS rfl (gS rfl (gS rfl (gS rfl (gS rfl (gS rfl (gS rfl (gS rfl (gS rfl g0)))))))))))))))))) (gS rfl (gS rfl (gS rfl (gS rfl (gS rfl (gS rfl (gS rfl (gS rfl (gS rfl (gS rfl (gS rfl (gS rfl (gS rfl (gS rfl (gS rfl (gS rfl (gS rfl g0))))))))))))))))) (gS rfl (gS rfl (gS rfl (gS rfl (gS rfl (gS rfl (gS rfl (gS rfl (gS rfl (gS rfl (gS rfl (gS rfl (gS rfl (gS rfl (gS rfl (gS rfl g0)))))))))))))))) (fun g => ?_)
              refine c_region ?_
              refine l_step (y_add (et g0 rfl) rfl (addIN (y := 1) ?_)) ?_
              omega
              refine l_step (y_moveV (et g0 rfl)) ?_
              refine l_nil ?_
              refine fK8 0 2 7 8 9 10 48 59 (gS rfl (gS rfl (gS rfl (gS rfl (gS rfl (gS rfl (gS rfl (gS rfl (gS rfl g0))))))))) (gS rfl (gS rfl (gS rfl (gS rfl (gS rfl (gS rfl (gS rfl (gS rfl g0)))))))) (gS rfl (gS rfl (gS rfl (gS rfl (gS rfl (gS rfl (gS rfl g0))))))) (gS rfl (gS rfl (gS rfl (gS rfl (gS rfl (gS rfl g0)))))) (gS rfl (gS rfl (gS rfl (gS rfl (gS rfl g0))))) (gS rfl (gS rfl (gS rfl (gS rfl g0)))) (gS rfl (gS rfl (gS rfl g0))) g0 (fun g => ?_)
              exact hK50 (64 - ((n + 1))) _ _ (by omega) ⟨g, (n + 1), rfl, rfl, by omega, k46, V50⟩
            · skip
              
              have hnl : n = 64 := by have := of_decide_eq_false cB5; omega
              subst hnl
              refine c_exit ?_
              refine hQ49 _ _ _ (in_exit ?_)
              refine hK47 _ _ ?_
              refine fg5 0 2 7 10 48 (gS rfl (gS rfl (gS rfl (gS rfl (gS rfl (gS rfl (gS rfl (gS rfl g0)))))))) (gS rfl (gS rfl (gS rfl (gS rfl (gS rfl (gS rfl (gS rfl g0))))))) (gS rfl (gS rfl (gS rfl (gS rfl (gS rfl (gS rfl g0)))))) (gS rfl (gS rfl (gS rfl g0))) (gS rfl (gS rfl g0)) (fun g => ?_)
              refine c_seq (fun K59 hK59 => ?_)
              refine c_region ?_
              refine l_step y_moveC ?_
              refine l_nil ?_
              refine hK59 _ _ ?_
              refine c_block (fun Q60 hQ60 => ?_)
              refine fg6 0 2 7 10 48 78 (gS rfl (gS rfl (gS rfl (gS rfl (gS rfl g0))))) (gS rfl (gS rfl (gS rfl (gS rfl g0)))) (gS rfl (gS rfl (gS rfl g0))) (gS rfl (gS rfl g0)) (gS rfl g0) g0 (fun g => ?_)
              refine c_loop (fun k_ s_ W61 => ∃ (g : Nat → Value) (j : Nat), s_ = (upd (upd (upd (upd (upd (upd g 0 (.pointer (some ⟨bA, 0, none⟩))) 2 (.pointer (some ⟨b2, 0, none⟩))) 7 (.int .i64 (i : Nat))) 10 (.pointer (some ⟨b46, 0, none⟩))) 48 (.int .i64 (i : Nat))) 78 (.int .i64 (j : Nat))) ∧ 5 - j = k_ ∧ (j ≤ 5) ∧ Blk W61 bA (kCells (thK a i j 0)) ∧ Ch (fun k => k = bA) W50 W61) (5 - (0)) ?_ ?_
              · exact ⟨g, 0, rfl, rfl, Nat.zero_le _, kA, Ch.refl _ _⟩
              · skip
                intro k_ s_ W61 hI K61 hK61
                obtain ⟨g, j, rfl, rfl, hj, nkA, V61⟩ := hI
                replace k2 := k2.ch V61 (by omega)
                replace k46 := k46.ch V61 (by omega)
                replace kA := nkA
                replace V36 := V36.cc V61 (by intro b hb; first | exact hb.elim | omega)
                replace U := U.cc V61 (by intro b hb; first | exact hb.elim | omega | (simp at hb ⊢; omega))
                refine c_seq (fun K62 hK62 => ?_)
                refine c_region ?_
                refine l_step (y_lss (et g0 rfl) rfl) ?_
                refine l_nil ?_
                refine hK62 _ _ ?_
                refine c_seq (fun K63 hK63 => ?_)
                refine c_cond (et g0 rfl) (fun cB6 => ?_) (fun cB6 => ?_)
                · skip
                  
                  have hjl : j < 5 := by have := of_decide_eq_true cB6; omega
                  refine c_skip ?_
                  refine hK63 _ _ ?_
                  refine fg6 0 2 7 10 48 78 (gS rfl (gS rfl (gS rfl (gS rfl (gS rfl (gS rfl g0)))))) (gS rfl (gS rfl (gS rfl (gS rfl (gS rfl g0))))) (gS rfl (gS rfl (gS rfl (gS rfl g0)))) (gS rfl (gS rfl (gS rfl g0))) (gS rfl (gS rfl g0)) (gS rfl g0) (fun g => ?_)
                  refine c_seq (fun K65 hK65 => ?_)
                  refine c_block (fun Q66 hQ66 => ?_)
                  refine c_seq (fun K67 hK67 => ?_)
                  refine c_region ?_
                  refine l_step (y_moveV (et g0 rfl)) ?_
                  refine l_step (y_assignV (et g0 rfl)) ?_
                  refine l_nil ?_
                  refine hK67 _ _ ?_
                  refine fg7 0 2 7 10 48 78 12 (gS rfl (gS rfl (gS rfl (gS rfl (gS rfl (gS rfl (gS rfl g0))))))) (gS rfl (gS rfl (gS rfl (gS rfl (gS rfl (gS rfl g0)))))) (gS rfl (gS rfl (gS rfl (gS rfl (gS rfl g0))))) (gS rfl (gS rfl (gS rfl (gS rfl g0)))) (gS rfl (gS rfl (gS rfl g0))) (gS rfl (gS rfl g0)) g0 (fun g => ?_)
                  refine c_seq (fun K68 hK68 => ?_)
                  refine c_region ?_
                  refine l_step (y_moveV (et (gS rfl (gS rfl (gS rfl (gS rfl (gS rfl (gS rfl g0)))))) rfl)) ?_
                  refine l_step (y_moveV (et (gS rfl (gS rfl (gS rfl (gS rfl (gS rfl g0))))) rfl)) ?_
                  refine l_step (y_moveV (et (gS rfl (gS rfl g0)) rfl)) ?_
                  refine l_step (y_nil (et (gS rfl (gS rfl g0)) rfl)) ?_
                  refine l_step (y_idxA Hvaa.underlying438 sz_436 (et g0 rfl) (et (gS rfl (gS rfl g0)) rfl) ?_ ?_) ?_
                  omega
                  omega
                  refine l_step (y_idxA Hvaa.underlying436 sz_435 (et g0 rfl) (et (gS rfl (gS rfl g0)) rfl) ?_ ?_) ?_
                  omega
                  omega
                  refine l_step (y_assignV (et g0 rfl)) ?_
                  refine l_nil ?_
                  refine hK68 _ _ ?_
                  refine fg7 0 2 7 10 48 78 13 (gS rfl (gS rfl (gS rfl (gS rfl (gS rfl (gS rfl (gS rfl (gS rfl (gS rfl (gS rfl (gS rfl (gS rfl (gS rfl g0))))))))))))) (gS rfl (gS rfl (gS rfl (gS rfl (gS rfl (gS rfl (gS rfl (gS rfl (gS rfl (gS rfl (gS rfl (gS rfl g0)))))))))))) (gS rfl (gS rfl (gS rfl (gS rfl (gS rfl (gS rfl (gS rfl (gS rfl (gS rfl (gS rfl (gS rfl g0))))))))))) (gS rfl (gS rfl (gS rfl (gS rfl (gS rfl (gS rfl (gS rfl (gS rfl (gS rfl (gS rfl g0)))))))))) (gS rfl (gS rfl (gS rfl (gS rfl (gS rfl (gS rfl (gS rfl (gS rfl (gS rfl g0))))))))) (gS rfl (gS rfl (gS rfl (gS rfl (gS rfl (gS rfl (gS rfl (gS rfl g0)))))))) g0 (fun g => ?_)
                  refine c_seq (fun K69 hK69 => ?_)
                  refine c_region ?_
                  refine l_step y_moveC ?_
                  refine l_nil ?_
                  refine hK69 _ _ ?_
                  refine c_block (fun Q70 hQ70 => ?_)
                  refine fg8 0 2 7 10 13 48 78 87 (gS rfl (gS rfl (gS rfl (gS rfl (gS rfl (gS rfl (gS rfl g0))))))) (gS rfl (gS rfl (gS rfl (gS rfl (gS rfl (gS rfl g0)))))) (gS rfl (gS rfl (gS rfl (gS rfl (gS rfl g0))))) (gS rfl (gS rfl (gS rfl (gS rfl g0)))) (gS rfl g0) (gS rfl (gS rfl (gS rfl g0))) (gS rfl (gS rfl g0)) g0 (fun g => ?_)
                  refine c_loop (fun k_ s_ W71 => ∃ (g : Nat → Value) (n : Nat), s_ = (upd (upd (upd (upd (upd (upd (upd (upd g 0 (.pointer (some ⟨bA, 0, none⟩))) 2 (.pointer (some ⟨b2, 0, none⟩))) 7 (.int .i64 (i : Nat))) 10 (.pointer (some ⟨b46, 0, none⟩))) 13 (.pointer (some ⟨bA, 0 + i * 320 + j * 64, none⟩))) 48 (.int .i64 (i : Nat))) 78 (.int .i64 (j : Nat))) 87 (.int .i64 (n : Nat))) ∧ 64 - n = k_ ∧ (n ≤ 64) ∧ Blk W71 bA (kCells (thK a i j n)) ∧ Ch (fun k => k = bA) W61 W71) (64 - (0)) ?_ ?_
                  · exact ⟨g, 0, rfl, rfl, Nat.zero_le _, kA, Ch.refl _ _⟩
                  · skip
                    intro k_ s_ W71 hI K71 hK71
                    obtain ⟨g, n, rfl, rfl, hn, nkA, V71⟩ := hI
                    replace k2 := k2.ch V71 (by omega)
                    replace k46 := k46.ch V71 (by omega)
                    replace kA := nkA
                    replace V36 := V36.cc V71 (by intro b hb; first | exact hb.elim | omega)
                    replace V61 := V61.cc V71 (by intro b hb; first | exact hb.elim | omega)
                    replace U := U.cc V71 (by intro b hb; first | exact hb.elim | omega | (simp at hb ⊢; omega))
                    refine c_seq (fun K72 hK72 => ?_)
                    refine c_region ?_
                    refine l_step (y_lss (et g0 rfl) rfl) ?_
                    refine l_nil ?_
                    refine hK72 _ _ ?_
                    refine c_seq (fun K73 hK73 => ?_)
                    refine c_cond (et g0 rfl) (fun cB7 => ?_) (fun cB7 => ?_)
                    · skip
                      
                      have hnl : n < 64 := by have := of_decide_eq_true cB7; omega
                      refine c_skip ?_
                      refine hK73 _ _ ?_
                      refine fg8 0 2 7 10 13 48 78 87 (gS rfl (gS rfl (gS rfl (gS rfl (gS rfl (gS rfl (gS rfl (gS rfl g0)))))))) (gS rfl (gS rfl (gS rfl (gS rfl (gS rfl (gS rfl (gS rfl g0))))))) (gS rfl (gS rfl (gS rfl (gS rfl (gS rfl (gS rfl g0)))))) (gS rfl (gS rfl (gS rfl (gS rfl (gS rfl g0))))) (gS rfl (gS rfl (gS rfl (gS rfl g0)))) (gS rfl (gS rfl (gS rfl g0))) (gS rfl (gS rfl g0)) (gS rfl g0) (fun g => ?_)
                      refine c_seq (fun K75 hK75 => ?_)
                      refine c_block (fun Q76 hQ76 => ?_)
                      refine c_seq (fun K77 hK77 => ?_)
                      refine c_draw Up 6 [(0, true), (1, true), (2, true), (3, true), (4, true), (5, true)] (by kernel_rfl) (fun w78 hu => ⟨Up.refl _, ?_⟩)
                      replace k2 := k2.up hu
                      replace k46 := k46.up hu
                      replace kA := kA.up hu
                      replace U := U.tr hu
                      replace V36 := V36.tr hu
                      replace V61 := V61.tr hu
                      replace V71 := V71.tr hu
                      have SU := Up.refl w78
                      refine p_step (by exact rfl) (y_moveV (et g0 rfl)) ?_
                      refine p_step (by exact rfl) (y_nil (et (gS rfl (gS rfl (gS rfl (gS rfl (gS rfl g0))))) rfl)) ?_
                      refine p_step (by exact rfl) (y_idxA Hvaa.underlying435 sz_4 (et g0 rfl) (et (gS rfl (gS rfl g0)) rfl) ?_ ?_) ?_
                      omega
                      omega
                      refine p_step (by exact rfl) (y_load1 one_4 (et g0 rfl) (atS (k46.cell (by have h9 := dc_get (a := a) (x := i) (n := 64) (z := n) hnl; rw [if_pos hnl] at h9; simpa using h9)))) ?_
                      refine p_step (by exact rfl) (y_assignV (et (gS rfl (gS rfl (gS rfl g0))) rfl)) ?_
                      refine p_step (by exact rfl) (y_assignV (et (gS rfl g0) rfl)) ?_
                      refine p_nil ?_
                      refine hK77 _ _ ?_
                      refine fg10 0 2 7 10 13 48 78 87 14 15 (gS rfl (gS rfl (gS rfl (gS rfl (gS rfl (gS rfl (gS rfl (gS rfl (gS rfl (gS rfl (gS rfl (gS rfl (gS rfl g0))))))))))))) (gS rfl (gS rfl (gS rfl (gS rfl (gS rfl (gS rfl (gS rfl (gS rfl (gS rfl (gS rfl (gS rfl (gS rfl g0)))))))))))) (gS rfl (gS rfl (gS rfl (gS rfl (gS rfl (gS rfl (gS rfl (gS rfl (gS rfl (gS rfl (gS rfl g0))))))))))) (gS rfl (gS rfl (gS rfl (gS rfl (gS rfl (gS rfl (gS rfl (gS rfl (gS rfl (gS rfl g0)))))))))) (gS rfl (gS rfl (gS rfl (gS rfl (gS rfl (gS rfl (gS rfl (gS rfl (gS rfl g0))))))))) (gS rfl (gS rfl (gS rfl (gS rfl (gS rfl (gS rfl (gS rfl (gS rfl g0)))))))) (gS rfl (gS rfl (gS rfl (gS rfl (gS rfl (gS rfl (gS rfl g0))))))) (gS rfl (gS rfl (gS rfl (gS rfl (gS rfl (gS rfl g0)))))) (gS rfl g0) g0 (fun g => ?_)
                      refine c_draw Up 11 [(0, true), (1, true), (2, true), (3, true), (4, true), (5, true), (6, true), (7, true), (8, true), (9, true), (10, true), (11, false)] (by kernel_rfl) (fun w79 hu => ⟨Up.refl _, ?_⟩)
                      replace k2 := k2.up hu
                      replace k46 := k46.up hu
                      replace kA := kA.up hu
                      replace U := U.tr hu
                      replace V36 := V36.tr hu
                      replace V61 := V61.tr hu
                      replace V71 := V71.tr hu
                      have SU := Up.refl w79
                      refine p_step (by exact rfl) (y_moveV (et (gS rfl (gS rfl (gS rfl (gS rfl (gS rfl g0))))) rfl)) ?_
                      refine p_step (by exact rfl) (y_moveV (et (gS rfl (gS rfl g0)) rfl)) ?_
                      refine p_step (by exact rfl) (y_moveV (et (gS rfl (gS rfl (gS rfl (gS rfl (gS rfl (gS rfl (gS rfl g0))))))) rfl)) ?_
                      refine p_step (by exact rfl) (y_moveV (et (gS rfl (gS rfl (gS rfl (gS rfl g0)))) rfl)) ?_
                      refine p_step (by exact rfl) (y_nil (et (gS rfl g0) rfl)) ?_
                      refine p_step (by exact rfl) (y_idxA Hvaa.underlying435 sz_4 (et g0 rfl) (et (gS rfl g0) rfl) ?_ ?_) ?_
                      omega
                      omega
                      refine p_step (by exact rfl) (y_load1 one_4 (et g0 rfl) (atS (kA.cell (by have h9 := kc_at (a := thK a i j n) (x := i) (y := j) (z := n) hil hjl hnl; rw [thK_at] at h9; simpa using h9)))) ?_
                      refine p_step (by exact rfl) (y_moveV (et (gS rfl (gS rfl (gS rfl (gS rfl (gS rfl (gS rfl (gS rfl g0))))))) rfl)) ?_
                      refine p_step (by exact rfl) (y_neqB Hvaa.underlying4 (et (gS rfl g0) rfl) (et g0 rfl)) ?_
                      refine p_step (by exact rfl) (y_nil (et (gS rfl (gS rfl (gS rfl (gS rfl (gS rfl (gS rfl (gS rfl (gS rfl g0)))))))) rfl)) ?_
                      refine p_step (by exact rfl) (y_idxA Hvaa.underlying435 sz_4 (et g0 rfl) (et (gS rfl (gS rfl (gS rfl (gS rfl (gS rfl (gS rfl (gS rfl (gS rfl g0)))))))) rfl) ?_ ?_) ?_
                      omega
                      omega
                      refine p_effN (by exact rfl) (e_store sz_4 (et g0 rfl) (cellsV (et (gS rfl (gS rfl g0)) rfl) rfl) rfl (by intro v hv; simp at hv; subst hv; rfl) kA (by (rw [kc_size]; simp only [Int.toNat_natCast]; omega))) (fun v80 w80 h80 => ?_)
                      obtain ⟨rfl, x80⟩ := h80
                      replace k2 := k2.ch x80.ch (by omega)
                      replace k46 := k46.ch x80.ch (by omega)
                      replace kA := x80.blk
                      replace U := U.st x80 (.inl (by first | rfl | (simp; done)))
                      replace V36 := V36.st x80 (by omega)
                      replace V61 := V61.st x80 (by omega)
                      replace V71 := V71.st x80 (by omega)
                      refine ⟨.inl rfl, ?_⟩
                      have h9 := kA
                      simp only [Nat.zero_add, Nat.mul_one, Int.toNat_natCast] at h9
                      replace kA : Blk w80 bA (kCells (thK a i j (n + 1))) := by rw [← thK_next, ← kc_set hil hjl hnl, ← theta_eq, ← neq_xor]; exact h9
                      refine p_nil ?_
                      refine hQ76 _ _ _ (in_normal ?_)
                      refine hK75 _ _ ?_
                      refine fg8 0 2 7 10 13 48 78 87 (gS rfl (gS rfl (gS rfl (gS rfl (gS rfl (gS rfl (gS rfl (gS rfl (gS rfl (gS rfl (gS rfl (gS rfl (gS rfl (gS rfl (gS rfl (gS rfl (gS rfl (gS rfl (gS rfl (gS rfl g0)))))))))))))))))))) (gS rfl (gS rfl (gS rfl (gS rfl (gS rfl (gS rfl (gS rfl (gS rfl (gS rfl (gS rfl (gS rfl (gS rfl (gS rfl (gS rfl (gS rfl (gS rfl (gS rfl (gS rfl (gS rfl g0))))))))))))))))))) (gS rfl (gS rfl (gS rfl (gS rfl (gS rfl (gS rfl (gS rfl (gS rfl (gS rfl (gS rfl (gS rfl (gS rfl (gS rfl (gS rfl (gS rfl (gS rfl (gS rfl (gS rfl g0)))))))))))))))))) (gS rfl (gS rfl (gS rfl (gS rfl (gS rfl (gS rfl (gS rfl (gS rfl (gS rfl (gS rfl (gS rfl (gS rfl (gS rfl (gS rfl (gS rfl (gS rfl (gS rfl g0))))))))))))))))) (gS rfl (gS rfl (gS rfl (gS rfl (gS rfl (gS rfl (gS rfl (gS rfl (gS rfl (gS rfl (gS rfl (gS rfl (gS rfl (gS rfl (gS rfl (gS rfl g0)))))))))))))))) (gS rfl (gS rfl (gS rfl (gS rfl (gS rfl (gS rfl (gS rfl (gS rfl (gS rfl (gS rfl (gS rfl (gS rfl (gS rfl (gS rfl (gS rfl g0))))))))))))))) (gS rfl (gS rfl (gS rfl (gS rfl (gS rfl (gS rfl (gS rfl (gS rfl (gS rfl (gS rfl (gS rfl (gS rfl (gS rfl (gS rfl g0)))))))))))))) (gS rfl (gS rfl (gS rfl (gS rfl (gS rfl (gS rfl (gS rfl (gS rfl (gS rfl (gS rfl (gS rfl (gS rfl (gS rfl g0))))))))))))) (fun g => ?_)
                      refine c_region ?_
                      refine l_step (y_add (et g0 rfl) rfl (addIN (y := 1) ?_)) ?_
                      omega
                      refine l_step (y_moveV (et g0 rfl)) ?_
                      refine l_nil ?_
                      refine fK8 0 2 7 10 13 48 78 87 (gS rfl (gS rfl (gS rfl (gS rfl (gS rfl (gS rfl (gS rfl (gS rfl (gS rfl g0))))))))) (gS rfl (gS rfl (gS rfl (gS rfl (gS rfl (gS rfl (gS rfl (gS rfl g0)))))))) (gS rfl (gS rfl (gS rfl (gS rfl (gS rfl (gS rfl (gS rfl g0))))))) (gS rfl (gS rfl (gS rfl (gS rfl (gS rfl (gS rfl g0)))))) (gS rfl (gS rfl (gS rfl (gS rfl (gS rfl g0))))) (gS rfl (gS rfl (gS rfl (gS rfl g0)))) (gS rfl (gS rfl (gS rfl g0))) g0 (fun g => ?_)
                      exact hK71 (64 - ((n + 1))) _ _ (by omega) ⟨g, (n + 1), rfl, rfl, by omega, kA, V71⟩
                    · skip
                      
                      have hnl : n = 64 := by have := of_decide_eq_false cB7; omega
                      subst hnl
                      refine c_exit ?_
                      refine hQ70 _ _ _ (in_exit ?_)
                      refine hQ66 _ _ _ (in_normal ?_)
                      refine hK65 _ _ ?_
                      refine fg6 0 2 7 10 48 78 (gS rfl (gS rfl (gS rfl (gS rfl (gS rfl (gS rfl (gS rfl (gS rfl g0)))))))) (gS rfl (gS rfl (gS rfl (gS rfl (gS rfl (gS rfl (gS rfl g0))))))) (gS rfl (gS rfl (gS rfl (gS rfl (gS rfl (gS rfl g0)))))) (gS rfl (gS rfl (gS rfl (gS rfl (gS rfl g0))))) (gS rfl (gS rfl (gS rfl g0))) (gS rfl (gS rfl g0)) (fun g => ?_)
                      refine c_region ?_
                      refine l_step (y_add (et g0 rfl) rfl (addIN (y := 1) ?_)) ?_
                      omega
                      refine l_step (y_moveV (et g0 rfl)) ?_
                      refine l_nil ?_
                      refine fK6 0 2 7 10 48 78 (gS rfl (gS rfl (gS rfl (gS rfl (gS rfl (gS rfl (gS rfl g0))))))) (gS rfl (gS rfl (gS rfl (gS rfl (gS rfl (gS rfl g0)))))) (gS rfl (gS rfl (gS rfl (gS rfl (gS rfl g0))))) (gS rfl (gS rfl (gS rfl (gS rfl g0)))) (gS rfl (gS rfl (gS rfl g0))) g0 (fun g => ?_)
                      rw [thK_row] at kA
                      exact hK61 (5 - ((j + 1))) _ _ (by omega) ⟨g, (j + 1), rfl, rfl, by omega, kA, V61⟩
                · skip
                  
                  have hjl : j = 5 := by have := of_decide_eq_false cB6; omega
                  subst hjl
                  refine c_exit ?_
                  refine hQ60 _ _ _ (in_exit ?_)
                  refine hQ41 _ _ _ (in_normal ?_)
                  refine hK40 _ _ ?_
                  refine fg3 0 2 48 (gS rfl (gS rfl (gS rfl (gS rfl (gS rfl (gS rfl g0)))))) (gS rfl (gS rfl (gS rfl (gS rfl (gS rfl g0))))) (gS rfl (gS rfl g0)) (fun g => ?_)
                  refine c_region ?_
                  refine l_step (y_add (et g0 rfl) rfl (addIN (y := 1) ?_)) ?_
                  omega
                  refine l_step (y_moveV (et g0 rfl)) ?_
                  refine l_nil ?_
                  refine fK3 0 2 48 (gS rfl (gS rfl (gS rfl (gS rfl g0)))) (gS rfl (gS rfl (gS rfl g0))) g0 (fun g => ?_)
                  rw [thK_col] at kA
                  exact hK36 (5 - ((i + 1))) _ _ (by omega) ⟨g, (i + 1), rfl, rfl, by omega, kA, V36⟩
        · skip
          
          have hil : i = 5 := by have := of_decide_eq_false cB4; omega
          subst hil
          rw [thK_full] at kA
          refine c_exit ?_
          refine hQ35 _ _ _ (in_exit ?_)
          refine end0 rfl ?_
          exact ⟨rfl, kA, U⟩
end Go.Proofs.YgvaawGreat
