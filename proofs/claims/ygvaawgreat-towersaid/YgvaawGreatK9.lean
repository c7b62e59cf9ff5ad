import Derived.Test.YgvaawGreatK8
set_option maxRecDepth 100000
set_option maxHeartbeats 4000000
set_option linter.unusedSimpArgs false
set_option linter.unusedVariables false
namespace Go.Proofs.YgvaawGreat
open Go
/-! The model's state: 1600 single bits. -/
def kCells (a : KS) : Array Value := ((List.range 1600).map (fun i => Value.bool (a (i / 320) (i / 64 % 5) (i % 64)))).toArray
theorem kc_size (a : KS) : (kCells a).size = 1600 := by simp [kCells]
theorem kc_get {a : KS} {i : Nat} (h : i < 1600) : (kCells a)[i]? = some (.bool (a (i / 320) (i / 64 % 5) (i % 64))) := by
  unfold kCells
  rw [List.getElem?_toArray, List.getElem?_map, List.getElem?_range h]
  rfl
/-- two states that agree on all bits -/
def Same (a b : KS) : Prop := ∀ x y z, x < 5 → y < 5 → z < 64 → a x y z = b x y z
theorem kc_same {a b : KS} (h : Same a b) : kCells a = kCells b := by
  apply Array.ext_getElem?
  intro i
  by_cases hi : i < 1600
  · rw [kc_get hi, kc_get hi, h _ _ _ (by omega) (by omega) (by omega)]
  · rw [Array.getElem?_eq_none (by rw [kc_size]; omega), Array.getElem?_eq_none (by rw [kc_size]; omega)]
theorem kc_at {a : KS} {x y z : Nat} (hx : x < 5) (hy : y < 5) (hz : z < 64) : (kCells a)[x * 320 + y * 64 + z]? = some (.bool (a x y z)) := by
  rw [kc_get (by omega), show (x * 320 + y * 64 + z) / 320 = x by omega, show (x * 320 + y * 64 + z) / 64 % 5 = y by omega, show (x * 320 + y * 64 + z) % 64 = z by omega]
def upK (a : KS) (x y z : Nat) (v : Bool) : KS := fun x' y' z' => if x' = x ∧ y' = y ∧ z' = z then v else a x' y' z'
theorem kc_set {a : KS} {x y z : Nat} {v : Bool} (hx : x < 5) (hy : y < 5) (hz : z < 64) : spl (kCells a) (x * 320 + y * 64 + z) [.bool v] = kCells (upK a x y z v) := by
  apply Array.ext_getElem?
  intro i
  show ((kCells a).setIfInBounds _ _)[i]? = _
  by_cases hi : i < 1600
  · rw [kc_get hi]
    by_cases he : x * 320 + y * 64 + z = i
    · subst he
      rw [Array.getElem?_setIfInBounds_self, if_pos (by rw [kc_size]; exact hi)]
      unfold upK
      rw [if_pos (by omega)]
    · rw [Array.getElem?_setIfInBounds_ne he, kc_get hi]
      unfold upK
      rw [if_neg (by omega)]
  · rw [Array.getElem?_eq_none (by rw [Array.size_setIfInBounds, kc_size]; omega), Array.getElem?_eq_none (by rw [kc_size]; omega)]
def ioK (i n : Nat) (a : KS) : KS := fun x y z => if x = 0 ∧ y = 0 ∧ z < n then a x y z ^^ (kRC i).testBit z else a x y z
theorem ioK_zero (i : Nat) (a : KS) : ioK i 0 a = a := by
  funext x y z
  unfold ioK
  rw [if_neg (by omega)]
theorem ioK_full (i : Nat) (a : KS) : Same (ioK i 64 a) (kIota i a) := by
  intro x y z hx hy hz
  unfold ioK kIota
  by_cases h : x = 0 ∧ y = 0
  · rw [if_pos ⟨h.1, h.2, hz⟩, if_pos h]
  · rw [if_neg (fun h9 => h ⟨h9.1, h9.2.1⟩), if_neg h]
theorem ioK_at (i n : Nat) (a : KS) : ioK i n a 0 0 n = a 0 0 n := by
  unfold ioK
  rw [if_neg (by omega)]
theorem ioK_next (i n : Nat) (a : KS) : upK (ioK i n a) 0 0 n (a 0 0 n ^^ (kRC i).testBit n) = ioK i (n + 1) a := by
  funext x y z
  unfold upK ioK
  by_cases h : x = 0 ∧ y = 0 ∧ z = n
  · obtain ⟨rfl, rfl, rfl⟩ := h
    rw [if_pos ⟨rfl, rfl, rfl⟩, if_pos (by omega)]
  · rw [if_neg h]
    by_cases h2 : x = 0 ∧ y = 0 ∧ z < n
    · rw [if_pos h2, if_pos (by omega)]
    · rw [if_neg h2, if_neg (by omega)]
theorem bx (x : Bool) (c z : Nat) : (!(x == decide (((c / 2 ^ z % 2 : Nat) : Int) = 1))) = (x ^^ c.testBit z) := by
  rw [Nat.testBit_eq_decide_div_mod_eq]
  have h : (((c / 2 ^ z % 2 : Nat) : Int) = 1) ↔ (c / 2 ^ z % 2 = 1) := by omega
  by_cases h2 : c / 2 ^ z % 2 = 1
  · rw [decide_eq_true (h.2 h2), decide_eq_true h2]; cases x <;> rfl
  · rw [decide_eq_false (fun h9 => h2 (h.1 h9)), decide_eq_false h2]; cases x <;> rfl
theorem io_set {i n : Nat} {a : KS} (hn : n < 64) : spl (kCells (ioK i n a)) n [.bool (!(a 0 0 n == decide (((kRC i / 2 ^ n % 2 : Nat) : Int) = 1)))] = kCells (ioK i (n + 1) a) := by
  rw [bx, ← ioK_next]
  have h := kc_set (a := ioK i n a) (x := 0) (y := 0) (z := n) (v := a 0 0 n ^^ (kRC i).testBit n) (by decide) (by decide) hn
  simp only [Nat.zero_mul, Nat.zero_add] at h
  exact h
theorem bit_tb (c z : Nat) : decide (c / 2 ^ z % 2 = 1) = c.testBit z := by
  rw [Nat.testBit_eq_decide_div_mod_eq]
theorem km_iota {b i : Nat} {a : KS} {w : World} (hi : i < 24) (kA : Blk w b (kCells a)) :
    Ret 392 [.pointer (some ⟨b, 0, none⟩), .int .u8 i] w (fun v w' => v = .tuple #[] ∧ Blk w' b (kCells (kIota i a)) ∧ Ch (fun k => k = b) w w') := by
  have lA := kA.lt
  refine enter (n := 31) Hvaa.func392 rfl rfl (Nat.le_of_ble_eq_true rfl) ?_
  have U : Ch (fun k => k = b) w w := Ch.refl _ w
  refine c_seq (fun K1 hK1 => ?_)
  refine c_region ?_
  refine l_step (y_moveV (et (gS rfl g0) rfl)) ?_
  refine l_eff (e_callV cal_415 (aC (et g0 rfl) aN) (km_const i _ (by omega))) (fun v2 w2 h2 => ?_)
  obtain ⟨rfl, u2⟩ := h2
  rw [if_pos hi]
  replace kA := kA.up u2
  replace U := U.tr u2
  refine l_step (y_assignV (et g0 rfl)) ?_
  refine l_nil ?_
  refine hK1 _ _ ?_
  refine fg2 0 4 (gS rfl (gS rfl (gS rfl g0))) g0 (fun g => ?_)
  refine c_seq (fun K3 hK3 => ?_)
  refine c_region ?_
  refine l_step y_moveC ?_
  refine l_nil ?_
  refine hK3 _ _ ?_
  refine c_block (fun Q4 hQ4 => ?_)
  refine fg3 0 4 8 (gS rfl (gS rfl g0)) (gS rfl g0) g0 (fun g => ?_)
  replace kA : Blk w2 b (kCells (ioK i 0 a)) := by rw [ioK_zero]; exact kA
  refine c_loop (fun k_ s_ W5 => ∃ (g : Nat → Value) (n : Nat), s_ = (upd (upd (upd g 0 (.pointer (some ⟨b, 0, none⟩))) 4 (.int .u64 (kRC i : Nat))) 8 (.int .i64 (n : Nat))) ∧ 64 - n = k_ ∧ (n ≤ 64) ∧ Blk W5 b (kCells (ioK i n a)) ∧ Ch (fun k => k = b) w2 W5) (64 - (0)) ?_ ?_
  · exact ⟨g, 0, rfl, rfl, Nat.zero_le _, kA, Ch.refl _ _⟩
  · skip
    intro k_ s_ W5 hI K5 hK5
    obtain ⟨g, n, rfl, rfl, hn, nkA, V5⟩ := hI
    replace kA := nkA
    replace U := U.cc V5 (by intro b hb; first | exact hb.elim | omega | (simp at hb ⊢; omega))
    refine c_seq (fun K6 hK6 => ?_)
    refine c_region ?_
    refine l_step (y_lss (et g0 rfl) rfl) ?_
    refine l_nil ?_
    refine hK6 _ _ ?_
    refine c_seq (fun K7 hK7 => ?_)
    refine c_cond (et g0 rfl) (fun cB1 => ?_) (fun cB1 => ?_)
    · skip
      
      have hil : n < 64 := by have := of_decide_eq_true cB1; omega
      refine c_skip ?_
      refine hK7 _ _ ?_
      refine fg3 0 4 8 (gS rfl (gS rfl (gS rfl g0))) (gS rfl (gS rfl g0)) (gS rfl g0) (fun g => ?_)
      refine c_seq (fun K9 hK9 => ?_)
      refine c_block (fun Q10 hQ10 => ?_)
      refine c_seq (fun K11 hK11 => ?_)
      refine c_region ?_
      refine l_step (y_moveV (et g0 rfl)) ?_
      refine l_step (y_assignV (et g0 rfl)) ?_
      refine l_nil ?_
      refine hK11 _ _ ?_
      refine fg4 0 4 8 5 (gS rfl (gS rfl (gS rfl (gS rfl g0)))) (gS rfl (gS rfl (gS rfl g0))) (gS rfl (gS rfl g0)) g0 (fun g => ?_)
      refine c_draw Up 19 [(0, true), (1, true), (2, true), (3, true), (4, true), (5, true), (6, true), (7, true), (8, true), (9, true), (10, true), (11, true), (12, true), (13, true), (14, true), (15, true), (16, true), (17, true), (18, true), (19, false)] (by kernel_rfl) (fun w12 hu => ⟨Up.refl _, ?_⟩)
      replace kA := kA.up hu
      replace U := U.tr hu
      replace V5 := V5.tr hu
      have SU := Up.refl w12
      refine p_step (by exact rfl) (y_moveV (et (gS rfl (gS rfl (gS rfl g0))) rfl)) ?_
      refine p_step (by exact rfl) (y_moveV (et (gS rfl g0) rfl)) ?_
      refine p_step (by exact rfl) (y_moveV (et (gS rfl (gS rfl (gS rfl (gS rfl (gS rfl g0))))) rfl)) ?_
      refine p_step (by exact rfl) (y_moveV (et (gS rfl (gS rfl (gS rfl g0))) rfl)) ?_
      refine p_step (by exact rfl) (y_nil (et (gS rfl g0) rfl)) ?_
      refine p_step (by exact rfl) (y_idxAC 0 0 Hvaa.underlying438 sz_436 (et g0 rfl) rfl rfl rfl) ?_
      refine p_step (by exact rfl) (y_idxAC 0 0 Hvaa.underlying436 sz_435 (et g0 rfl) rfl rfl rfl) ?_
      refine p_step (by exact rfl) (y_idxA Hvaa.underlying435 sz_4 (et g0 rfl) (et (gS rfl (gS rfl (gS rfl g0))) rfl) ?_ ?_) ?_
      omega
      omega
      have hc9 := kc_at (a := (ioK i n a)) (x := 0) (y := 0) (z := n) (by decide) (by decide) hil
      rw [ioK_at] at hc9
      refine p_step (by exact rfl) (y_load1 one_4 (et g0 rfl) (atS (kA.cell (by simpa using hc9)))) ?_
      refine p_step (by exact rfl) (y_moveV (et (gS rfl (gS rfl (gS rfl (gS rfl (gS rfl (gS rfl (gS rfl (gS rfl (gS rfl (gS rfl (gS rfl g0))))))))))) rfl)) ?_
      refine p_step (by exact rfl) (y_moveV (et (gS rfl (gS rfl (gS rfl (gS rfl (gS rfl (gS rfl (gS rfl (gS rfl (gS rfl (gS rfl g0)))))))))) rfl)) ?_
      refine p_step (by exact rfl) (y_shr (et (gS rfl g0) rfl) (et g0 rfl) ?_ (shrV ?_)) ?_
      omega
      omega
      refine p_step (by exact rfl) (y_andM 1 2 uk64 (et g0 rfl) rfl ?_ rfl rfl (by decide)) ?_
      exact Nat.lt_of_le_of_lt (Nat.div_le_self _ _) (kRC_lt i)
      refine p_step (by exact rfl) (y_eql (et g0 rfl) rfl) ?_
      refine p_step (by exact rfl) (y_neqB Hvaa.underlying4 (et (gS rfl (gS rfl (gS rfl (gS rfl (gS rfl g0))))) rfl) (et g0 rfl)) ?_
      refine p_step (by exact rfl) (y_nil (et (gS rfl (gS rfl (gS rfl (gS rfl (gS rfl (gS rfl (gS rfl (gS rfl (gS rfl (gS rfl (gS rfl (gS rfl (gS rfl (gS rfl g0)))))))))))))) rfl)) ?_
      refine p_step (by exact rfl) (y_idxAC 0 0 Hvaa.underlying438 sz_436 (et g0 rfl) rfl rfl rfl) ?_
      refine p_step (by exact rfl) (y_idxAC 0 0 Hvaa.underlying436 sz_435 (et g0 rfl) rfl rfl rfl) ?_
      refine p_step (by exact rfl) (y_idxA Hvaa.underlying435 sz_4 (et g0 rfl) (et (gS rfl (gS rfl (gS rfl (gS rfl (gS rfl (gS rfl (gS rfl (gS rfl (gS rfl (gS rfl (gS rfl (gS rfl (gS rfl (gS rfl (gS rfl (gS rfl g0)))))))))))))))) rfl) ?_ ?_) ?_
      omega
      omega
      refine p_effN (by exact rfl) (e_store sz_4 (et g0 rfl) (cellsV (et (gS rfl (gS rfl (gS rfl (gS rfl g0)))) rfl) rfl) rfl (by intro v hv; simp at hv; subst hv; rfl) kA (by (rw [kc_size]; omega))) (fun v13 w13 h13 => ?_)
      obtain ⟨rfl, x13⟩ := h13
      replace kA := x13.blk
      replace U := U.st x13 (.inl (by first | rfl | (simp; done)))
      replace V5 := V5.st x13 (by omega)
      refine ⟨.inl rfl, ?_⟩
      replace kA : Blk w13 b (kCells (ioK i (n + 1) a)) := by
        have h9 := kA
        simp only [Nat.zero_add, Nat.mul_one, Nat.zero_mul, Nat.add_zero, Int.toNat_natCast] at h9
        rw [← io_set hil]
        exact h9
      refine p_nil ?_
      refine hQ10 _ _ _ (in_normal ?_)
      refine hK9 _ _ ?_
      refine fg3 0 4 8 (gS rfl (gS rfl (gS rfl (gS rfl (gS rfl (gS rfl (gS rfl (gS rfl (gS rfl (gS rfl (gS rfl (gS rfl (gS rfl (gS rfl (gS rfl (gS rfl (gS rfl (gS rfl (gS rfl (gS rfl (gS rfl (gS rfl g0)))))))))))))))))))))) (gS rfl (gS rfl (gS rfl (gS rfl (gS rfl (gS rfl (gS rfl (gS rfl (gS rfl (gS rfl (gS rfl (gS rfl (gS rfl (gS rfl (gS rfl (gS rfl (gS rfl (gS rfl (gS rfl (gS rfl (gS rfl g0))))))))))))))))))))) (gS rfl (gS rfl (gS rfl (gS rfl (gS rfl (gS rfl (gS rfl (gS rfl (gS rfl (gS rfl (gS rfl (gS rfl (gS rfl (gS rfl (gS rfl (gS rfl (gS rfl (gS rfl (gS rfl (gS rfl g0)))))))))))))))))))) (fun g => ?_)
      refine c_region ?_
      refine l_step (y_add (et g0 rfl) rfl (addIN (y := 1) ?_)) ?_
      omega
      refine l_step (y_moveV (et g0 rfl)) ?_
      refine l_nil ?_
      refine fK3 0 4 8 (gS rfl (gS rfl (gS rfl (gS rfl g0)))) (gS rfl (gS rfl (gS rfl g0))) g0 (fun g => ?_)
      exact hK5 (64 - ((n + 1))) _ _ (by omega) ⟨g, (n + 1), rfl, rfl, by omega, kA, V5⟩
    · skip
      
      have hil : n = 64 := by have := of_decide_eq_false cB1; omega
      subst hil
      rw [kc_same (ioK_full i a)] at kA
      refine c_exit ?_
      refine hQ4 _ _ _ (in_exit ?_)
      refine end0 rfl ?_
      exact ⟨rfl, kA, U⟩
end Go.Proofs.YgvaawGreat
