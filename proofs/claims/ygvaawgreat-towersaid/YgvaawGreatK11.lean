import Derived.Test.YgvaawGreatK10
import Derived.Test.YgvaawGreatX5
set_option maxRecDepth 100000
set_option maxHeartbeats 4000000
set_option linter.unusedSimpArgs false
set_option linter.unusedVariables false
namespace Go.Proofs.YgvaawGreat
open Go
structure Dz (f : KS) (i j n : Nat) (C : Array Value) : Prop where
  dn : Dn f i j C
  get : ∀ z, z < n → C[i * 320 + j * 64 + z]? = some (.bool (f i j z))
theorem Dz.zero {f : KS} {i j : Nat} {C : Array Value} (h : Dn f i j C) : Dz f i j 0 C := ⟨h, fun z hz => by omega⟩
theorem Dz.step {f : KS} {i j n : Nat} {C : Array Value} {v : Bool} (h : Dz f i j n C) (hi : i < 5) (hj : j < 5) (hn : n < 64) (hv : v = f i j n) : Dz f i j (n + 1) (spl C (i * 320 + j * 64 + n) [.bool v]) := by
  have hz : i * 320 + j * 64 + n + [Value.bool v].length ≤ C.size := by rw [h.dn.size]; simp only [List.length_cons, List.length_nil]; omega
  refine ⟨⟨by rw [size_spl]; exact h.dn.size, fun x y z hx hy hz' h9 => ?_⟩, fun z hz' => ?_⟩
  · rw [get_spl_out hz (by simp only [List.length_cons, List.length_nil]; omega)]
    exact h.dn.get x y z hx hy hz' h9
  · by_cases he : z = n
    · subst he
      have := get_spl_in (i := 0) hz rfl
      rw [Nat.add_zero] at this
      rw [this, hv]
    · rw [get_spl_out hz (by simp only [List.length_cons, List.length_nil]; omega)]
      exact h.get z (by omega)
theorem Dz.full {f : KS} {i j : Nat} {C : Array Value} (h : Dz f i j 64 C) : Dn f i (j + 1) C := ⟨h.dn.size, fun x y z hx hy hz h9 => by
  by_cases he : x = i ∧ y = j
  · obtain ⟨rfl, rfl⟩ := he
    exact h.get z hz
  · exact h.dn.get x y z hx hy hz (by omega)⟩
theorem chi_bit (p q r : Bool) : (!(p == decide ((if q = true then (1 : Int) else 0) > (if r = true then (1 : Int) else 0)))) = (p ^^ (!r && q)) := by
  cases p <;> cases q <;> cases r <;> decide
theorem chi_bit' (p q r : Bool) : (!(p == decide ((if r = true then (1 : Int) else 0) < (if q = true then (1 : Int) else 0)))) = (p ^^ (!r && q)) := by
  cases p <;> cases q <;> cases r <;> decide
theorem km_chi {bA : Nat} {a : KS} {w : World} (kA : Blk w bA (kCells a)) :
    Ret 391 [.pointer (some ⟨bA, 0, none⟩)] w (fun v w' => v = .agg (kCells (kChi a)) ∧ Up w w') := by
  have lA := kA.lt
  refine enter (n := 72) Hvaa.func391 rfl rfl (Nat.le_of_ble_eq_true rfl) ?_
  have U := Up.refl w
  refine c_seq (fun K1 hK1 => ?_)
  refine c_region ?_
  refine l_eff (e_alloc zr_438) (fun v2 w2 h2 => ?_)
  obtain ⟨b2, rfl, n2⟩ := h2
  have f2 : w.heap.size ≤ b2 := Nat.le_trans U.size n2.fresh
  replace kA := kA.up n2.up
  replace U := U.tr n2.up
  have k2 := n2.blk
  obtain ⟨zs2, hz2, k2⟩ : ∃ cs : Array Value, cs.size = 1600 ∧ Blk w2 b2 cs := ⟨_, rfl, k2⟩
  refine l_nil ?_
  refine hK1 _ _ ?_
  refine c_seq (fun K3 hK3 => ?_)
  refine c_seq (fun K4 hK4 => ?_)
  refine c_region ?_
  refine l_step y_moveC ?_
  refine l_nil ?_
  refine hK4 _ _ ?_
  refine c_block (fun Q5 hQ5 => ?_)
  refine fg3 0 2 10 (gS rfl (gS rfl g0)) (gS rfl g0) g0 (fun g => ?_)
  refine c_loop (fun k_ s_ W6 => ∃ (g : Nat → Value) (C : Array Value) (i : Nat), s_ = (upd (upd (upd g 0 (.pointer (some ⟨bA, 0, none⟩))) 2 (.pointer (some ⟨b2, 0, none⟩))) 10 (.int .i64 (i : Nat))) ∧ 5 - i = k_ ∧ (i ≤ 5) ∧ (Dn (kChi a) i 0 C) ∧ Blk W6 b2 (C) ∧ Ch (fun k => k = b2) w2 W6) (5 - (0)) ?_ ?_
  · exact ⟨g, _, 0, rfl, rfl, Nat.zero_le _, Dn.zero hz2, k2, Ch.refl _ _⟩
  · skip
    intro k_ s_ W6 hI K6 hK6
    obtain ⟨g, C, i, rfl, rfl, hi, hC, nk2, V6⟩ := hI
    replace kA := kA.ch V6 (by omega)
    replace k2 := nk2
    replace U := U.cc V6 (by intro b hb; first | exact hb.elim | omega | (simp at hb ⊢; omega))
    refine c_seq (fun K7 hK7 => ?_)
    refine c_region ?_
    refine l_step (y_lss (et g0 rfl) rfl) ?_
    refine l_nil ?_
    refine hK7 _ _ ?_
    refine c_seq (fun K8 hK8 => ?_)
    refine c_cond (et g0 rfl) (fun cB1 => ?_) (fun cB1 => ?_)
    · skip
      
      have hil : i < 5 := by have := of_decide_eq_true cB1; omega
      refine c_skip ?_
      refine hK8 _ _ ?_
      refine fg3 0 2 10 (gS rfl (gS rfl (gS rfl g0))) (gS rfl (gS rfl g0)) (gS rfl g0) (fun g => ?_)
      refine c_seq (fun K10 hK10 => ?_)
      refine c_block (fun Q11 hQ11 => ?_)
      refine c_seq (fun K12 hK12 => ?_)
      refine c_region ?_
      refine l_step (y_moveV (et g0 rfl)) ?_
      refine l_step (y_assignV (et g0 rfl)) ?_
      refine l_nil ?_
      refine hK12 _ _ ?_
      refine fg4 0 2 10 3 (gS rfl (gS rfl (gS rfl (gS rfl g0)))) (gS rfl (gS rfl (gS rfl g0))) (gS rfl (gS rfl g0)) g0 (fun g => ?_)
      refine c_seq (fun K13 hK13 => ?_)
      refine c_region ?_
      refine l_step y_moveC ?_
      refine l_nil ?_
      refine hK13 _ _ ?_
      refine c_block (fun Q14 hQ14 => ?_)
      refine fg5 0 2 3 10 13 (gS rfl (gS rfl (gS rfl (gS rfl g0)))) (gS rfl (gS rfl (gS rfl g0))) (gS rfl g0) (gS rfl (gS rfl g0)) g0 (fun g => ?_)
      refine c_loop (fun k_ s_ W15 => ∃ (g : Nat → Value) (D : Array Value) (j : Nat), s_ = (upd (upd (upd (upd (upd g 0 (.pointer (some ⟨bA, 0, none⟩))) 2 (.pointer (some ⟨b2, 0, none⟩))) 3 (.int .i64 (i : Nat))) 10 (.int .i64 (i : Nat))) 13 (.int .i64 (j : Nat))) ∧ 5 - j = k_ ∧ (j ≤ 5) ∧ (Dn (kChi a) i j D) ∧ Blk W15 b2 (D) ∧ Ch (fun k => k = b2) W6 W15) (5 - (0)) ?_ ?_
      · exact ⟨g, _, 0, rfl, rfl, Nat.zero_le _, hC, k2, Ch.refl _ _⟩
      · skip
        intro k_ s_ W15 hI K15 hK15
        obtain ⟨g, D, j, rfl, rfl, hj, hD, nk2, V15⟩ := hI
        replace kA := kA.ch V15 (by omega)
        replace k2 := nk2
        replace V6 := V6.cc V15 (by intro b hb; first | exact hb.elim | omega)
        replace U := U.cc V15 (by intro b hb; first | exact hb.elim | omega | (simp at hb ⊢; omega))
        refine c_seq (fun K16 hK16 => ?_)
        refine c_region ?_
        refine l_step (y_lss (et g0 rfl) rfl) ?_
        refine l_nil ?_
        refine hK16 _ _ ?_
        refine c_seq (fun K17 hK17 => ?_)
        refine c_cond (et g0 rfl) (fun cB2 => ?_) (fun cB2 => ?_)
        · skip
          
          have hjl : j < 5 := by have := of_decide_eq_true cB2; omega
          have hp1 : (i + 1) % 5 < 5 := Nat.mod_lt _ (by decide)
          have hp2 : (i + 2) % 5 < 5 := Nat.mod_lt _ (by decide)
          refine c_skip ?_
          refine hK17 _ _ ?_
          refine fg5 0 2 3 10 13 (gS rfl (gS rfl (gS rfl (gS rfl (gS rfl g0))))) (gS rfl (gS rfl (gS rfl (gS rfl g0)))) (gS rfl (gS rfl (gS rfl g0))) (gS rfl (gS rfl g0)) (gS rfl g0) (fun g => ?_)
          refine c_seq (fun K19 hK19 => ?_)
          refine c_block (fun Q20 hQ20 => ?_)
          refine c_seq (fun K21 hK21 => ?_)
          refine c_region ?_
          refine l_step (y_moveV (et g0 rfl)) ?_
          refine l_step (y_assignV (et g0 rfl)) ?_
          refine l_nil ?_
          refine hK21 _ _ ?_
          refine fg6 0 2 3 10 13 4 (gS rfl (gS rfl (gS rfl (gS rfl (gS rfl (gS rfl g0)))))) (gS rfl (gS rfl (gS rfl (gS rfl (gS rfl g0))))) (gS rfl (gS rfl (gS rfl (gS rfl g0)))) (gS rfl (gS rfl (gS rfl g0))) (gS rfl (gS rfl g0)) g0 (fun g => ?_)
          refine c_seq (fun K22 hK22 => ?_)
          refine c_region ?_
          refine l_step (y_moveV (et (gS rfl (gS rfl (gS rfl g0))) rfl)) ?_
          refine l_step (y_moveV (et (gS rfl g0) rfl)) ?_
          refine l_step (y_idxA Hvaa.underlying438 sz_436 (et (gS rfl (gS rfl (gS rfl (gS rfl (gS rfl (gS rfl g0)))))) rfl) (et (gS rfl g0) rfl) ?_ ?_) ?_
          omega
          omega
          refine l_step (y_idxA Hvaa.underlying436 sz_435 (et g0 rfl) (et (gS rfl g0) rfl) ?_ ?_) ?_
          omega
          omega
          refine l_step (y_assignV (et g0 rfl)) ?_
          refine l_nil ?_
          refine hK22 _ _ ?_
          refine fg7 0 2 3 10 13 4 5 (gS rfl (gS rfl (gS rfl (gS rfl (gS rfl (gS rfl (gS rfl (gS rfl (gS rfl (gS rfl g0)))))))))) (gS rfl (gS rfl (gS rfl (gS rfl (gS rfl (gS rfl (gS rfl (gS rfl (gS rfl g0))))))))) (gS rfl (gS rfl (gS rfl (gS rfl (gS rfl (gS rfl (gS rfl (gS rfl g0)))))))) (gS rfl (gS rfl (gS rfl (gS rfl (gS rfl (gS rfl (gS rfl g0))))))) (gS rfl (gS rfl (gS rfl (gS rfl (gS rfl (gS rfl g0)))))) (gS rfl (gS rfl (gS rfl (gS rfl (gS rfl g0))))) g0 (fun g => ?_)
          refine c_seq (fun K23 hK23 => ?_)
          refine c_region ?_
          refine l_step (y_moveV (et (gS rfl (gS rfl (gS rfl (gS rfl (gS rfl (gS rfl g0)))))) rfl)) ?_
          refine l_step (y_moveV (et (gS rfl (gS rfl (gS rfl (gS rfl (gS rfl g0))))) rfl)) ?_
          refine l_step (y_moveV (et (gS rfl (gS rfl (gS rfl g0))) rfl)) ?_
          refine l_step (y_nil (et (gS rfl (gS rfl g0)) rfl)) ?_
          refine l_step (y_idxA Hvaa.underlying438 sz_436 (et g0 rfl) (et (gS rfl (gS rfl g0)) rfl) ?_ ?_) ?_
          omega
          omega
          refine l_step (y_idxA Hvaa.underlying436 sz_435 (et g0 rfl) (et (gS rfl (gS rfl g0)) rfl) ?_ ?_) ?_
          omega
          omega
          refine l_step (y_assignV (et g0 rfl)) ?_
          refine l_nil ?_
          refine hK23 _ _ ?_
          refine fg8 0 2 3 10 13 4 5 6 (gS rfl (gS rfl (gS rfl (gS rfl (gS rfl (gS rfl (gS rfl (gS rfl (gS rfl (gS rfl (gS rfl (gS rfl (gS rfl g0))))))))))))) (gS rfl (gS rfl (gS rfl (gS rfl (gS rfl (gS rfl (gS rfl (gS rfl (gS rfl (gS rfl (gS rfl (gS rfl g0)))))))))))) (gS rfl (gS rfl (gS rfl (gS rfl (gS rfl (gS rfl (gS rfl (gS rfl (gS rfl (gS rfl (gS rfl g0))))))))))) (gS rfl (gS rfl (gS rfl (gS rfl (gS rfl (gS rfl (gS rfl (gS rfl (gS rfl (gS rfl g0)))))))))) (gS rfl (gS rfl (gS rfl (gS rfl (gS rfl (gS rfl (gS rfl (gS rfl (gS rfl g0))))))))) (gS rfl (gS rfl (gS rfl (gS rfl (gS rfl (gS rfl (gS rfl (gS rfl g0)))))))) (gS rfl (gS rfl (gS rfl (gS rfl (gS rfl (gS rfl (gS rfl g0))))))) g0 (fun g => ?_)
          refine c_seq (fun K24 hK24 => ?_)
          refine c_region ?_
          refine l_step (y_moveV (et (gS rfl (gS rfl (gS rfl (gS rfl (gS rfl (gS rfl (gS rfl g0))))))) rfl)) ?_
          refine l_step (y_moveV (et (gS rfl (gS rfl (gS rfl (gS rfl (gS rfl (gS rfl g0)))))) rfl)) ?_
          refine l_step (y_add (et g0 rfl) rfl (addIN (y := 1) ?_)) ?_
          omega
          refine l_step (y_rem (et g0 rfl) rfl (by decide) (remN (b := 5))) ?_
          refine l_step (y_moveV (et (gS rfl (gS rfl (gS rfl (gS rfl (gS rfl (gS rfl g0)))))) rfl)) ?_
          refine l_step (y_nil (et (gS rfl (gS rfl (gS rfl (gS rfl g0)))) rfl)) ?_
          refine l_step (y_idxA Hvaa.underlying438 sz_436 (et g0 rfl) (et (gS rfl (gS rfl g0)) rfl) ?_ ?_) ?_
          omega
          omega
          refine l_step (y_idxA Hvaa.underlying436 sz_435 (et g0 rfl) (et (gS rfl (gS rfl g0)) rfl) ?_ ?_) ?_
          omega
          omega
          refine l_step (y_assignV (et g0 rfl)) ?_
          refine l_nil ?_
          refine hK24 _ _ ?_
          refine fg9 0 2 3 10 13 4 5 6 7 (gS rfl (gS rfl (gS rfl (gS rfl (gS rfl (gS rfl (gS rfl (gS rfl (gS rfl (gS rfl (gS rfl (gS rfl (gS rfl (gS rfl (gS rfl (gS rfl g0)))))))))))))))) (gS rfl (gS rfl (gS rfl (gS rfl (gS rfl (gS rfl (gS rfl (gS rfl (gS rfl (gS rfl (gS rfl (gS rfl (gS rfl (gS rfl (gS rfl g0))))))))))))))) (gS rfl (gS rfl (gS rfl (gS rfl (gS rfl (gS rfl (gS rfl (gS rfl (gS rfl (gS rfl (gS rfl (gS rfl (gS rfl (gS rfl g0)))))))))))))) (gS rfl (gS rfl (gS rfl (gS rfl (gS rfl (gS rfl (gS rfl (gS rfl (gS rfl (gS rfl (gS rfl (gS rfl (gS rfl g0))))))))))))) (gS rfl (gS rfl (gS rfl (gS rfl (gS rfl (gS rfl (gS rfl (gS rfl (gS rfl (gS rfl (gS rfl (gS rfl g0)))))))))))) (gS rfl (gS rfl (gS rfl (gS rfl (gS rfl (gS rfl (gS rfl (gS rfl (gS rfl (gS rfl (gS rfl g0))))))))))) (gS rfl (gS rfl (gS rfl (gS rfl (gS rfl (gS rfl (gS rfl (gS rfl (gS rfl (gS rfl g0)))))))))) (gS rfl (gS rfl (gS rfl (gS rfl (gS rfl (gS rfl (gS rfl (gS rfl (gS rfl g0))))))))) g0 (fun g => ?_)
          refine c_seq (fun K25 hK25 => ?_)
          refine c_region ?_
          refine l_step (y_moveV (et (gS rfl (gS rfl (gS rfl (gS rfl (gS rfl (gS rfl (gS rfl (gS rfl g0)))))))) rfl)) ?_
          refine l_step (y_moveV (et (gS rfl (gS rfl (gS rfl (gS rfl (gS rfl (gS rfl (gS rfl g0))))))) rfl)) ?_
          refine l_step (y_add (et g0 rfl) rfl (addIN (y := 2) ?_)) ?_
          omega
          refine l_step (y_rem (et g0 rfl) rfl (by decide) (remN (b := 5))) ?_
          refine l_step (y_moveV (et (gS rfl (gS rfl (gS rfl (gS rfl (gS rfl (gS rfl (gS rfl g0))))))) rfl)) ?_
          refine l_step (y_nil (et (gS rfl (gS rfl (gS rfl (gS rfl g0)))) rfl)) ?_
          refine l_step (y_idxA Hvaa.underlying438 sz_436 (et g0 rfl) (et (gS rfl (gS rfl g0)) rfl) ?_ ?_) ?_
          omega
          omega
          refine l_step (y_idxA Hvaa.underlying436 sz_435 (et g0 rfl) (et (gS rfl (gS rfl g0)) rfl) ?_ ?_) ?_
          omega
          omega
          refine l_step (y_assignV (et g0 rfl)) ?_
          refine l_nil ?_
          refine hK25 _ _ ?_
          refine fg9 0 2 3 10 13 5 6 7 8 (gS rfl (gS rfl (gS rfl (gS rfl (gS rfl (gS rfl (gS rfl (gS rfl (gS rfl (gS rfl (gS rfl (gS rfl (gS rfl (gS rfl (gS rfl (gS rfl (gS rfl g0))))))))))))))))) (gS rfl (gS rfl (gS rfl (gS rfl (gS rfl (gS rfl (gS rfl (gS rfl (gS rfl (gS rfl (gS rfl (gS rfl (gS rfl (gS rfl (gS rfl (gS rfl g0)))))))))))))))) (gS rfl (gS rfl (gS rfl (gS rfl (gS rfl (gS rfl (gS rfl (gS rfl (gS rfl (gS rfl (gS rfl (gS rfl (gS rfl (gS rfl (gS rfl g0))))))))))))))) (gS rfl (gS rfl (gS rfl (gS rfl (gS rfl (gS rfl (gS rfl (gS rfl (gS rfl (gS rfl (gS rfl (gS rfl (gS rfl (gS rfl g0)))))))))))))) (gS rfl (gS rfl (gS rfl (gS rfl (gS rfl (gS rfl (gS rfl (gS rfl (gS rfl (gS rfl (gS rfl (gS rfl (gS rfl g0))))))))))))) (gS rfl (gS rfl (gS rfl (gS rfl (gS rfl (gS rfl (gS rfl (gS rfl (gS rfl (gS rfl (gS rfl g0))))))))))) (gS rfl (gS rfl (gS rfl (gS rfl (gS rfl (gS rfl (gS rfl (gS rfl (gS rfl (gS rfl g0)))))))))) (gS rfl (gS rfl (gS rfl (gS rfl (gS rfl (gS rfl (gS rfl (gS rfl (gS rfl g0))))))))) g0 (fun g => ?_)
          refine c_seq (fun K26 hK26 => ?_)
          refine c_region ?_
          refine l_step y_moveC ?_
          refine l_nil ?_
          refine hK26 _ _ ?_
          refine c_block (fun Q27 hQ27 => ?_)
          refine fg10 0 2 3 5 6 7 8 10 13 42 (gS rfl (gS rfl (gS rfl (gS rfl (gS rfl (gS rfl (gS rfl (gS rfl (gS rfl g0))))))))) (gS rfl (gS rfl (gS rfl (gS rfl (gS rfl (gS rfl (gS rfl (gS rfl g0)))))))) (gS rfl (gS rfl (gS rfl (gS rfl (gS rfl (gS rfl (gS rfl g0))))))) (gS rfl (gS rfl (gS rfl (gS rfl g0)))) (gS rfl (gS rfl (gS rfl g0))) (gS rfl (gS rfl g0)) (gS rfl g0) (gS rfl (gS rfl (gS rfl (gS rfl (gS rfl (gS rfl g0)))))) (gS rfl (gS rfl (gS rfl (gS rfl (gS rfl g0))))) g0 (fun g => ?_)
          refine c_loop (fun k_ s_ W28 => ∃ (g : Nat → Value) (E : Array Value) (n : Nat), s_ = (upd (upd (upd (upd (upd (upd (upd (upd (upd (upd g 0 (.pointer (some ⟨bA, 0, none⟩))) 2 (.pointer (some ⟨b2, 0, none⟩))) 3 (.int .i64 (i : Nat))) 5 (.pointer (some ⟨b2, 0 + i * 320 + j * 64, none⟩))) 6 (.pointer (some ⟨bA, 0 + i * 320 + j * 64, none⟩))) 7 (.pointer (some ⟨bA, 0 + ((i + 1) % 5) * 320 + j * 64, none⟩))) 8 (.pointer (some ⟨bA, 0 + ((i + 2) % 5) * 320 + j * 64, none⟩))) 10 (.int .i64 (i : Nat))) 13 (.int .i64 (j : Nat))) 42 (.int .i64 (n : Nat))) ∧ 64 - n = k_ ∧ (n ≤ 64) ∧ (Dz (kChi a) i j n E) ∧ Blk W28 b2 (E) ∧ Ch (fun k => k = b2) W15 W28) (64 - (0)) ?_ ?_
          · exact ⟨g, _, 0, rfl, rfl, Nat.zero_le _, Dz.zero hD, k2, Ch.refl _ _⟩
          · skip
            intro k_ s_ W28 hI K28 hK28
            obtain ⟨g, E, n, rfl, rfl, hn, hE, nk2, V28⟩ := hI
            replace kA := kA.ch V28 (by omega)
            replace k2 := nk2
            replace V6 := V6.cc V28 (by intro b hb; first | exact hb.elim | omega)
            replace V15 := V15.cc V28 (by intro b hb; first | exact hb.elim | omega)
            replace U := U.cc V28 (by intro b hb; first | exact hb.elim | omega | (simp at hb ⊢; omega))
            refine c_seq (fun K29 hK29 => ?_)
            refine c_region ?_
            refine l_step (y_lss (et g0 rfl) rfl) ?_
            refine l_nil ?_
            refine hK29 _ _ ?_
            refine c_seq (fun K30 hK30 => ?_)
            refine c_cond (et g0 rfl) (fun cB3 => ?_) (fun cB3 => ?_)
            · skip
              
              have hnl : n < 64 := by have := of_decide_eq_true cB3; omega
              refine c_skip ?_
              refine hK30 _ _ ?_
              refine fg10 0 2 3 5 6 7 8 10 13 42 (gS rfl (gS rfl (gS rfl (gS rfl (gS rfl (gS rfl (gS rfl (gS rfl (gS rfl (gS rfl g0)))))))))) (gS rfl (gS rfl (gS rfl (gS rfl (gS rfl (gS rfl (gS rfl (gS rfl (gS rfl g0))))))))) (gS rfl (gS rfl (gS rfl (gS rfl (gS rfl (gS rfl (gS rfl (gS rfl g0)))))))) (gS rfl (gS rfl (gS rfl (gS rfl (gS rfl (gS rfl (gS rfl g0))))))) (gS rfl (gS rfl (gS rfl (gS rfl (gS rfl (gS rfl g0)))))) (gS rfl (gS rfl (gS rfl (gS rfl (gS rfl g0))))) (gS rfl (gS rfl (gS rfl (gS rfl g0)))) (gS rfl (gS rfl (gS rfl g0))) (gS rfl (gS rfl g0)) (gS rfl g0) (fun g => ?_)
              refine c_seq (fun K32 hK32 => ?_)
              refine c_block (fun Q33 hQ33 => ?_)
              refine c_seq (fun K34 hK34 => ?_)
              refine c_region ?_
              refine l_step (y_moveV (et g0 rfl)) ?_
              refine l_step (y_assignV (et g0 rfl)) ?_
              refine l_nil ?_
              refine hK34 _ _ ?_
              refine fg11 0 2 3 5 6 7 8 10 13 42 9 (gS rfl (gS rfl (gS rfl (gS rfl (gS rfl (gS rfl (gS rfl (gS rfl (gS rfl (gS rfl (gS rfl g0))))))))))) (gS rfl (gS rfl (gS rfl (gS rfl (gS rfl (gS rfl (gS rfl (gS rfl (gS rfl (gS rfl g0)))))))))) (gS rfl (gS rfl (gS rfl (gS rfl (gS rfl (gS rfl (gS rfl (gS rfl (gS rfl g0))))))))) (gS rfl (gS rfl (gS rfl (gS rfl (gS rfl (gS rfl (gS rfl (gS rfl g0)))))))) (gS rfl (gS rfl (gS rfl (gS rfl (gS rfl (gS rfl (gS rfl g0))))))) (gS rfl (gS rfl (gS rfl (gS rfl (gS rfl (gS rfl g0)))))) (gS rfl (gS rfl (gS rfl (gS rfl (gS rfl g0))))) (gS rfl (gS rfl (gS rfl (gS rfl g0)))) (gS rfl (gS rfl (gS rfl g0))) (gS rfl (gS rfl g0)) g0 (fun g => ?_)
              refine c_draw Up 23 [(0, true), (1, true), (2, true), (3, true), (4, true), (5, true), (6, true), (7, true), (8, true), (9, true), (10, true), (11, true), (13, true), (14, true), (15, true), (16, true), (17, true), (21, true), (12, false), (18, false), (19, true), (20, true), (22, true), (23, false)] (by kernel_rfl) (fun w35 hu => ⟨Up.refl _, ?_⟩)
              replace k2 := k2.up hu
              replace kA := kA.up hu
              replace U := U.tr hu
              replace V6 := V6.tr hu
              replace V15 := V15.tr hu
              replace V28 := V28.tr hu
              have SU := Up.refl w35
              refine p_step (by exact rfl) (y_moveV (et (gS rfl (gS rfl (gS rfl (gS rfl (gS rfl (gS rfl (gS rfl g0))))))) rfl)) ?_
              refine p_step (by exact rfl) (y_moveV (et (gS rfl g0) rfl)) ?_
              refine p_step (by exact rfl) (y_moveV (et (gS rfl (gS rfl (gS rfl (gS rfl (gS rfl (gS rfl (gS rfl (gS rfl g0)))))))) rfl)) ?_
              refine p_step (by exact rfl) (y_moveV (et (gS rfl (gS rfl (gS rfl g0))) rfl)) ?_
              refine p_step (by exact rfl) (y_nil (et (gS rfl g0) rfl)) ?_
              refine p_step (by exact rfl) (y_idxA Hvaa.underlying435 sz_4 (et g0 rfl) (et (gS rfl g0) rfl) ?_ ?_) ?_
              omega
              omega
              refine p_step (by exact rfl) (y_load1 one_4 (et g0 rfl) (atS (kA.cell (by have h9 := kc_at (a := a) (x := i) (y := j) (z := n) (by omega) hjl hnl; simpa using h9)))) ?_
              refine p_step (by exact rfl) (y_moveV (et (gS rfl (gS rfl (gS rfl (gS rfl (gS rfl (gS rfl (gS rfl (gS rfl (gS rfl (gS rfl (gS rfl g0))))))))))) rfl)) ?_
              refine p_step (by exact rfl) (y_moveV (et (gS rfl (gS rfl (gS rfl (gS rfl (gS rfl (gS rfl (gS rfl (gS rfl g0)))))))) rfl)) ?_
              refine p_step (by exact rfl) (y_nil (et (gS rfl g0) rfl)) ?_
              refine p_step (by exact rfl) (y_idxA Hvaa.underlying435 sz_4 (et g0 rfl) (et (gS rfl g0) rfl) ?_ ?_) ?_
              omega
              omega
              refine p_step (by exact rfl) (y_load1 one_4 (et g0 rfl) (atS (kA.cell (by have h9 := kc_at (a := a) (x := (i + 2) % 5) (y := j) (z := n) (by omega) hjl hnl; simpa using h9)))) ?_
              refine p_step (by exact rfl) (y_moveV (et (gS rfl (gS rfl (gS rfl (gS rfl (gS rfl (gS rfl (gS rfl (gS rfl (gS rfl (gS rfl (gS rfl (gS rfl (gS rfl (gS rfl (gS rfl (gS rfl (gS rfl g0))))))))))))))))) rfl)) ?_
              refine p_step (by exact rfl) (y_moveV (et (gS rfl (gS rfl (gS rfl (gS rfl (gS rfl (gS rfl (gS rfl (gS rfl (gS rfl (gS rfl (gS rfl (gS rfl (gS rfl g0))))))))))))) rfl)) ?_
              refine p_step (by exact rfl) (y_nil (et (gS rfl g0) rfl)) ?_
              refine p_step (by exact rfl) (y_idxA Hvaa.underlying435 sz_4 (et g0 rfl) (et (gS rfl g0) rfl) ?_ ?_) ?_
              omega
              omega
              refine p_step (by exact rfl) (y_load1 one_4 (et g0 rfl) (atS (kA.cell (by have h9 := kc_at (a := a) (x := (i + 1) % 5) (y := j) (z := n) (by omega) hjl hnl; simpa using h9)))) ?_
              refine p_step (by exact rfl) (y_nil (et (gS rfl (gS rfl (gS rfl (gS rfl (gS rfl (gS rfl (gS rfl (gS rfl (gS rfl (gS rfl (gS rfl (gS rfl (gS rfl (gS rfl (gS rfl (gS rfl g0)))))))))))))))) rfl)) ?_
              refine p_eff (by exact rfl) (e_callV cal_414 (aC (et (gS rfl (gS rfl (gS rfl (gS rfl (gS rfl (gS rfl g0)))))) rfl) aN) (km_bit _ _)) (fun v36 w36 h36 => ?_)
              obtain ⟨rfl, u36⟩ := h36
              replace k2 := k2.up u36
              replace kA := kA.up u36
              replace U := U.tr u36
              replace V6 := V6.tr u36
              replace V15 := V15.tr u36
              replace V28 := V28.tr u36
              refine ⟨.inr (SU.tr u36), ?_⟩
              replace SU := SU.tr u36
              refine p_eff (by exact rfl) (e_callV cal_414 (aC (et (gS rfl (gS rfl g0)) rfl) aN) (km_bit _ _)) (fun v37 w37 h37 => ?_)
              obtain ⟨rfl, u37⟩ := h37
              replace k2 := k2.up u37
              replace kA := kA.up u37
              replace U := U.tr u37
              replace V6 := V6.tr u37
              replace V15 := V15.tr u37
              replace V28 := V28.tr u37
              refine ⟨.inr (SU.tr u37), ?_⟩
              replace SU := SU.tr u37
              refine p_step (by exact rfl) (y_gtr (et (gS rfl g0) rfl) (et g0 rfl)) ?_
              refine p_step (by exact rfl) (y_neqB Hvaa.underlying4 (et (gS rfl (gS rfl (gS rfl (gS rfl (gS rfl (gS rfl (gS rfl (gS rfl (gS rfl (gS rfl (gS rfl (gS rfl (gS rfl (gS rfl g0)))))))))))))) rfl) (et g0 rfl)) ?_
              refine p_step (by exact rfl) (y_idxA Hvaa.underlying435 sz_4 (et (gS rfl (gS rfl (gS rfl (gS rfl g0)))) rfl) (et (gS rfl (gS rfl (gS rfl (gS rfl (gS rfl (gS rfl (gS rfl (gS rfl (gS rfl (gS rfl (gS rfl (gS rfl (gS rfl (gS rfl (gS rfl (gS rfl (gS rfl (gS rfl (gS rfl (gS rfl g0)))))))))))))))))))) rfl) ?_ ?_) ?_
              omega
              omega
              refine p_effN (by exact rfl) (e_store sz_4 (et g0 rfl) (cellsV (et (gS rfl g0) rfl) rfl) rfl (by intro v hv; simp at hv; subst hv; rfl) k2 (by (rw [hE.dn.size]; simp only [Int.toNat_natCast]; omega))) (fun v38 w38 h38 => ?_)
              obtain ⟨rfl, x38⟩ := h38
              replace kA := kA.ch x38.ch (by first | omega | (omega))
              replace k2 := x38.blk
              replace U := U.st x38 f2
              replace V6 := V6.st x38 (by omega)
              replace V15 := V15.st x38 (by omega)
              replace V28 := V28.st x38 (by omega)
              refine ⟨.inl rfl, ?_⟩
              simp only [Nat.zero_add, Nat.mul_one, Int.toNat_natCast] at k2
              refine p_nil ?_
              refine hQ33 _ _ _ (in_normal ?_)
              refine hK32 _ _ ?_
              refine fg10 0 2 3 5 6 7 8 10 13 42 (gS rfl (gS rfl (gS rfl (gS rfl (gS rfl (gS rfl (gS rfl (gS rfl (gS rfl (gS rfl (gS rfl (gS rfl (gS rfl (gS rfl (gS rfl (gS rfl (gS rfl (gS rfl (gS rfl (gS rfl (gS rfl (gS rfl (gS rfl (gS rfl (gS rfl (gS rfl (gS rfl (gS rfl (gS rfl (gS rfl (gS rfl (gS rfl (gS rfl g0))))))))))))))))))))))))))))))))) (gS rfl (gS rfl (gS rfl (gS rfl (gS rfl (gS rfl (gS rfl (gS rfl (gS rfl (gS rfl (gS rfl (gS rfl (gS rfl (gS rfl (gS rfl (gS rfl (gS rfl (gS rfl (gS rfl (gS rfl (gS rfl (gS rfl (gS rfl (gS rfl (gS rfl (gS rfl (gS rfl (gS rfl (gS rfl (gS rfl (gS rfl (gS rfl g0)))))))))))))))))))))))))))))))) (gS rfl (gS rfl (gS rfl (gS rfl (gS rfl (gS rfl (gS rfl (gS rfl (gS rfl (gS rfl (gS rfl (gS rfl (gS rfl (gS rfl (gS rfl (gS rfl (gS rfl (gS rfl (gS rfl (gS rfl (gS rfl (gS rfl (gS rfl (gS rfl (gS rfl (gS rfl (gS rfl (gS rfl (gS rfl (gS rfl (gS rfl g0))))))))))))))))))))))))))))))) (gS rfl (gS rfl (gS rfl (gS rfl (gS rfl (gS rfl (gS rfl (gS rfl (gS rfl (gS rfl (gS rfl (gS rfl (gS rfl (gS rfl (gS rfl (gS rfl (gS rfl (gS rfl (gS rfl (gS rfl (gS rfl (gS rfl (gS rfl (gS rfl (gS rfl (gS rfl (gS rfl (gS rfl (gS rfl (gS rfl g0)))))))))))))))))))))))))))))) (gS rfl (gS rfl (gS rfl (gS rfl (gS rfl (gS rfl (gS rfl (gS rfl (gS rfl (gS rfl (gS rfl (gS rfl (gS rfl (gS rfl (gS rfl (gS rfl (gS rfl (gS rfl (gS rfl (gS rfl (gS rfl (gS rfl (gS rfl (gS rfl (gS rfl (gS rfl (gS rfl (gS rfl (gS rfl g0))))))))))))))))))))))))))))) (gS rfl (gS rfl (gS rfl (gS rfl (gS rfl (gS rfl (gS rfl (gS rfl (gS rfl (gS rfl (gS rfl (gS rfl (gS rfl (gS rfl (gS rfl (gS rfl (gS rfl (gS rfl (gS rfl (gS rfl (gS rfl (gS rfl (gS rfl (gS rfl (gS rfl (gS rfl (gS rfl (gS rfl g0)))))))))))))))))))))))))))) (gS rfl (gS rfl (gS rfl (gS rfl (gS rfl (gS rfl (gS rfl (gS rfl (gS rfl (gS rfl (gS rfl (gS rfl (gS rfl (gS rfl (gS rfl (gS rfl (gS rfl (gS rfl (gS rfl (gS rfl (gS rfl (gS rfl (gS rfl (gS rfl (gS rfl (gS rfl (gS rfl g0))))))))))))))))))))))))))) (gS rfl (gS rfl (gS rfl (gS rfl (gS rfl (gS rfl (gS rfl (gS rfl (gS rfl (gS rfl (gS rfl (gS rfl (gS rfl (gS rfl (gS rfl (gS rfl (gS rfl (gS rfl (gS rfl (gS rfl (gS rfl (gS rfl (gS rfl (gS rfl (gS rfl (gS rfl g0)))))))))))))))))))))))))) (gS rfl (gS rfl (gS rfl (gS rfl (gS rfl (gS rfl (gS rfl (gS rfl (gS rfl (gS rfl (gS rfl (gS rfl (gS rfl (gS rfl (gS rfl (gS rfl (gS rfl (gS rfl (gS rfl (gS rfl (gS rfl (gS rfl (gS rfl (gS rfl (gS rfl g0))))))))))))))))))))))))) (gS rfl (gS rfl (gS rfl (gS rfl (gS rfl (gS rfl (gS rfl (gS rfl (gS rfl (gS rfl (gS rfl (gS rfl (gS rfl (gS rfl (gS rfl (gS rfl (gS rfl (gS rfl (gS rfl (gS rfl (gS rfl (gS rfl (gS rfl (gS rfl g0)))))))))))))))))))))))) (fun g => ?_)
              refine c_region ?_
              refine l_step (y_add (et g0 rfl) rfl (addIN (y := 1) ?_)) ?_
              omega
              refine l_step (y_moveV (et g0 rfl)) ?_
              refine l_nil ?_
              refine fK10 0 2 3 5 6 7 8 10 13 42 (gS rfl (gS rfl (gS rfl (gS rfl (gS rfl (gS rfl (gS rfl (gS rfl (gS rfl (gS rfl (gS rfl g0))))))))))) (gS rfl (gS rfl (gS rfl (gS rfl (gS rfl (gS rfl (gS rfl (gS rfl (gS rfl (gS rfl g0)))))))))) (gS rfl (gS rfl (gS rfl (gS rfl (gS rfl (gS rfl (gS rfl (gS rfl (gS rfl g0))))))))) (gS rfl (gS rfl (gS rfl (gS rfl (gS rfl (gS rfl (gS rfl (gS rfl g0)))))))) (gS rfl (gS rfl (gS rfl (gS rfl (gS rfl (gS rfl (gS rfl g0))))))) (gS rfl (gS rfl (gS rfl (gS rfl (gS rfl (gS rfl g0)))))) (gS rfl (gS rfl (gS rfl (gS rfl (gS rfl g0))))) (gS rfl (gS rfl (gS rfl (gS rfl g0)))) (gS rfl (gS rfl (gS rfl g0))) g0 (fun g => ?_)
              exact hK28 (64 - ((n + 1))) _ _ (by omega) ⟨g, _, (n + 1), rfl, rfl, by omega, hE.step hil hjl hnl (chi_bit' _ _ _), k2, V28⟩
            · skip
              
              have hnl : n = 64 := by have := of_decide_eq_false cB3; omega
              subst hnl
              refine c_exit ?_
              refine hQ27 _ _ _ (in_exit ?_)
              refine hQ20 _ _ _ (in_normal ?_)
              refine hK19 _ _ ?_
              refine fg5 0 2 3 10 13 (gS rfl (gS rfl (gS rfl (gS rfl (gS rfl (gS rfl (gS rfl (gS rfl (gS rfl (gS rfl g0)))))))))) (gS rfl (gS rfl (gS rfl (gS rfl (gS rfl (gS rfl (gS rfl (gS rfl (gS rfl g0))))))))) (gS rfl (gS rfl (gS rfl (gS rfl (gS rfl (gS rfl (gS rfl (gS rfl g0)))))))) (gS rfl (gS rfl (gS rfl g0))) (gS rfl (gS rfl g0)) (fun g => ?_)
              refine c_region ?_
              refine l_step (y_add (et g0 rfl) rfl (addIN (y := 1) ?_)) ?_
              omega
              refine l_step (y_moveV (et g0 rfl)) ?_
              refine l_nil ?_
              refine fK5 0 2 3 10 13 (gS rfl (gS rfl (gS rfl (gS rfl (gS rfl (gS rfl g0)))))) (gS rfl (gS rfl (gS rfl (gS rfl (gS rfl g0))))) (gS rfl (gS rfl (gS rfl (gS rfl g0)))) (gS rfl (gS rfl (gS rfl g0))) g0 (fun g => ?_)
              exact hK15 (5 - ((j + 1))) _ _ (by omega) ⟨g, _, (j + 1), rfl, rfl, by omega, hE.full, k2, V15⟩
        · skip
          
          have hjl : j = 5 := by have := of_decide_eq_false cB2; omega
          subst hjl
          refine c_exit ?_
          refine hQ14 _ _ _ (in_exit ?_)
          refine hQ11 _ _ _ (in_normal ?_)
          refine hK10 _ _ ?_
          refine fg3 0 2 10 (gS rfl (gS rfl (gS rfl (gS rfl (gS rfl g0))))) (gS rfl (gS rfl (gS rfl (gS rfl g0)))) (gS rfl (gS rfl g0)) (fun g => ?_)
          refine c_region ?_
          refine l_step (y_add (et g0 rfl) rfl (addIN (y := 1) ?_)) ?_
          omega
          refine l_step (y_moveV (et g0 rfl)) ?_
          refine l_nil ?_
          refine fK3 0 2 10 (gS rfl (gS rfl (gS rfl (gS rfl g0)))) (gS rfl (gS rfl (gS rfl g0))) g0 (fun g => ?_)
          exact hK6 (5 - ((i + 1))) _ _ (by omega) ⟨g, _, (i + 1), rfl, rfl, by omega, hD.row, k2, V6⟩
    · skip
      
      have hil : i = 5 := by have := of_decide_eq_false cB1; omega
      subst hil
      have hfull := hC.full
      refine c_exit ?_
      refine hQ5 _ _ _ (in_exit ?_)
      refine hK3 _ _ ?_
      refine fg1 2 (gS rfl (gS rfl g0)) (fun g => ?_)
      refine c_seq (fun K39 hK39 => ?_)
      refine c_region ?_
      refine l_step (y_loadB agg_438 sz_438 (et g0 rfl) hC.size (at1B k2)) ?_
      refine l_effN (e_storeS sz_438 (et (gS rfl g0) rfl) (cellsV (et g0 rfl) rfl) hC.size (by rw [hfull]; exact kc_one _) k2) (fun v40 w40 h40 => ?_)
      obtain ⟨rfl, x40⟩ := h40
      replace k2 := k2.up x40
      replace kA := kA.up x40
      replace U := U.tr x40
      refine l_nil ?_
      refine hK39 _ _ ?_
      refine fg1 2 (gS rfl g0) (fun g => ?_)
      refine c_ret ?_
      refine ret1 rfl (res_blk agg_438 sz_438 (et g0 rfl) hC.size k2) ?_
      exact ⟨by rw [hfull], U⟩
end Go.Proofs.YgvaawGreat
