import Derived.Test.YgvaawGreatK4
set_option maxRecDepth 100000
set_option maxHeartbeats 4000000
set_option linter.unusedSimpArgs false
set_option linter.unusedVariables false
namespace Go.Proofs.YgvaawGreat
open Go
theorem bld462 (w : World) : (Instr.build 462 ([(0, .int .u64 1), (1, .int .u64 32898), (2, .int .u64 9223372036854808714), (3, .int .u64 9223372039002292224), (4, .int .u64 32907), (5, .int .u64 2147483649), (6, .int .u64 9223372039002292353), (7, .int .u64 9223372036854808585), (8, .int .u64 138), (9, .int .u64 136), (10, .int .u64 2147516425), (11, .int .u64 2147483658), (12, .int .u64 2147516555), (13, .int .u64 9223372036854775947), (14, .int .u64 9223372036854808713), (15, .int .u64 9223372036854808579), (16, .int .u64 9223372036854808578), (17, .int .u64 9223372036854775936), (18, .int .u64 32778), (19, .int .u64 9223372039002259466), (20, .int .u64 9223372039002292353), (21, .int .u64 9223372036854808704), (22, .int .u64 2147483649), (23, .int .u64 9223372039002292232)] : List (Nat × Value)).toArray).run Hvaa.prog w = .ok (.agg ([.int .u64 1, .int .u64 32898, .int .u64 9223372036854808714, .int .u64 9223372039002292224, .int .u64 32907, .int .u64 2147483649, .int .u64 9223372039002292353, .int .u64 9223372036854808585, .int .u64 138, .int .u64 136, .int .u64 2147516425, .int .u64 2147483658, .int .u64 2147516555, .int .u64 9223372036854775947, .int .u64 9223372036854808713, .int .u64 9223372036854808579, .int .u64 9223372036854808578, .int .u64 9223372036854775936, .int .u64 32778, .int .u64 9223372039002259466, .int .u64 9223372039002292353, .int .u64 9223372036854808704, .int .u64 2147483649, .int .u64 9223372039002292232] : List Value).toArray) w := by kernel_rfl
theorem idx462 (w : World) : ∀ i : Nat, i < 24 → (Instr.index 462 (.agg ([.int .u64 1, .int .u64 32898, .int .u64 9223372036854808714, .int .u64 9223372039002292224, .int .u64 32907, .int .u64 2147483649, .int .u64 9223372039002292353, .int .u64 9223372036854808585, .int .u64 138, .int .u64 136, .int .u64 2147516425, .int .u64 2147483658, .int .u64 2147516555, .int .u64 9223372036854775947, .int .u64 9223372036854808713, .int .u64 9223372036854808579, .int .u64 9223372036854808578, .int .u64 9223372036854775936, .int .u64 32778, .int .u64 9223372039002259466, .int .u64 9223372039002292353, .int .u64 9223372036854808704, .int .u64 2147483649, .int .u64 9223372039002292232] : List Value).toArray) (.int .u8 (i : Nat))).run Hvaa.prog w = .ok (.int .u64 (kRC i : Nat)) w
  | 0, _ => by kernel_rfl
  | 1, _ => by kernel_rfl
  | 2, _ => by kernel_rfl
  | 3, _ => by kernel_rfl
  | 4, _ => by kernel_rfl
  | 5, _ => by kernel_rfl
  | 6, _ => by kernel_rfl
  | 7, _ => by kernel_rfl
  | 8, _ => by kernel_rfl
  | 9, _ => by kernel_rfl
  | 10, _ => by kernel_rfl
  | 11, _ => by kernel_rfl
  | 12, _ => by kernel_rfl
  | 13, _ => by kernel_rfl
  | 14, _ => by kernel_rfl
  | 15, _ => by kernel_rfl
  | 16, _ => by kernel_rfl
  | 17, _ => by kernel_rfl
  | 18, _ => by kernel_rfl
  | 19, _ => by kernel_rfl
  | 20, _ => by kernel_rfl
  | 21, _ => by kernel_rfl
  | 22, _ => by kernel_rfl
  | 23, _ => by kernel_rfl
  | _ + 24, h => absurd h (by omega)
section
variable {S : World → Prop} {n : Nat} {s : Nat → Value} {d : Option Nat} {ty : TypeId} {pos : String} {af : Array Edge} {g : Option (Nat × Bool)}
theorem y_idxV {x ix : Operand} {T : Nat} {A I v : Value} (hx : ev n s x = A) (hi : ev n s ix = I) (h : ∀ w, (Instr.index T A I).run Hvaa.prog w = .ok v w) : Yv S n s ⟨d, .index T x ix, ty, pos, af, g⟩ v := fun w _ => by
  simp [execOp, hx, hi, h w]
end
theorem kRC_out {i : Nat} (h : ¬ i < 24) : kRC i = 0 := by
  unfold kRC
  rw [List.getD_eq_getElem?_getD, List.getElem?_eq_none (by simp; omega)]
  rfl
theorem kRC_lt : ∀ i : Nat, kRC i < 18446744073709551616 := by
  intro i
  by_cases h : i < 24
  · have : ∀ x : Fin 24, kRC x.1 < 18446744073709551616 := by decide
    exact this ⟨i, h⟩
  · rw [kRC_out h]; decide
theorem kec_RC (i : Nat) (w : World) (hi8 : i < 256) :
    Ret 398 [.int .u8 i] w (fun v w' => v = .int .u64 (kRC i : Nat) ∧ Up w w') := by
  refine enter (n := 8) Hvaa.func398 rfl rfl (Nat.le_of_ble_eq_true rfl) ?_
  have U := Up.refl w
  refine c_seq (fun K1 hK1 => ?_)
  refine c_region ?_
  refine l_step y_assignC ?_
  refine l_nil ?_
  refine hK1 _ _ ?_
  refine fg1 0 (gS rfl g0) (fun g => ?_)
  refine c_seq (fun K2 hK2 => ?_)
  refine c_seq (fun K3 hK3 => ?_)
  refine c_region ?_
  refine l_step (y_moveV (et g0 rfl)) ?_
  refine l_step (y_geq (et g0 rfl) rfl) ?_
  refine l_nil ?_
  refine hK3 _ _ ?_
  refine fg2 0 4 (gS rfl (gS rfl g0)) g0 (fun g => ?_)
  refine c_cond (et g0 rfl) (fun cB1 => ?_) (fun cB1 => ?_)
  · skip
    
    have hi : ¬ i < 24 := by have := of_decide_eq_true cB1; omega
    refine c_seq (fun K5 hK5 => ?_)
    refine c_region ?_
    refine l_step y_assignC ?_
    refine l_nil ?_
    refine hK5 _ _ ?_
    refine fg1 2 g0 (fun g => ?_)
    refine c_ret ?_
    refine ret1 rfl (res_tmp (et g0 rfl)) ?_
    exact ⟨by rw [kRC_out hi]; rfl, U⟩
  · skip
    
    have hi : i < 24 := by have := of_decide_eq_false cB1; omega
    refine c_skip ?_
    refine hK2 _ _ ?_
    refine fg1 0 (gS rfl g0) (fun g => ?_)
    refine c_seq (fun K6 hK6 => ?_)
    refine c_region ?_
    refine l_step ((y_bld (bC rfl (bC rfl (bC rfl (bC rfl (bC rfl (bC rfl (bC rfl (bC rfl (bC rfl (bC rfl (bC rfl (bC rfl (bC rfl (bC rfl (bC rfl (bC rfl (bC rfl (bC rfl (bC rfl (bC rfl (bC rfl (bC rfl (bC rfl (bC rfl bN)))))))))))))))))))))))) bld462)) ?_
    refine l_step (y_moveV (et (gS rfl g0) rfl)) ?_
    refine l_step (y_idxV (et (gS rfl g0) rfl) (et g0 rfl) (fun w => idx462 w _ hi)) ?_
    refine l_step (y_assignV (et g0 rfl)) ?_
    refine l_nil ?_
    refine hK6 _ _ ?_
    refine fg1 2 g0 (fun g => ?_)
    refine c_ret ?_
    refine ret1 rfl (res_tmp (et g0 rfl)) ?_
    exact ⟨rfl, U⟩
structure Lan (l : List Nat) : Prop where
  len : l.length = 25
  lt : ∀ x ∈ l, x < 18446744073709551616
def rnd (l : List Nat) : List Nat :=
  match l with
  | [a0, a1, a2, a3, a4, a5, a6, a7, a8, a9, a10, a11, a12, a13, a14, a15, a16, a17, a18, a19, a20, a21, a22, a23, a24] => rndL a0 a1 a2 a3 a4 a5 a6 a7 a8 a9 a10 a11 a12 a13 a14 a15 a16 a17 a18 a19 a20 a21 a22 a23 a24
  | _ => []
def rnd1 (i : Nat) (l : List Nat) : List Nat := (rnd l).set 0 ((rnd l)[0]?.getD 0 ^^^ kRC i)
def rndN : Nat → List Nat → List Nat
  | 0, l => l
  | n + 1, l => rnd1 n (rndN n l)
theorem Lan.form {l : List Nat} (h : Lan l) : ∃ a0 a1 a2 a3 a4 a5 a6 a7 a8 a9 a10 a11 a12 a13 a14 a15 a16 a17 a18 a19 a20 a21 a22 a23 a24, l = [a0, a1, a2, a3, a4, a5, a6, a7, a8, a9, a10, a11, a12, a13, a14, a15, a16, a17, a18, a19, a20, a21, a22, a23, a24] := by
  have hl := h.len
  match l, hl with
  | [a0, a1, a2, a3, a4, a5, a6, a7, a8, a9, a10, a11, a12, a13, a14, a15, a16, a17, a18, a19, a20, a21, a22, a23, a24], _ => exact ⟨a0, a1, a2, a3, a4, a5, a6, a7, a8, a9, a10, a11, a12, a13, a14, a15, a16, a17, a18, a19, a20, a21, a22, a23, a24, rfl⟩
theorem rndL_lan {a0 a1 a2 a3 a4 a5 a6 a7 a8 a9 a10 a11 a12 a13 a14 a15 a16 a17 a18 a19 a20 a21 a22 a23 a24 : Nat} (h0 : a0 < 18446744073709551616) (h1 : a1 < 18446744073709551616) (h2 : a2 < 18446744073709551616) (h3 : a3 < 18446744073709551616) (h4 : a4 < 18446744073709551616) (h5 : a5 < 18446744073709551616) (h6 : a6 < 18446744073709551616) (h7 : a7 < 18446744073709551616) (h8 : a8 < 18446744073709551616) (h9 : a9 < 18446744073709551616) (h10 : a10 < 18446744073709551616) (h11 : a11 < 18446744073709551616) (h12 : a12 < 18446744073709551616) (h13 : a13 < 18446744073709551616) (h14 : a14 < 18446744073709551616) (h15 : a15 < 18446744073709551616) (h16 : a16 < 18446744073709551616) (h17 : a17 < 18446744073709551616) (h18 : a18 < 18446744073709551616) (h19 : a19 < 18446744073709551616) (h20 : a20 < 18446744073709551616) (h21 : a21 < 18446744073709551616) (h22 : a22 < 18446744073709551616) (h23 : a23 < 18446744073709551616) (h24 : a24 < 18446744073709551616) : Lan (rndL a0 a1 a2 a3 a4 a5 a6 a7 a8 a9 a10 a11 a12 a13 a14 a15 a16 a17 a18 a19 a20 a21 a22 a23 a24) := by
  refine ⟨rfl, ?_⟩
  intro y hy
  unfold rndL at hy
  simp only [List.mem_cons, List.not_mem_nil, or_false] at hy
  rcases hy with rfl | rfl | rfl | rfl | rfl | rfl | rfl | rfl | rfl | rfl | rfl | rfl | rfl | rfl | rfl | rfl | rfl | rfl | rfl | rfl | rfl | rfl | rfl | rfl | rfl <;> (repeat' first | assumption | refine rotl_lt64 ?_ (by decide) | refine x64 ?_ ?_ | refine and64 ?_ | exact not64 _)
theorem rnd_lan {l : List Nat} (h : Lan l) : Lan (rnd l) := by
  obtain ⟨a0, a1, a2, a3, a4, a5, a6, a7, a8, a9, a10, a11, a12, a13, a14, a15, a16, a17, a18, a19, a20, a21, a22, a23, a24, rfl⟩ := h.form
  have hl := h.lt
  simp only [List.mem_cons, List.not_mem_nil, or_false] at hl
  exact rndL_lan (hl _ (by simp)) (hl _ (by simp)) (hl _ (by simp)) (hl _ (by simp)) (hl _ (by simp)) (hl _ (by simp)) (hl _ (by simp)) (hl _ (by simp)) (hl _ (by simp)) (hl _ (by simp)) (hl _ (by simp)) (hl _ (by simp)) (hl _ (by simp)) (hl _ (by simp)) (hl _ (by simp)) (hl _ (by simp)) (hl _ (by simp)) (hl _ (by simp)) (hl _ (by simp)) (hl _ (by simp)) (hl _ (by simp)) (hl _ (by simp)) (hl _ (by simp)) (hl _ (by simp)) (hl _ (by simp))
theorem kec_rnd {b : Nat} {l : List Nat} {w : World} (h : Lan l) (kA : Blk w b (uL l).toArray) : Ret 397 [.pointer (some ⟨b, 0, none⟩)] w (fun v w' => v = .tuple #[] ∧ Blk w' b (uL (rnd l)).toArray ∧ Ch (fun k => k = b) w w') := by
  obtain ⟨a0, a1, a2, a3, a4, a5, a6, a7, a8, a9, a10, a11, a12, a13, a14, a15, a16, a17, a18, a19, a20, a21, a22, a23, a24, rfl⟩ := h.form
  have hl := h.lt
  simp only [List.mem_cons, List.not_mem_nil, or_false] at hl
  exact kec_round b a0 a1 a2 a3 a4 a5 a6 a7 a8 a9 a10 a11 a12 a13 a14 a15 a16 a17 a18 a19 a20 a21 a22 a23 a24 w (hl _ (by simp)) (hl _ (by simp)) (hl _ (by simp)) (hl _ (by simp)) (hl _ (by simp)) (hl _ (by simp)) (hl _ (by simp)) (hl _ (by simp)) (hl _ (by simp)) (hl _ (by simp)) (hl _ (by simp)) (hl _ (by simp)) (hl _ (by simp)) (hl _ (by simp)) (hl _ (by simp)) (hl _ (by simp)) (hl _ (by simp)) (hl _ (by simp)) (hl _ (by simp)) (hl _ (by simp)) (hl _ (by simp)) (hl _ (by simp)) (hl _ (by simp)) (hl _ (by simp)) (hl _ (by simp)) kA
end Go.Proofs.YgvaawGreat
