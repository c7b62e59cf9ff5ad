import Derived.Test.YgvaawGreatEY
set_option maxRecDepth 100000
set_option linter.unusedSimpArgs false
set_option linter.unusedVariables false
namespace Go.Proofs.YgvaawGreat
open Go
theorem wL_zero : wL 0 = List.replicate 4 (Value.int .u64 0) := rfl
section
variable {S : World → Prop} {n : Nat} {s : Nat → Value} {d : Option Nat} {ty : TypeId} {pos : String} {af : Array Edge} {g : Option (Nat × Bool)}
theorem y_bldEA_r {a : Nat} (w : World) : (Instr.build 167 ([(0, aV a)] : List (Nat × Value)).toArray).run Hvaa.prog w = .ok (Value.agg (eaC (blankA a) (Value.slice none 0 0)).toArray) w := by
  have h : (Instr.build 167 ([(0, aV a)] : List (Nat × Value)).toArray).run Hvaa.prog w = .ok (Value.agg ([(bL (be 20 a)), [Value.int .u64 0], (List.replicate 4 (Value.int .u64 0)), [Value.slice none 0 0], [Value.bool false], [Value.bool false], [Value.bool false]] : List (List Value)).flatten.toArray) w := bld_run zr_167 plc_167 (fill_flat (off := 0) (k := 20) (f := (List.replicate 20 (Value.int .u8 0))) (c := bL (be 20 a)) (v := aV a) rfl rfl (by first | (simp [length_bL, length_be, wL_len]; done) | rfl) (by first | (simp [length_bL, length_be, wL_len]; done) | rfl) rfl (by first | (simp [length_bL, length_be, wL_len]; done) | rfl) (fill_nil _ _)) w
  rw [h]
  simp [eaC, blankA, wL_zero]
theorem y_bldEA {a : Nat} {x0 : Operand} (h0 : ev n s x0 = aV a) : Yv S n s ⟨d, .build 167 #[(0, x0)], ty, pos, af, g⟩ (Value.agg (eaC (blankA a) (Value.slice none 0 0)).toArray) :=
  y_bld (ps := [(0, x0)]) (bC h0 bN) y_bldEA_r
theorem y_bldES_r {q k : Nat} (w : World) : (Instr.build 176 ([(0, Value.int .i32 (q : Nat)), (1, wV k)] : List (Nat × Value)).toArray).run Hvaa.prog w = .ok (Value.agg (esC (blankS q k)).toArray) w := by
  have h : (Instr.build 176 ([(0, Value.int .i32 (q : Nat)), (1, wV k)] : List (Nat × Value)).toArray).run Hvaa.prog w = .ok (Value.agg ([([Value.int .i32 (q : Nat)]), (wL k), (List.replicate 4 (Value.int .u64 0)), (List.replicate 4 (Value.int .u64 0)), [Value.bool false]] : List (List Value)).flatten.toArray) w := bld_run zr_176 plc_176 (fill_flat (off := 0) (k := 1) (f := [Value.int .i32 0]) (c := [Value.int .i32 (q : Nat)]) (v := Value.int .i32 (q : Nat)) rfl rfl (by first | (simp [length_bL, length_be, wL_len]; done) | rfl) (by first | (simp [length_bL, length_be, wL_len]; done) | rfl) rfl (by first | (simp [length_bL, length_be, wL_len]; done) | rfl) (fill_flat (off := 1) (k := 4) (f := (List.replicate 4 (Value.int .u64 0))) (c := wL k) (v := wV k) rfl rfl (by first | (simp [length_bL, length_be, wL_len]; done) | rfl) (by first | (simp [length_bL, length_be, wL_len]; done) | rfl) rfl (by first | (simp [length_bL, length_be, wL_len]; done) | rfl) (fill_nil _ _))) w
  rw [h]
  simp [esC, etC, eeC, blankS, blankT, wL_zero]
theorem y_bldES {q k : Nat} {x0 x1 : Operand} (h0 : ev n s x0 = Value.int .i32 (q : Nat)) (h1 : ev n s x1 = wV k) : Yv S n s ⟨d, .build 176 #[(0, x0), (1, x1)], ty, pos, af, g⟩ (Value.agg (esC (blankS q k)).toArray) :=
  y_bld (ps := [(0, x0), (1, x1)]) (bC h0 (bC h1 bN)) y_bldES_r
theorem y_bldET_r {q k : Nat} (w : World) : (Instr.build 430 ([(0, Value.int .i32 (q : Nat)), (1, wV k)] : List (Nat × Value)).toArray).run Hvaa.prog w = .ok (Value.agg (etC (blankT q k)).toArray) w := by
  have h : (Instr.build 430 ([(0, Value.int .i32 (q : Nat)), (1, wV k)] : List (Nat × Value)).toArray).run Hvaa.prog w = .ok (Value.agg ([([Value.int .i32 (q : Nat)]), (wL k), (List.replicate 4 (Value.int .u64 0))] : List (List Value)).flatten.toArray) w := bld_run zr_430 plc_430 (fill_flat (off := 0) (k := 1) (f := [Value.int .i32 0]) (c := [Value.int .i32 (q : Nat)]) (v := Value.int .i32 (q : Nat)) rfl rfl (by first | (simp [length_bL, length_be, wL_len]; done) | rfl) (by first | (simp [length_bL, length_be, wL_len]; done) | rfl) rfl (by first | (simp [length_bL, length_be, wL_len]; done) | rfl) (fill_flat (off := 1) (k := 4) (f := (List.replicate 4 (Value.int .u64 0))) (c := wL k) (v := wV k) rfl rfl (by first | (simp [length_bL, length_be, wL_len]; done) | rfl) (by first | (simp [length_bL, length_be, wL_len]; done) | rfl) rfl (by first | (simp [length_bL, length_be, wL_len]; done) | rfl) (fill_nil _ _))) w
  rw [h]
  simp [esC, etC, eeC, blankS, blankT, wL_zero]
theorem y_bldET {q k : Nat} {x0 x1 : Operand} (h0 : ev n s x0 = Value.int .i32 (q : Nat)) (h1 : ev n s x1 = wV k) : Yv S n s ⟨d, .build 430 #[(0, x0), (1, x1)], ty, pos, af, g⟩ (Value.agg (etC (blankT q k)).toArray) :=
  y_bld (ps := [(0, x0), (1, x1)]) (bC h0 (bC h1 bN)) y_bldET_r
theorem y_bldEw_r {kd i u : Nat} (w : World) : (Instr.build 218 ([(0, Value.int .u8 (kd : Nat)), (1, Value.int .i32 (i : Nat)), (3, wV u)] : List (Nat × Value)).toArray).run Hvaa.prog w = .ok (Value.agg (eeC ⟨kd, i, 0, u, [], false⟩ (Value.slice none 0 0)).toArray) w := by
  have h : (Instr.build 218 ([(0, Value.int .u8 (kd : Nat)), (1, Value.int .i32 (i : Nat)), (3, wV u)] : List (Nat × Value)).toArray).run Hvaa.prog w = .ok (Value.agg ([([Value.int .u8 (kd : Nat)]), ([Value.int .i32 (i : Nat)]), [Value.int .u64 0], (wL u), [Value.slice none 0 0], [Value.bool false]] : List (List Value)).flatten.toArray) w := bld_run zr_218 plc_218 (fill_flat (off := 0) (k := 1) (f := [Value.int .u8 0]) (c := [Value.int .u8 (kd : Nat)]) (v := Value.int .u8 (kd : Nat)) rfl rfl (by first | (simp [length_bL, length_be, wL_len]; done) | rfl) (by first | (simp [length_bL, length_be, wL_len]; done) | rfl) rfl (by first | (simp [length_bL, length_be, wL_len]; done) | rfl) (fill_flat (off := 1) (k := 1) (f := [Value.int .i32 0]) (c := [Value.int .i32 (i : Nat)]) (v := Value.int .i32 (i : Nat)) rfl rfl (by first | (simp [length_bL, length_be, wL_len]; done) | rfl) (by first | (simp [length_bL, length_be, wL_len]; done) | rfl) rfl (by first | (simp [length_bL, length_be, wL_len]; done) | rfl) (fill_flat (off := 3) (k := 4) (f := (List.replicate 4 (Value.int .u64 0))) (c := wL u) (v := wV u) rfl rfl (by first | (simp [length_bL, length_be, wL_len]; done) | rfl) (by first | (simp [length_bL, length_be, wL_len]; done) | rfl) rfl (by first | (simp [length_bL, length_be, wL_len]; done) | rfl) (fill_nil _ _)))) w
  rw [h]
  simp [esC, etC, eeC, blankS, blankT, wL_zero]
theorem y_bldEw {kd i u : Nat} {x0 x1 x3 : Operand} (h0 : ev n s x0 = Value.int .u8 (kd : Nat)) (h1 : ev n s x1 = Value.int .i32 (i : Nat)) (h3 : ev n s x3 = wV u) : Yv S n s ⟨d, .build 218 #[(0, x0), (1, x1), (3, x3)], ty, pos, af, g⟩ (Value.agg (eeC ⟨kd, i, 0, u, [], false⟩ (Value.slice none 0 0)).toArray) :=
  y_bld (ps := [(0, x0), (1, x1), (3, x3)]) (bC h0 (bC h1 (bC h3 bN))) y_bldEw_r
theorem y_bldEn_r {kd i u : Nat} (w : World) : (Instr.build 218 ([(0, Value.int .u8 (kd : Nat)), (1, Value.int .i32 (i : Nat)), (2, Value.int .u64 (u : Nat))] : List (Nat × Value)).toArray).run Hvaa.prog w = .ok (Value.agg (eeC ⟨kd, i, u, 0, [], false⟩ (Value.slice none 0 0)).toArray) w := by
  have h : (Instr.build 218 ([(0, Value.int .u8 (kd : Nat)), (1, Value.int .i32 (i : Nat)), (2, Value.int .u64 (u : Nat))] : List (Nat × Value)).toArray).run Hvaa.prog w = .ok (Value.agg ([([Value.int .u8 (kd : Nat)]), ([Value.int .i32 (i : Nat)]), ([Value.int .u64 (u : Nat)]), (List.replicate 4 (Value.int .u64 0)), [Value.slice none 0 0], [Value.bool false]] : List (List Value)).flatten.toArray) w := bld_run zr_218 plc_218 (fill_flat (off := 0) (k := 1) (f := [Value.int .u8 0]) (c := [Value.int .u8 (kd : Nat)]) (v := Value.int .u8 (kd : Nat)) rfl rfl (by first | (simp [length_bL, length_be, wL_len]; done) | rfl) (by first | (simp [length_bL, length_be, wL_len]; done) | rfl) rfl (by first | (simp [length_bL, length_be, wL_len]; done) | rfl) (fill_flat (off := 1) (k := 1) (f := [Value.int .i32 0]) (c := [Value.int .i32 (i : Nat)]) (v := Value.int .i32 (i : Nat)) rfl rfl (by first | (simp [length_bL, length_be, wL_len]; done) | rfl) (by first | (simp [length_bL, length_be, wL_len]; done) | rfl) rfl (by first | (simp [length_bL, length_be, wL_len]; done) | rfl) (fill_flat (off := 2) (k := 1) (f := [Value.int .u64 0]) (c := [Value.int .u64 (u : Nat)]) (v := Value.int .u64 (u : Nat)) rfl rfl (by first | (simp [length_bL, length_be, wL_len]; done) | rfl) (by first | (simp [length_bL, length_be, wL_len]; done) | rfl) rfl (by first | (simp [length_bL, length_be, wL_len]; done) | rfl) (fill_nil _ _)))) w
  rw [h]
  simp [esC, etC, eeC, blankS, blankT, wL_zero]
theorem y_bldEn {kd i u : Nat} {x0 x1 x2 : Operand} (h0 : ev n s x0 = Value.int .u8 (kd : Nat)) (h1 : ev n s x1 = Value.int .i32 (i : Nat)) (h2 : ev n s x2 = Value.int .u64 (u : Nat)) : Yv S n s ⟨d, .build 218 #[(0, x0), (1, x1), (2, x2)], ty, pos, af, g⟩ (Value.agg (eeC ⟨kd, i, u, 0, [], false⟩ (Value.slice none 0 0)).toArray) :=
  y_bld (ps := [(0, x0), (1, x1), (2, x2)]) (bC h0 (bC h1 (bC h2 bN))) y_bldEn_r
theorem y_bldEb_r {kd i vn vcc : Nat} {va : Option Addr} {l : List Nat} (w : World) : (Instr.build 218 ([(0, Value.int .u8 (kd : Nat)), (1, Value.int .i32 (i : Nat)), (4, Value.slice va vn vcc)] : List (Nat × Value)).toArray).run Hvaa.prog w = .ok (Value.agg (eeC ⟨kd, i, 0, 0, l, false⟩ (Value.slice va vn vcc)).toArray) w := by
  have h : (Instr.build 218 ([(0, Value.int .u8 (kd : Nat)), (1, Value.int .i32 (i : Nat)), (4, Value.slice va vn vcc)] : List (Nat × Value)).toArray).run Hvaa.prog w = .ok (Value.agg ([([Value.int .u8 (kd : Nat)]), ([Value.int .i32 (i : Nat)]), [Value.int .u64 0], (List.replicate 4 (Value.int .u64 0)), ([Value.slice va vn vcc]), [Value.bool false]] : List (List Value)).flatten.toArray) w := bld_run zr_218 plc_218 (fill_flat (off := 0) (k := 1) (f := [Value.int .u8 0]) (c := [Value.int .u8 (kd : Nat)]) (v := Value.int .u8 (kd : Nat)) rfl rfl (by first | (simp [length_bL, length_be, wL_len]; done) | rfl) (by first | (simp [length_bL, length_be, wL_len]; done) | rfl) rfl (by first | (simp [length_bL, length_be, wL_len]; done) | rfl) (fill_flat (off := 1) (k := 1) (f := [Value.int .i32 0]) (c := [Value.int .i32 (i : Nat)]) (v := Value.int .i32 (i : Nat)) rfl rfl (by first | (simp [length_bL, length_be, wL_len]; done) | rfl) (by first | (simp [length_bL, length_be, wL_len]; done) | rfl) rfl (by first | (simp [length_bL, length_be, wL_len]; done) | rfl) (fill_flat (off := 7) (k := 1) (f := [Value.slice none 0 0]) (c := [Value.slice va vn vcc]) (v := Value.slice va vn vcc) rfl rfl (by first | (simp [length_bL, length_be, wL_len]; done) | rfl) (by first | (simp [length_bL, length_be, wL_len]; done) | rfl) rfl (by first | (simp [length_bL, length_be, wL_len]; done) | rfl) (fill_nil _ _)))) w
  rw [h]
  simp [esC, etC, eeC, blankS, blankT, wL_zero]
theorem y_bldEb {kd i vn vcc : Nat} {va : Option Addr} {l : List Nat} {x0 x1 x4 : Operand} (h0 : ev n s x0 = Value.int .u8 (kd : Nat)) (h1 : ev n s x1 = Value.int .i32 (i : Nat)) (h4 : ev n s x4 = Value.slice va vn vcc) : Yv S n s ⟨d, .build 218 #[(0, x0), (1, x1), (4, x4)], ty, pos, af, g⟩ (Value.agg (eeC ⟨kd, i, 0, 0, l, false⟩ (Value.slice va vn vcc)).toArray) :=
  y_bld (ps := [(0, x0), (1, x1), (4, x4)]) (bC h0 (bC h1 (bC h4 bN))) y_bldEb_r
theorem y_bldEf_r {kd i : Nat} {u : Bool} (w : World) : (Instr.build 218 ([(0, Value.int .u8 (kd : Nat)), (1, Value.int .i32 (i : Nat)), (5, Value.bool u)] : List (Nat × Value)).toArray).run Hvaa.prog w = .ok (Value.agg (eeC ⟨kd, i, 0, 0, [], u⟩ (Value.slice none 0 0)).toArray) w := by
  have h : (Instr.build 218 ([(0, Value.int .u8 (kd : Nat)), (1, Value.int .i32 (i : Nat)), (5, Value.bool u)] : List (Nat × Value)).toArray).run Hvaa.prog w = .ok (Value.agg ([([Value.int .u8 (kd : Nat)]), ([Value.int .i32 (i : Nat)]), [Value.int .u64 0], (List.replicate 4 (Value.int .u64 0)), [Value.slice none 0 0], ([Value.bool u])] : List (List Value)).flatten.toArray) w := bld_run zr_218 plc_218 (fill_flat (off := 0) (k := 1) (f := [Value.int .u8 0]) (c := [Value.int .u8 (kd : Nat)]) (v := Value.int .u8 (kd : Nat)) rfl rfl (by first | (simp [length_bL, length_be, wL_len]; done) | rfl) (by first | (simp [length_bL, length_be, wL_len]; done) | rfl) rfl (by first | (simp [length_bL, length_be, wL_len]; done) | rfl) (fill_flat (off := 1) (k := 1) (f := [Value.int .i32 0]) (c := [Value.int .i32 (i : Nat)]) (v := Value.int .i32 (i : Nat)) rfl rfl (by first | (simp [length_bL, length_be, wL_len]; done) | rfl) (by first | (simp [length_bL, length_be, wL_len]; done) | rfl) rfl (by first | (simp [length_bL, length_be, wL_len]; done) | rfl) (fill_flat (off := 8) (k := 1) (f := [Value.bool false]) (c := [Value.bool u]) (v := Value.bool u) rfl rfl (by first | (simp [length_bL, length_be, wL_len]; done) | rfl) (by first | (simp [length_bL, length_be, wL_len]; done) | rfl) rfl (by first | (simp [length_bL, length_be, wL_len]; done) | rfl) (fill_nil _ _)))) w
  rw [h]
  simp [esC, etC, eeC, blankS, blankT, wL_zero]
theorem y_bldEf {kd i : Nat} {u : Bool} {x0 x1 x5 : Operand} (h0 : ev n s x0 = Value.int .u8 (kd : Nat)) (h1 : ev n s x1 = Value.int .i32 (i : Nat)) (h5 : ev n s x5 = Value.bool u) : Yv S n s ⟨d, .build 218 #[(0, x0), (1, x1), (5, x5)], ty, pos, af, g⟩ (Value.agg (eeC ⟨kd, i, 0, 0, [], u⟩ (Value.slice none 0 0)).toArray) :=
  y_bld (ps := [(0, x0), (1, x1), (5, x5)]) (bC h0 (bC h1 (bC h5 bN))) y_bldEf_r
theorem y_bldEr_r {kd u : Nat} (w : World) : (Instr.build 218 ([(0, Value.int .u8 (kd : Nat)), (2, Value.int .u64 (u : Nat))] : List (Nat × Value)).toArray).run Hvaa.prog w = .ok (Value.agg (eeC ⟨kd, 0, u, 0, [], false⟩ (Value.slice none 0 0)).toArray) w := by
  have h : (Instr.build 218 ([(0, Value.int .u8 (kd : Nat)), (2, Value.int .u64 (u : Nat))] : List (Nat × Value)).toArray).run Hvaa.prog w = .ok (Value.agg ([([Value.int .u8 (kd : Nat)]), [Value.int .i32 0], ([Value.int .u64 (u : Nat)]), (List.replicate 4 (Value.int .u64 0)), [Value.slice none 0 0], [Value.bool false]] : List (List Value)).flatten.toArray) w := bld_run zr_218 plc_218 (fill_flat (off := 0) (k := 1) (f := [Value.int .u8 0]) (c := [Value.int .u8 (kd : Nat)]) (v := Value.int .u8 (kd : Nat)) rfl rfl (by first | (simp [length_bL, length_be, wL_len]; done) | rfl) (by first | (simp [length_bL, length_be, wL_len]; done) | rfl) rfl (by first | (simp [length_bL, length_be, wL_len]; done) | rfl) (fill_flat (off := 2) (k := 1) (f := [Value.int .u64 0]) (c := [Value.int .u64 (u : Nat)]) (v := Value.int .u64 (u : Nat)) rfl rfl (by first | (simp [length_bL, length_be, wL_len]; done) | rfl) (by first | (simp [length_bL, length_be, wL_len]; done) | rfl) rfl (by first | (simp [length_bL, length_be, wL_len]; done) | rfl) (fill_nil _ _))) w
  rw [h]
  simp [esC, etC, eeC, blankS, blankT, wL_zero]
theorem y_bldEr {kd u : Nat} {x0 x2 : Operand} (h0 : ev n s x0 = Value.int .u8 (kd : Nat)) (h2 : ev n s x2 = Value.int .u64 (u : Nat)) : Yv S n s ⟨d, .build 218 #[(0, x0), (2, x2)], ty, pos, af, g⟩ (Value.agg (eeC ⟨kd, 0, u, 0, [], false⟩ (Value.slice none 0 0)).toArray) :=
  y_bld (ps := [(0, x0), (2, x2)]) (bC h0 (bC h2 bN)) y_bldEr_r
theorem y_bldE0_r {kd : Nat} (w : World) : (Instr.build 218 ([(0, Value.int .u8 (kd : Nat))] : List (Nat × Value)).toArray).run Hvaa.prog w = .ok (Value.agg (eeC ⟨kd, 0, 0, 0, [], false⟩ (Value.slice none 0 0)).toArray) w := by
  have h : (Instr.build 218 ([(0, Value.int .u8 (kd : Nat))] : List (Nat × Value)).toArray).run Hvaa.prog w = .ok (Value.agg ([([Value.int .u8 (kd : Nat)]), [Value.int .i32 0], [Value.int .u64 0], (List.replicate 4 (Value.int .u64 0)), [Value.slice none 0 0], [Value.bool false]] : List (List Value)).flatten.toArray) w := bld_run zr_218 plc_218 (fill_flat (off := 0) (k := 1) (f := [Value.int .u8 0]) (c := [Value.int .u8 (kd : Nat)]) (v := Value.int .u8 (kd : Nat)) rfl rfl (by first | (simp [length_bL, length_be, wL_len]; done) | rfl) (by first | (simp [length_bL, length_be, wL_len]; done) | rfl) rfl (by first | (simp [length_bL, length_be, wL_len]; done) | rfl) (fill_nil _ _)) w
  rw [h]
  simp [esC, etC, eeC, blankS, blankT, wL_zero]
theorem y_bldE0 {kd : Nat} {x0 : Operand} (h0 : ev n s x0 = Value.int .u8 (kd : Nat)) : Yv S n s ⟨d, .build 218 #[(0, x0)], ty, pos, af, g⟩ (Value.agg (eeC ⟨kd, 0, 0, 0, [], false⟩ (Value.slice none 0 0)).toArray) :=
  y_bld (ps := [(0, x0)]) (bC h0 bN) y_bldE0_r
end
theorem Fnd.pos {N : Nat} {T : Nat → Int} {n h0 : Nat} {m : Nat → Prop} {i f : Int} (h : Fnd N T n h0 m i f) (hi : 0 ≤ i) : ∃ k : Nat, m k ∧ k < n ∧ i = k ∧ f = -1 := by
  rcases h with h | ⟨_, h, _⟩
  · exact h
  · omega
theorem Fnd.neg {N : Nat} {T : Nat → Int} {n h0 : Nat} {m : Nat → Prop} {i f : Int} (h : Fnd N T n h0 m i f) (hi : ¬ 0 ≤ i) : (∀ k, k < n → ¬ m k) ∧ i = -1 ∧ ∃ p : Nat, f = p ∧ Free N T h0 p := by
  rcases h with ⟨k, _, _, h, _⟩ | h
  · omega
  · exact h
/-- from one vault to the next -/
structure VT (w : World) (H : Store) (col : Nat → Nat) (bc : Nat) (cs : Array Value) (w' : World) (H' : Store) (col' : Nat → Nat) (cs' : Array Value) (V' : EV) : Prop where
  vl : VL w' H' col' bc cs' V'
  out : Out cs cs' 2435 24584
  go : Go (fun b => 0 < col b ∧ col b < 8) w H w' H'
  col : ∀ b, b < w.heap.size → col' b = col b
theorem VT.mk' {w w' : World} {H : Store} {col col' : Nat → Nat} {bc : Nat} {cs cs' : Array Value} {V' : EV} (h : VL w' H col' bc cs' V') (ho : Out cs cs' 2435 24584) (u : Ch (fun b => 0 < col b ∧ col b < 8) w w') (hc : ∀ b, b < w.heap.size → col' b = col b) : VT w H col bc cs w' H col' cs' V' := ⟨h, ho, ⟨u, h.fz, Le.refl _, fun _ h => .inl h⟩, hc⟩
theorem VT.refl {w : World} {H : Store} {col : Nat → Nat} {bc : Nat} {cs : Array Value} {V : EV} (h : VL w H col bc cs V) : VT w H col bc cs w H col cs V := ⟨h, Out.refl _ _ _, Go.refl h.fz, fun _ _ => rfl⟩
theorem VT.trans {w w1 w2 : World} {H H1 H2 : Store} {col c1 c2 : Nat → Nat} {bc : Nat} {cs cs1 cs2 : Array Value} {V1 V2 : EV} (h : VT w H col bc cs w1 H1 c1 cs1 V1) (g : VT w1 H1 c1 bc cs1 w2 H2 c2 cs2 V2) : VT w H col bc cs w2 H2 c2 cs2 V2 :=
  ⟨g.vl, h.out.trans g.out, h.go.trans g.go (fun b hb => by
    by_cases hlt : b < w.heap.size
    · left; rw [← h.col b hlt]; exact hb
    · right; omega), fun b hb => (g.col b (Nat.lt_of_lt_of_le hb h.go.ch.size)).trans (h.col b hb)⟩
theorem VT.pre {w w0 w' : World} {H H' : Store} {col col' : Nat → Nat} {bc : Nat} {cs cs' : Array Value} {V' : EV} (h : VT w H col bc cs w' H' col' cs' V') (u : Up w0 w) (hf : Fz w0 H) : VT w0 H col bc cs w' H' col' cs' V' :=
  ⟨h.vl, h.out, (Go.ofUp hf u).of_no.trans h.go (fun b hb => .inl hb), fun b hb => h.col b (Nat.lt_of_lt_of_le hb u.size)⟩
theorem VT.ch {M : Nat → Prop} {w w' w2 : World} {H H' : Store} {col col' : Nat → Nat} {bc : Nat} {cs cs' : Array Value} {V' : EV} (h : VT w H col bc cs w' H' col' cs' V') (c : Ch M w' w2) (hM : ∀ b, M b → col' b = 0 ∧ ¬ H'.has b ∧ w.heap.size ≤ b) : VT w H col bc cs w2 H' col' cs' V' :=
  ⟨h.vl.ch c (fun b hb => ⟨(hM b hb).1, (hM b hb).2.1⟩), h.out, h.go.trans ⟨c, (h.vl.ch c (fun b hb => ⟨(hM b hb).1, (hM b hb).2.1⟩)).fz, Le.refl _, fun _ h => .inl h⟩ (fun b hb => .inr (hM b hb).2.2), h.col⟩
theorem VT.up {w w' w2 : World} {H H' : Store} {col col' : Nat → Nat} {bc : Nat} {cs cs' : Array Value} {V' : EV} (h : VT w H col bc cs w' H' col' cs' V') (u : Up w' w2) : VT w H col bc cs w2 H' col' cs' V' := h.ch u (fun _ h => h.elim)
theorem Pend.len {α : Type} {P : Cp α} {k c0 : Nat} {w : World} {H : Store} {col : Nat → Nat} {v : Value} {xs : List α} (h : Pend P k c0 w H col v xs) : ∃ a c, v = .slice a xs.length c := by
  obtain ⟨b, c, h1, h2⟩ := h
  exact h1.len
/-- behind an append, ahead of the store of its slice -/
structure VM {α : Type} (P : Cp α) (k c0 : Nat) (w0 : World) (H0 : Store) (col0 : Nat → Nat) (bc : Nat) (cs0 : Array Value) (w w' : World) (H : Store) (col : Nat → Nat) (cs : Array Value) (V : EV) (v' : Value) (xs : List α) : Prop where
  t : VT w0 H0 col0 bc cs0 w H col cs V
  m : VLm c0 w' H col bc cs V
  pd : Pend P k c0 w' H col v' xs
  c : Ch (fun b => col b = c0) w w'
  ow : ∀ b, v'.ownBlock = some b → col b = c0 ∨ w.heap.size ≤ b
theorem VM.go {α : Type} {P : Cp α} {k c0 : Nat} {w0 : World} {H0 : Store} {col0 : Nat → Nat} {bc : Nat} {cs0 : Array Value} {w w' : World} {H : Store} {col : Nat → Nat} {cs : Array Value} {V : EV} {v' : Value} {xs : List α} (h : VM P k c0 w0 H0 col0 bc cs0 w w' H col cs V v' xs) (h0 : c0 ≠ 0) (h8 : c0 < 8) {w3 : World} {o : Nat} (x : Wr w' w3 bc (spl cs o [v'])) (ho : 2435 ≤ o) (ho2 : o < 27019) {col2 : Nat → Nat} {V2 : EV} (hv : VL w3 H col2 bc (spl cs o [v']) V2) (hc : ∀ b, col2 b = col b ∨ (v'.ownBlock = some b ∧ col b = 0)) : VT w0 H0 col0 bc cs0 w3 H col2 (spl cs o [v']) V2 ∧ ∀ b, b < w.heap.size → col2 b = col b := by
  have hq : ∀ b, b < w.heap.size → col2 b = col b := fun b hb => by
    rcases hc b with h1 | ⟨h1, h2⟩
    · exact h1
    · rcases h.ow b h1 with h3 | h3 <;> omega
  have hN : ∀ b, 0 < col b ∧ col b < 8 → (0 < col0 b ∧ col0 b < 8) ∨ w0.heap.size ≤ b := fun b hb => by
    by_cases hlt : b < w0.heap.size
    · left; rw [← h.t.col b hlt]; exact hb
    · right; omega
  refine ⟨⟨hv, h.t.out.put (by omega) (by omega), ⟨(h.t.go.ch.cc h.c (fun b hb => hN b (by omega))).cc x.ch (fun b hb => hN b (by rw [hb, h.m.colC]; decide)), hv.fz, h.t.go.le, h.t.go.new⟩, fun b hb => ?_⟩, hq⟩
  rw [hq b (Nat.lt_of_lt_of_le hb h.t.go.ch.size)]
  exact h.t.col b hb
section
variable {w0 : World} {H0 : Store} {col0 : Nat → Nat} {bc : Nat} {cs0 : Array Value} {w w' w3 : World} {H : Store} {col : Nat → Nat} {cs : Array Value} {V : EV} {v' : Value}
theorem VM.layA {xs : List EAcct} (h : VM P_ea 29 2 w0 H0 col0 bc cs0 w w' H col cs V v' xs) (hml : V.marks.length ≤ 16384) (x : Wr w' w3 bc (spl cs 2435 [v'])) : ∃ col2, VT w0 H0 col0 bc cs0 w3 H col2 (spl cs 2435 [v']) { V with accts := xs } ∧ ∀ b, b < w.heap.size → col2 b = col b := by
  obtain ⟨col2, h1, h2⟩ := h.m.layA hml h.pd x
  exact ⟨col2, h.go (by decide) (by decide) x (by decide) (by decide) h1 h2⟩
theorem VM.layS {xs : List ESlot} (h : VM P_es 14 3 w0 H0 col0 bc cs0 w w' H col cs V v' xs) (hml : V.marks.length ≤ 16384) (x : Wr w' w3 bc (spl cs 2436 [v'])) : ∃ col2, VT w0 H0 col0 bc cs0 w3 H col2 (spl cs 2436 [v']) { V with slots := xs } ∧ ∀ b, b < w.heap.size → col2 b = col b := by
  obtain ⟨col2, h1, h2⟩ := h.m.layS hml h.pd x
  exact ⟨col2, h.go (by decide) (by decide) x (by decide) (by decide) h1 h2⟩
theorem VM.layJ {xs : List EEnt} (h : VM P_ee 9 4 w0 H0 col0 bc cs0 w w' H col cs V v' xs) (hml : V.marks.length ≤ 16384) (x : Wr w' w3 bc (spl cs 10629 [v'])) : ∃ col2, VT w0 H0 col0 bc cs0 w3 H col2 (spl cs 10629 [v']) { V with journal := xs } ∧ ∀ b, b < w.heap.size → col2 b = col b := by
  obtain ⟨col2, h1, h2⟩ := h.m.layJ hml h.pd x
  exact ⟨col2, h.go (by decide) (by decide) x (by decide) (by decide) h1 h2⟩
theorem VM.layL {xs : List YLog} (h : VM P_log 22 5 w0 H0 col0 bc cs0 w w' H col cs V v' xs) (hml : V.marks.length ≤ 16384) (x : Wr w' w3 bc (spl cs 27016 [v'])) : ∃ col2, VT w0 H0 col0 bc cs0 w3 H col2 (spl cs 27016 [v']) { V with logs := xs } ∧ ∀ b, b < w.heap.size → col2 b = col b := by
  obtain ⟨col2, h1, h2⟩ := h.m.layL hml h.pd x
  exact ⟨col2, h.go (by decide) (by decide) x (by decide) (by decide) h1 h2⟩
theorem VM.layT {xs : List ETemp} (h : VM P_et 9 6 w0 H0 col0 bc cs0 w w' H col cs V v' xs) (hml : V.marks.length ≤ 16384) (x : Wr w' w3 bc (spl cs 27017 [v'])) : ∃ col2, VT w0 H0 col0 bc cs0 w3 H col2 (spl cs 27017 [v']) { V with temps := xs } ∧ ∀ b, b < w.heap.size → col2 b = col b := by
  obtain ⟨col2, h1, h2⟩ := h.m.layT hml h.pd x
  exact ⟨col2, h.go (by decide) (by decide) x (by decide) (by decide) h1 h2⟩
/-- a write inside the vault -/
theorem VT.wr {H0 : Store} (h : VT w0 H0 col0 bc cs0 w H col cs V) {b : Nat} {c' : Array Value} (x : Wr w w' b c') (hb : 0 < col b ∧ col b < 8) {cs' : Array Value} {V' : EV} (hv : VL w' H col bc cs' V') (ho : Out cs cs' 2435 24584) : VT w0 H0 col0 bc cs0 w' H col cs' V' :=
  ⟨hv, h.out.trans ho, ⟨h.go.ch.cc x.ch (fun q hq => by
    by_cases hlt : q < w0.heap.size
    · left; rw [← h.col q hlt, hq]; exact hb
    · right; omega), hv.fz, h.go.le, h.go.new⟩, h.col⟩
theorem VT.stA {H0 : Store} (h : VT w0 H0 col0 bc cs0 w H col cs V) (hml : V.marks.length ≤ 16384) {p o : Nat} {q : Int} (hp : p < 4096) (e : o = 2437 + p) (x : Wr w w' bc (spl cs o [.int .i32 q])) : VT w0 H0 col0 bc cs0 w' H col (spl cs o [.int .i32 q]) { V with atb := updT V.atb p q } := h.wr x (by rw [h.vl.colC]; decide) (h.vl.stA hml hp e x) ((Out.refl _ _ _).put (by omega) (by omega))
theorem VT.stS {H0 : Store} (h : VT w0 H0 col0 bc cs0 w H col cs V) (hml : V.marks.length ≤ 16384) {p o : Nat} {q : Int} (hp : p < 4096) (e : o = 6533 + p) (x : Wr w w' bc (spl cs o [.int .i32 q])) : VT w0 H0 col0 bc cs0 w' H col (spl cs o [.int .i32 q]) { V with stb := updT V.stb p q } := h.wr x (by rw [h.vl.colC]; decide) (h.vl.stS hml hp e x) ((Out.refl _ _ _).put (by omega) (by omega))
theorem VT.stRef {H0 : Store} (h : VT w0 H0 col0 bc cs0 w H col cs V) (hml : V.marks.length ≤ 16384) {n : Nat} (x : Wr w w' bc (spl cs 27015 [.int .u64 (n : Nat)])) : VT w0 H0 col0 bc cs0 w' H col (spl cs 27015 [.int .u64 (n : Nat)]) { V with ref := n } := h.wr x (by rw [h.vl.colC]; decide) (h.vl.stRef hml x) ((Out.refl _ _ _).put (by omega) (by omega))
theorem VT.setA {H0 : Store} {i : Nat} {x y : EAcct} {b : Nat} {c : Array Value} {cap : Nat} {vc vc' : Value} {j : Nat} {vs : List Value} {o : Nat} (h : VT w0 H0 col0 bc cs0 w H col cs V) (hA : AAt w H col cs V i x b c cap vc) (e : o = i * 29 + j) (hw : Wr w w' b (spl c o vs)) (hj : (eaC x vc).take j ++ vs ++ (eaC x vc).drop (j + vs.length) = eaC y vc') (hl : j + vs.length ≤ 29) (hc : BV H vc' y.code) (hy : y.Ok) : VT w0 H0 col0 bc cs0 w' H col cs { V with accts := V.accts.set i y } := by
  subst e
  have hz : i * 29 + 29 ≤ c.size := by
    have h1 := hA.sz
    have h2 := hA.lt
    have h3 := hA.le
    have := Nat.mul_le_mul_right 29 (show i + 1 ≤ cap by omega)
    omega
  exact h.wr hw (by rw [hA.col]; decide) (h.vl.setA hA hw (Out.spl (by omega) (by omega) (by omega)) (hw.blk.rputm hA.row j (by omega) hj (by rw [eaC_len]; omega)) hc hy) (Out.refl _ _ _)
theorem VT.setS {H0 : Store} {i : Nat} {x y : ESlot} {b : Nat} {c : Array Value} {cap : Nat} {j : Nat} {vs : List Value} {o : Nat} (h : VT w0 H0 col0 bc cs0 w H col cs V) (hA : SAt w H col cs V i x b c cap) (e : o = i * 14 + j) (hw : Wr w w' b (spl c o vs)) (hj : (esC x).take j ++ vs ++ (esC x).drop (j + vs.length) = esC y) (hl : j + vs.length ≤ 14) (hy : y.Ok) : VT w0 H0 col0 bc cs0 w' H col cs { V with slots := V.slots.set i y } := by
  subst e
  have hz : i * 14 + 14 ≤ c.size := by
    have h1 := hA.sz
    have h2 := hA.lt
    have h3 := hA.le
    have := Nat.mul_le_mul_right 14 (show i + 1 ≤ cap by omega)
    omega
  exact h.wr hw (by rw [hA.col]; decide) (h.vl.setS hA hw (Out.spl (by omega) (by omega) (by omega)) (hw.blk.rputm hA.row j (by omega) hj (by rw [esC_len]; omega)) hy) (Out.refl _ _ _)
theorem VT.setT {H0 : Store} {i : Nat} {x y : ETemp} {b : Nat} {c : Array Value} {cap : Nat} {j : Nat} {vs : List Value} {o : Nat} (h : VT w0 H0 col0 bc cs0 w H col cs V) (hA : TAt w H col cs V i x b c cap) (e : o = i * 9 + j) (hw : Wr w w' b (spl c o vs)) (hj : (etC x).take j ++ vs ++ (etC x).drop (j + vs.length) = etC y) (hl : j + vs.length ≤ 9) (hy : y.Ok) : VT w0 H0 col0 bc cs0 w' H col cs { V with temps := V.temps.set i y } := by
  subst e
  have hz : i * 9 + 9 ≤ c.size := by
    have h1 := hA.sz
    have h2 := hA.lt
    have h3 := hA.le
    have := Nat.mul_le_mul_right 9 (show i + 1 ≤ cap by omega)
    omega
  exact h.wr hw (by rw [hA.col]; decide) (h.vl.setT hA hw (Out.spl (by omega) (by omega) (by omega)) (hw.blk.rputm hA.row j (by omega) hj (by rw [etC_len]; omega)) hy) (Out.refl _ _ _)
end
theorem ea_take {a : EAcct} {vc : Value} (j : Nat) : (eaC a vc).take (20 + j) = bL (be 20 a.addr) ++ (.int .u64 (a.nonce : Nat) :: (wL a.bal ++ [vc, .bool a.warm, .bool a.made, .bool a.gone]) : List Value).take j := by
  unfold eaC
  rw [List.take_append, length_bL, length_be, Nat.add_sub_cancel_left, List.take_of_length_le (by rw [length_bL, length_be]; omega)]
theorem ea_bal {x : EAcct} {vc : Value} {v : Nat} : (eaC x vc).take 21 ++ wL v ++ (eaC x vc).drop (21 + (wL v).length) = eaC { x with bal := v } vc := by
  rw [ea_take 1, show 21 + (wL v).length = 20 + 5 from rfl, ea_drop 5]
  unfold eaC
  rw [List.append_assoc, List.append_assoc]
  rfl
theorem ea_nonce {x : EAcct} {vc : Value} {v : Nat} : (eaC x vc).take 20 ++ [Value.int .u64 (v : Nat)] ++ (eaC x vc).drop (20 + [Value.int .u64 (v : Nat)].length) = eaC { x with nonce := v } vc := by
  rw [ea_take 0, show 20 + [Value.int .u64 (v : Nat)].length = 20 + 1 from rfl, ea_drop 1]
  unfold eaC
  rw [List.append_assoc, List.append_assoc]
  rfl
theorem ea_code {x : EAcct} {vc vd : Value} {l : List Nat} : (eaC x vc).take 25 ++ [vd] ++ (eaC x vc).drop (25 + [vd].length) = eaC { x with code := l } vd := by
  rw [ea_take 5, show 25 + [vd].length = 20 + 6 from rfl, ea_drop 6]
  unfold eaC
  rw [List.append_assoc, List.append_assoc]
  rfl
theorem ea_warm {x : EAcct} {vc : Value} {v : Bool} : (eaC x vc).take 26 ++ [Value.bool v] ++ (eaC x vc).drop (26 + [Value.bool v].length) = eaC { x with warm := v } vc := by
  rw [ea_take 6, show 26 + [Value.bool v].length = 20 + 7 from rfl, ea_drop 7]
  unfold eaC
  rw [List.append_assoc, List.append_assoc]
  rfl
theorem ea_made {x : EAcct} {vc : Value} {v : Bool} : (eaC x vc).take 27 ++ [Value.bool v] ++ (eaC x vc).drop (27 + [Value.bool v].length) = eaC { x with made := v } vc := by
  rw [ea_take 7, show 27 + [Value.bool v].length = 20 + 8 from rfl, ea_drop 8]
  unfold eaC
  rw [List.append_assoc, List.append_assoc]
  rfl
theorem ea_gone {x : EAcct} {vc : Value} {v : Bool} : (eaC x vc).take 28 ++ [Value.bool v] ++ (eaC x vc).drop (28 + [Value.bool v].length) = eaC { x with gone := v } vc := by
  rw [ea_take 8, show 28 + [Value.bool v].length = 20 + 9 from rfl, ea_drop 9]
  unfold eaC
  rw [List.append_assoc, List.append_assoc]
  rfl
section
variable {n : Nat} {s : Nat → Value} {w : World} {d : Option Nat} {ty : TypeId} {pos : String} {af : Array Edge} {g : Option (Nat × Bool)}
theorem e_appT {α : Type} {P : Cp α} {w0 : World} {H0 H : Store} {col0 col : Nat → Nat} {bc c0 cell : Nat} {cs0 cs : Array Value} {V : EV} {xs : List α} {y : α} {x z_ : Operand} {T e k q by_ c : Nat} {z v : Value} {news : List Value} (hU : Hvaa.prog.underlying T = some (.slice e)) (hs : Sz e k) (hz : Zr e z) (hq : By e q) (hzs : z.cells.size = k) (hk : 0 < k)
    (hx : ev n s x = v) (hT : VT w0 H0 col0 bc cs0 w H col cs V) (hpt : Part P k cell c0 w H col cs xs) (hcl : cs[cell]? = some v) (h0 : c0 ≠ 0) (h1 : c0 ≠ 1) (hy : ev n s z_ = .slice (some ⟨by_, 0, none⟩) 1 c) (hr : Blk w by_ news.toArray) (hl : news.length = k) (hone : ∀ u ∈ news, u.one1 = true) (hP : P H news y) (hq2 : q ≤ 4096) (hn : xs.length + 1 ≤ 4294967296) :
    Eff n s w ⟨d, .call { callee := .builtin .append, args := #[x, z_], argTypes := #[T, T] }, ty, pos, af, g⟩ (fun v' w' => VM P k c0 w0 H0 col0 bc cs0 w w' H col cs V v' (xs ++ [y]) ∧ Ch (fun b => col b = c0) w w') :=
  (e_appV (m := 0) hU hs hz hq hzs hk hx hT.vl hpt hcl h0 h1 hy hr hl hone hP hq2 hn).mono fun v' w' ⟨a, b, c, d⟩ => ⟨⟨hT, a, b, c, d⟩, c⟩
end
theorem mA_no {V : EV} {a : Nat} (h : ∀ k, k < V.accts.length → ¬ mA V a k) : ¬ hasA V a := fun ha => by
  obtain ⟨x, h1, h2⟩ := hasA_ix ha
  exact h _ (hasA_lt ha) ⟨x, h1, h2⟩
theorem mS_no {V : EV} {q k : Nat} (h : ∀ i, i < V.slots.length → ¬ mS V q k i) : (q, k) ∉ sKs V.slots := fun ha => by
  obtain ⟨x, h1, h2, h3⟩ := sKs_get.1 (idx_get ha)
  exact h _ (List.getElem?_eq_some_iff.1 h1).1 ⟨x, h1, h2, h3⟩
theorem mT_no {V : EV} {q k : Nat} (h : ∀ i, i < V.temps.length → ¬ mT V q k i) : (q, k) ∉ tKs V.temps := fun ha => by
  obtain ⟨x, h1, h2, h3⟩ := tKs_get.1 (idx_get ha)
  exact h _ (List.getElem?_eq_some_iff.1 h1).1 ⟨x, h1, h2, h3⟩
theorem one_eaC {a : EAcct} {va : Option Addr} {n c : Nat} : ∀ u ∈ eaC a (.slice va n c), u.one1 = true := by
  intro u hu
  unfold eaC at hu
  rcases List.mem_append.1 hu with hu | hu
  · exact one_bL _ u hu
  · simp [wL, uL] at hu
    rcases hu with rfl | rfl | rfl | rfl | rfl | rfl | rfl | rfl | rfl <;> rfl
theorem one_esC {x : ESlot} : ∀ u ∈ esC x, u.one1 = true := by
  intro u hu
  simp [esC, wL, uL] at hu
  rcases hu with rfl | rfl | rfl | rfl | rfl | rfl | rfl | rfl | rfl | rfl | rfl | rfl | rfl | rfl <;> rfl
theorem one_etC {x : ETemp} : ∀ u ∈ etC x, u.one1 = true := by
  intro u hu
  simp [etC, wL, uL] at hu
  rcases hu with rfl | rfl | rfl | rfl | rfl | rfl | rfl | rfl | rfl <;> rfl
theorem one_eeC {e : EEnt} {va : Option Addr} {n c : Nat} : ∀ u ∈ eeC e (.slice va n c), u.one1 = true := by
  intro u hu
  simp [eeC, wL, uL] at hu
  rcases hu with rfl | rfl | rfl | rfl | rfl | rfl | rfl | rfl | rfl <;> rfl
end Go.Proofs.YgvaawGreat
