import Derived.Test.YgvaawGreatZ34
import Derived.Test.YgvaawGreatY40
set_option maxRecDepth 100000
set_option maxHeartbeats 4000000
set_option linter.unusedSimpArgs false
set_option linter.unusedVariables false
namespace Go.Proofs.YgvaawGreat
open Go
theorem bld_mcall {st : Bool} {B C D : List Value} {a : Option Addr} {m c gz : Nat} (hB : B.length = 20) (hC : C.length = 20) (hD : D.length = 4) (w : World) : (Instr.build 71 ([(0, Value.int .u8 2), (3, Value.bool st), (9, Value.agg B.toArray), (10, Value.agg C.toArray)] : List (Nat × Value)).toArray).run Hvaa.prog w = .ok (Value.agg ([Value.int .u8 ((2 : Nat) : Int), Value.int .u8 ((0 : Nat) : Int), Value.int .u8 ((0 : Nat) : Int), Value.bool st, Value.int .u16 ((0 : Nat) : Int), Value.int .u16 ((0 : Nat) : Int), Value.int .u16 ((0 : Nat) : Int), Value.int .u64 ((0 : Nat) : Int), Value.int .i32 ((0 : Nat) : Int)] ++ (B ++ (C ++ ([Value.int .u64 0, Value.int .u64 0, Value.int .u64 0, Value.int .u64 0] ++ ([Value.slice none 0 0, Value.slice none 0 0] ++ ([Value.int .u64 0, Value.int .u64 0, Value.int .u64 0, Value.int .u64 0, Value.int .u64 0, Value.int .u64 0, Value.int .u64 0, Value.int .u64 0] ++ [Value.int .u32 ((0 : Nat) : Int), Value.int .u32 ((0 : Nat) : Int)])))))).toArray) w := by
  have h : (Instr.build 71 ([(0, Value.int .u8 2), (3, Value.bool st), (9, Value.agg B.toArray), (10, Value.agg C.toArray)] : List (Nat × Value)).toArray).run Hvaa.prog w = .ok (Value.agg ([([Value.int .u8 2]), [Value.int .u8 0], [Value.int .u8 0], ([Value.bool st]), [Value.int .u16 0], [Value.int .u16 0], [Value.int .u16 0], [Value.int .u64 0], [Value.int .i32 0], (B), (C), (List.replicate 4 (Value.int .u64 0)), [Value.slice none 0 0], [Value.slice none 0 0], (List.replicate 8 (Value.int .u64 0)), [Value.int .u32 0], [Value.int .u32 0]] : List (List Value)).flatten.toArray) w := bld_run zr_71 plc_71 (fill_flat (off := 0) (k := 1) (f := [Value.int .u8 0]) (c := [Value.int .u8 2]) (v := Value.int .u8 2) rfl rfl (by first | rfl | (simp [hB, hC, hD]; done)) (by first | rfl | (simp [hB, hC, hD]; done)) rfl (by first | rfl | (simp [hB, hC, hD]; done)) (fill_flat (off := 3) (k := 1) (f := [Value.bool false]) (c := [Value.bool st]) (v := Value.bool st) rfl rfl (by first | rfl | (simp [hB, hC, hD]; done)) (by first | rfl | (simp [hB, hC, hD]; done)) rfl (by first | rfl | (simp [hB, hC, hD]; done)) (fill_flat (off := 9) (k := 20) (f := (List.replicate 20 (Value.int .u8 0))) (c := B) (v := Value.agg B.toArray) rfl rfl (by first | rfl | (simp [hB, hC, hD]; done)) (by first | rfl | (simp [hB, hC, hD]; done)) rfl (by first | rfl | (simp [hB, hC, hD]; done)) (fill_flat (off := 29) (k := 20) (f := (List.replicate 20 (Value.int .u8 0))) (c := C) (v := Value.agg C.toArray) rfl rfl (by first | rfl | (simp [hB, hC, hD]; done)) (by first | rfl | (simp [hB, hC, hD]; done)) rfl (by first | rfl | (simp [hB, hC, hD]; done)) (fill_nil _ _))))) w
  rw [h]
  congr 2
theorem bld_mcreate {st : Bool} {B C D : List Value} {a : Option Addr} {m c gz : Nat} (hB : B.length = 20) (hC : C.length = 20) (hD : D.length = 4) (w : World) : (Instr.build 71 ([(0, Value.int .u8 5), (10, Value.agg C.toArray), (11, Value.agg D.toArray), (12, Value.slice a m c), (9, Value.agg B.toArray)] : List (Nat × Value)).toArray).run Hvaa.prog w = .ok (Value.agg ([Value.int .u8 ((5 : Nat) : Int), Value.int .u8 ((0 : Nat) : Int), Value.int .u8 ((0 : Nat) : Int), Value.bool false, Value.int .u16 ((0 : Nat) : Int), Value.int .u16 ((0 : Nat) : Int), Value.int .u16 ((0 : Nat) : Int), Value.int .u64 ((0 : Nat) : Int), Value.int .i32 ((0 : Nat) : Int)] ++ (B ++ (C ++ (D ++ ([Value.slice a m c, Value.slice none 0 0] ++ ([Value.int .u64 0, Value.int .u64 0, Value.int .u64 0, Value.int .u64 0, Value.int .u64 0, Value.int .u64 0, Value.int .u64 0, Value.int .u64 0] ++ [Value.int .u32 ((0 : Nat) : Int), Value.int .u32 ((0 : Nat) : Int)])))))).toArray) w := by
  have h : (Instr.build 71 ([(0, Value.int .u8 5), (10, Value.agg C.toArray), (11, Value.agg D.toArray), (12, Value.slice a m c), (9, Value.agg B.toArray)] : List (Nat × Value)).toArray).run Hvaa.prog w = .ok (Value.agg ([([Value.int .u8 5]), [Value.int .u8 0], [Value.int .u8 0], [Value.bool false], [Value.int .u16 0], [Value.int .u16 0], [Value.int .u16 0], [Value.int .u64 0], [Value.int .i32 0], (B), (C), (D), ([Value.slice a m c]), [Value.slice none 0 0], (List.replicate 8 (Value.int .u64 0)), [Value.int .u32 0], [Value.int .u32 0]] : List (List Value)).flatten.toArray) w := bld_run zr_71 plc_71 (fill_flat (off := 0) (k := 1) (f := [Value.int .u8 0]) (c := [Value.int .u8 5]) (v := Value.int .u8 5) rfl rfl (by first | rfl | (simp [hB, hC, hD]; done)) (by first | rfl | (simp [hB, hC, hD]; done)) rfl (by first | rfl | (simp [hB, hC, hD]; done)) (fill_flat (off := 29) (k := 20) (f := (List.replicate 20 (Value.int .u8 0))) (c := C) (v := Value.agg C.toArray) rfl rfl (by first | rfl | (simp [hB, hC, hD]; done)) (by first | rfl | (simp [hB, hC, hD]; done)) rfl (by first | rfl | (simp [hB, hC, hD]; done)) (fill_flat (off := 49) (k := 4) (f := (List.replicate 4 (Value.int .u64 0))) (c := D) (v := Value.agg D.toArray) rfl rfl (by first | rfl | (simp [hB, hC, hD]; done)) (by first | rfl | (simp [hB, hC, hD]; done)) rfl (by first | rfl | (simp [hB, hC, hD]; done)) (fill_flat (off := 53) (k := 1) (f := [Value.slice none 0 0]) (c := [Value.slice a m c]) (v := Value.slice a m c) rfl rfl (by first | rfl | (simp [hB, hC, hD]; done)) (by first | rfl | (simp [hB, hC, hD]; done)) rfl (by first | rfl | (simp [hB, hC, hD]; done)) (fill_flat (off := 9) (k := 20) (f := (List.replicate 20 (Value.int .u8 0))) (c := B) (v := Value.agg B.toArray) rfl rfl (by first | rfl | (simp [hB, hC, hD]; done)) (by first | rfl | (simp [hB, hC, hD]; done)) rfl (by first | rfl | (simp [hB, hC, hD]; done)) (fill_nil _ _)))))) w
  rw [h]
  congr 2
theorem bld_mopen {st : Bool} {B C D : List Value} {a : Option Addr} {m c gz : Nat} (hB : B.length = 20) (hC : C.length = 20) (hD : D.length = 4) (w : World) : (Instr.build 71 ([(0, Value.int .u8 0), (7, Value.int .u64 (gz : Nat)), (9, Value.agg B.toArray), (10, Value.agg C.toArray), (11, Value.agg D.toArray)] : List (Nat × Value)).toArray).run Hvaa.prog w = .ok (Value.agg ([Value.int .u8 ((0 : Nat) : Int), Value.int .u8 ((0 : Nat) : Int), Value.int .u8 ((0 : Nat) : Int), Value.bool false, Value.int .u16 ((0 : Nat) : Int), Value.int .u16 ((0 : Nat) : Int), Value.int .u16 ((0 : Nat) : Int), Value.int .u64 ((gz : Nat) : Int), Value.int .i32 ((0 : Nat) : Int)] ++ (B ++ (C ++ (D ++ ([Value.slice none 0 0, Value.slice none 0 0] ++ ([Value.int .u64 0, Value.int .u64 0, Value.int .u64 0, Value.int .u64 0, Value.int .u64 0, Value.int .u64 0, Value.int .u64 0, Value.int .u64 0] ++ [Value.int .u32 ((0 : Nat) : Int), Value.int .u32 ((0 : Nat) : Int)])))))).toArray) w := by
  have h : (Instr.build 71 ([(0, Value.int .u8 0), (7, Value.int .u64 (gz : Nat)), (9, Value.agg B.toArray), (10, Value.agg C.toArray), (11, Value.agg D.toArray)] : List (Nat × Value)).toArray).run Hvaa.prog w = .ok (Value.agg ([([Value.int .u8 0]), [Value.int .u8 0], [Value.int .u8 0], [Value.bool false], [Value.int .u16 0], [Value.int .u16 0], [Value.int .u16 0], ([Value.int .u64 (gz : Nat)]), [Value.int .i32 0], (B), (C), (D), [Value.slice none 0 0], [Value.slice none 0 0], (List.replicate 8 (Value.int .u64 0)), [Value.int .u32 0], [Value.int .u32 0]] : List (List Value)).flatten.toArray) w := bld_run zr_71 plc_71 (fill_flat (off := 0) (k := 1) (f := [Value.int .u8 0]) (c := [Value.int .u8 0]) (v := Value.int .u8 0) rfl rfl (by first | rfl | (simp [hB, hC, hD]; done)) (by first | rfl | (simp [hB, hC, hD]; done)) rfl (by first | rfl | (simp [hB, hC, hD]; done)) (fill_flat (off := 7) (k := 1) (f := [Value.int .u64 0]) (c := [Value.int .u64 (gz : Nat)]) (v := Value.int .u64 (gz : Nat)) rfl rfl (by first | rfl | (simp [hB, hC, hD]; done)) (by first | rfl | (simp [hB, hC, hD]; done)) rfl (by first | rfl | (simp [hB, hC, hD]; done)) (fill_flat (off := 9) (k := 20) (f := (List.replicate 20 (Value.int .u8 0))) (c := B) (v := Value.agg B.toArray) rfl rfl (by first | rfl | (simp [hB, hC, hD]; done)) (by first | rfl | (simp [hB, hC, hD]; done)) rfl (by first | rfl | (simp [hB, hC, hD]; done)) (fill_flat (off := 29) (k := 20) (f := (List.replicate 20 (Value.int .u8 0))) (c := C) (v := Value.agg C.toArray) rfl rfl (by first | rfl | (simp [hB, hC, hD]; done)) (by first | rfl | (simp [hB, hC, hD]; done)) rfl (by first | rfl | (simp [hB, hC, hD]; done)) (fill_flat (off := 49) (k := 4) (f := (List.replicate 4 (Value.int .u64 0))) (c := D) (v := Value.agg D.toArray) rfl rfl (by first | rfl | (simp [hB, hC, hD]; done)) (by first | rfl | (simp [hB, hC, hD]; done)) rfl (by first | rfl | (simp [hB, hC, hD]; done)) (fill_nil _ _)))))) w
  rw [h]
  congr 2
theorem fc_call {st : Bool} {a b : Nat} : fcv (cFr 2 st 0 a b 0 0 [] []) (Value.slice none 0 0) (Value.slice none 0 0) 0 0 0 (List.replicate 8 0) = [Value.int .u8 ((2 : Nat) : Int), Value.int .u8 ((0 : Nat) : Int), Value.int .u8 ((0 : Nat) : Int), Value.bool st, Value.int .u16 ((0 : Nat) : Int), Value.int .u16 ((0 : Nat) : Int), Value.int .u16 ((0 : Nat) : Int), Value.int .u64 ((0 : Nat) : Int), Value.int .i32 ((0 : Nat) : Int)] ++ (bL (be 20 a) ++ (bL (be 20 b) ++ ([Value.int .u64 0, Value.int .u64 0, Value.int .u64 0, Value.int .u64 0] ++ ([Value.slice none 0 0, Value.slice none 0 0] ++ ([Value.int .u64 0, Value.int .u64 0, Value.int .u64 0, Value.int .u64 0, Value.int .u64 0, Value.int .u64 0, Value.int .u64 0, Value.int .u64 0] ++ [Value.int .u32 ((0 : Nat) : Int), Value.int .u32 ((0 : Nat) : Int)]))))) := by
  have e1 : uL (List.replicate 8 0) = [Value.int .u64 0, Value.int .u64 0, Value.int .u64 0, Value.int .u64 0, Value.int .u64 0, Value.int .u64 0, Value.int .u64 0, Value.int .u64 0] := rfl
  have e2 : wL 0 = [Value.int .u64 0, Value.int .u64 0, Value.int .u64 0, Value.int .u64 0] := rfl
  unfold fcv
  rw [e1]
  show _ ++ (_ ++ (_ ++ (wL 0 ++ _))) = _
  rw [e2]
  rfl
theorem fc_crea {a b v m c : Nat} {ca : Option Addr} : fcv (cFr 5 false v a b 0 0 [] []) (Value.slice ca m c) (Value.slice none 0 0) 0 0 0 (List.replicate 8 0) = [Value.int .u8 ((5 : Nat) : Int), Value.int .u8 ((0 : Nat) : Int), Value.int .u8 ((0 : Nat) : Int), Value.bool false, Value.int .u16 ((0 : Nat) : Int), Value.int .u16 ((0 : Nat) : Int), Value.int .u16 ((0 : Nat) : Int), Value.int .u64 ((0 : Nat) : Int), Value.int .i32 ((0 : Nat) : Int)] ++ (bL (be 20 a) ++ (bL (be 20 b) ++ (wL v ++ ([Value.slice ca m c, Value.slice none 0 0] ++ ([Value.int .u64 0, Value.int .u64 0, Value.int .u64 0, Value.int .u64 0, Value.int .u64 0, Value.int .u64 0, Value.int .u64 0, Value.int .u64 0] ++ [Value.int .u32 ((0 : Nat) : Int), Value.int .u32 ((0 : Nat) : Int)]))))) := by
  have e1 : uL (List.replicate 8 0) = [Value.int .u64 0, Value.int .u64 0, Value.int .u64 0, Value.int .u64 0, Value.int .u64 0, Value.int .u64 0, Value.int .u64 0, Value.int .u64 0] := rfl
  have e2 : wL 0 = [Value.int .u64 0, Value.int .u64 0, Value.int .u64 0, Value.int .u64 0] := rfl
  unfold fcv
  rw [e1]
  rfl
theorem fc_open {a b v gz : Nat} : fcv (cFr 0 false v a b gz 0 [] []) (Value.slice none 0 0) (Value.slice none 0 0) 0 0 0 (List.replicate 8 0) = [Value.int .u8 ((0 : Nat) : Int), Value.int .u8 ((0 : Nat) : Int), Value.int .u8 ((0 : Nat) : Int), Value.bool false, Value.int .u16 ((0 : Nat) : Int), Value.int .u16 ((0 : Nat) : Int), Value.int .u16 ((0 : Nat) : Int), Value.int .u64 ((gz : Nat) : Int), Value.int .i32 ((0 : Nat) : Int)] ++ (bL (be 20 a) ++ (bL (be 20 b) ++ (wL v ++ ([Value.slice none 0 0, Value.slice none 0 0] ++ ([Value.int .u64 0, Value.int .u64 0, Value.int .u64 0, Value.int .u64 0, Value.int .u64 0, Value.int .u64 0, Value.int .u64 0, Value.int .u64 0] ++ [Value.int .u32 ((0 : Nat) : Int), Value.int .u32 ((0 : Nat) : Int)]))))) := by
  have e1 : uL (List.replicate 8 0) = [Value.int .u64 0, Value.int .u64 0, Value.int .u64 0, Value.int .u64 0, Value.int .u64 0, Value.int .u64 0, Value.int .u64 0, Value.int .u64 0] := rfl
  have e2 : wL 0 = [Value.int .u64 0, Value.int .u64 0, Value.int .u64 0, Value.int .u64 0] := rfl
  unfold fcv
  rw [e1]
  rfl
section
variable {S : World → Prop} {n : Nat} {s : Nat → Value} {d : Option Nat} {ty : TypeId} {pos : String} {af : Array Edge} {g : Option (Nat × Bool)}
theorem y_bldMC {x3 x9 x10 : Operand} {st : Bool} {a b : Nat} (h3 : ev n s x3 = Value.bool st) (h9 : ev n s x9 = aV a) (h10 : ev n s x10 = aV b) : Yv S n s ⟨d, .build 71 #[(0, .const (Value.int .u8 2)), (3, x3), (9, x9), (10, x10)], ty, pos, af, g⟩ (Value.agg (fcv (cFr 2 st 0 a b 0 0 [] []) (Value.slice none 0 0) (Value.slice none 0 0) 0 0 0 (List.replicate 8 0)).toArray) := by
  rw [fc_call]
  exact y_bld (ps := [(0, .const (Value.int .u8 2)), (3, x3), (9, x9), (10, x10)]) (bC rfl (bC h3 (bC h9 (bC h10 bN)))) (bld_mcall (B := bL (be 20 a)) (C := bL (be 20 b)) (D := bL (be 4 0)) (a := none) (m := 0) (c := 0) (gz := 0) (by rw [length_bL, length_be]) (by rw [length_bL, length_be]) (by rw [length_bL, length_be]))
theorem y_bldMN {x9 x10 x11 x12 : Operand} {a b v m c : Nat} {ca : Option Addr} (h10 : ev n s x10 = aV b) (h11 : ev n s x11 = wV v) (h12 : ev n s x12 = Value.slice ca m c) (h9 : ev n s x9 = aV a) : Yv S n s ⟨d, .build 71 #[(0, .const (Value.int .u8 5)), (10, x10), (11, x11), (12, x12), (9, x9)], ty, pos, af, g⟩ (Value.agg (fcv (cFr 5 false v a b 0 0 [] []) (Value.slice ca m c) (Value.slice none 0 0) 0 0 0 (List.replicate 8 0)).toArray) := by
  rw [fc_crea]
  exact y_bld (ps := [(0, .const (Value.int .u8 5)), (10, x10), (11, x11), (12, x12), (9, x9)]) (bC rfl (bC h10 (bC h11 (bC h12 (bC h9 bN))))) (bld_mcreate (st := false) (gz := 0) (B := bL (be 20 a)) (C := bL (be 20 b)) (D := wL v) (by rw [length_bL, length_be]) (by rw [length_bL, length_be]) (wL_len v))
theorem y_bldMO {x7 x9 x10 x11 : Operand} {a b v gz : Nat} (h7 : ev n s x7 = Value.int .u64 (gz : Nat)) (h9 : ev n s x9 = aV a) (h10 : ev n s x10 = aV b) (h11 : ev n s x11 = wV v) : Yv S n s ⟨d, .build 71 #[(0, .const (Value.int .u8 0)), (7, x7), (9, x9), (10, x10), (11, x11)], ty, pos, af, g⟩ (Value.agg (fcv (cFr 0 false v a b gz 0 [] []) (Value.slice none 0 0) (Value.slice none 0 0) 0 0 0 (List.replicate 8 0)).toArray) := by
  rw [fc_open]
  exact y_bld (ps := [(0, .const (Value.int .u8 0)), (7, x7), (9, x9), (10, x10), (11, x11)]) (bC rfl (bC h7 (bC h9 (bC h10 (bC h11 bN))))) (bld_mopen (st := false) (a := none) (m := 0) (c := 0) (B := bL (be 20 a)) (C := bL (be 20 b)) (D := wL v) (by rw [length_bL, length_be]) (by rw [length_bL, length_be]) (wL_len v))
end
section
variable {u : YF} {vc vi : Value} {dp sb n : Nat} {ds : List Nat}
theorem fcv_kd (q : Nat) : spl (fcv u vc vi dp sb n ds).toArray 0 [Value.int .u8 (q : Nat)] = (fcv { u with kind := q } vc vi dp sb n ds).toArray := spl_mid [] _ _ _ 0 rfl
theorem fcv_nt (q : Nat) : spl (fcv u vc vi dp sb n ds).toArray 2 [Value.int .u8 (q : Nat)] = (fcv { u with ntv := q } vc vi dp sb n ds).toArray := spl_mid [_, _] _ _ _ 2 rfl
theorem fcv_st (q : Bool) : spl (fcv u vc vi dp sb n ds).toArray 3 [Value.bool q] = (fcv { u with static := q } vc vi dp sb n ds).toArray := spl_mid [_, _, _] _ _ _ 3 rfl
theorem fcv_gs (q : Nat) : spl (fcv u vc vi dp sb n ds).toArray 7 [Value.int .u64 (q : Nat)] = (fcv { u with gas := q } vc vi dp sb n ds).toArray := spl_mid [_, _, _, _, _, _, _] _ _ _ 7 rfl
theorem fcv_se (q : Nat) : spl (fcv u vc vi dp sb n ds).toArray 9 (bL (be 20 q)) = (fcv { u with self := q } vc vi dp sb n ds).toArray := by
  have h := spl_app (A := [Value.int .u8 (u.kind : Nat), Value.int .u8 (dp : Nat), Value.int .u8 (u.ntv : Nat), Value.bool u.static, Value.int .u16 (u.pc : Nat), Value.int .u16 (sb : Nat), Value.int .u16 (u.stack.length : Nat), Value.int .u64 (u.gas : Nat), Value.int .i32 (n : Nat)]) (M := bL (be 20 u.self)) (C := bL (be 20 u.caller) ++ (wL u.value ++ ([vc, vi] ++ (uL ds ++ [Value.int .u32 (u.outOff : Nat), Value.int .u32 (u.outLen : Nat)])))) (Q := bL (be 20 q)) (by rw [length_bL, length_bL, length_be, length_be])
  rw [List.append_assoc, List.append_assoc] at h
  exact h
theorem fcv_ca (q : Nat) : spl (fcv u vc vi dp sb n ds).toArray 29 (bL (be 20 q)) = (fcv { u with caller := q } vc vi dp sb n ds).toArray := by
  have h := spl_app (A := [Value.int .u8 (u.kind : Nat), Value.int .u8 (dp : Nat), Value.int .u8 (u.ntv : Nat), Value.bool u.static, Value.int .u16 (u.pc : Nat), Value.int .u16 (sb : Nat), Value.int .u16 (u.stack.length : Nat), Value.int .u64 (u.gas : Nat), Value.int .i32 (n : Nat)] ++ bL (be 20 u.self)) (M := bL (be 20 u.caller)) (C := wL u.value ++ ([vc, vi] ++ (uL ds ++ [Value.int .u32 (u.outOff : Nat), Value.int .u32 (u.outLen : Nat)]))) (Q := bL (be 20 q)) (by rw [length_bL, length_bL, length_be, length_be])
  rw [List.length_append, length_bL, length_be] at h
  simp only [List.append_assoc] at h
  exact h
theorem fcv_va (q : Nat) : spl (fcv u vc vi dp sb n ds).toArray 49 (wL q) = (fcv { u with value := q } vc vi dp sb n ds).toArray := by
  have h := spl_app (A := [Value.int .u8 (u.kind : Nat), Value.int .u8 (dp : Nat), Value.int .u8 (u.ntv : Nat), Value.bool u.static, Value.int .u16 (u.pc : Nat), Value.int .u16 (sb : Nat), Value.int .u16 (u.stack.length : Nat), Value.int .u64 (u.gas : Nat), Value.int .i32 (n : Nat)] ++ (bL (be 20 u.self) ++ bL (be 20 u.caller))) (M := wL u.value) (C := [vc, vi] ++ (uL ds ++ [Value.int .u32 (u.outOff : Nat), Value.int .u32 (u.outLen : Nat)])) (Q := wL q) (by rw [wL_len, wL_len])
  rw [List.length_append, List.length_append, length_bL, length_be, length_bL, length_be] at h
  simp only [List.append_assoc] at h
  exact h
theorem fcv_co (q : Value) : spl (fcv u vc vi dp sb n ds).toArray 53 [q] = (fcv u q vi dp sb n ds).toArray := by
  have h := spl_mid ([Value.int .u8 (u.kind : Nat), Value.int .u8 (dp : Nat), Value.int .u8 (u.ntv : Nat), Value.bool u.static, Value.int .u16 (u.pc : Nat), Value.int .u16 (sb : Nat), Value.int .u16 (u.stack.length : Nat), Value.int .u64 (u.gas : Nat), Value.int .i32 (n : Nat)] ++ (bL (be 20 u.self) ++ (bL (be 20 u.caller) ++ wL u.value))) vc (vi :: (uL ds ++ [Value.int .u32 (u.outOff : Nat), Value.int .u32 (u.outLen : Nat)])) q 53 (by simp only [List.length_append, length_bL, length_be, wL_len, List.length_cons, List.length_nil])
  simp only [List.append_assoc] at h
  exact h
theorem fcv_in (q : Value) : spl (fcv u vc vi dp sb n ds).toArray 54 [q] = (fcv u vc q dp sb n ds).toArray := by
  have h := spl_mid ([Value.int .u8 (u.kind : Nat), Value.int .u8 (dp : Nat), Value.int .u8 (u.ntv : Nat), Value.bool u.static, Value.int .u16 (u.pc : Nat), Value.int .u16 (sb : Nat), Value.int .u16 (u.stack.length : Nat), Value.int .u64 (u.gas : Nat), Value.int .i32 (n : Nat)] ++ (bL (be 20 u.self) ++ (bL (be 20 u.caller) ++ (wL u.value ++ [vc])))) vi (uL ds ++ [Value.int .u32 (u.outOff : Nat), Value.int .u32 (u.outLen : Nat)]) q 54 (by simp only [List.length_append, length_bL, length_be, wL_len, List.length_cons, List.length_nil])
  simp only [List.append_assoc] at h
  exact h
end
theorem m_warmAcctM {w : World} {H : Store} {col : Nat → Nat} {bc : Nat} {cs : Array Value} {V : EV} {s : YSt} {sn : List Nat} {sv : List AW} {ms : List (List Nat)} {c : Nat} {low : List YF} {f : YF} (hE : EX w H col bc cs V s sn sv ms c) (hs : s.frames = low ++ [f]) (hp : s.phase = 1) (a : Nat) (ha : a < A160) {c' : Nat} (hap : s.applied ≤ 4) (hc1 : c' ≤ c) (hc2 : a ∉ s.now.warmA → c' + 2600 ≤ c) :
    Ret 294 [.pointer (some ⟨bc, 0, none⟩), aV a] w (fun v w' => v = .bool true ∧ ∃ col' cs' V', XT w H col w' H col' bc cs' V' { s with now := { s.now with warmA := withA s.now.warmA a } } sn sv ms c' ∧ V'.marks = V.marks) := by
  obtain ⟨n9, hn9, hR⟩ := hE.topF hs
  have hB := hE.fbT hs
  have h6 := hE.six hs
  have htop := hE.cTop hs
  have hphs := hE.cPh hp
  have hbp := hB.pc
  have hbs := hB.stk
  have hbg := hB.gas
  have hbc9 := hB.code
  have hnw := hE.vl.new
  have hfz := hE.vl.fz
  have hcC := hE.vl.colC
  have hbc0 := hE.vl.kC.lt
  have hX := XT.refl hE
  have hro := hE.room hap
  obtain ⟨na9, hna8, hna9⟩ := acR hro.a a
  refine enter (n := 19) Hvaa.func294 rfl rfl (Nat.le_of_ble_eq_true rfl) ?_
  have U : Ch (fun _ => True) w w := Ch.refl _ w
  refine c_seq (fun K1 hK1 => ?_)
  exact (by
    refine c_region ?_
    refine l_eff (e_boxV (et (gS rfl g0) rfl)) (fun v2 w2 h2 => ?_)
    obtain ⟨b2, rfl, n2⟩ := h2
    have f2 : w.heap.size ≤ b2 := Nat.le_trans U.size n2.fresh
    replace hX := hX.up n2.up
    replace U := U.tr n2.up
    have k2 := n2.blk
    replace k2 : Blk w2 b2 (bL (be 20 a)).toArray := k2
    have nc2 : col b2 = 0 := hnw _ f2
    refine l_step y_assignC ?_
    refine l_nil ?_
    refine hK1 _ _ ?_
    refine fg2 0 3 (gS rfl (gS rfl g0)) (gS rfl g0) (fun g => ?_)
    refine c_seq (fun K3 hK3 => ?_)
    exact (by
      refine c_draw (SX _ bc) 15 [(0, true), (1, true), (2, true), (3, true), (4, true), (5, false), (6, true), (7, true), (8, true), (9, true), (10, true), (11, true), (12, false), (13, true), (14, true)] (by kernel_rfl) (fun w4 hu => ⟨SX.refl (hX.up hu), ?_⟩)
      replace k2 := k2.up hu
      replace hX := hX.up hu
      replace U := U.tr hu
      have SU := SX.refl hX
      have cq := cq_refl hX
      have hX_s := hX
      have k2_s := k2
      refine p_step (by exact rfl) (y_moveV (et (gS rfl g0) rfl)) ?_
      refine p_step (by exact rfl) (y_nil (et g0 rfl)) ?_
      refine p_step (by exact rfl) (y_fld fld_75_0 (et g0 rfl)) ?_
      refine p_step (by exact rfl) (y_load1 one_59 (et g0 rfl) (atXP)) ?_
      refine p_step (by exact rfl) (y_loadB agg_25 sz_25 (et (gS rfl (gS rfl (gS rfl (gS rfl g0)))) rfl) (by rw [List.size_toArray, length_bL, length_be]) (atXB k2_s (by omega))) ?_
      refine p_eff (by exact rfl) (e_callV cal_172 (aC (et (gS rfl g0) rfl) (aC (et g0 rfl) aN)) (v_isWarmAcct hX.ex.vl hX.ex.ok _ (by first | exact Nat.mod_lt _ A160_pos | exact hB.self | exact hB.caller | assumption))) (fun v5 w5 h5 => ?_)
      obtain ⟨rfl, u5⟩ := h5
      replace k2 := k2.up u5
      replace hX := hX.up u5
      replace U := U.tr u5
      refine ⟨.inr (SU.tr u5), ?_⟩
      replace SU := SU.tr u5
      refine p_step (by exact rfl) (y_moveV (et g0 rfl)) ?_
      refine gsplitP (i := 11) g0 (fun q6 => ?_) (fun q6 => ?_)
      · skip
        rw [hX.ex.wa] at q6
        have hin9 := of_decide_eq_true q6
        refine p_gskip (j := 6) (t := 11) (by exact rfl) (by exact rfl) (by exact rfl) (et g0 rfl) rfl rfl ?_
        refine p_gskip (j := 6) (t := 11) (by exact rfl) (by exact rfl) (by exact rfl) (et (gS rfl g0) rfl) rfl rfl ?_
        refine p_gskip (j := 6) (t := 11) (by exact rfl) (by exact rfl) (by exact rfl) (et (gS rfl (gS rfl g0)) rfl) rfl rfl ?_
        refine p_gskip (j := 6) (t := 11) (by exact rfl) (by exact rfl) (by exact rfl) (et (gS rfl (gS rfl (gS rfl g0))) rfl) rfl rfl ?_
        refine p_gskip (j := 6) (t := 11) (by exact rfl) (by exact rfl) (by exact rfl) (et (gS rfl (gS rfl (gS rfl (gS rfl g0)))) rfl) rfl rfl ?_
        refine p_geskip (j := 6) (t := 11) (by exact rfl) (by exact rfl) (by exact rfl) (et (gS rfl (gS rfl (gS rfl (gS rfl (gS rfl g0))))) rfl) rfl rfl ⟨.inr SU, ?_⟩
        refine p_step (by exact rfl) (y_pickT (et (gS rfl (gS rfl (gS rfl (gS rfl (gS rfl (gS rfl g0)))))) rfl) rfl) ?_
        refine p_step (by exact rfl) (y_assignV (et g0 rfl)) ?_
        refine p_nil ?_
        refine hK3 _ _ ?_
        refine fg1 4 g0 (fun g => ?_)
        refine c_ret ?_
        repeat with_reducible refine then_ret ?_
        refine ret1 rfl (res_tmp (et g0 rfl)) ?_
        exact ⟨rfl, _, _, _, by rw [withA_in hin9]; exact hX.slack hc1, rfl⟩
      · skip
        rw [hX.ex.wa] at q6
        have hin9 := of_decide_eq_false q6
        have hc9 := hc2 hin9
        refine p_gstep (j := 6) (t := 11) (by exact rfl) (by exact rfl) (by exact rfl) (et g0 rfl) rfl (y_moveV (et (gS rfl (gS rfl (gS rfl (gS rfl (gS rfl (gS rfl (gS rfl (gS rfl (gS rfl g0))))))))) rfl)) ?_
        refine p_gstep (j := 6) (t := 11) (by exact rfl) (by exact rfl) (by exact rfl) (et (gS rfl g0) rfl) rfl (y_nil (et g0 rfl)) ?_
        refine p_gstep (j := 6) (t := 11) (by exact rfl) (by exact rfl) (by exact rfl) (et (gS rfl (gS rfl g0)) rfl) rfl (y_fld fld_75_0 (et g0 rfl)) ?_
        refine p_gstep (j := 6) (t := 11) (by exact rfl) (by exact rfl) (by exact rfl) (et (gS rfl (gS rfl (gS rfl g0))) rfl) rfl (y_load1 one_59 (et g0 rfl) (atXP)) ?_
        refine p_gstep (j := 6) (t := 11) (by exact rfl) (by exact rfl) (by exact rfl) (et (gS rfl (gS rfl (gS rfl (gS rfl g0)))) rfl) rfl (y_loadB agg_25 sz_25 (et (gS rfl (gS rfl (gS rfl (gS rfl (gS rfl (gS rfl (gS rfl (gS rfl (gS rfl (gS rfl (gS rfl (gS rfl g0)))))))))))) rfl) (by rw [List.size_toArray, length_bL, length_be]) (atXB k2_s (by omega))) ?_
        refine p_geff (j := 6) (t := 11) (by exact rfl) (by exact rfl) (by exact rfl) (et (gS rfl (gS rfl (gS rfl (gS rfl (gS rfl g0))))) rfl) rfl (e_callV cal_173 (aC (et (gS rfl g0) rfl) (aC (et g0 rfl) aN)) (v_warmAcct hX.ex.vl hX.ex.ok a ha na9 hna9 hro.j)) (fun v7 w7 h7 => ?_)
        obtain ⟨rfl, cl7, cs7, V7, t7, ok7, js7⟩ := h7
        replace k2 := k2.ch t7.go.ch (by intro hm; (have e0 := hm); omega)
        replace hX := hX.vt0 t7 ok7 js7 (ay_warmA s.now a) (fun _ => rfl) (c' := c') (by omega)
        replace U := U.cc t7.go.ch (by intro b hb; exact .inl trivial)
        have cq9 := SU.ch.size
        replace SU := SU.xc t7.go.ch (hX.ex.vl.c1 hX.ex.lx.pS rfl) (by intro b hlt hb; have h9 := cq b hlt; have e0 := hb; first | exact hb.elim | omega | (dsimp only at e0; omega))
        replace cq := cq_step cq t7.col cq9
        refine ⟨.inr SU, ?_⟩
        refine p_step (by exact rfl) (y_pickF (et (gS rfl (gS rfl (gS rfl (gS rfl (gS rfl (gS rfl g0)))))) rfl) (et g0 rfl)) ?_
        refine p_step (by exact rfl) (y_assignV (et g0 rfl)) ?_
        refine p_nil ?_
        refine hK3 _ _ ?_
        refine fg1 4 g0 (fun g => ?_)
        refine c_ret ?_
        repeat with_reducible refine then_ret ?_
        refine ret1 rfl (res_tmp (et g0 rfl)) ?_
        exact ⟨rfl, _, _, _, hX, js7.mr⟩))
end Go.Proofs.YgvaawGreat
