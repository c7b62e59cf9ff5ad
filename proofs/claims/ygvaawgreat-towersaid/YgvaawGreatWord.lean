import Derived.Test.YgvaawGreatNum4
set_option linter.unusedSimpArgs false
set_option linter.unusedVariables false
namespace Go.Proofs.YgvaawGreat
open Go
section
variable {S : World → Prop} {n : Nat} {s : Nat → Value} {d : Option Nat} {ty : TypeId} {pos : String} {af : Array Edge} {g : Option (Nat × Bool)}
theorem bN {n : Nat} {s : Nat → Value} : ([] : List (Nat × Operand)).map (fun p => (p.1, ev n s p.2)) = [] := rfl
theorem bC {n i : Nat} {s : Nat → Value} {x : Operand} {xs : List (Nat × Operand)} {v : Value} {vs : List (Nat × Value)} (h : ev n s x = v) (h2 : xs.map (fun p => (p.1, ev n s p.2)) = vs) : ((i, x) :: xs).map (fun p => (p.1, ev n s p.2)) = (i, v) :: vs := by
  rw [List.map_cons, h2]; simp only; rw [h]
theorem y_bld {T : Nat} {ps : List (Nat × Operand)} {vs : List (Nat × Value)} {v : Value} (hp : ps.map (fun p => (p.1, ev n s p.2)) = vs) (h : ∀ w, (Instr.build T vs.toArray).run Hvaa.prog w = .ok v w) : Yv S n s ⟨d, .build T ps.toArray, ty, pos, af, g⟩ v := fun w _ => by
  have e : (ps.toArray.map fun p => (p.1, ev n s p.2)) = vs.toArray := by rw [← hp]; simp
  simp [execOp, e, h w]
end
theorem bld65_4 (a b c d : Nat) (w : World) : (Instr.build 65 [(0, .int .u64 (a : Int)), (1, .int .u64 (b : Int)), (2, .int .u64 (c : Int)), (3, .int .u64 (d : Int))].toArray).run Hvaa.prog w = .ok (.agg (uL [a, b, c, d]).toArray) w := by kernel_rfl
theorem bld65_3 (a b c : Nat) (w : World) : (Instr.build 65 [(0, .int .u64 (a : Int)), (1, .int .u64 (b : Int)), (2, .int .u64 (c : Int))].toArray).run Hvaa.prog w = .ok (.agg (uL [a, b, c, 0]).toArray) w := by kernel_rfl
theorem bld65_1 (a : Nat) (w : World) : (Instr.build 65 [(0, .int .u64 (a : Int))].toArray).run Hvaa.prog w = .ok (.agg (uL [a, 0, 0, 0]).toArray) w := by kernel_rfl
theorem bld65_0 (w : World) : (Instr.build 65 [].toArray).run Hvaa.prog w = .ok (.agg (uL [0, 0, 0, 0]).toArray) w := by kernel_rfl
theorem bld68_4 (a b c d : Nat) (w : World) : (Instr.build 68 [(0, .int .u64 (a : Int)), (1, .int .u64 (b : Int)), (2, .int .u64 (c : Int)), (3, .int .u64 (d : Int))].toArray).run Hvaa.prog w = .ok (.agg (uL [a, b, c, d, 0, 0, 0, 0]).toArray) w := by kernel_rfl
theorem bld68_8 (a b c d e f g h : Nat) (w : World) : (Instr.build 68 [(0, .int .u64 (a : Int)), (1, .int .u64 (b : Int)), (2, .int .u64 (c : Int)), (3, .int .u64 (d : Int)), (4, .int .u64 (e : Int)), (5, .int .u64 (f : Int)), (6, .int .u64 (g : Int)), (7, .int .u64 (h : Int))].toArray).run Hvaa.prog w = .ok (.agg (uL [a, b, c, d, e, f, g, h]).toArray) w := by kernel_rfl
/-! limbs -/
def W256 : Nat := 115792089237316195423570985008687907853269984665640564039457584007913129639936
theorem W256_eq : W256 = 115792089237316195423570985008687907853269984665640564039457584007913129639936 := rfl
theorem limb0 (n : Nat) : limb n 0 = n % 18446744073709551616 := by simp [limb]
theorem limb1 (n : Nat) : limb n 1 = n / 18446744073709551616 % 18446744073709551616 := by simp [limb]
theorem limb2 (n : Nat) : limb n 2 = n / 340282366920938463463374607431768211456 % 18446744073709551616 := by simp [limb]
theorem limb3 (n : Nat) : limb n 3 = n / 6277101735386680763835789423207666416102355444464034512896 % 18446744073709551616 := by simp [limb]
/-- a word out of its limbs -/
def ofL (a b c d : Nat) : Nat := a + b * 18446744073709551616 + c * 340282366920938463463374607431768211456 + d * 6277101735386680763835789423207666416102355444464034512896
theorem ofL_limb (n : Nat) (h : n < W256) : ofL (limb n 0) (limb n 1) (limb n 2) (limb n 3) = n := by
  rw [limb0, limb1, limb2, limb3]; unfold ofL; unfold W256 at h; omega
theorem wL_ofL (a b c d : Nat) (ha : a < 18446744073709551616) (hb : b < 18446744073709551616) (hc : c < 18446744073709551616) (hd : d < 18446744073709551616) : wL (ofL a b c d) = uL [a, b, c, d] := by
  unfold wL
  rw [limb0, limb1, limb2, limb3]
  have e0 : ofL a b c d % 18446744073709551616 = a := by unfold ofL; omega
  have e1 : ofL a b c d / 18446744073709551616 % 18446744073709551616 = b := by unfold ofL; omega
  have e2 : ofL a b c d / 340282366920938463463374607431768211456 % 18446744073709551616 = c := by unfold ofL; omega
  have e3 : ofL a b c d / 6277101735386680763835789423207666416102355444464034512896 % 18446744073709551616 = d := by unfold ofL; omega
  rw [e0, e1, e2, e3]
theorem ofL_lt (a b c d : Nat) (ha : a < 18446744073709551616) (hb : b < 18446744073709551616) (hc : c < 18446744073709551616) (hd : d < 18446744073709551616) : ofL a b c d < W256 := by unfold ofL W256; omega
/-- a word as a value -/
def wV (n : Nat) : Value := .agg (wL n).toArray
theorem wV_of (n a b c d : Nat) (ha : a < 18446744073709551616) (hb : b < 18446744073709551616) (hc : c < 18446744073709551616) (hd : d < 18446744073709551616) (h : ofL a b c d = n) : Value.agg (uL [a, b, c, d]).toArray = wV n := by
  subst h; unfold wV; rw [wL_ofL a b c d ha hb hc hd]
end Go.Proofs.YgvaawGreat
