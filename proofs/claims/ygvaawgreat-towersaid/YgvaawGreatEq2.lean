import Derived.Test.YgvaawGreatX3
set_option maxRecDepth 100000
set_option linter.unusedSimpArgs false
set_option linter.unusedVariables false
namespace Go.Proofs.YgvaawGreat
open Go
theorem map_u8 : ∀ {l m : List Nat}, Dig 256 l → Dig 256 m → (l.map UInt8.ofNat = m.map UInt8.ofNat ↔ l = m)
  | [], [], _, _ => by simp
  | [], _ :: _, _, _ => by simp
  | _ :: _, [], _, _ => by simp
  | a :: l, b :: m, hl, hm => by
    have ha := hl a List.mem_cons_self
    have hb := hm b List.mem_cons_self
    have ih := map_u8 (l := l) (m := m) (fun d hd => hl d (List.mem_cons_of_mem _ hd)) (fun d hd => hm d (List.mem_cons_of_mem _ hd))
    rw [List.map_cons, List.map_cons, List.cons.injEq, List.cons.injEq, ih]
    have : UInt8.ofNat a = UInt8.ofNat b ↔ a = b := by
      constructor
      · intro h
        have h2 := congrArg UInt8.toNat h
        rw [UInt8.toNat_ofNat', UInt8.toNat_ofNat', Nat.mod_eq_of_lt ha, Nat.mod_eq_of_lt hb] at h2
        exact h2
      · intro h; rw [h]
    rw [this]
section
variable {S : World → Prop} {n : Nat} {s : Nat → Value} {d : Option Nat} {ty : TypeId} {pos : String} {af : Array Edge} {g : Option (Nat × Bool)}
theorem y_sEql {x y : Operand} {T T' : Nat} {l m : List Nat} (hU : Hvaa.prog.underlying T = some .string) (hl : Dig 256 l) (hm : Dig 256 m) (hx : ev n s x = sV l) (hy : ev n s y = sV m) : Yv S n s ⟨d, .binOp .eql T x y T', ty, pos, af, g⟩ (.bool (decide (l = m))) := fun w _ => by
  simp [execOp, hx, hy, eqGuard, sV, binOp, Op.stringOp, run_underlying hU, ByteArray.toList_eq]
  rw [Bool.eq_iff_iff, beq_iff_eq, decide_eq_true_eq]
  exact map_u8 hl hm
end
end Go.Proofs.YgvaawGreat
