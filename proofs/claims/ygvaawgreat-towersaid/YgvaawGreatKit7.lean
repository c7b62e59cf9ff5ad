import Derived.Test.YgvaawGreatKit6
set_option linter.unusedSimpArgs false
set_option linter.unusedVariables false
namespace Go.Proofs.YgvaawGreat
open Go
/-! Guarded operations without a split. -/
def lz (c b : Bool) (v : Value) : Value := bif (c == b) then v else undef
theorem lz_no {c b : Bool} {v : Value} (h : ¬ c = b) : lz c b v = undef := by cases c <;> cases b <;> first | rfl | exact absurd rfl h
theorem cT {s : Nat → Value} {i : Nat} {c b : Bool} {x : Value} (h : s i = lz c b x) (hc : c = b) : s i = x := by subst hc; simpa [lz] using h
section
variable {Q : Exit → Act → World → Prop} {n : Nat} {s : Nat → Value} {w : World} {ops : Array Oper} {rest : List Oper} {op : Op} {ty : TypeId} {pos : String} {af : Array Edge} {v : Value}
theorem l_gpure {d j t : Nat} {b c : Bool} {oj : Oper} (hj : ops[j]? = some oj) (ht : oj.dst = some t) (hb : ev n s (.tmp t) = .bool c) (hn : Nat.blt t n = true)
    (hy : c = b → Yv (fun w' => w' = w) n s ⟨some d, op, ty, pos, af, some (j, b)⟩ v) (h : WL ops Q rest n (upd s d (lz c b v)) w) : WL ops Q (⟨some d, op, ty, pos, af, some (j, b)⟩ :: rest) n s w := by
  have hn' : t < n := by rw [Nat.blt_eq] at hn; exact hn
  by_cases e : c = b
  · subst e
    exact l_gstep hj ht hb hn' (hy rfl) (by simpa [lz] using h)
  · exact l_gskip hj ht hb hn' e (by rw [lz_no e] at h; exact h)
end
section
variable {Q : Exit → Act → World → Prop} {S : World → Prop} {n fin : Nat} {s : Nat → Value} {w : World} {ops : Array Oper} {rest : List (Nat × Bool)} {op : Op} {ty : TypeId} {pos : String} {af : Array Edge} {v : Value} {i : Nat}
theorem p_gpure {d j t : Nat} {b c : Bool} {oj : Oper} (hi : ops.getD i default = ⟨some d, op, ty, pos, af, some (j, b)⟩) (hj : ops[j]? = some oj) (ht : oj.dst = some t) (hb : ev n s (.tmp t) = .bool c) (hn : Nat.blt t n = true)
    (hy : c = b → Yv S n s ⟨some d, op, ty, pos, af, some (j, b)⟩ v) (h : WP ops Q S fin rest n (upd s d (lz c b v)) w) : WP ops Q S fin ((i, true) :: rest) n s w := by
  by_cases e : c = b
  · subst e
    exact p_gstep hi hj ht hb hn (hy rfl) (by simpa [lz] using h)
  · exact p_gskip hi hj ht hb hn (by simpa using e) (by rw [lz_no e] at h; exact h)
end
section
variable {S : World → Prop} {n : Nat} {s : Nat → Value} {d : Option Nat} {ty : TypeId} {pos : String} {af : Array Edge} {g : Option (Nat × Bool)}
theorem y_pickA {c x y : Operand} {b t : Bool} (hc : ev n s c = .bool b) (hx : ev n s x = lz b true (.bool t)) (hy : ev n s y = .bool false) : Yv S n s ⟨d, .pick c x y, ty, pos, af, g⟩ (.bool (b && t)) := by
  have := y_pick (S := S) (d := d) (ty := ty) (pos := pos) (af := af) (g := g) (x := x) (y := y) hc
  rw [hx, hy] at this
  cases b <;> simpa [lz] using this
theorem y_pickO {c x y : Operand} {b t : Bool} (hc : ev n s c = .bool b) (hx : ev n s x = .bool true) (hy : ev n s y = lz b false (.bool t)) : Yv S n s ⟨d, .pick c x y, ty, pos, af, g⟩ (.bool (b || t)) := by
  have := y_pick (S := S) (d := d) (ty := ty) (pos := pos) (af := af) (g := g) (x := x) (y := y) hc
  rw [hx, hy] at this
  cases b <;> simpa [lz] using this
end
end Go.Proofs.YgvaawGreat
