import Derived.Test.YgvaawGreatD6
set_option linter.unusedSimpArgs false
set_option linter.unusedVariables false
namespace Go.Proofs.YgvaawGreat
open Go
/-! copy, clear. -/
section
variable {n : Nat} {s : Nat → Value} {w : World} {d : Option Nat} {ty : TypeId} {pos : String} {af : Array Edge} {g : Option (Nat × Bool)}
/-- copy of cells that lie in another block -/
theorem e_copy {x y : Operand} {T T' e b o b2 o2 dl dc sl sc : Nat} {cs : Array Value} {l : List Value} (hU : Hvaa.prog.underlying T = some (.slice e)) (hs : Sz e 1) (hx : ev n s x = .slice (some ⟨b, o, none⟩) dl dc) (hy : ev n s y = .slice (some ⟨b2, o2, none⟩) sl sc)
    (hl : l.length = min sl dl) (hr : Row w b2 o2 l) (h1 : ∀ v ∈ l, v.one1 = true) (hb : Blk w b cs) (ho : o + l.length ≤ cs.size) :
    Eff n s w ⟨d, .call { callee := .builtin .copy, args := #[x, y], argTypes := #[T, T'] }, ty, pos, af, g⟩ (fun v w' => v = .int .i64 (l.length : Nat) ∧ Wr w w' b (spl cs o l)) := by
  refine ⟨fun K Q hK => ?_⟩
  obtain ⟨Tb, hb⟩ := hb
  obtain ⟨w', g1, g2, g3, g4⟩ := run_storeCells_blk b Tb l w cs o 0 hb (by omega) h1
  have hc : (loadCells ⟨b2, o2, none⟩ l.length).run Hvaa.prog w = .ok l.toArray w :=
    run_loadCells_list (P := Hvaa.prog) w ⟨b2, o2, none⟩ l (fun j v h => by rw [addr_add]; exact hr j v h)
  rw [hl] at hc
  have : (execOp (mk n s).eval ⟨d, .call { callee := .builtin .copy, args := #[x, y], argTypes := #[T, T'] }, ty, pos, af, g⟩).run Hvaa.prog w = .ok (.value (.int .i64 (l.length : Nat))) w' := by
    rw [mk_eval']
    have e1 : Nat.min sl dl = min sl dl := rfl
    simp [execOp, resolve, invoke, builtin, Builtin.copy_, Builtin.lenOf, Builtin.firstCells, hx, hy, run_underlying hU, run_sizeOf hs, goInt, e1, hc, g1, hl]
  unfold Oper.wp
  rw [this]
  exact hK _ _ ⟨rfl, g3, ⟨Tb, by simpa using g2⟩, g4⟩
/-- a whole block stored over itself -/
theorem e_storeS {x y : Operand} {T k b : Nat} {vs : List Value} (hs : Sz T k) (hx : ev n s x = .pointer (some ⟨b, 0, none⟩)) (hy : (ev n s y).cells = vs.toArray) (hl : vs.length = k) (hv : ∀ v ∈ vs, v.one1 = true) (hb : Blk w b vs.toArray) :
    Eff n s w ⟨d, .store T x y, ty, pos, af, g⟩ (fun v w' => v = undef ∧ Up w w') := by
  refine ⟨fun K Q hK => ?_⟩
  obtain ⟨T', hb⟩ := hb
  obtain ⟨w', h1, h2, h3, h4⟩ := run_storeCells_blk b T' vs w vs.toArray 0 0 hb (by simp) hv
  have : (execOp (mk n s).eval ⟨d, .store T x y, ty, pos, af, g⟩).run Hvaa.prog w = .ok .skip w' := by
    rw [mk_eval']
    simp [execOp, hx, Instr.storeAt, Instr.sureAddr, storeVar, run_sizeOf hs, hy, hl, h1]
  unfold Oper.wp
  rw [this]
  refine hK _ _ ⟨rfl, h3.os, h3.tape, h3.output, h3.size, fun q hq _ => ?_⟩
  by_cases hqb : q = b
  · subst hqb
    rw [h2, hb, spl_full _ _ (by simp)]
  · exact h3.block q hq hqb
theorem e_clear {x : Operand} {T e b o dl dc : Nat} {cs : Array Value} {z : Value} {l : List Value} (hU : Hvaa.prog.underlying T = some (.slice e)) (hz : Zr e z) (hx : ev n s x = .slice (some ⟨b, o, none⟩) (dl + 1) dc)
    (hzl : (Builtin.zeroCells z.cells (dl + 1)).toList = l) (h1 : ∀ v ∈ l, v.one1 = true) (hb : Blk w b cs) (ho : o + l.length ≤ cs.size) :
    Eff n s w ⟨d, .call { callee := .builtin .clear, args := #[x], argTypes := #[T] }, ty, pos, af, g⟩ (fun v w' => v = .tuple #[] ∧ Wr w w' b (spl cs o l)) := by
  refine ⟨fun K Q hK => ?_⟩
  obtain ⟨Tb, hb⟩ := hb
  obtain ⟨w', g1, g2, g3, g4⟩ := run_storeCells_blk b Tb l w cs o 0 hb (by omega) h1
  have : (execOp (mk n s).eval ⟨d, .call { callee := .builtin .clear, args := #[x], argTypes := #[T] }, ty, pos, af, g⟩).run Hvaa.prog w = .ok (.value (.tuple #[])) w' := by
    rw [mk_eval']
    simp [execOp, resolve, invoke, builtin, Builtin.clear_, hx, run_underlying hU, run_zero hz, hzl, g1]
  unfold Oper.wp
  rw [this]
  exact hK _ _ ⟨rfl, g3, ⟨Tb, by simpa using g2⟩, g4⟩
end
end Go.Proofs.YgvaawGreat
