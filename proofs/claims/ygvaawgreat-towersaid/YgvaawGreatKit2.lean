import Derived.Test.YgvaawGreatTypes
set_option linter.unusedSimpArgs false
set_option linter.unusedVariables false
namespace Go.Proofs.YgvaawGreat
open Go
section
variable {S : World → Prop} {n : Nat} {s : Nat → Value} {d : Option Nat} {ty : TypeId} {pos : String} {af : Array Edge} {g : Option (Nat × Bool)}
theorem y_moveV {x : Operand} {v : Value} (h : ev n s x = v) : Yv S n s ⟨d, .move x, ty, pos, af, g⟩ v := h ▸ y_move
theorem y_assignV {x : Operand} {v : Value} (h : ev n s x = v) : Yv S n s ⟨d, .assign x, ty, pos, af, g⟩ v := h ▸ y_assign
theorem y_moveC {v : Value} : Yv S n s ⟨d, .move (.const v), ty, pos, af, g⟩ v := y_move
theorem y_assignC {v : Value} : Yv S n s ⟨d, .assign (.const v), ty, pos, af, g⟩ v := y_assign
theorem y_idxAC {x : Operand} {T m e k b o : Nat} {K : IntKind} {i : Int} (j c : Nat) (hU : Hvaa.prog.underlying T = some (.array m e)) (hs : Sz e k) (hx : ev n s x = .pointer (some ⟨b, o, none⟩)) (hi : i = (j : Int)) (hc : j * k = c) (h1 : Nat.blt j m = true) :
    Yv S n s ⟨d, .indexAddr T x (.const (.int K i)), ty, pos, af, g⟩ (.pointer (some ⟨b, o + c, none⟩)) := by
  subst hc; subst hi
  have h2 : j < m := by rw [Nat.blt_eq] at h1; exact h1
  have := y_idxA (S := S) (n := n) (s := s) (d := d) (ty := ty) (pos := pos) (af := af) (g := g) (y := .const (.int K (j : Int))) hU hs hx rfl (by omega) (by omega)
  simpa using this
theorem y_pickT {c x y : Operand} {v : Value} (hc : ev n s c = .bool true) (hx : ev n s x = v) : Yv S n s ⟨d, .pick c x y, ty, pos, af, g⟩ v := by
  have := y_pick (S := S) (x := x) (y := y) (d := d) (ty := ty) (pos := pos) (af := af) (g := g) hc
  simpa [hx] using this
theorem y_pickF {c x y : Operand} {v : Value} (hc : ev n s c = .bool false) (hy : ev n s y = v) : Yv S n s ⟨d, .pick c x y, ty, pos, af, g⟩ v := by
  have := y_pick (S := S) (x := x) (y := y) (d := d) (ty := ty) (pos := pos) (af := af) (g := g) hc
  simpa [hy] using this
theorem at1 {w : World} {b o : Nat} {v : Value} (h : w.cell? ⟨b, o, none⟩ = some v) : ∀ w', w' = w → w'.cell? ⟨b, o, none⟩ = some v := fun w' e => e ▸ h
theorem atS {w : World} {b o : Nat} {v : Value} (h : w.cell? ⟨b, o, none⟩ = some v) : ∀ w', Up w w' → w'.cell? ⟨b, o, none⟩ = some v := fun w' e => e.cell h
theorem at1R {w : World} {b o : Nat} {cs : List Value} (h : Row w b o cs) : ∀ w', w' = w → Row w' b o cs := fun w' e => e ▸ h
theorem atSR {w : World} {b o : Nat} {cs : List Value} (h : Row w b o cs) : ∀ w', Up w w' → Row w' b o cs := fun w' e => h.up e
theorem at1B {w : World} {b : Nat} {cs : Array Value} (h : Blk w b cs) : ∀ w', w' = w → Blk w' b cs := fun w' e => e ▸ h
theorem atSB {w : World} {b : Nat} {cs : Array Value} (h : Blk w b cs) : ∀ w', Up w w' → Blk w' b cs := fun w' e => h.up e
/-- a whole block -/
theorem y_loadB {x : Operand} {T k b : Nat} {cs : Array Value} (h1 : IsAgg T) (hs : Sz T k) (hx : ev n s x = .pointer (some ⟨b, 0, none⟩)) (hl : cs.size = k) (hv : ∀ w, S w → Blk w b cs) :
    Yv S n s ⟨d, .load T x, ty, pos, af, g⟩ (.agg cs) := by
  have := y_loadR (S := S) (n := n) (s := s) (d := d) (ty := ty) (pos := pos) (af := af) (g := g) (cs := cs.toList) h1 hs hx (by simpa using hl) (fun w hw => (hv w hw).row fun i v h => by simpa using h)
  simpa using this
theorem y_lenP {x : Operand} {T A m e : Nat} (hU : Hvaa.prog.underlying T = some (.pointer A)) (hA : Hvaa.prog.underlying A = some (.array m e)) :
    Yv S n s ⟨d, .call { callee := .builtin .len, args := #[x], argTypes := #[T] }, ty, pos, af, g⟩ (.int .i64 m) := fun w _ => by
  simp [execOp, resolve, invoke, builtin, Builtin.len_, run_underlying hU, run_underlying hA, goInt]
theorem y_min {x y : Operand} {ts : Array TypeId} {k : IntKind} {a b : Int} (hx : ev n s x = .int k a) (hy : ev n s y = .int k b) :
    Yv S n s ⟨d, .call { callee := .builtin .min, args := #[x, y], argTypes := ts }, ty, pos, af, g⟩ (.int k (if b < a then b else a)) := fun w _ => by
  simp [execOp, resolve, invoke, builtin, Builtin.min_, Builtin.min2, hx, hy]
theorem y_max {x y : Operand} {ts : Array TypeId} {k : IntKind} {a b : Int} (hx : ev n s x = .int k a) (hy : ev n s y = .int k b) :
    Yv S n s ⟨d, .call { callee := .builtin .max, args := #[x, y], argTypes := ts }, ty, pos, af, g⟩ (.int k (if b > a then b else a)) := fun w _ => by
  simp [execOp, resolve, invoke, builtin, Builtin.max_, Builtin.max2, hx, hy]
theorem run_equalB {T : Nat} {a b : Bool} (hU : Hvaa.prog.underlying T = some .bool) (w : World) : (Op.equal T (.bool a) (.bool b)).run Hvaa.prog w = .ok (a == b) w := by
  unfold Op.equal
  rw [show Op.maxDepth = 9999 + 1 from rfl]
  unfold Op.equalIn
  simp [run_underlying hU]
theorem y_eqlB {x y : Operand} {T T' : Nat} {a b : Bool} (hU : Hvaa.prog.underlying T = some .bool) (hx : ev n s x = .bool a) (hy : ev n s y = .bool b) : Yv S n s ⟨d, .binOp .eql T x y T', ty, pos, af, g⟩ (.bool (a == b)) := fun w _ => by
  simp [execOp, hx, hy, eqGuard, binOp, run_equalB hU]
theorem y_neqB {x y : Operand} {T T' : Nat} {a b : Bool} (hU : Hvaa.prog.underlying T = some .bool) (hx : ev n s x = .bool a) (hy : ev n s y = .bool b) : Yv S n s ⟨d, .binOp .neq T x y T', ty, pos, af, g⟩ (.bool !(a == b)) := fun w _ => by
  simp [execOp, hx, hy, eqGuard, binOp, run_equalB hU]
/-! slices of slices and of arrays -/
section
variable {x l h m : Operand} {T e k b o len cap N : Nat} {kl kh km : IntKind} {i j p : Int}
theorem y_slS100 (hU : Hvaa.prog.underlying T = some (.slice e)) (hs : Sz e k) (hx : ev n s x = .slice (some ⟨b, o, none⟩) len cap) (hl : ev n s l = .int kl i) (c1 : 0 ≤ i) (c2 : i ≤ len) (c7 : i < cap) :
    Yv S n s ⟨d, .slice T x (some l) none none, ty, pos, af, g⟩ (.slice (some ⟨b, o + i.toNat * k, none⟩) (len - i.toNat) (cap - i.toNat)) := fun w _ => by
  obtain ⟨i, rfl⟩ := Int.eq_ofNat_of_zero_le c1
  have e1 : i ≤ len := by omega
  have e4 : ¬ cap = i := by omega
  simp [execOp, Instr.sliceAt, run_underlying hU, hx, Instr.slice, hl, Instr.sliceBounds, Instr.sliceBound, asIntOf, run_sizeOf hs, addr_add, e1, e4]
theorem y_slS100g (hU : Hvaa.prog.underlying T = some (.slice e)) (hs : Sz e k) (hx : ev n s x = .slice (some ⟨b, o, none⟩) len cap) (hl : ev n s l = .int kl i) (c1 : 0 ≤ i) (c2 : i ≤ len) :
    Yv S n s ⟨d, .slice T x (some l) none none, ty, pos, af, g⟩ (.slice (some (if cap = i.toNat then ⟨b, o, none⟩ else ⟨b, o + i.toNat * k, none⟩)) (len - i.toNat) (cap - i.toNat)) := fun w _ => by
  obtain ⟨i, rfl⟩ := Int.eq_ofNat_of_zero_le c1
  have e1 : i ≤ len := by omega
  simp [execOp, Instr.sliceAt, run_underlying hU, hx, Instr.slice, hl, Instr.sliceBounds, Instr.sliceBound, asIntOf, run_sizeOf hs, addr_add, e1]
  split <;> rfl
theorem y_slS110 (hU : Hvaa.prog.underlying T = some (.slice e)) (hs : Sz e k) (hx : ev n s x = .slice (some ⟨b, o, none⟩) len cap) (hl : ev n s l = .int kl i) (hh : ev n s h = .int kh j) (c1 : 0 ≤ i) (c2 : i ≤ j) (c3 : 0 ≤ j) (c4 : j ≤ cap) (c7 : i < cap) :
    Yv S n s ⟨d, .slice T x (some l) (some h) none, ty, pos, af, g⟩ (.slice (some ⟨b, o + i.toNat * k, none⟩) (j.toNat - i.toNat) (cap - i.toNat)) := fun w _ => by
  obtain ⟨i, rfl⟩ := Int.eq_ofNat_of_zero_le c1
  obtain ⟨j, rfl⟩ := Int.eq_ofNat_of_zero_le c3
  have e1 : i ≤ j := by omega
  have e2 : j ≤ cap := by omega
  have e4 : ¬ cap = i := by omega
  simp [execOp, Instr.sliceAt, run_underlying hU, hx, Instr.slice, hl, hh, Instr.sliceBounds, Instr.sliceBound, asIntOf, run_sizeOf hs, addr_add, e1, e2, e4]
theorem y_slS110g (hU : Hvaa.prog.underlying T = some (.slice e)) (hs : Sz e k) (hx : ev n s x = .slice (some ⟨b, o, none⟩) len cap) (hl : ev n s l = .int kl i) (hh : ev n s h = .int kh j) (c1 : 0 ≤ i) (c2 : i ≤ j) (c3 : 0 ≤ j) (c4 : j ≤ cap) :
    Yv S n s ⟨d, .slice T x (some l) (some h) none, ty, pos, af, g⟩ (.slice (some (if cap = i.toNat then ⟨b, o, none⟩ else ⟨b, o + i.toNat * k, none⟩)) (j.toNat - i.toNat) (cap - i.toNat)) := fun w _ => by
  obtain ⟨i, rfl⟩ := Int.eq_ofNat_of_zero_le c1
  obtain ⟨j, rfl⟩ := Int.eq_ofNat_of_zero_le c3
  have e1 : i ≤ j := by omega
  have e2 : j ≤ cap := by omega
  simp [execOp, Instr.sliceAt, run_underlying hU, hx, Instr.slice, hl, hh, Instr.sliceBounds, Instr.sliceBound, asIntOf, run_sizeOf hs, addr_add, e1, e2]
  split <;> rfl
theorem y_slS111 (hU : Hvaa.prog.underlying T = some (.slice e)) (hs : Sz e k) (hx : ev n s x = .slice (some ⟨b, o, none⟩) len cap) (hl : ev n s l = .int kl i) (hh : ev n s h = .int kh j) (hm : ev n s m = .int km p) (c1 : 0 ≤ i) (c2 : i ≤ j) (c3 : 0 ≤ j) (c4 : j ≤ p) (c5 : 0 ≤ p) (c6 : p ≤ cap) (c7 : i < p) :
    Yv S n s ⟨d, .slice T x (some l) (some h) (some m), ty, pos, af, g⟩ (.slice (some ⟨b, o + i.toNat * k, none⟩) (j.toNat - i.toNat) (p.toNat - i.toNat)) := fun w _ => by
  obtain ⟨i, rfl⟩ := Int.eq_ofNat_of_zero_le c1
  obtain ⟨j, rfl⟩ := Int.eq_ofNat_of_zero_le c3
  obtain ⟨p, rfl⟩ := Int.eq_ofNat_of_zero_le c5
  have e1 : i ≤ j := by omega
  have e2 : j ≤ p := by omega
  have e3 : p ≤ cap := by omega
  have e4 : ¬ p = i := by omega
  simp [execOp, Instr.sliceAt, run_underlying hU, hx, Instr.slice, hl, hh, hm, Instr.sliceBounds, Instr.sliceBound, asIntOf, run_sizeOf hs, addr_add, e1, e2, e3, e4]
theorem y_slS111g (hU : Hvaa.prog.underlying T = some (.slice e)) (hs : Sz e k) (hx : ev n s x = .slice (some ⟨b, o, none⟩) len cap) (hl : ev n s l = .int kl i) (hh : ev n s h = .int kh j) (hm : ev n s m = .int km p) (c1 : 0 ≤ i) (c2 : i ≤ j) (c3 : 0 ≤ j) (c4 : j ≤ p) (c5 : 0 ≤ p) (c6 : p ≤ cap) :
    Yv S n s ⟨d, .slice T x (some l) (some h) (some m), ty, pos, af, g⟩ (.slice (some (if p.toNat = i.toNat then ⟨b, o, none⟩ else ⟨b, o + i.toNat * k, none⟩)) (j.toNat - i.toNat) (p.toNat - i.toNat)) := fun w _ => by
  obtain ⟨i, rfl⟩ := Int.eq_ofNat_of_zero_le c1
  obtain ⟨j, rfl⟩ := Int.eq_ofNat_of_zero_le c3
  obtain ⟨p, rfl⟩ := Int.eq_ofNat_of_zero_le c5
  have e1 : i ≤ j := by omega
  have e2 : j ≤ p := by omega
  have e3 : p ≤ cap := by omega
  simp [execOp, Instr.sliceAt, run_underlying hU, hx, Instr.slice, hl, hh, hm, Instr.sliceBounds, Instr.sliceBound, asIntOf, run_sizeOf hs, addr_add, e1, e2, e3]
  split <;> rfl
theorem y_slA100 (hU : Hvaa.prog.underlying T = some (.array N e)) (hs : Sz e k) (hx : ev n s x = .pointer (some ⟨b, o, none⟩)) (hl : ev n s l = .int kl i) (c1 : 0 ≤ i) (c2 : i ≤ N) (c7 : i < N) :
    Yv S n s ⟨d, .slice T x (some l) none none, ty, pos, af, g⟩ (.slice (some ⟨b, o + i.toNat * k, none⟩) (N - i.toNat) (N - i.toNat)) := fun w _ => by
  obtain ⟨i, rfl⟩ := Int.eq_ofNat_of_zero_le c1
  have e1 : i ≤ N := by omega
  have e4 : ¬ N = i := by omega
  simp [execOp, Instr.sliceAt, run_underlying hU, hx, Instr.sureAddr, hl, Instr.sliceBounds, Instr.sliceBound, asIntOf, run_sizeOf hs, addr_add, e1, e4]
theorem y_slA100g (hU : Hvaa.prog.underlying T = some (.array N e)) (hs : Sz e k) (hx : ev n s x = .pointer (some ⟨b, o, none⟩)) (hl : ev n s l = .int kl i) (c1 : 0 ≤ i) (c2 : i ≤ N) :
    Yv S n s ⟨d, .slice T x (some l) none none, ty, pos, af, g⟩ (.slice (some (if N = i.toNat then ⟨b, o, none⟩ else ⟨b, o + i.toNat * k, none⟩)) (N - i.toNat) (N - i.toNat)) := fun w _ => by
  obtain ⟨i, rfl⟩ := Int.eq_ofNat_of_zero_le c1
  have e1 : i ≤ N := by omega
  simp [execOp, Instr.sliceAt, run_underlying hU, hx, Instr.sureAddr, hl, Instr.sliceBounds, Instr.sliceBound, asIntOf, run_sizeOf hs, addr_add, e1]
theorem y_slA110 (hU : Hvaa.prog.underlying T = some (.array N e)) (hs : Sz e k) (hx : ev n s x = .pointer (some ⟨b, o, none⟩)) (hl : ev n s l = .int kl i) (hh : ev n s h = .int kh j) (c1 : 0 ≤ i) (c2 : i ≤ j) (c3 : 0 ≤ j) (c4 : j ≤ N) (c7 : i < N) :
    Yv S n s ⟨d, .slice T x (some l) (some h) none, ty, pos, af, g⟩ (.slice (some ⟨b, o + i.toNat * k, none⟩) (j.toNat - i.toNat) (N - i.toNat)) := fun w _ => by
  obtain ⟨i, rfl⟩ := Int.eq_ofNat_of_zero_le c1
  obtain ⟨j, rfl⟩ := Int.eq_ofNat_of_zero_le c3
  have e1 : i ≤ j := by omega
  have e2 : j ≤ N := by omega
  have e4 : ¬ N = i := by omega
  simp [execOp, Instr.sliceAt, run_underlying hU, hx, Instr.sureAddr, hl, hh, Instr.sliceBounds, Instr.sliceBound, asIntOf, run_sizeOf hs, addr_add, e1, e2, e4]
theorem y_slA110g (hU : Hvaa.prog.underlying T = some (.array N e)) (hs : Sz e k) (hx : ev n s x = .pointer (some ⟨b, o, none⟩)) (hl : ev n s l = .int kl i) (hh : ev n s h = .int kh j) (c1 : 0 ≤ i) (c2 : i ≤ j) (c3 : 0 ≤ j) (c4 : j ≤ N) :
    Yv S n s ⟨d, .slice T x (some l) (some h) none, ty, pos, af, g⟩ (.slice (some (if N = i.toNat then ⟨b, o, none⟩ else ⟨b, o + i.toNat * k, none⟩)) (j.toNat - i.toNat) (N - i.toNat)) := fun w _ => by
  obtain ⟨i, rfl⟩ := Int.eq_ofNat_of_zero_le c1
  obtain ⟨j, rfl⟩ := Int.eq_ofNat_of_zero_le c3
  have e1 : i ≤ j := by omega
  have e2 : j ≤ N := by omega
  simp [execOp, Instr.sliceAt, run_underlying hU, hx, Instr.sureAddr, hl, hh, Instr.sliceBounds, Instr.sliceBound, asIntOf, run_sizeOf hs, addr_add, e1, e2]
theorem y_slA111 (hU : Hvaa.prog.underlying T = some (.array N e)) (hs : Sz e k) (hx : ev n s x = .pointer (some ⟨b, o, none⟩)) (hl : ev n s l = .int kl i) (hh : ev n s h = .int kh j) (hm : ev n s m = .int km p) (c1 : 0 ≤ i) (c2 : i ≤ j) (c3 : 0 ≤ j) (c4 : j ≤ p) (c5 : 0 ≤ p) (c6 : p ≤ N) (c7 : i < p) :
    Yv S n s ⟨d, .slice T x (some l) (some h) (some m), ty, pos, af, g⟩ (.slice (some ⟨b, o + i.toNat * k, none⟩) (j.toNat - i.toNat) (p.toNat - i.toNat)) := fun w _ => by
  obtain ⟨i, rfl⟩ := Int.eq_ofNat_of_zero_le c1
  obtain ⟨j, rfl⟩ := Int.eq_ofNat_of_zero_le c3
  obtain ⟨p, rfl⟩ := Int.eq_ofNat_of_zero_le c5
  have e1 : i ≤ j := by omega
  have e2 : j ≤ p := by omega
  have e3 : p ≤ N := by omega
  have e4 : ¬ p = i := by omega
  simp [execOp, Instr.sliceAt, run_underlying hU, hx, Instr.sureAddr, hl, hh, hm, Instr.sliceBounds, Instr.sliceBound, asIntOf, run_sizeOf hs, addr_add, e1, e2, e3, e4]
theorem y_slA111g (hU : Hvaa.prog.underlying T = some (.array N e)) (hs : Sz e k) (hx : ev n s x = .pointer (some ⟨b, o, none⟩)) (hl : ev n s l = .int kl i) (hh : ev n s h = .int kh j) (hm : ev n s m = .int km p) (c1 : 0 ≤ i) (c2 : i ≤ j) (c3 : 0 ≤ j) (c4 : j ≤ p) (c5 : 0 ≤ p) (c6 : p ≤ N) :
    Yv S n s ⟨d, .slice T x (some l) (some h) (some m), ty, pos, af, g⟩ (.slice (some (if p.toNat = i.toNat then ⟨b, o, none⟩ else ⟨b, o + i.toNat * k, none⟩)) (j.toNat - i.toNat) (p.toNat - i.toNat)) := fun w _ => by
  obtain ⟨i, rfl⟩ := Int.eq_ofNat_of_zero_le c1
  obtain ⟨j, rfl⟩ := Int.eq_ofNat_of_zero_le c3
  obtain ⟨p, rfl⟩ := Int.eq_ofNat_of_zero_le c5
  have e1 : i ≤ j := by omega
  have e2 : j ≤ p := by omega
  have e3 : p ≤ N := by omega
  simp [execOp, Instr.sliceAt, run_underlying hU, hx, Instr.sureAddr, hl, hh, hm, Instr.sliceBounds, Instr.sliceBound, asIntOf, run_sizeOf hs, addr_add, e1, e2, e3]
theorem y_slA000 (hU : Hvaa.prog.underlying T = some (.array N e)) (hs : Sz e k) (hx : ev n s x = .pointer (some ⟨b, o, none⟩))   :
    Yv S n s ⟨d, .slice T x none none none, ty, pos, af, g⟩ (.slice (some ⟨b, o, none⟩) N N) := fun w _ => by
  simp [execOp, Instr.sliceAt, run_underlying hU, hx, Instr.sureAddr, Instr.sliceBounds, run_sizeOf hs, addr_add]
theorem y_slA010 (hU : Hvaa.prog.underlying T = some (.array N e)) (hs : Sz e k) (hx : ev n s x = .pointer (some ⟨b, o, none⟩)) (hh : ev n s h = .int kh j) (c3 : 0 ≤ j) (c4 : j ≤ N) :
    Yv S n s ⟨d, .slice T x none (some h) none, ty, pos, af, g⟩ (.slice (some ⟨b, o, none⟩) j.toNat N) := fun w _ => by
  obtain ⟨j, rfl⟩ := Int.eq_ofNat_of_zero_le c3
  have e2 : j ≤ N := by omega
  simp [execOp, Instr.sliceAt, run_underlying hU, hx, Instr.sureAddr, hh, Instr.sliceBounds, Instr.sliceBound, asIntOf, run_sizeOf hs, addr_add, e2]
theorem y_slS011 {a : Option Addr} (hU : Hvaa.prog.underlying T = some (.slice e)) (hs : Sz e k) (hx : ev n s x = .slice a len cap) (hh : ev n s h = .int kh j) (hm : ev n s m = .int km p) (c3 : 0 ≤ j) (c4 : j ≤ p) (c5 : 0 ≤ p) (c6 : p ≤ cap) :
    Yv S n s ⟨d, .slice T x none (some h) (some m), ty, pos, af, g⟩ (.slice a j.toNat p.toNat) := fun w _ => by
  obtain ⟨j, rfl⟩ := Int.eq_ofNat_of_zero_le c3
  obtain ⟨p, rfl⟩ := Int.eq_ofNat_of_zero_le c5
  have e2 : j ≤ p := by omega
  have e3 : p ≤ cap := by omega
  have e5 : Option.map (fun z => Addr.add z 0) a = a := by cases a <;> rfl
  simp [execOp, Instr.sliceAt, Instr.slice, run_underlying hU, hx, hh, hm, Instr.sliceBounds, Instr.sliceBound, asIntOf, e2, e3, run_sizeOf hs, e5]
theorem y_slS010 {a : Option Addr} (hU : Hvaa.prog.underlying T = some (.slice e)) (hs : Sz e k) (hx : ev n s x = .slice a len cap) (hh : ev n s h = .int kh j) (c3 : 0 ≤ j) (c4 : j ≤ cap) :
    Yv S n s ⟨d, .slice T x none (some h) none, ty, pos, af, g⟩ (.slice a j.toNat cap) := fun w _ => by
  obtain ⟨j, rfl⟩ := Int.eq_ofNat_of_zero_le c3
  have e2 : j ≤ cap := by omega
  have e5 : Option.map (fun z => Addr.add z 0) a = a := by cases a <;> rfl
  simp [execOp, Instr.sliceAt, Instr.slice, run_underlying hU, hx, hh, Instr.sliceBounds, Instr.sliceBound, asIntOf, e2, run_sizeOf hs, e5]
theorem y_s2a {A : Nat} {a : Option Addr} (hU : Hvaa.prog.underlying A = some (.array N e)) (hx : ev n s x = .slice a len cap) (hl : N ≤ len) : Yv S n s ⟨d, .sliceToArrayPointer A x, ty, pos, af, g⟩ (.pointer a) := fun w _ => by
  simp [execOp, Instr.arrayAt, run_underlying hU, hx, Nat.not_lt.2 hl]
end
end
/-! numbers -/
theorem remN {a b : Nat} : ((a : Int)).tmod (b : Int) = ((a % b : Nat) : Int) := by rw [Int.ofNat_tmod]
theorem quoU {k : IntKind} {M a b : Nat} (h : UK k M) (ha : a < M) : k.wrap (((a : Int)).tdiv (b : Int)) = ((a / b : Nat) : Int) := by
  rw [← Int.ofNat_tdiv]; exact wrapU_id h (Nat.lt_of_le_of_lt (Nat.div_le_self a b) ha)
theorem quoI {a b : Nat} (ha : a < 9223372036854775808) : IntKind.i64.wrap (((a : Int)).tdiv (b : Int)) = ((a / b : Nat) : Int) := by
  have h1 := Nat.div_le_self a b
  have h2 : ((a / b : Nat) : Int) ≤ a := by exact_mod_cast h1
  have h3 : (0 : Int) ≤ ((a / b : Nat) : Int) := Int.natCast_nonneg _
  rw [← Int.ofNat_tdiv]
  generalize ((a / b : Nat) : Int) = z at *
  exact wrap_i64 (by omega) (by omega)
theorem shl_nat {k : IntKind} {M a c : Nat} (h : UK k M) (hc : c ≤ k.bits) : k.wrap ((a : Int) * 2 ^ (min ((c : Int)).toNat k.bits)) = ((a * 2 ^ c % M : Nat) : Int) := by
  rw [wrapU h, Int.toNat_natCast, Nat.min_eq_left hc]; simp
theorem shr_nat {k : IntKind} {a c : Nat} (hc : c ≤ k.bits) : ((a : Int)).fdiv (2 ^ (min ((c : Int)).toNat k.bits)) = ((a / 2 ^ c : Nat) : Int) := by
  rw [Int.toNat_natCast, Nat.min_eq_left hc]
  rw [Int.fdiv_eq_ediv_of_nonneg _ (by exact_mod_cast Nat.zero_le _)]; simp
theorem shl64C {a : Nat} (c N : Nat) (hc : c ≤ 64) (hN : 2 ^ c = N) : IntKind.u64.wrap ((a : Int) * 2 ^ (min ((c : Int)).toNat IntKind.u64.bits)) = ((a * N % 18446744073709551616 : Nat) : Int) := hN ▸ shl_nat uk64 hc
theorem shr64C {a : Nat} (c N : Nat) (hc : c ≤ 64) (hN : 2 ^ c = N) : ((a : Int)).fdiv (2 ^ (min ((c : Int)).toNat IntKind.u64.bits)) = ((a / N : Nat) : Int) := hN ▸ shr_nat hc
theorem shl32C {a : Nat} (c N : Nat) (hc : c ≤ 32) (hN : 2 ^ c = N) : IntKind.u32.wrap ((a : Int) * 2 ^ (min ((c : Int)).toNat IntKind.u32.bits)) = ((a * N % 4294967296 : Nat) : Int) := hN ▸ shl_nat uk32 hc
theorem shr32C {a : Nat} (c N : Nat) (hc : c ≤ 32) (hN : 2 ^ c = N) : ((a : Int)).fdiv (2 ^ (min ((c : Int)).toNat IntKind.u32.bits)) = ((a / N : Nat) : Int) := hN ▸ shr_nat hc
theorem shl16C {a : Nat} (c N : Nat) (hc : c ≤ 16) (hN : 2 ^ c = N) : IntKind.u16.wrap ((a : Int) * 2 ^ (min ((c : Int)).toNat IntKind.u16.bits)) = ((a * N % 65536 : Nat) : Int) := hN ▸ shl_nat uk16 hc
theorem shr16C {a : Nat} (c N : Nat) (hc : c ≤ 16) (hN : 2 ^ c = N) : ((a : Int)).fdiv (2 ^ (min ((c : Int)).toNat IntKind.u16.bits)) = ((a / N : Nat) : Int) := hN ▸ shr_nat hc
theorem shl8C {a : Nat} (c N : Nat) (hc : c ≤ 8) (hN : 2 ^ c = N) : IntKind.u8.wrap ((a : Int) * 2 ^ (min ((c : Int)).toNat IntKind.u8.bits)) = ((a * N % 256 : Nat) : Int) := hN ▸ shl_nat uk8 hc
theorem shr8C {a : Nat} (c N : Nat) (hc : c ≤ 8) (hN : 2 ^ c = N) : ((a : Int)).fdiv (2 ^ (min ((c : Int)).toNat IntKind.u8.bits)) = ((a / N : Nat) : Int) := hN ▸ shr_nat hc
/-! the guard of '&&', '||' -/
section
variable {n i : Nat} {s : Nat → Value} {w : World} {c : Bool} {ops : Array Oper} {Q : Exit → Act → World → Prop}
theorem gsplitL {rest : List Oper} (h : s i = .bool c) (ht : c = true → WL ops Q rest n (upd s i (.bool true)) w) (hf : c = false → WL ops Q rest n (upd s i (.bool false)) w) : WL ops Q rest n s w := by
  cases c
  · have := hf rfl; rw [upd_self h] at this; exact this
  · have := ht rfl; rw [upd_self h] at this; exact this
theorem gsplitP {S : World → Prop} {fin : Nat} {rest : List (Nat × Bool)} (h : s i = .bool c) (ht : c = true → WP ops Q S fin rest n (upd s i (.bool true)) w) (hf : c = false → WP ops Q S fin rest n (upd s i (.bool false)) w) : WP ops Q S fin rest n s w := by
  cases c
  · have := hf rfl; rw [upd_self h] at this; exact this
  · have := ht rfl; rw [upd_self h] at this; exact this
end
/-! worlds -/
theorem Up.size {w w' : World} (h : Up w w') : w.heap.size ≤ w'.heap.size := Ch.size h
theorem Up.wr {w0 w w' : World} {b : Nat} {cs : Array Value} (h : Up w0 w) (x : Wr w w' b cs) (hb : w0.heap.size ≤ b) : Up w0 w' := Ch.trans h x.ch (fun k hk => .inr (by rw [hk]; exact hb))
theorem Up.tr {w0 w w' : World} (h : Up w0 w) (u : Up w w') : Up w0 w' := h.trans u
theorem Ch.tr {M : Nat → Prop} {w0 w w' : World} (h : Ch M w0 w) (u : Up w w') : Ch M w0 w' := Ch.trans h u (fun _ h => h.elim)
theorem Up.st {w0 w w' : World} {b : Nat} {cs : Array Value} (h : Up w0 w) (x : Wr w w' b cs) (hb : w0.heap.size ≤ b) : Up w0 w' := h.wr x hb
theorem Ch.st {M : Nat → Prop} {w0 w w' : World} {b : Nat} {cs : Array Value} (h : Ch M w0 w) (x : Wr w w' b cs) (hb : M b ∨ w0.heap.size ≤ b) : Ch M w0 w' := Ch.trans h x.ch (fun k hk => by rw [hk]; exact hb)
theorem Ch.cc {M N : Nat → Prop} {w0 w w' : World} (h : Ch M w0 w) (x : Ch N w w') (hb : ∀ b, N b → M b ∨ w0.heap.size ≤ b) : Ch M w0 w' := Ch.trans h x hb
theorem Up.cc {N : Nat → Prop} {w0 w w' : World} (h : Up w0 w) (x : Ch N w w') (hb : ∀ b, N b → w0.heap.size ≤ b) : Up w0 w' := Ch.trans h x (fun b hn => .inr (hb b hn))
theorem e_boxV {n : Nat} {s : Nat → Value} {w : World} {d : Option Nat} {ty : TypeId} {pos : String} {af : Array Edge} {g : Option (Nat × Bool)} {x : Operand} {T : Nat} {v : Value} (h : ev n s x = v) : Eff n s w ⟨d, .box T x, ty, pos, af, g⟩ (fun u w' => ∃ b, u = .pointer (some ⟨b, 0, none⟩) ∧ New w w' b v.cells) := h ▸ e_box
theorem aN {n : Nat} {s : Nat → Value} : ([] : List Operand).map (ev n s) = [] := rfl
theorem aC {n : Nat} {s : Nat → Value} {x : Operand} {xs : List Operand} {v : Value} {vs : List Value} (h : ev n s x = v) (h2 : xs.map (ev n s) = vs) : (x :: xs).map (ev n s) = v :: vs := by
  rw [List.map_cons, h, h2]
theorem e_callV {n : Nat} {s : Nat → Value} {w : World} {d : Option Nat} {ty : TypeId} {pos : String} {af : Array Edge} {g : Option (Nat × Bool)} {R : Value → World → Prop} {f : Nat} {xs : List Operand} {ts : Array TypeId} {vs : List Value} (hc : Cal f) (ha : xs.map (ev n s) = vs) (h : Ret f vs w R) :
    Eff n s w ⟨d, .call { callee := .value (.func f), args := xs.toArray, argTypes := ts }, ty, pos, af, g⟩ R := e_call hc (by rw [ha]; exact h)
theorem cellsV {n : Nat} {s : Nat → Value} {x : Operand} {v : Value} {vs : List Value} (h : ev n s x = v) (hc : v.cells = vs.toArray) : (ev n s x).cells = vs.toArray := by rw [h]; exact hc
end Go.Proofs.YgvaawGreat
