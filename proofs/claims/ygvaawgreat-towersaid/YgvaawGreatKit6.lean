import Derived.Test.YgvaawGreatD11
set_option linter.unusedSimpArgs false
set_option linter.unusedVariables false
namespace Go.Proofs.YgvaawGreat
open Go
/-! Walks over a store of kept blocks. -/
theorem Go.nb {M : Nat → Prop} {w w' : World} {H H' : Store} {b : Nat} (g : Go M w H w' H') (hb : ¬ H.has b) (hlt : b < w.heap.size) : ¬ H'.has b := fun h => by
  rcases g.new b h with h | h
  · exact hb h
  · omega
theorem Fz.nb {w : World} {H : Store} {b : Nat} (h : Fz w H) (hb : w.heap.size ≤ b) : ¬ H.has b := fun k => by have := h.lt k; omega
theorem Fz.wr {w w' : World} {H : Store} {b : Nat} {cs : Array Value} (h : Fz w H) (x : Wr w w' b cs) (nb : ¬ H.has b) : Fz w' H := h.ch x.ch (fun q hq e => nb (by rw [← e]; exact hq))
theorem Go.wr {M : Nat → Prop} {w0 w w' : World} {H0 H : Store} {b : Nat} {cs : Array Value} (g : Go M w0 H0 w H) (x : Wr w w' b cs) (hb : M b ∨ w0.heap.size ≤ b) (nb : ¬ H.has b) : Go M w0 H0 w' H :=
  ⟨Ch.trans g.ch x.ch (fun k hk => by rw [hk]; exact hb), g.fz.wr x nb, g.le, g.new⟩
theorem Go.chs {M N : Nat → Prop} {w0 w w' : World} {H0 H : Store} (g : Go M w0 H0 w H) (c : Ch N w w') (hN : ∀ b, N b → M b ∨ w0.heap.size ≤ b) (hn : ∀ b, N b → ¬ H.has b) : Go M w0 H0 w' H :=
  ⟨Ch.trans g.ch c hN, g.fz.ch c (fun b hb hb2 => hn b hb2 hb), g.le, g.new⟩
theorem Go.mono {M N : Nat → Prop} {w w' : World} {H H' : Store} (g : Go M w H w' H') (h : ∀ b, b < w.heap.size → M b → N b) : Go N w H w' H' := ⟨g.ch.mono h, g.fz, g.le, g.new⟩
theorem Go.of_no {M : Nat → Prop} {w w' : World} {H H' : Store} (g : Go No w H w' H') : Go M w H w' H' := g.mono (fun _ _ h => h.elim)
section
variable {S : World → Prop} {n : Nat} {s : Nat → Value} {d : Option Nat} {ty : TypeId} {pos : String} {af : Array Edge} {g : Option (Nat × Bool)}
theorem y_minN {x y : Operand} {ts : Array TypeId} {k : IntKind} {a b : Nat} (hx : ev n s x = .int k (a : Nat)) (hy : ev n s y = .int k (b : Nat)) : Yv S n s ⟨d, .call { callee := .builtin .min, args := #[x, y], argTypes := ts }, ty, pos, af, g⟩ (.int k ((min a b : Nat) : Int)) := by
  have := y_min (S := S) (d := d) (ty := ty) (pos := pos) (af := af) (g := g) (ts := ts) hx hy
  rw [show ((min a b : Nat) : Int) = if (b : Int) < a then (b : Int) else a by split <;> omega]
  exact this
theorem y_maxN {x y : Operand} {ts : Array TypeId} {k : IntKind} {a b : Nat} (hx : ev n s x = .int k (a : Nat)) (hy : ev n s y = .int k (b : Nat)) : Yv S n s ⟨d, .call { callee := .builtin .max, args := #[x, y], argTypes := ts }, ty, pos, af, g⟩ (.int k ((max a b : Nat) : Int)) := by
  have := y_max (S := S) (d := d) (ty := ty) (pos := pos) (af := af) (g := g) (ts := ts) hx hy
  rw [show ((max a b : Nat) : Int) = if (a : Int) < b then (b : Int) else a by split <;> omega]
  exact this
theorem y_slS010n {T e k len cap : Nat} {x h : Operand} {kh : IntKind} {j : Nat} {a : Option Addr} (hU : Hvaa.prog.underlying T = some (.slice e)) (hs : Sz e k) (hx : ev n s x = .slice a len cap) (hh : ev n s h = .int kh (j : Nat)) (c4 : j ≤ cap) :
    Yv S n s ⟨d, .slice T x none (some h) none, ty, pos, af, g⟩ (.slice a j cap) := by
  have := y_slS010 (S := S) (d := d) (ty := ty) (pos := pos) (af := af) (g := g) hU hs hx hh (by omega) (by omega)
  simpa using this
end
theorem c_condV {Q : Exit → Act → World → Prop} {n : Nat} {s : Nat → Value} {w : World} {i : Nat} {x y : Code} {t : Bool} (h : s i = .bool t) (hn : Nat.blt i n = true) (ht : t = true → x.wp Hvaa.prog Q (mk n (upd s i (.bool true))) w) (hf : t = false → y.wp Hvaa.prog Q (mk n (upd s i (.bool false))) w) :
    (Code.cond (.tmp i) x y).wp Hvaa.prog Q (mk n s) w := by
  refine c_cond (et h hn) (fun e => ?_) (fun e => ?_)
  · subst e; have := ht rfl; rw [upd_self h] at this; exact this
  · subst e; have := hf rfl; rw [upd_self h] at this; exact this
end Go.Proofs.YgvaawGreat
