import Derived.Test.YgvaawGreatProg
import Derived.WalkKit
import Derived.WalkSpells
import Derived.WalkLawsBesides
import Derived.Orders
import Derived.Deep.LoopGhost
import Derived.KernelRfl
namespace Go.Proofs.YgvaawGreat
open Go
/-! The frame as a function of the slot. -/
def upd (s : Nat → Value) (d : Nat) (v : Value) : Nat → Value := fun i => bif Nat.beq i d then v else s i
def updo (s : Nat → Value) (d : Option Nat) (v : Value) : Nat → Value := match d with | some d => upd s d v | none => s
def mk (n : Nat) (s : Nat → Value) : Act := { tmps := Array.ofFn fun i : Fin n => s i, defers := [] }
def ev (n : Nat) (s : Nat → Value) : Operand → Value
  | .tmp t => bif Nat.blt t n then s t else undef
  | .const v => v
  | .global g => .pointer (some ⟨g, 0, none⟩)
  | .func f => .func (.func f) #[] #[]
theorem upd_same (s : Nat → Value) (d : Nat) (v : Value) : upd s d v d = v := by simp [upd]
theorem upd_ne (s : Nat → Value) (d i : Nat) (v : Value) (h : i ≠ d) : upd s d v i = s i := by
  have : Nat.beq i d = false := by
    cases hb : Nat.beq i d
    · rfl
    · exact absurd (Nat.eq_of_beq_eq_true hb) h
  simp [upd, this]
theorem mk_put (n : Nat) (s : Nat → Value) (d : Option Nat) (v : Value) : (mk n s).put d v = mk n (updo s d v) := by
  cases d with
  | none => rfl
  | some d =>
    simp only [mk, Act.put, updo, Act.mk.injEq, and_true]
    apply Array.ext
    · simp
    · intro i h1 h2
      have h3 : i < (Array.ofFn fun i : Fin n => s i).size := by simpa using h2
      rw [Array.getElem_setIfInBounds h3, Array.getElem_ofFn, Array.getElem_ofFn]
      by_cases h : d = i
      · subst h; simp [upd_same]
      · simp [h, upd_ne s d i v (Ne.symm h)]
theorem mk_eval (n : Nat) (s : Nat → Value) (x : Operand) : (mk n s).eval x = ev n s x := by
  cases x with
  | tmp t =>
    simp only [Act.eval, mk, ev]
    by_cases h : t < n
    · have : Nat.blt t n = true := by simpa [Nat.blt_eq] using h
      simp [this, h]
    · have : Nat.blt t n = false := by
        cases hb : Nat.blt t n
        · rfl
        · rw [Nat.blt_eq] at hb; exact absurd hb h
      simp [this, h]
  | _ => rfl
theorem mk_eval' (n : Nat) (s : Nat → Value) : (mk n s).eval = ev n s := funext (mk_eval n s)
theorem mk_getD (n : Nat) (s : Nat → Value) (t : Nat) : (mk n s).tmps.getD t undef = ev n s (.tmp t) := mk_eval n s (.tmp t)
/-- the frame at entry -/
def ofArgs (l : List Value) : Nat → Value := fun i => l.getD i undef
theorem mk_enter (l : List Value) (n : Nat) (h : l.length ≤ n) :
    ({ tmps := l.toArray ++ Array.replicate (n - l.toArray.size) undef, defers := [] } : Act) = mk n (ofArgs l) := by
  simp only [mk, Act.mk.injEq, and_true]
  apply Array.ext
  · simp; omega
  · intro i h1 h2
    simp only [Array.getElem_ofFn, ofArgs]
    rw [Array.getElem_append]
    split
    · rename_i hi; simp at hi; simp [hi]
    · rename_i hi; simp at hi; simp [hi]
/-! Contracts. -/
structure Ret (f : FuncId) (args : List Value) (w : World) (R : Value → World → Prop) : Prop where
  out : Calls Hvaa.prog f args.toArray w fun e w' => ∃ v, e = .returned v ∧ R v w'
theorem Ret.mono {f : FuncId} {args : List Value} {w : World} {R R' : Value → World → Prop} (h : Ret f args w R) (hr : ∀ v w', R v w' → R' v w') : Ret f args w R' :=
  ⟨Calls.mono h.out fun _ _ ⟨v, he, hv⟩ => ⟨v, he, hr _ _ hv⟩⟩
/-- what is asked at a body's end -/
def Post (fn : Func) (R : Value → World → Prop) : Exit → Act → World → Prop :=
  bodyPost Hvaa.prog fn fun e w' => ∃ v, e = .returned v ∧ R v w'
theorem ret_of_wp {f : FuncId} {fn : Func} {c : Code} {args : List Value} {w : World} {R : Value → World → Prop}
    (hf : Hvaa.prog.funcs[f]? = some fn) (hb : fn.body = some c) (hn : args.length ≤ fn.ntmps)
    (h : c.wp Hvaa.prog (Post fn R) (mk fn.ntmps (ofArgs args)) w) : Ret f args w R :=
  ⟨calls_of_wp hf hb (by rw [mk_enter args fn.ntmps hn]; exact h)⟩
theorem post_ret {fn : Func} {R : Value → World → Prop} {a : Act} {w : World} {v : Value} (hd : a.defers = []) (hr : (results fn a.tmps).run Hvaa.prog w = .ok v w) (h : R v w) : Post fn R .ret a w :=
  ⟨hd, v, hr, v, rfl, h⟩
theorem post_normal {fn : Func} {R : Value → World → Prop} {a : Act} {w : World} {v : Value} (hd : a.defers = []) (hr : (results fn a.tmps).run Hvaa.prog w = .ok v w) (h : R v w) : Post fn R .normal a w :=
  ⟨hd, v, hr, v, rfl, h⟩
theorem res1 {fn : Func} {t : Nat} (n : Nat) (s : Nat → Value) (w : World) (h : fn.results = #[.tmp t]) : (results fn (mk n s).tmps).run Hvaa.prog w = .ok (ev n s (.tmp t)) w := by
  rw [results_tmp h, mk_getD]
theorem res0 {fn : Func} (n : Nat) (s : Nat → Value) (w : World) (h : fn.results = #[]) : (results fn (mk n s).tmps).run Hvaa.prog w = .ok (.tuple #[]) w := by
  rw [results_none h]
theorem res2 {fn : Func} {t u : Nat} (n : Nat) (s : Nat → Value) (w : World) (h : fn.results = #[.tmp t, .tmp u]) : (results fn (mk n s).tmps).run Hvaa.prog w = .ok (.tuple #[ev n s (.tmp t), ev n s (.tmp u)]) w := by
  rw [results_tmp2 h, mk_getD, mk_getD]
theorem res3 {fn : Func} {t u x : Nat} (n : Nat) (s : Nat → Value) (w : World) (h : fn.results = #[.tmp t, .tmp u, .tmp x]) : (results fn (mk n s).tmps).run Hvaa.prog w = .ok (.tuple #[ev n s (.tmp t), ev n s (.tmp u), ev n s (.tmp x)]) w := by
  have h1 := mk_getD n s t
  have h2 := mk_getD n s u
  have h3 := mk_getD n s x
  simp only [Array.getD_eq_getD_getElem?] at h1 h2 h3
  simp [results, h, h1, h2, h3]
theorem res4 {fn : Func} {t u x y : Nat} (n : Nat) (s : Nat → Value) (w : World) (h : fn.results = #[.tmp t, .tmp u, .tmp x, .tmp y]) : (results fn (mk n s).tmps).run Hvaa.prog w = .ok (.tuple #[ev n s (.tmp t), ev n s (.tmp u), ev n s (.tmp x), ev n s (.tmp y)]) w := by
  have h1 := mk_getD n s t
  have h2 := mk_getD n s u
  have h3 := mk_getD n s x
  have h4 := mk_getD n s y
  simp only [Array.getD_eq_getD_getElem?] at h1 h2 h3 h4
  simp [results, h, h1, h2, h3, h4]
theorem res5 {fn : Func} {t u x y z : Nat} (n : Nat) (s : Nat → Value) (w : World) (h : fn.results = #[.tmp t, .tmp u, .tmp x, .tmp y, .tmp z]) : (results fn (mk n s).tmps).run Hvaa.prog w = .ok (.tuple #[ev n s (.tmp t), ev n s (.tmp u), ev n s (.tmp x), ev n s (.tmp y), ev n s (.tmp z)]) w := by
  have h1 := mk_getD n s t
  have h2 := mk_getD n s u
  have h3 := mk_getD n s x
  have h4 := mk_getD n s y
  have h5 := mk_getD n s z
  simp only [Array.getD_eq_getD_getElem?] at h1 h2 h3 h4 h5
  simp [results, h, h1, h2, h3, h4, h5]
/-! Control. -/
section
variable {Q : Exit → Act → World → Prop} {n : Nat} {s : Nat → Value} {w : World}
theorem c_seq {x y : Code} (h : ∀ K : Act → World → Prop, (∀ a w, y.wp Hvaa.prog Q a w → K a w) → x.wp Hvaa.prog (Exit.then K Q) (mk n s) w) : (Code.seq x y).wp Hvaa.prog Q (mk n s) w := wp_seq_k h
theorem c_cond {c : Operand} {x y : Code} {t : Bool} (hc : ev n s c = .bool t) (ht : t = true → x.wp Hvaa.prog Q (mk n s) w) (hf : t = false → y.wp Hvaa.prog Q (mk n s) w) :
    (Code.cond c x y).wp Hvaa.prog Q (mk n s) w := wp_cond_split (by rw [mk_eval]; exact hc) ht hf
theorem c_true {c : Operand} {x y : Code} {t : Bool} (hc : ev n s c = .bool t) (ht : t = true) (h : x.wp Hvaa.prog Q (mk n s) w) :
    (Code.cond c x y).wp Hvaa.prog Q (mk n s) w := c_cond hc (fun _ => h) (fun h' => by rw [ht] at h'; cases h')
theorem c_false {c : Operand} {x y : Code} {t : Bool} (hc : ev n s c = .bool t) (ht : t = false) (h : y.wp Hvaa.prog Q (mk n s) w) :
    (Code.cond c x y).wp Hvaa.prog Q (mk n s) w := c_cond hc (fun h' => by rw [ht] at h'; cases h') (fun _ => h)
theorem c_block {id : Nat} {c : Code} (h : ∀ Q' : Exit → Act → World → Prop, (∀ e a w, Exit.inBlock id Q e a w → Q' e a w) → c.wp Hvaa.prog Q' (mk n s) w) : (Code.block id c).wp Hvaa.prog Q (mk n s) w := wp_block (h _ fun _ _ _ h => h)
theorem c_skip (h : Q .normal (mk n s) w) : Code.skip.wp Hvaa.prog Q (mk n s) w := wp_skip h
theorem c_ret (h : Q .ret (mk n s) w) : Code.ret.wp Hvaa.prog Q (mk n s) w := wp_ret h
theorem c_exit {id : Nat} (h : Q (.exit id) (mk n s) w) : (Code.exit id).wp Hvaa.prog Q (mk n s) w := wp_exit h
/-- a loop: I k: what holds of frame and world at a round's head; k falls -/
theorem c_loop {c : Code} (I : Nat → (Nat → Value) → World → Prop) (k : Nat) (h0 : I k s w)
    (round : ∀ k s w, I k s w → ∀ K : Act → World → Prop, (∀ k' s' w', k' < k → I k' s' w' → K (mk n s') w') → c.wp Hvaa.prog (Exit.then K Q) (mk n s) w) : (Code.loop c).wp Hvaa.prog Q (mk n s) w :=
  wp_loop_ghost (fun k a w => ∃ s, a = mk n s ∧ I k s w) k ⟨s, rfl, h0⟩ fun k a w ⟨s, ha, hI⟩ => by
    subst ha
    exact round k s w hI _ fun k' s' w' hk h' => ⟨k', hk, s', rfl, h'⟩
end
end Go.Proofs.YgvaawGreat
