import Derived.Test.YgvaawGreatOps
set_option linter.unusedSimpArgs false
set_option linter.unusedVariables false
namespace Go.Proofs.YgvaawGreat
open Go
/-! Worlds that differ in the blocks of M alone; new blocks may have come. -/
def _root_.Go.Value.one1 : Value → Bool | .agg _ | .tuple _ => false | _ => true
structure Ch (M : Nat → Prop) (w w' : World) : Prop where
  os : w'.os = w.os
  tape : w'.tape = w.tape
  output : w'.output = w.output
  size : w.heap.size ≤ w'.heap.size
  block : ∀ k, k < w.heap.size → ¬ M k → w'.heap[k]? = w.heap[k]?
def Up (w w' : World) : Prop := Ch (fun _ => False) w w'
theorem Ch.refl (M : Nat → Prop) (w : World) : Ch M w w := ⟨rfl, rfl, rfl, Nat.le_refl _, fun _ _ _ => rfl⟩
theorem Up.refl (w : World) : Up w w := Ch.refl _ w
theorem Ch.trans {M N : Nat → Prop} {w1 w2 w3 : World} (h : Ch M w1 w2) (k : Ch N w2 w3) (hN : ∀ b, N b → M b ∨ w1.heap.size ≤ b) : Ch M w1 w3 :=
  ⟨k.os.trans h.os, k.tape.trans h.tape, k.output.trans h.output, Nat.le_trans h.size k.size, fun b hb hM => by
    rw [k.block b (Nat.lt_of_lt_of_le hb h.size) (fun hn => by rcases hN b hn with h' | h'; exact hM h'; omega)]; exact h.block b hb hM⟩
theorem Up.trans {w1 w2 w3 : World} (h : Up w1 w2) (k : Up w2 w3) : Up w1 w3 := Ch.trans h k (fun _ h => h.elim)
theorem Ch.mono {M N : Nat → Prop} {w w' : World} (h : Ch M w w') (hMN : ∀ b, b < w.heap.size → M b → N b) : Ch N w w' :=
  ⟨h.os, h.tape, h.output, h.size, fun b hb hN => h.block b hb (fun hm => hN (hMN b hb hm))⟩
theorem Up.ch {M : Nat → Prop} {w w' : World} (h : Up w w') : Ch M w w' := Ch.mono h (fun _ _ h => h.elim)
theorem Up.drew (w : World) : Up w { w with drawn := w.drawn + 1 } := ⟨rfl, rfl, rfl, Nat.le_refl _, fun _ _ _ => rfl⟩
theorem Ch.cell {M : Nat → Prop} {w w' : World} (h : Ch M w w') {b o : Nat} {v : Value} (hM : ¬ M b) (hc : w.cell? ⟨b, o, none⟩ = some v) : w'.cell? ⟨b, o, none⟩ = some v := by
  have hb : b < w.heap.size := block_lt_of_cell hc
  unfold World.cell? at *
  simp only at *
  rw [h.block b hb hM]; exact hc
theorem Up.cell {w w' : World} (h : Up w w') {b o : Nat} {v : Value} (hc : w.cell? ⟨b, o, none⟩ = some v) : w'.cell? ⟨b, o, none⟩ = some v := Ch.cell h (fun h => h) hc
/-! A block of cells, none of them frozen. -/
def Blk (w : World) (b : Nat) (cs : Array Value) : Prop := ∃ T, w.heap[b]? = some (.cells cs T (0, 0))
theorem Blk.lt {w : World} {b : Nat} {cs : Array Value} (h : Blk w b cs) : b < w.heap.size := by
  obtain ⟨T, h⟩ := h
  exact (Array.getElem?_eq_some_iff.1 h).1
theorem Blk.cell {w : World} {b o : Nat} {cs : Array Value} {v : Value} (h : Blk w b cs) (hv : cs[o]? = some v) : w.cell? ⟨b, o, none⟩ = some v := by
  obtain ⟨T, h⟩ := h
  simp [World.cell?, h, hv]
theorem Blk.ch {M : Nat → Prop} {w w' : World} {b : Nat} {cs : Array Value} (h : Blk w b cs) (hc : Ch M w w') (hM : ¬ M b) : Blk w' b cs := by
  have := h.lt
  obtain ⟨T, h⟩ := h
  exact ⟨T, by rw [hc.block b this hM]; exact h⟩
theorem Blk.up {w w' : World} {b : Nat} {cs : Array Value} (h : Blk w b cs) (hc : Up w w') : Blk w' b cs := h.ch hc (fun h => h)
theorem Row.ch {M : Nat → Prop} {w w' : World} {b o : Nat} {cs : List Value} (h : Row w b o cs) (hc : Ch M w w') (hM : ¬ M b) : Row w' b o cs := fun i v hv => hc.cell hM (h i v hv)
theorem Row.up {w w' : World} {b o : Nat} {cs : List Value} (h : Row w b o cs) (hc : Up w w') : Row w' b o cs := h.ch hc (fun h => h)
theorem Blk.row {w : World} {b o : Nat} {cs : Array Value} {l : List Value} (h : Blk w b cs) (hl : ∀ i v, l[i]? = some v → cs[o + i]? = some v) : Row w b o l := fun i v hv => h.cell (hl i v hv)
/-- a row of values laid over an array from o on -/
def spl (cs : Array Value) (o : Nat) : List Value → Array Value
  | [] => cs
  | v :: vs => spl (cs.setIfInBounds o v) (o + 1) vs
theorem size_spl (cs : Array Value) (o : Nat) (vs : List Value) : (spl cs o vs).size = cs.size := by
  induction vs generalizing cs o with
  | nil => rfl
  | cons v vs ih => simp [spl, ih]
theorem get_spl (cs : Array Value) (o : Nat) (vs : List Value) (i : Nat) (h : o + vs.length ≤ cs.size) :
    (spl cs o vs)[i]? = if o ≤ i ∧ i < o + vs.length then vs[i - o]? else cs[i]? := by
  induction vs generalizing cs o with
  | nil => simp [spl]; intro h1 h2; omega
  | cons v vs ih =>
    simp only [List.length_cons] at h
    rw [spl, ih _ _ (by simp; omega)]
    by_cases h1 : o = i
    · subst h1
      rw [if_neg (by omega), if_pos (by simp)]
      simp [show o < cs.size from by omega]
    · by_cases h2 : o + 1 ≤ i ∧ i < o + 1 + vs.length
      · rw [if_pos h2, if_pos (by simp; omega)]
        have : i - o = (i - (o + 1)) + 1 := by omega
        rw [this, List.getElem?_cons_succ]
      · rw [if_neg h2, if_neg (by simp; omega), Array.getElem?_setIfInBounds_ne h1]
theorem get_spl_out {cs : Array Value} {o : Nat} {vs : List Value} {i : Nat} (h : o + vs.length ≤ cs.size) (ho : i < o ∨ o + vs.length ≤ i) : (spl cs o vs)[i]? = cs[i]? := by
  rw [get_spl _ _ _ _ h, if_neg (by omega)]
theorem get_spl_in {cs : Array Value} {o : Nat} {vs : List Value} {i : Nat} {v : Value} (h : o + vs.length ≤ cs.size) (hv : vs[i]? = some v) : (spl cs o vs)[o + i]? = some v := by
  have : i < vs.length := (List.getElem?_eq_some_iff.1 hv).1
  rw [get_spl _ _ _ _ h, if_pos (by omega)]
  rw [show o + i - o = i from by omega]; exact hv
/-! Operations that touch the world: what is known behind them. -/
structure Eff (n : Nat) (s : Nat → Value) (w : World) (o : Oper) (R : Value → World → Prop) : Prop where
  out : ∀ (K : Act → World → Prop) (Q : Exit → Act → World → Prop), (∀ v w', R v w' → K ((mk n s).put o.dst v) w') → o.wp Hvaa.prog (mk n s) w K Q
def Zr (T : Nat) (z : Value) : Prop := (Hvaa.prog.info? T).bind (·.zero) = some z
theorem run_zero {T : Nat} {z : Value} (h : Zr T z) (w : World) : (zeroValue T).run Hvaa.prog w = .ok z w := by
  unfold Zr at h
  cases hi : Hvaa.prog.info? T with
  | none => simp [hi] at h
  | some i => simp [hi] at h; simp [zeroValue, typeInfo, hi, h]
section
variable {n : Nat} {s : Nat → Value} {w : World} {d : Option Nat} {ty : TypeId} {pos : String} {af : Array Edge} {g : Option (Nat × Bool)} {R : Value → World → Prop}
/-- a new block -/
structure New (w w' : World) (b : Nat) (cs : Array Value) : Prop where
  up : Up w w'
  blk : Blk w' b cs
  fresh : w.heap.size ≤ b
theorem new_alloc (w : World) (cs : Array Value) (T : TypeId) : New w (w.alloc (.cells cs T)) w.heap.size cs :=
  ⟨⟨rfl, rfl, rfl, by simp, fun k hk _ => Go.RowKit.Below.heap_alloc w _ k hk⟩, ⟨T, heap_alloc_new w _⟩, Nat.le_refl _⟩
theorem e_box {x : Operand} {T : Nat} : Eff n s w ⟨d, .box T x, ty, pos, af, g⟩ (fun v w' => ∃ b, v = .pointer (some ⟨b, 0, none⟩) ∧ New w w' b (ev n s x).cells) := by
  refine ⟨fun K Q hK => ?_⟩
  have : (execOp (mk n s).eval ⟨d, .box T x, ty, pos, af, g⟩).run Hvaa.prog w = .ok (.value (.pointer (some ⟨w.heap.size, 0, none⟩))) (w.alloc (.cells (ev n s x).cells T)) := by
    rw [mk_eval']; simp [execOp, Instr.box, newVar, newRow]
  unfold Oper.wp
  rw [this]
  exact hK _ _ ⟨_, rfl, new_alloc w _ T⟩
theorem e_alloc {T : Nat} {z : Value} (hz : Zr T z) : Eff n s w ⟨d, .alloc T, ty, pos, af, g⟩ (fun v w' => ∃ b, v = .pointer (some ⟨b, 0, none⟩) ∧ New w w' b z.cells) := by
  refine ⟨fun K Q hK => ?_⟩
  have : (execOp (mk n s).eval ⟨d, .alloc T, ty, pos, af, g⟩).run Hvaa.prog w = .ok (.value (.pointer (some ⟨w.heap.size, 0, none⟩))) (w.alloc (.cells z.cells T)) := by
    simp [execOp, Instr.alloc, run_zero hz, newVar, newRow]
  unfold Oper.wp
  rw [this]
  exact hK _ _ ⟨_, rfl, new_alloc w _ T⟩
/-- stores -/
theorem run_storeCells_blk (b T : Nat) : ∀ (vs : List Value) (w : World) (cs : Array Value) (o i : Nat), w.heap[b]? = some (.cells cs T (0, 0)) → o + i + vs.length ≤ cs.size → (∀ v ∈ vs, v.one1 = true) →
    ∃ w', (storeCells ⟨b, o, none⟩ vs i).run Hvaa.prog w = .ok () w' ∧ w'.heap[b]? = some (.cells (spl cs (o + i) vs) T (0, 0)) ∧ Ch (fun k => k = b) w w' ∧ w'.heap.size = w.heap.size
  | [], w, cs, o, i, hb, _, _ => ⟨w, by simp [storeCells], by simpa [spl] using hb, Ch.refl _ _, rfl⟩
  | v :: vs, w, cs, o, i, hb, hl, hv => by
    simp only [List.length_cons] at hl
    have hlt : b < w.heap.size := (Array.getElem?_eq_some_iff.1 hb).1
    have hc : w.cell? ⟨b, o + i, none⟩ = some cs[o + i] := by simp [World.cell?, hb]
    have hf : w.frozen? ⟨b, o + i, none⟩ = false := by simp [World.frozen?, hb]
    have hb' : (w.setCell ⟨b, o + i, none⟩ v).heap[b]? = some (.cells (cs.setIfInBounds (o + i) v) T (0, 0)) := by
      simp [World.setCell, Array.getElem?_modify, hb]
    obtain ⟨w', h1, h2, h3, h4⟩ := run_storeCells_blk b T vs (w.setCell ⟨b, o + i, none⟩ v) _ o (i + 1) hb' (by simp; omega) (fun u hu => hv u (List.mem_cons_of_mem _ hu))
    have hst : (store ((⟨b, o, none⟩ : Addr).add i) v).run Hvaa.prog w = .ok () (w.setCell ⟨b, o + i, none⟩ v) := by
      rw [addr_add]
      have ho := hv v (List.mem_cons_self ..)
      cases v <;> first | (exact absurd ho Bool.false_ne_true) | simp [store, Sem.run, hc, hf]
    refine ⟨w', ?_, h2, ?_, by rw [h4]; simp [World.setCell]⟩
    · simp [storeCells, hst, h1]
    · refine Ch.trans (w2 := w.setCell ⟨b, o + i, none⟩ v) ⟨rfl, rfl, rfl, by simp [World.setCell], fun k hk hM => ?_⟩ h3 (fun _ h => .inl h)
      simp only [World.setCell, Array.getElem?_modify]
      rw [if_neg (fun h => hM h.symm)]
/-- behind a store into block b -/
structure Wr (w w' : World) (b : Nat) (cs : Array Value) : Prop where
  ch : Ch (fun k => k = b) w w'
  blk : Blk w' b cs
  size : w'.heap.size = w.heap.size
theorem e_store {x y : Operand} {T k b o : Nat} {cs : Array Value} {vs : List Value} (hs : Sz T k) (hx : ev n s x = .pointer (some ⟨b, o, none⟩)) (hy : (ev n s y).cells = vs.toArray) (hl : vs.length = k) (hv : ∀ v ∈ vs, v.one1 = true) (hb : Blk w b cs) (ho : o + k ≤ cs.size) :
    Eff n s w ⟨d, .store T x y, ty, pos, af, g⟩ (fun v w' => v = undef ∧ Wr w w' b (spl cs o vs)) := by
  refine ⟨fun K Q hK => ?_⟩
  obtain ⟨T', hb⟩ := hb
  obtain ⟨w', h1, h2, h3, h4⟩ := run_storeCells_blk b T' vs w cs o 0 hb (by omega) hv
  have : (execOp (mk n s).eval ⟨d, .store T x y, ty, pos, af, g⟩).run Hvaa.prog w = .ok .skip w' := by
    rw [mk_eval']
    simp [execOp, hx, Instr.storeAt, Instr.sureAddr, storeVar, run_sizeOf hs, hy, hl, h1]
  unfold Oper.wp
  rw [this]
  exact hK _ _ ⟨rfl, h3, ⟨T', by simpa using h2⟩, h4⟩
/-! calls -/
def Cal (f : Nat) : Prop := ∀ args w, (callFunc f args).run Hvaa.prog w = .ok (.enter f args) w
theorem cal_of {f : Nat} {fn : Func} {c : Code} (hf : Hvaa.prog.funcs[f]? = some fn) (hn : (fn.name == "runtime.NumGoroutine") = false) (hb : fn.body = some c) : Cal f := by
  intro args w
  have hn' : ¬ fn.name = "runtime.NumGoroutine" := by simpa using hn
  simp [callFunc, hf, hn', hb]
theorem e_call {f : Nat} {xs : List Operand} {ts : Array TypeId} (hc : Cal f) (h : Ret f (xs.map (ev n s)) w R) :
    Eff n s w ⟨d, .call { callee := .value (.func f), args := xs.toArray, argTypes := ts }, ty, pos, af, g⟩ R := by
  refine ⟨fun K Q hK => ?_⟩
  have : (execOp (mk n s).eval ⟨d, .call { callee := .value (.func f), args := xs.toArray, argTypes := ts }, ty, pos, af, g⟩).run Hvaa.prog w = .ok (.enter f (xs.map (ev n s)).toArray) w := by
    rw [mk_eval']
    simp [execOp, resolve, ev, Deferred.ofValue, invoke, hc _ w]
  unfold Oper.wp
  rw [this]
  refine Calls.mono h.out fun e w' ⟨v, he, hv⟩ => ?_
  subst he
  exact hK _ _ hv
end
section
variable {Q : Exit → Act → World → Prop} {n : Nat} {s : Nat → Value} {w : World} {ops : Array Oper} {rest : List Oper} {op : Op} {ty : TypeId} {pos : String} {af : Array Edge} {R : Value → World → Prop}
theorem l_eff {d : Nat} (he : Eff n s w ⟨some d, op, ty, pos, af, none⟩ R) (h : ∀ v w', R v w' → WL ops Q rest n (upd s d v) w') : WL ops Q (⟨some d, op, ty, pos, af, none⟩ :: rest) n s w :=
  ⟨wpList_plain rfl fun K hK => he.out K Q fun v w' hv => by rw [mk_put]; exact hK _ _ (h v w' hv).out⟩
theorem l_effN (he : Eff n s w ⟨none, op, ty, pos, af, none⟩ R) (h : ∀ v w', R v w' → WL ops Q rest n s w') : WL ops Q (⟨none, op, ty, pos, af, none⟩ :: rest) n s w :=
  ⟨wpList_plain rfl fun K hK => he.out K Q fun v w' hv => by rw [mk_put]; exact hK _ _ (h v w' hv).out⟩
end
end Go.Proofs.YgvaawGreat
