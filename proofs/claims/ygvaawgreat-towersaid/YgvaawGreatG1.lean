import Derived.Test.YgvaawGreatE14
import Derived.Lib.AppendZerosOnto
set_option maxRecDepth 100000
set_option linter.unusedSimpArgs false
set_option linter.unusedVariables false
namespace Go.Proofs.YgvaawGreat
open Go
/-! The engine's memory. -/
theorem Blk.c1 {w : World} {b o p : Nat} {cs : Array Value} {v : Value} (h : Blk w b cs) (hv : cs[p]? = some v) (e : o = p) : w.cell? ⟨b, o, none⟩ = some v := by subst e; exact h.cell hv
def bsN (ms : List (List Nat)) (i : Nat) : Nat := (ms.take i).flatten.length
structure MA (w : World) (col : Nat → Nat) (cs : Array Value) (ms : List (List Nat)) (bm : Nat) (cm : Array Value) (n : Nat) : Prop where
  tp : cs[10]? = some (.int .u8 (ms.length : Nat))
  bs : ∀ i, i ≤ ms.length → cs[2 + i]? = some (.int .u32 (bsN ms i : Nat))
  bf : ∃ v, cs[1]? = some v ∧ GB w 1 v bm cm n ∧ (v.ownBlock = some bm → col bm = 8)
  le : ms.flatten.length ≤ n
  nb : n ≤ 5020960
  by' : RowIn cm 0 (bL ms.flatten)
  ln : ms.length ≤ 7
  mx : ∀ m ∈ ms, m.length ≤ 717280
  dg : ∀ m ∈ ms, Dig 256 m
theorem MA.ch {M : Nat → Prop} {w w' : World} {col : Nat → Nat} {cs : Array Value} {ms : List (List Nat)} {bm : Nat} {cm : Array Value} {n : Nat} (h : MA w col cs ms bm cm n) (c : Ch M w w') (hM : col bm = 8 → ¬ M bm) : MA w' col cs ms bm cm n := by
  obtain ⟨v, h1, h2, h3⟩ := h.bf
  exact ⟨h.tp, h.bs, ⟨v, h1, h2.ch c (fun e hm => hM (h3 e) hm), h3⟩, h.le, h.nb, h.by', h.ln, h.mx, h.dg⟩
theorem MA.up {w w' : World} {col : Nat → Nat} {cs : Array Value} {ms : List (List Nat)} {bm : Nat} {cm : Array Value} {n : Nat} (h : MA w col cs ms bm cm n) (u : Up w w') : MA w' col cs ms bm cm n := h.ch u (fun _ h => h.elim)
theorem MA.out {w : World} {col : Nat → Nat} {cs cs' : Array Value} {ms : List (List Nat)} {bm : Nat} {cm : Array Value} {n o k : Nat} (h : MA w col cs ms bm cm n) (ho : Out cs cs' o k) (hk : 11 ≤ o) : MA w col cs' ms bm cm n := by
  obtain ⟨v, h1, h2, h3⟩ := h.bf
  have := h.ln
  exact ⟨by rw [ho.get _ (by omega)]; exact h.tp, fun i hi => by rw [ho.get _ (by omega)]; exact h.bs i hi, ⟨v, by rw [ho.get _ (by omega)]; exact h1, h2, h3⟩, h.le, h.nb, h.by', h.ln, h.mx, h.dg⟩
theorem MA.col {w : World} {col col' : Nat → Nat} {cs : Array Value} {ms : List (List Nat)} {bm : Nat} {cm : Array Value} {n : Nat} (h : MA w col cs ms bm cm n) (ho : ∀ b, b < w.heap.size → col' b = col b) : MA w col' cs ms bm cm n := by
  obtain ⟨v, h1, h2, h3⟩ := h.bf
  exact ⟨h.tp, h.bs, ⟨v, h1, h2, fun e => by rw [ho _ (h2.own e).2]; exact h3 e⟩, h.le, h.nb, h.by', h.ln, h.mx, h.dg⟩
theorem bsN_all (ms : List (List Nat)) : bsN ms ms.length = ms.flatten.length := by unfold bsN; rw [List.take_length]
theorem bsN_low (low : List (List Nat)) (m : List Nat) : bsN (low ++ [m]) low.length = low.flatten.length := by unfold bsN; rw [List.take_left]
theorem bsN_top (low : List (List Nat)) (m : List Nat) : bsN (low ++ [m]) (low.length + 1) = low.flatten.length + m.length := by
  have := bsN_all (low ++ [m])
  rw [List.length_append, List.length_singleton] at this
  rw [this, List.flatten_append, List.length_append]
  simp
theorem bsN_pre {low : List (List Nat)} {m m' : List Nat} {i : Nat} (hi : i ≤ low.length) : bsN (low ++ [m]) i = bsN (low ++ [m']) i := by
  unfold bsN
  rw [List.take_append_of_le_length hi, List.take_append_of_le_length hi]
theorem flat_snoc (low : List (List Nat)) (m : List Nat) : (low ++ [m]).flatten = low.flatten ++ m := by simp
/-- the top memory's bytes -/
theorem MA.row {w : World} {col : Nat → Nat} {cs : Array Value} {low : List (List Nat)} {m : List Nat} {bm : Nat} {cm : Array Value} {n : Nat} (h : MA w col cs (low ++ [m]) bm cm n) : RowIn cm low.flatten.length (bL m) := by
  intro j v hv
  have h1 := h.by'
  rw [flat_snoc] at h1
  have := h1 (low.flatten.length + j) v (by
    unfold bL at hv ⊢
    rw [List.map_append, List.getElem?_append_right (by rw [List.length_map]; omega), List.length_map, Nat.add_sub_cancel_left]
    exact hv)
  rw [Nat.zero_add] at this
  exact this
theorem MA.pos {w : World} {col : Nat → Nat} {cs : Array Value} {low : List (List Nat)} {m : List Nat} {bm : Nat} {cm : Array Value} {n : Nat} (h : MA w col cs (low ++ [m]) bm cm n) (hm : 0 < m.length) : ∃ cap, cs[1]? = some (.slice (some ⟨bm, 0, none⟩) n cap) ∧ n ≤ cap ∧ cap ≤ maxLen ∧ cap ≤ cm.size ∧ Blk w bm cm ∧ col bm = 8 := by
  obtain ⟨v, h1, h2, h3⟩ := h.bf
  have := h.le
  rw [flat_snoc, List.length_append] at this
  obtain ⟨cap, e1, e2, e3, e4, e5⟩ := h2.pos (by omega)
  subst e1
  exact ⟨cap, h1, e2, e3, by omega, e5, h3 rfl⟩
section
variable {S : World → Prop} {n : Nat} {s : Nat → Value} {d : Option Nat} {ty : TypeId} {pos : String} {af : Array Edge} {g : Option (Nat × Bool)}
theorem y_slS111z {T e k : Nat} {x l h m : Operand} {kl kh km : IntKind} {i j p : Int} (hU : Hvaa.prog.underlying T = some (.slice e)) (hs : Sz e k) (hx : ev n s x = .slice none 0 0) (hl : ev n s l = .int kl i) (hh : ev n s h = .int kh j) (hm : ev n s m = .int km p) (c1 : i = 0) (c2 : j = 0) (c3 : p = 0) :
    Yv S n s ⟨d, .slice T x (some l) (some h) (some m), ty, pos, af, g⟩ (.slice none 0 0) := fun w _ => by
  subst c1 c2 c3
  simp [execOp, Instr.sliceAt, run_underlying hU, hx, Instr.slice, hl, hh, hm, Instr.sliceBounds, Instr.sliceBound, asIntOf, run_sizeOf hs]
theorem y_slS100z {T e k : Nat} {x l : Operand} {kl : IntKind} {i : Int} (hU : Hvaa.prog.underlying T = some (.slice e)) (hs : Sz e k) (hx : ev n s x = .slice none 0 0) (hl : ev n s l = .int kl i) (c1 : i = 0) :
    Yv S n s ⟨d, .slice T x (some l) none none, ty, pos, af, g⟩ (.slice none 0 0) := fun w _ => by
  subst c1
  simp [execOp, Instr.sliceAt, run_underlying hU, hx, Instr.slice, hl, Instr.sliceBounds, Instr.sliceBound, asIntOf, run_sizeOf hs]
end
/-! Writes to memory. -/
theorem bL_app (a b : List Nat) : bL (a ++ b) = bL a ++ bL b := by simp [bL]
theorem bLt (a : List Nat) (n : Nat) : bL (a.take n) = (bL a).take n := by simp [bL]
theorem bLd (a : List Nat) (n : Nat) : bL (a.drop n) = (bL a).drop n := by simp [bL]
/-- bytes l laid over the top memory at off -/
def lay (m : List Nat) (off : Nat) (l : List Nat) : List Nat := m.take off ++ l ++ m.drop (off + l.length)
theorem lay_len {m l : List Nat} {off : Nat} (h : off + l.length ≤ m.length) : (lay m off l).length = m.length := by
  unfold lay
  rw [List.length_append, List.length_append, List.length_take, List.length_drop]
  omega
theorem Dig.tk {a : List Nat} (ha : Dig 256 a) (n : Nat) : Dig 256 (a.take n) := fun d hd => ha d (List.mem_of_mem_take hd)
theorem Dig.dr {a : List Nat} (ha : Dig 256 a) (n : Nat) : Dig 256 (a.drop n) := fun d hd => ha d (List.mem_of_mem_drop hd)
theorem MA.put {w w' : World} {col : Nat → Nat} {cs : Array Value} {low : List (List Nat)} {m l : List Nat} {bm : Nat} {cm : Array Value} {n off o : Nat} (h : MA w col cs (low ++ [m]) bm cm n) (hl : off + l.length ≤ m.length) (h0 : 0 < m.length) (hd : Dig 256 l) (ho : o = low.flatten.length + off) (x : Wr w w' bm (spl cm o (bL l))) : MA w' col cs (low ++ [lay m off l]) bm (spl cm o (bL l)) n := by
  subst ho
  obtain ⟨cap, e1, e2, e3, e4, e5, e6⟩ := h.pos h0
  have hle := h.le
  rw [flat_snoc, List.length_append] at hle
  have hz : low.flatten.length + off + (bL l).length ≤ cm.size := by rw [length_bL]; omega
  have hlen := lay_len hl
  refine ⟨?_, fun i hi => ?_, ⟨_, e1, ⟨.inr ⟨cap, rfl, e2, e3, by rw [size_spl]; omega, x.blk⟩⟩, fun _ => e6⟩, by rw [flat_snoc, List.length_append, hlen]; exact hle, h.nb, ?_, ?_, fun q hq => ?_, fun q hq => ?_⟩
  · have := h.tp
    rw [List.length_append] at this ⊢
    exact this
  · rw [List.length_append, List.length_singleton] at hi
    have := h.bs i (by rw [List.length_append, List.length_singleton]; exact hi)
    rw [this]
    congr 3
    by_cases h1 : i ≤ low.length
    · exact bsN_pre h1
    · have e : i = low.length + 1 := by omega
      subst e
      rw [bsN_top, bsN_top, hlen]
  · rw [flat_snoc, bL_app]
    unfold lay
    rw [bL_app, bL_app, bLt, bLd, ← List.append_assoc, ← List.append_assoc]
    have hr : RowIn cm 0 (bL low.flatten ++ bL m) := by have := h.by'; rw [flat_snoc, bL_app] at this; exact this
    have h2 := x.blk.rputm hr (low.flatten.length + off) (by omega) (l' := (bL low.flatten ++ (bL m).take off) ++ bL l ++ (bL m).drop (off + l.length)) (by
      rw [List.take_append, length_bL, Nat.add_sub_cancel_left, List.take_of_length_le (by rw [length_bL]; omega), List.drop_append, length_bL, length_bL, List.drop_of_length_le (by rw [length_bL]; omega), List.nil_append, show low.flatten.length + off + l.length - low.flatten.length = off + l.length by omega]) (by rw [List.length_append, length_bL, length_bL]; omega) (by omega)
    exact h2
  · have := h.ln
    rw [List.length_append] at this ⊢
    exact this
  · rcases List.mem_append.1 hq with hq | hq
    · exact h.mx q (List.mem_append_left _ hq)
    · simp at hq
      rw [hq, hlen]
      exact h.mx m (by simp)
  · rcases List.mem_append.1 hq with hq | hq
    · exact h.dg q (List.mem_append_left _ hq)
    · simp at hq
      rw [hq]
      have hm := h.dg m (by simp)
      exact ((hm.tk off).app hd).app (hm.dr _)
section
variable {n : Nat} {s : Nat → Value} {w : World} {d : Option Nat} {ty : TypeId} {pos : String} {af : Array Edge} {g : Option (Nat × Bool)}
/-- append of zero bytes -/
theorem e_appZ {x y : Operand} {bg N k : Nat} {v : Value} {cur : Array Value} (hx : ev n s x = v) (hO : GB w 1 v bg cur N) (hy : ev n s y = .int .i64 (k : Nat)) (hk : 0 < k) (hn : N + k ≤ 4294967296) :
    Eff n s w ⟨d, .call { callee := .builtin .append, args := #[x, y], argTypes := #[38, 3] }, ty, pos, af, g⟩ (fun v' w' => ∃ bg' cur', GB w' 1 v' bg' cur' (N + k) ∧ Pre cur cur' N ∧ RowIn cur' N (List.replicate k (.int .u8 0)) ∧ Ch (fun b => v.ownBlock = some b) w w' ∧ (v.ownBlock = some bg' ∨ (w.heap.size ≤ bg' ∧ Up w w'))) := by
  obtain ⟨i, hi, g2, g3, g4⟩ := info_of sz_5 zr_5 by_5
  have hml : N + k ≤ maxLen := by unfold maxLen; omega
  have hzc : ∀ m, Builtin.zeroCells (Value.int .u8 0).cells m = (List.replicate m (Value.int .u8 0)).toArray := fun m => by
    apply Array.ext_getElem?
    intro j
    unfold Builtin.zeroCells
    have e : (Value.int .u8 0).cells = #[Value.int .u8 0] := rfl
    rw [e]
    by_cases hj : j < m
    · simp [hj, Nat.mod_one]
    · rw [Array.getElem?_eq_none (by simp; omega), Array.getElem?_eq_none (by simp; omega)]
  have grown : ∀ (olds : List Value) (old : Nat), olds.length = N → Pre cur olds.toArray N → ∀ (v' : Value) (w' : World),
      v' = .slice (some ⟨w.heap.size, 0, none⟩) (N + k) (grownCap w (N + k) old 5) → w' = (w.drew.alloc (.cells (olds.toArray ++ Builtin.zeroCells (Value.int .u8 0).cells k ++ Builtin.zeroCells (Value.int .u8 0).cells (grownCap w (N + k) old 5 - (N + k))) 5)) →
      ∃ bg' cur', GB w' 1 v' bg' cur' (N + k) ∧ Pre cur cur' N ∧ RowIn cur' N (List.replicate k (.int .u8 0)) ∧ Ch (fun b => v.ownBlock = some b) w w' ∧ (v.ownBlock = some bg' ∨ (w.heap.size ≤ bg' ∧ Up w w')) := by
    intro olds old ho hp v' w' ev ew
    subst ev ew
    have hge := grownCap_ge w (N + k) old 5
    have hcm : grownCap w (N + k) old 5 ≤ maxLen := grownCap_le_maxLen w (N + k) old 5 hml
    refine ⟨w.heap.size, _, ⟨.inr ⟨_, rfl, hge, hcm, ?_, ⟨5, heap_alloc_new w.drew _⟩⟩⟩, ?_, ?_, ⟨rfl, rfl, rfl, by simp, fun b hb _ => heap_alloc_old w.drew _ hb⟩, .inr ⟨Nat.le_refl _, ⟨rfl, rfl, rfl, by simp, fun b hb _ => heap_alloc_old w.drew _ hb⟩⟩⟩
    · rw [hzc, hzc]
      simp [ho]
      omega
    · intro j hj
      rw [Array.append_assoc, Array.getElem?_append_left (by simp; omega)]
      exact hp j hj
    · intro j u hu
      have hj : j < k := by have := (List.getElem?_eq_some_iff.1 hu).1; simpa using this
      rw [hzc, hzc, Array.getElem?_append_left (by simp; omega), Array.getElem?_append_right (by simp; omega)]
      simp only [List.size_toArray, ho, Nat.add_sub_cancel_left, List.getElem?_toArray]
      exact hu
  refine ⟨fun K Q hK => ?_⟩
  rcases hO.at' with ⟨rfl, rfl⟩ | ⟨cap, rfl, hnc, hcm, hcs, T0, hg⟩
  · have hr := Lib.run_append_nil_zeros (P := Hvaa.prog) w 38 3 ty 5 i (.int .u8 0) .i64 .i64 Hvaa.underlying38 Hvaa.underlying3 hi g4 k hk (by rw [g2]; decide) (by omega) (by rw [g3]; omega)
    have : (execOp (mk n s).eval ⟨d, .call { callee := .builtin .append, args := #[x, y], argTypes := #[38, 3] }, ty, pos, af, g⟩).run Hvaa.prog w = .ok (.value (.slice (some ⟨w.heap.size, 0, none⟩) k (grownCap w k 0 5))) (w.drew.alloc (.cells (Builtin.zeroCells (Value.int .u8 0).cells k ++ Builtin.zeroCells (Value.int .u8 0).cells (grownCap w k 0 5 - k)) 5)) := by
      rw [mk_eval']
      simp [execOp, resolve, invoke, builtin, hx, hy, hr]
    unfold Oper.wp
    rw [this]
    exact hK _ _ (grown [] 0 rfl (fun i hi => by omega) _ _ (by simp) (by simp))
  · rw [Nat.mul_one] at hcs
    by_cases hroom : N + k ≤ cap
    · have hone : ∀ u ∈ List.replicate k (Value.int .u8 0), u.one1 = true := fun u hu => by rw [(List.mem_replicate.1 hu).2]; rfl
      have hfit : N + (List.replicate k (Value.int .u8 0)).length ≤ cur.size := by rw [List.length_replicate]; omega
      obtain ⟨w', e1, e2, e3, e4⟩ := run_storeCells_blk bg T0 (List.replicate k (Value.int .u8 0)) w cur N 0 hg (by omega) hone
      have hneg : ¬ ((k : Int) < 0) := by omega
      have hw : IntKind.i64.wrap (k : Int) = k := by rw [IntKind.wrap_i64]; omega
      have h48i : ¬ (281474976710656 < (k : Int) * (i.bytes : Int)) := by rw [g3]; omega
      have hns : ¬ (k * i.size = 0) := by rw [g2]; omega
      have hk0 : k ≠ 0 := by omega
      simp only [Nat.add_zero] at e1 e2
      have : (execOp (mk n s).eval ⟨d, .call { callee := .builtin .append, args := #[x, y], argTypes := #[38, 3] }, ty, pos, af, g⟩).run Hvaa.prog w = .ok (.value (.slice (some ⟨bg, 0, none⟩) (N + k) cap)) w' := by
        rw [mk_eval']
        have hi2 : i.size = 1 := g2
        simp [execOp, resolve, invoke, builtin, hx, hy, Builtin.append_, run_underlying Hvaa.underlying38, run_underlying Hvaa.underlying3, sizeOf, typeInfo, zeroValue, hi, g4, asInt, asIntOf, hw, hneg, hk0, h48i, hroom, addr_add, hi2, hzc, e1]
      unfold Oper.wp
      rw [this]
      refine hK _ _ ⟨bg, _, ⟨.inr ⟨cap, rfl, hroom, hcm, by rw [size_spl, Nat.mul_one]; exact hcs, T0, e2⟩⟩, ?_, ?_, ?_, .inl rfl⟩
      · intro j hj
        rw [get_spl_out (by omega) (by omega)]
      · intro j u hu
        exact get_spl_in hfit hu
      · exact ⟨e3.1, e3.2, e3.3, e3.4, fun b hb hM => e3.5 b hb (fun h => hM (by rw [h]; rfl))⟩
    · have hpre : Pre cur (cur.toList.take N).toArray N := fun j hj => by
        rw [List.getElem?_toArray, List.getElem?_take, if_pos hj, Array.getElem?_toList]
      have hole : (cur.toList.take N).length = N := by
        rw [List.length_take, Array.length_toList]
        exact Nat.min_eq_left (by omega)
      have holds : ∀ (j : Nat) u, (cur.toList.take N)[j]? = some u → w.drew.cell? ((⟨bg, 0, none⟩ : Addr).add j) = some u := fun j u hu => by
        rw [List.getElem?_take] at hu
        split at hu
        · rw [addr_add, Nat.zero_add]
          exact (Up.drew w).cell (Blk.cell ⟨T0, hg⟩ (by simpa using hu))
        · cases hu
      have hf := run_firstCells_some (P := Hvaa.prog) w.drew i.size N ⟨bg, 0, none⟩ N cap (cur.toList.take N) (by rw [hole, g2, Nat.mul_one]) holds
      have hr := Lib.run_append_grow_zeros (P := Hvaa.prog) w 38 3 ty 5 i (.int .u8 0) .i64 .i64 Hvaa.underlying38 Hvaa.underlying3 hi g4 (some ⟨bg, 0, none⟩) N cap _ hf k hk (by rw [g2]; decide) (by omega) (by omega) (by rw [g3]; omega) (growslice_fits (by omega) (by rw [g3]; omega))
      have : (execOp (mk n s).eval ⟨d, .call { callee := .builtin .append, args := #[x, y], argTypes := #[38, 3] }, ty, pos, af, g⟩).run Hvaa.prog w = .ok (.value (.slice (some ⟨w.heap.size, 0, none⟩) (N + k) (grownCap w (N + k) cap 5))) (w.drew.alloc (.cells ((cur.toList.take N).toArray ++ Builtin.zeroCells (Value.int .u8 0).cells k ++ Builtin.zeroCells (Value.int .u8 0).cells (grownCap w (N + k) cap 5 - (N + k))) 5)) := by
        rw [mk_eval']
        simp [execOp, resolve, invoke, builtin, hx, hy, hr]
      unfold Oper.wp
      rw [this]
      exact hK _ _ (grown _ cap hole hpre _ _ rfl rfl)
end
end Go.Proofs.YgvaawGreat
