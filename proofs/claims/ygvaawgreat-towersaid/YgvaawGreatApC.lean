import Derived.Test.YgvaawGreatApB
set_option maxRecDepth 100000
set_option linter.unusedSimpArgs false
set_option linter.unusedVariables false
namespace Go.Proofs.YgvaawGreat
open Go
section
variable {n : Nat} {s : Nat → Value} {w : World} {d : Option Nat} {ty : TypeId} {pos : String} {af : Array Edge} {g : Option (Nat × Bool)}
theorem e_byte0 {x : Operand} {q : Nat} (hx : ev n s x = .int .u8 (q : Nat)) (hq : q < 256) : Eff n s w ⟨d, .buildSlice 38 1 #[(0, x)], ty, pos, af, g⟩ (fun u w' => ∃ b, u = .slice (some ⟨b, 0, none⟩) 1 1 ∧ AB w.heap.size w'.heap.size w' (.slice (some ⟨b, 0, none⟩) 1 1) [q] ∧ Up w w') := by
  refine ⟨fun K Q hK => ?_⟩
  have hv : (Value.int .u8 (q : Nat)).cells.size = 0 + 1 := rfl
  have hf : Instr.fill (fun i => some (i * (0 + 1), 0 + 1)) ((Array.range (0 + 1)).map ((Value.int .u8 0).cells[· % (Value.int .u8 0).cells.size]!)) [(0, Value.int .u8 (q : Nat))] = some (Value.int .u8 (q : Nat)).cells := by
    rw [fill_one (off := 0) (k := 0 + 1) (by simp) hv (by simp), Instr.fill]
    rw [spl_full _ _ (by simp [hv])]
  have : (execOp (mk n s).eval ⟨d, .buildSlice 38 1 #[(0, x)], ty, pos, af, g⟩).run Hvaa.prog w = .ok (.value (.slice (some ⟨w.heap.size, 0, none⟩) 1 1)) (w.alloc (.cells (Value.int .u8 (q : Nat)).cells 5)) := by
    rw [mk_eval']
    simp only [Nat.zero_add, Nat.mul_one] at hf
    simp [execOp, Instr.buildSlice, run_underlying Hvaa.underlying38, run_sizeOf sz_5, run_zero zr_5, hx, newRow, hf]
  unfold Oper.wp
  rw [this]
  have hn := new_alloc w (Value.int .u8 (q : Nat)).cells 5
  refine hK _ _ ⟨_, rfl, AB.ofNew (l := [q]) hn.fresh (heap_alloc_new w _) (Dig.one hq) (by simp), hn.up⟩
theorem e_bytes2 {x y : Operand} {q r : Nat} (hx : ev n s x = .int .u8 (q : Nat)) (hy : ev n s y = .int .u8 (r : Nat)) (hq : q < 256) (hr : r < 256) : Eff n s w ⟨d, .buildSlice 38 2 #[(0, x), (1, y)], ty, pos, af, g⟩ (fun u w' => AB w.heap.size w'.heap.size w' u [q, r] ∧ Up w w') := by
  refine ⟨fun K Q hK => ?_⟩
  have hf : Instr.fill (fun i => some (i * 1, 1)) ((Array.range 2).map ((Value.int .u8 0).cells[· % (Value.int .u8 0).cells.size]!)) [(0, Value.int .u8 (q : Nat)), (1, Value.int .u8 (r : Nat))] = some (bL [q, r]).toArray := by
    rw [fill_one (off := 0) (k := 1) (by simp) rfl (by simp), fill_one (off := 1) (k := 1) (by simp) rfl (by simp [size_spl]), Instr.fill]
    have e : (Array.range 2).map ((Value.int .u8 0).cells[· % (Value.int .u8 0).cells.size]!) = #[Value.int .u8 0, Value.int .u8 0] := by kernel_rfl
    rw [e]
    rfl
  have : (execOp (mk n s).eval ⟨d, .buildSlice 38 2 #[(0, x), (1, y)], ty, pos, af, g⟩).run Hvaa.prog w = .ok (.value (.slice (some ⟨w.heap.size, 0, none⟩) 2 2)) (w.alloc (.cells (bL [q, r]).toArray 5)) := by
    rw [mk_eval']
    simp only [Nat.mul_one] at hf
    simp [execOp, Instr.buildSlice, run_underlying Hvaa.underlying38, run_sizeOf sz_5, run_zero zr_5, hx, hy, newRow, hf]
  unfold Oper.wp
  rw [this]
  have hn := new_alloc w (bL [q, r]).toArray 5
  refine hK _ _ ⟨AB.ofNew (l := [q, r]) hn.fresh (heap_alloc_new w _) (by intro d hd; simp at hd; omega) (by simp), hn.up⟩
theorem e_storeAB {x y : Operand} {base B b o q r : Nat} (hx : ev n s x = .pointer (some ⟨b, o, none⟩)) (ho : o = 0) (hy : ev n s y = .int .u8 (r : Nat)) (hr : r < 256) (hO : AB base B w (.slice (some ⟨b, 0, none⟩) 1 1) [q]) : Eff n s w ⟨d, .store 5 x y, ty, pos, af, g⟩ (fun v w' => v = undef ∧ AB base B w' (.slice (some ⟨b, 0, none⟩) 1 1) [r] ∧ Ch (fun k => k = b) w w' ∧ w'.heap.size = w.heap.size) := by
  subst ho
  refine ⟨fun K Q hK => ?_⟩
  obtain ⟨h1, h2⟩ := hO.own
  rcases h2 with h2 | ⟨g', cap, cur, h2, h3, h4, h5, h6, h7, h8⟩
  · cases h2.1
  · cases h2
    have hz : cur.size = 1 := by simpa using h7
    obtain ⟨w', e1, e2, e3, e4⟩ := run_storeCells_blk b 5 [Value.int .u8 (r : Nat)] w cur 0 0 h4 (by simp; omega) (by intro v hv; simp at hv; subst hv; rfl)
    have : (execOp (mk n s).eval ⟨d, .store 5 x y, ty, pos, af, g⟩).run Hvaa.prog w = .ok .skip w' := by
      rw [mk_eval']
      simp [execOp, hx, Instr.storeAt, Instr.sureAddr, storeVar, run_sizeOf sz_5, hy, Value.cells, e1]
    unfold Oper.wp
    rw [this]
    have hs : spl cur (0 + 0) [Value.int .u8 (r : Nat)] = #[Value.int .u8 (r : Nat)] := spl_full cur [Value.int .u8 (r : Nat)] (by simpa using hz)
    rw [hs] at e2
    exact hK _ _ ⟨rfl, ⟨⟨by rw [length_bL, Nat.mul_one], .inr ⟨b, 1, _, rfl, h3, e2, Nat.le_refl _, h6, rfl, rfl⟩⟩, hO.lim, Dig.one hr⟩, e3, e4⟩
theorem e_appB1 {x y : Operand} {T base B b2 : Nat} {v : Value} {l : List Nat} {u : Nat} (hU : Hvaa.prog.underlying T = some (.slice 5)) (hx : ev n s x = v) (hO : AB base B w v l) (hy : ev n s y = .slice (some ⟨b2, 0, none⟩) 1 1) (hr : Blk w b2 (bL [u]).toArray) (hd : u < 256) (hn : l.length ≤ 4294967296) (hbase : base ≤ w.heap.size) :
    Eff n s w ⟨d, .call { callee := .builtin .append, args := #[x, y], argTypes := #[T, T] }, ty, pos, af, g⟩ (fun v' w' => AB base w'.heap.size w' v' (l ++ [u]) ∧ Ch (fun b => some b = v.ownBlock) w w' ∧ ∀ b, b < w.heap.size → ¬ some b = v.ownBlock → ¬ some b = v'.ownBlock) := by
  have hg : Gr base 5 1 B w v (l.map fun d => [bval d]) := by
    refine ⟨?_, fun c hc => ?_, hO.lim⟩
    · rw [List.length_map, flatB]; exact hO.own
    · obtain ⟨d, _, rfl⟩ := List.mem_map.1 hc
      rfl
  have h := e_app (d := d) (ty := ty) (pos := pos) (af := af) (g := g) hU sz_5 zr_5 by_5 rfl (by decide) hx hg hy (c := bL [u]) rfl hr (one_bL _) (by decide) (by rw [List.length_map]; exact hn) hbase
  refine ⟨fun K Q hK => h.out K Q fun v' w' hv => hK v' w' ?_⟩
  obtain ⟨h1, h2, h3⟩ := hv
  have e : (l.map fun d => [bval d]) ++ [bL [u]] = (l ++ [u]).map fun d => [bval d] := by rw [List.map_append]; rfl
  rw [e] at h1
  refine ⟨⟨?_, h1.lim, hO.dig.app (Dig.one hd)⟩, h2, h3⟩
  have := h1.own
  rw [List.length_map, flatB] at this
  exact this
end
end Go.Proofs.YgvaawGreat
