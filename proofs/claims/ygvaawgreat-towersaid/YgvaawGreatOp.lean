import Derived.Test.YgvaawGreatFrz
import Derived.Test.YgvaawGreatYD
import Derived.Deep.Slices
import Derived.DataReads
import Derived.OpenShut
set_option maxRecDepth 100000
set_option linter.unusedSimpArgs false
set_option linter.unusedVariables false
namespace Go.Proofs.YgvaawGreat
open Go
/-! What comes in, as lists. -/
/-- every block of the first world -/
def st0 (w : World) : Store := fun b => match w.heap[b]? with
  | some (.cells cs _ _) => some cs
  | _ => none
theorem st0_fz (w : World) : Fz w (st0 w) := ⟨fun b cs h => by
  unfold st0 at h
  split at h
  · rename_i c T f e
    cases h
    exact ⟨T, f, e⟩
  · cases h⟩
theorem st0_cell {w : World} {a : Addr} {v : Value} (h : w.cell? a = some v) : a.spot = none ∧ ∃ C, st0 w a.block = some C ∧ C[a.off]? = some v := by
  unfold World.cell? at h
  unfold st0
  split at h
  · rename_i c T f e
    split at h
    · cases h
    · rename_i hs
      refine ⟨by simpa using hs, c, by rw [e], h⟩
  · cases h
section
variable {Hh : Type} {enc : TypeId × Value → Hh} {w : World} {fuel : Nat} {t : TypeId} {cs : List Value} {x : DataW Hh × List MemPlace}
theorem op_elem {α : Type} {P : Store → List Value → α → Prop} {e k : Nat} {a : Addr} {cap n : Nat} {D : Nat → DataW Hh} {Pl : Nat → List MemPlace} (hk : Hvaa.prog.cellsOf e = k)
    (hE : ∀ m c y, DataW.trod enc Hvaa.prog w 0 (fun _ => true) true m e c = some y → c.length = k → ∃ z : α, P (st0 w) c z)
    (hx : ∀ i, i < cap → ∃ cs', w.cells? 0 (a.add (i * Hvaa.prog.cellsOf e)) (Hvaa.prog.cellsOf e) = some cs' ∧ DataW.trod enc Hvaa.prog w 0 (fun _ => true) true n e cs' = some (D i, Pl i)) :
    ∀ m, m ≤ cap → ∃ (rows : List (List Value)) (zs : List α), rows.length = m ∧ zs.length = m ∧ rows.flatten.length = m * k ∧ (∀ j v, rows.flatten[j]? = some v → w.cell? (a.add j) = some v) ∧ ∀ (i : Nat) c z, rows[i]? = some c → zs[i]? = some z → c.length = k ∧ P (st0 w) c z
  | 0, _ => ⟨[], [], rfl, rfl, by simp, fun j v h => by simp at h, fun i c z h => by simp at h⟩
  | m + 1, hm => by
    obtain ⟨rows, zs, h1, h2, h3, h4, h5⟩ := op_elem hk hE hx m (by omega)
    obtain ⟨c, g1, g2⟩ := hx m (by omega)
    obtain ⟨_, g3, g4⟩ := World.cells?_some g1
    rw [hk] at g1 g3 g4
    obtain ⟨z, g5⟩ := hE _ _ _ g2 g3
    refine ⟨rows ++ [c], zs ++ [z], by rw [List.length_append, h1]; rfl, by rw [List.length_append, h2]; rfl, by rw [List.flatten_append, List.length_append, h3, List.flatten_singleton, g3, Nat.add_mul, Nat.one_mul], fun j v hv => ?_, fun i d y hd hy => ?_⟩
    · rw [List.flatten_append, List.flatten_singleton] at hv
      rcases Nat.lt_or_ge j rows.flatten.length with hj | hj
      · rw [List.getElem?_append_left hj] at hv
        exact h4 j v hv
      · rw [List.getElem?_append_right hj] at hv
        have hl := (List.getElem?_eq_some_iff.1 hv).1
        have := g4 (j - rows.flatten.length) (by omega)
        rw [hv, Go.Deep.add_add, h3, show m * k + (j - m * k) = j by omega] at this
        exact this
    · rcases Nat.lt_or_ge i rows.length with hi | hi
      · rw [List.getElem?_append_left hi] at hd
        rw [List.getElem?_append_left (by omega)] at hy
        exact h5 i d y hd hy
      · rw [List.getElem?_append_right hi] at hd
        rw [List.getElem?_append_right (by omega)] at hy
        have h0 : i - rows.length = 0 := by
          rcases Nat.eq_zero_or_pos (i - rows.length) with h0 | h0
          · exact h0
          · rw [List.getElem?_eq_none (by simp; omega)] at hd; cases hd
        rw [h0] at hd
        rw [h2, ← h1, h0] at hy
        simp at hd hy
        subst hd
        subst hy
        exact ⟨g3, g5⟩
theorem op_lv {α : Type} {P : Store → List Value → α → Prop} {e k : Nat} (ht : Hvaa.prog.underlying t = some (.slice e)) (hk : Hvaa.prog.cellsOf e = k) (hk0 : 0 < k)
    (hE : ∀ m c y, DataW.trod enc Hvaa.prog w 0 (fun _ => true) true m e c = some y → c.length = k → ∃ z : α, P (st0 w) c z)
    (h : DataW.trod enc Hvaa.prog w 0 (fun _ => true) true fuel t cs = some x) : ∃ (v : Value) (zs : List α), cs = [v] ∧ LV P k (st0 w) v zs := by
  rcases Go.Deep.open_slice ht h with ⟨h1, _⟩ | ⟨a, len, cap, m, n, D, Pl, rfl, _, hl, hm, hmm, _, hx⟩
  · exact ⟨_, [], h1, LV.nil _ _ _⟩
  · rw [if_pos rfl] at hmm
    obtain rfl : cap = m := hmm.symm
    have hmx : cap ≤ 9223372036854775807 := by simpa [maxLen] using hm
    rcases Nat.eq_zero_or_pos cap with h0 | h0
    · subst h0
      have : len = 0 := by omega
      subst this
      exact ⟨_, [], rfl, ⟨[], ⟨by simp, .inl ⟨⟨_, rfl⟩, rfl⟩⟩, rfl, fun i c z hc => by simp at hc⟩⟩
    · obtain ⟨rows, zs, h1, h2, h3, h4, h5⟩ := op_elem hk hE hx len hl
      obtain ⟨c0, g1, _⟩ := hx 0 h0
      obtain ⟨_, g3, g4⟩ := World.cells?_some g1
      rw [hk] at g3 g4
      have hc0 : 0 < c0.length := by omega
      have g5 := g4 0 hk0
      rw [List.getElem?_eq_getElem hc0, Go.Deep.add_add, Nat.zero_mul, Nat.zero_add] at g5
      have e0 : a.add 0 = a := by simp [Addr.add]
      rw [e0] at g5
      obtain ⟨hs, C, hC, _⟩ := st0_cell g5
      obtain ⟨b, o, sp⟩ := a
      have hs : sp = none := hs
      subst hs
      have hr : RowIn C o rows.flatten := fun j v hv => by
        obtain ⟨_, C', hC', hv'⟩ := st0_cell (h4 j v hv)
        have e1 : ((⟨b, o, none⟩ : Addr).add j) = ⟨b, o + j, none⟩ := addr_add ..
        rw [e1] at hC' hv'
        have hC : st0 w b = some C := hC
        have hC' : st0 w b = some C' := hC'
        rw [hC] at hC'
        cases hC'
        exact hv'
      refine ⟨_, zs, rfl, ⟨rows, ⟨by rw [h3, h2], .inr ⟨b, o, cap, C, by rw [h2], by omega, by omega, hC, hr⟩⟩, by rw [h1, h2], h5⟩⟩
theorem op_int {k : IntKind} (ht : Hvaa.prog.underlying t = some (.int k)) (h : DataW.trod enc Hvaa.prog w 0 (fun _ => true) true fuel t cs = some x) : ∃ n, cs = [.int k n] ∧ (Lit.int k n).wf = true := by
  obtain ⟨n, h1, _, h3⟩ := DataW.trod_int ht h
  exact ⟨n, h1, h3⟩
theorem op_u8 (h : DataW.trod enc Hvaa.prog w 0 (fun _ => true) true fuel 5 cs = some x) : ∃ n : Nat, cs = [.int .u8 (n : Nat)] ∧ n < 256 := by
  obtain ⟨n, h1, h2⟩ := op_int Hvaa.underlying5 h
  have h3 : (0 : Int) ≤ n ∧ n ≤ 255 := by simpa [Lit.wf, IntKind.min, IntKind.max, IntKind.signed, IntKind.bits] using h2
  obtain ⟨m, rfl⟩ := Int.eq_ofNat_of_zero_le h3.1
  exact ⟨m, h1, by omega⟩
theorem op_u64 (h : DataW.trod enc Hvaa.prog w 0 (fun _ => true) true fuel 26 cs = some x) : ∃ n : Nat, cs = [.int .u64 (n : Nat)] ∧ n < 18446744073709551616 := by
  obtain ⟨n, h1, h2⟩ := op_int Hvaa.underlying26 h
  have h3 : (0 : Int) ≤ n ∧ n ≤ 18446744073709551615 := by simpa [Lit.wf, IntKind.min, IntKind.max, IntKind.signed, IntKind.bits] using h2
  obtain ⟨m, rfl⟩ := Int.eq_ofNat_of_zero_le h3.1
  exact ⟨m, h1, by omega⟩
theorem op_arr {n e : Nat} (ht : Hvaa.prog.underlying t = some (.array n e)) (he : Hvaa.prog.cellsOf e = 1) (h : DataW.trod enc Hvaa.prog w 0 (fun _ => true) true fuel t cs = some x) : cs.length = Hvaa.prog.cellsOf t ∧ ∃ m, ∀ i, i < n → ∃ y, DataW.trod enc Hvaa.prog w 0 (fun _ => true) true m e ((cs.drop i).take 1) = some y := by
  obtain ⟨xs, m, _, _, h1, h2, h3⟩ := DataW.trod_array ht h
  refine ⟨h1, m, fun i hi => ?_⟩
  have := h3 i hi
  rw [he, Nat.mul_one, List.getElem?_eq_getElem (by omega)] at this
  exact ⟨_, this⟩
theorem op_bytes {n : Nat} (ht : Hvaa.prog.underlying t = some (.array n 5)) (hc : Hvaa.prog.cellsOf t = n) (he : Hvaa.prog.cellsOf 5 = 1) (h : DataW.trod enc Hvaa.prog w 0 (fun _ => true) true fuel t cs = some x) : ∃ a : Nat, a < 256 ^ n ∧ cs = bL (be n a) := by
  obtain ⟨h1, m, h2⟩ := op_arr ht he h
  rw [hc] at h1
  have h3 : ∀ i, i < n → ∃ d : Nat, d < 256 ∧ cs[i]? = some (.int .u8 (d : Nat)) := fun i hi => by
    obtain ⟨y, hy⟩ := h2 i hi
    obtain ⟨d, e, hd⟩ := op_u8 hy
    refine ⟨d, hd, ?_⟩
    have := congrArg (fun l : List Value => l[0]?) e
    simp only [List.getElem?_take, List.getElem?_drop] at this
    simpa using this
  obtain ⟨f, hf⟩ := Go.Deep.choose_lt (α := Nat) h3
  have e : cs = bL ((List.range n).map f) := by
    refine List.ext_getElem? (fun i => ?_)
    unfold bL
    rw [List.getElem?_map, List.getElem?_map]
    by_cases hi : i < n
    · rw [List.getElem?_range hi, (hf i hi).2]
      rfl
    · rw [List.getElem?_eq_none (by omega), List.getElem?_eq_none (by simp; omega)]
      rfl
  have hd : ∀ d ∈ (List.range n).map f, d < 256 := fun d hd => by
    obtain ⟨i, hi, rfl⟩ := List.mem_map.1 hd
    exact (hf i (List.mem_range.1 hi)).1
  have hl : ((List.range n).map f).length = n := by simp
  refine ⟨ofBE ((List.range n).map f), ?_, ?_⟩
  · have := ofBE_lt _ hd
    rwa [hl] at this
  · have := be_ofBE _ hd
    rw [hl] at this
    rw [this]
    exact e
theorem cells5 : Hvaa.prog.cellsOf 5 = 1 := by kernel_rfl
theorem cells25 : Hvaa.prog.cellsOf 25 = 20 := by kernel_rfl
theorem cells28 : Hvaa.prog.cellsOf 28 = 32 := by kernel_rfl
theorem cells26 : Hvaa.prog.cellsOf 26 = 1 := by kernel_rfl
theorem cells4 : Hvaa.prog.cellsOf 4 = 1 := by kernel_rfl
theorem cells38 : Hvaa.prog.cellsOf 38 = 1 := by kernel_rfl
theorem cells111 : Hvaa.prog.cellsOf 111 = 1 := by kernel_rfl
theorem cells29 : Hvaa.prog.cellsOf 29 = 1 := by kernel_rfl
theorem cells39 : Hvaa.prog.cellsOf 39 = 1 := by kernel_rfl
theorem cells113 : Hvaa.prog.cellsOf 113 = 55 := by kernel_rfl
theorem cells117 : Hvaa.prog.cellsOf 117 = 64 := by kernel_rfl
theorem cells31 : Hvaa.prog.cellsOf 31 = 120 := by kernel_rfl
theorem cells41 : Hvaa.prog.cellsOf 41 = 174 := by kernel_rfl
theorem cells143 : Hvaa.prog.cellsOf 143 = 21 := by kernel_rfl
theorem op_addr (h : DataW.trod enc Hvaa.prog w 0 (fun _ => true) true fuel 25 cs = some x) : ∃ a : Nat, a < A160 ∧ cs = bL (be 20 a) := op_bytes Hvaa.underlying25 cells25 cells5 h
theorem op_word (h : DataW.trod enc Hvaa.prog w 0 (fun _ => true) true fuel 28 cs = some x) : ∃ a : Nat, a < W256 ∧ cs = bL (be 32 a) := op_bytes Hvaa.underlying28 cells28 cells5 h
theorem op_bool (h : DataW.trod enc Hvaa.prog w 0 (fun _ => true) true fuel 4 cs = some x) : ∃ b, cs = [.bool b] := by
  obtain ⟨b, h1, _⟩ := DataW.trod_bool Hvaa.underlying4 h
  exact ⟨b, h1⟩
theorem op_bv (h : DataW.trod enc Hvaa.prog w 0 (fun _ => true) true fuel 38 cs = some x) : ∃ v l, cs = [v] ∧ BV (st0 w) v l := by
  obtain ⟨v, zs, h1, h2⟩ := op_lv (P := fun _ c (d : Nat) => c = [.int .u8 (d : Nat)] ∧ d < 256) Hvaa.underlying38 cells5 (by decide) (fun m c y hy _ => by
    obtain ⟨d, e, hd⟩ := op_u8 hy
    exact ⟨d, e, hd⟩) h
  refine ⟨v, zs, h1, ?_⟩
  obtain ⟨rows, g1, g2, g3⟩ := h2.ex
  have e : rows.flatten = bL zs := by
    have e1 : rows = zs.map (fun d => [bval d]) := by
      refine List.ext_getElem? (fun i => ?_)
      rw [List.getElem?_map]
      cases hr : rows[i]? with
      | none =>
        rw [List.getElem?_eq_none_iff] at hr
        rw [List.getElem?_eq_none (by omega)]
        rfl
      | some c =>
        have hi := (List.getElem?_eq_some_iff.1 hr).1
        have hz := List.getElem?_eq_getElem (l := zs) (i := i) (by omega)
        rw [hz]
        have := (g3 i c _ hr hz).2.1
        rw [this]
        rfl
    rw [e1]
    clear g1 g2 g3 h2 e1
    induction zs with
    | nil => rfl
    | cons d zs ih =>
      rw [List.map_cons, List.flatten_cons, ih]
      rfl
  rw [e] at g1
  exact ⟨g1, fun d hd => by
    obtain ⟨i, hi⟩ := List.mem_iff_getElem?.1 hd
    have hr := List.getElem?_eq_getElem (l := rows) (i := i) (by rw [g2]; exact (List.getElem?_eq_some_iff.1 hi).1)
    exact (g3 i _ d hr hi).2.2⟩
theorem op_words (h : DataW.trod enc Hvaa.prog w 0 (fun _ => true) true fuel 29 cs = some x) : ∃ v l, cs = [v] ∧ LV P_word 32 (st0 w) v l :=
  op_lv Hvaa.underlying29 cells28 (by decide) (fun m c y hy _ => by
    obtain ⟨a, ha, e⟩ := op_word hy
    exact ⟨a, e, ha⟩) h
end
end Go.Proofs.YgvaawGreat
