import Derived.Test.YgvaawGreatGb
import Derived.Test.YgvaawGreatY33
set_option maxRecDepth 100000
set_option linter.unusedSimpArgs false
set_option linter.unusedVariables false
namespace Go.Proofs.YgvaawGreat
open Go
/-! A frame as a row of 60 cells. -/
theorem RowIn.comp {cs : Array Value} {o p : Nat} {r l : List Value} (h : RowIn cs o r) (g : RowIn r.toArray p l) : RowIn cs (o + p) l := fun i v hv => by
  have := g i v hv
  rw [List.getElem?_toArray] at this
  rw [Nat.add_assoc]
  exact h (p + i) v this
theorem RowIn.join {cs : Array Value} {o p : Nat} {a b : List Value} (h : RowIn cs o a) (g : RowIn cs p b) (hp : p = o + a.length) : RowIn cs o (a ++ b) := fun i v hv => by
  by_cases hi : i < a.length
  · rw [List.getElem?_append_left hi] at hv; exact h i v hv
  · rw [List.getElem?_append_right (by omega)] at hv
    have := g _ v hv
    rw [hp, show o + a.length + (i - a.length) = o + i by omega] at this
    exact this
theorem FC.lay {H : Store} {fs : Array Value} {o : Nat} {f : YF} {vm : Value} {r : List Value} (h : FC H r.toArray 0 f vm) (hr : RowIn fs o r) : FC H fs o f vm := by
  obtain ⟨vpc, vgas, vval, voo, vol, sa, sc, ca, cc, ia, ic, wc, r1, r2, r3, r4, h1, h2⟩ := h.ex
  refine ⟨h.ok, vpc, vgas, vval, voo, vol, sa, sc, ca, cc, ia, ic, wc, ?_, ?_, ?_, ?_, h1, h2⟩
  · have := hr.comp r1; rwa [Nat.add_zero] at this
  · have := hr.comp r2; rwa [Nat.zero_add] at this
  · have := hr.comp r3; rwa [Nat.zero_add] at this
  · have := hr.comp r4; rwa [Nat.zero_add] at this
theorem P_world.one {H : Store} {c : List Value} {W : YWorld} (h : P_world H c W) : ∀ v ∈ c, v.one1 = true := by
  obtain ⟨va, vwa, vws, vr, vl, vt, vm, vg, rfl, h1, h2, h3, h4, h5, h6, h7, h8, h9, h10⟩ := h.ex
  have e4 := h4.one1
  intro v hv
  simp only [List.mem_cons, List.not_mem_nil, or_false] at hv
  rcases hv with rfl | rfl | rfl | rfl | rfl | rfl | rfl | rfl
  · exact h1.one1
  · exact h2.one1
  · exact h3.one1
  · exact e4
  · exact h6.one1
  · exact h7.one1
  · exact h8.one1
  · exact h9.one1
theorem FC.row60 {H : Store} {fs : Array Value} {o : Nat} {f : YF} {vm : Value} (h : FC H fs o f vm) (hm : vm.one1 = true) : ∃ r : List Value, r.length = 60 ∧ RowIn fs o r ∧ (∀ u ∈ r, u.one1 = true) ∧ FC H r.toArray 0 f vm := by
  obtain ⟨vpc, vgas, vval, voo, vol, sa, sc, ca, cc, ia, ic, wc, r1, r2, r3, r4, h1, h2, h3, h4, h5, h6, h7, h8, h9⟩ := h.ex
  have hl := h1.len
  refine ⟨[.int .u8 (f.kind : Nat), .int .u8 (f.ntv : Nat), .bool f.static, vpc, vgas, vval, voo, vol, .slice sa f.stack.length sc, vm, .slice ca f.code.length cc, .slice ia f.input.length ic] ++ bL (be 20 f.self) ++ bL (be 20 f.caller) ++ wc, ?_, ?_, ?_, ?_⟩
  · simp only [List.length_append, length_bL, length_be, hl, List.length_cons, List.length_nil]
  · refine RowIn.join (RowIn.join (RowIn.join r1 r2 rfl) r3 ?_) r4 ?_
    · simp only [List.length_append, length_bL, length_be, List.length_cons, List.length_nil]
    · simp only [List.length_append, length_bL, length_be, List.length_cons, List.length_nil]
  · intro u hu
    rcases List.mem_append.1 hu with hu | hu
    · rcases List.mem_append.1 hu with hu | hu
      · rcases List.mem_append.1 hu with hu | hu
        · have e2 := h2.one1
          have e3 := h3.one1
          have e4 := h4.one1
          have e5 := h5.one1
          have e6 := h6.one1
          simp only [List.mem_cons, List.not_mem_nil, or_false] at hu
          rcases hu with rfl | rfl | rfl | rfl | rfl | rfl | rfl | rfl | rfl | rfl | rfl | rfl <;> first | rfl | assumption
        · exact one_bL _ u hu
      · exact one_bL _ u hu
    · exact h1.one u hu
  · have hs : ∀ {A B C : List Value}, RowIn (A ++ B ++ C).toArray A.length B := fun {A B C} => by
      have := RowIn.part (RowIn.self (A ++ B ++ C)) (j := A.length) rfl
      rwa [Nat.zero_add] at this
    refine ⟨h.ok, vpc, vgas, vval, voo, vol, sa, sc, ca, cc, ia, ic, wc, ?_, ?_, ?_, ?_, h1, h2, h3, h4, h5, h6, h7, h8, h9⟩
    · rw [List.append_assoc, List.append_assoc]; exact RowIn.app _ _
    · rw [List.append_assoc]; exact hs
    · have := @hs ([.int .u8 (f.kind : Nat), .int .u8 (f.ntv : Nat), .bool f.static, vpc, vgas, vval, voo, vol, .slice sa f.stack.length sc, vm, .slice ca f.code.length cc, .slice ia f.input.length ic] ++ bL (be 20 f.self)) (bL (be 20 f.caller)) wc
      refine this.cast ?_
      simp only [List.length_append, length_bL, length_be, List.length_cons, List.length_nil]
    · have := @hs ([.int .u8 (f.kind : Nat), .int .u8 (f.ntv : Nat), .bool f.static, vpc, vgas, vval, voo, vol, .slice sa f.stack.length sc, vm, .slice ca f.code.length cc, .slice ia f.input.length ic] ++ bL (be 20 f.self) ++ bL (be 20 f.caller)) wc []
      rw [List.append_nil] at this
      refine this.cast ?_
      simp only [List.length_append, length_bL, length_be, List.length_cons, List.length_nil]
theorem Pre.fc {H : Store} {fs fs' : Array Value} {q o : Nat} {f : YF} {vm : Value} (h : Pre fs fs' q) (hf : FC H fs o f vm) (ho : o + 60 ≤ q) : FC H fs' o f vm := by
  obtain ⟨vpc, vgas, vval, voo, vol, sa, sc, ca, cc, ia, ic, wc, r1, r2, r3, r4, h1, h2⟩ := hf.ex
  exact ⟨hf.ok, vpc, vgas, vval, voo, vol, sa, sc, ca, cc, ia, ic, wc, h.row r1 (by simp only [List.length_cons, List.length_nil]; omega), h.row r2 (by rw [length_bL, length_be]; omega), h.row r3 (by rw [length_bL, length_be]; omega), h.row r4 (by rw [h1.len]; omega), h1, h2⟩
theorem FC.le {H : Store} {fs : Array Value} {o : Nat} {f : YF} {vm : Value} (h : FC H fs o f vm) : o + 60 ≤ fs.size := by
  obtain ⟨vpc, vgas, vval, voo, vol, sa, sc, ca, cc, ia, ic, wc, r1, r2, r3, r4, h1, h2⟩ := h.ex
  have := r4.le (by rw [h1.len]; decide)
  rw [h1.len] at this
  omega
theorem RowIn.full {cs : Array Value} {r : List Value} (h : RowIn cs 0 r) (hl : r.length = cs.size) : cs = r.toArray := by
  apply Array.ext_getElem?
  intro i
  by_cases hi : i < r.length
  · have := h i r[i] (List.getElem?_eq_getElem hi)
    rw [Nat.zero_add] at this
    rw [this, List.getElem?_toArray, List.getElem?_eq_getElem hi]
  · rw [Array.getElem?_eq_none (by omega), List.getElem?_toArray, List.getElem?_eq_none (by omega)]
theorem FC.whole {w : World} {b : Nat} {cs : Array Value} {H : Store} {f : YF} {vm : Value} (k : Blk w b cs) (hz : cs.size = 60) (h : FC H cs 0 f vm) (hm : vm.one1 = true) : ∃ r : List Value, r.length = 60 ∧ Blk w b r.toArray ∧ (∀ u ∈ r, u.one1 = true) ∧ FC H r.toArray 0 f vm := by
  obtain ⟨r, h1, h2, h3, h4⟩ := h.row60 hm
  refine ⟨r, h1, ?_, h3, h4⟩
  rw [← h2.full (by omega)]; exact k
theorem SC.frames {H : Store} {cs : Array Value} {s : YSt} {vf : Value} (h : SC H cs s vf) (fl : List YF) : SC H cs { s with frames := fl } vf := ⟨⟨h.ok.1, h.ok.2, h.ok.3, h.ok.4, h.ok.5, h.ok.6, h.ok.7, h.ok.8, h.ok.9, h.ok.10, h.ok.11, h.ok.12, h.ok.13, h.ok.14, h.ok.15, h.ok.16, h.ok.17, h.ok.18, h.ok.19, h.ok.20⟩, h.env, h.size, h.ex⟩
end Go.Proofs.YgvaawGreat
