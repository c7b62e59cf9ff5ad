import Derived.Test.YgvaawGreatZ26
set_option maxRecDepth 100000
set_option linter.unusedSimpArgs false
set_option linter.unusedVariables false
namespace Go.Proofs.YgvaawGreat
open Go
/-! The engine's cells do not speak of a frame's memory: it lies in the arena. -/
section
variable {w0 w : World} {H0 H : Store} {col0 col : Nat → Nat} {bc : Nat} {cs : Array Value} {V : EV} {s : YSt} {sn : List Nat} {sv : List AW} {ms : List (List Nat)} {c : Nat} {low : List YF} {f : YF}
theorem top_ix {g : YF} {i : Nat} {f' : YF} (h : (low ++ [f'])[i]? = some g) : (i < low.length ∧ low[i]? = some g) ∨ (i = low.length ∧ g = f') := by
  by_cases hi : i < low.length
  · rw [List.getElem?_append_left hi] at h
    exact .inl ⟨hi, h⟩
  · have hi2 : i = low.length := by
      have := (List.getElem?_eq_some_iff.1 h).1
      simp at this
      omega
    subst hi2
    simp at h
    exact .inr ⟨rfl, h.symm⟩
theorem LX.remem (h : LX H cs bc s sn) (hs : s.frames = low ++ [f]) (m : List Nat) : LX H cs bc { s with frames := low ++ [{ f with mem := m }] } sn := by
  have hl : (low ++ [{ f with mem := m }]).length = s.frames.length := by rw [hs]; simp
  have ht : s.frames[low.length]? = some f := by rw [hs]; simp
  have hlow : ∀ i g, i < low.length → low[i]? = some g → s.frames[i]? = some g := fun i g hi hg => by rw [hs, List.getElem?_append_left hi]; exact hg
  refine ⟨h.pS, by show (low ++ [_]).length ≤ 7; rw [hl]; exact h.n7, fun g hg => ?_, by show sn.length = (low ++ [_]).length; rw [hl]; exact h.snl, fun i g hg j x hx => ?_, fun i g n hg hn => ?_, by rw [h.top]; show some (Value.int .i8 ((s.frames.length : Nat) - 1)) = some (Value.int .i8 (((low ++ [{ f with mem := m }]).length : Nat) - 1)); rw [hl], h.ret, h.env, h.org, h.prc, h.phs, h.sts, h.app, h.lim, h.mad, h.lft⟩
  · have hg : g ∈ low ++ [{ f with mem := m }] := hg
    rcases List.mem_append.1 hg with hg | hg
    · exact h.fb g (by rw [hs]; exact List.mem_append_left _ hg)
    · simp at hg
      rw [hg]
      have hb := h.fb f (by rw [hs]; simp)
      exact ⟨hb.kind, hb.ntv, hb.pc, hb.stk, hb.wrd, hb.gas, hb.self, hb.caller, hb.value, hb.code, hb.input, hb.oo, hb.ol, hb.cdig, hb.idig⟩
  · rcases top_ix hg with ⟨hi, hg2⟩ | ⟨hi, hg2⟩
    · exact h.stk i g (hlow i g hi hg2) j x hx
    · subst hi hg2
      exact h.stk low.length f ht j x hx
  · rcases top_ix hg with ⟨hi, hg2⟩ | ⟨hi, hg2⟩
    · exact h.frm i g n (hlow i g hi hg2) hn
    · subst hi hg2
      have hr := h.frm low.length f n ht hn
      exact ⟨hr.r1, hr.r2, hr.r3, hr.r4, hr.r5, hr.r6, hr.r7⟩
theorem EX.remem (h : EX w H col bc cs V s sn sv ms c) (hs : s.frames = low ++ [f]) (m : List Nat) : EX w H col bc cs V { s with frames := low ++ [{ f with mem := m }] } sn sv ms c := by
  have ht : s.frames[low.length]? = some f := by rw [hs]; simp
  have hpx := h.px
  refine ⟨h.vl, h.ok, h.lx.remem hs m, h.mx, ⟨hpx.va, fun i g n hg hn => ?_, hpx.inc, fun g hg => ?_, hpx.org, ?_⟩⟩
  · rcases top_ix hg with ⟨hi, hg2⟩ | ⟨hi, hg2⟩
    · exact hpx.snp i g n (by rw [hs, List.getElem?_append_left hi]; exact hg2) hn
    · subst hi hg2
      exact hpx.snp low.length f n ht hn
  · have hg : g ∈ low ++ [{ f with mem := m }] := hg
    rcases List.mem_append.1 hg with hg | hg
    · exact hpx.has g (by rw [hs]; exact List.mem_append_left _ hg)
    · simp at hg
      rw [hg]
      exact hpx.has f (by rw [hs]; simp)
  · have e : gasS { s with frames := low ++ [{ f with mem := m }] } = gasS s := by rw [gas_top hs, gas_top (s := { s with frames := low ++ [{ f with mem := m }] }) rfl]
    rw [e]
    exact hpx.pot
theorem XT.remem (h : XT w0 H0 col0 w H col bc cs V s sn sv ms c) (hs : s.frames = low ++ [f]) (m : List Nat) : XT w0 H0 col0 w H col bc cs V { s with frames := low ++ [{ f with mem := m }] } sn sv ms c := ⟨h.ex.remem hs m, h.et⟩
end
end Go.Proofs.YgvaawGreat
