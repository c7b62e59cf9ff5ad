import Derived.Test.YgvaawGreatW9
import Derived.Test.YgvaawGreatZ37
import Derived.Test.YgvaawGreatZ38
import Derived.Test.YgvaawGreatZ39
import Derived.Test.YgvaawGreatZ41
set_option maxRecDepth 100000
set_option linter.unusedSimpArgs false
set_option linter.unusedVariables false
namespace Go.Proofs.YgvaawGreat
open Go
/-! From the frame that is stepped to what the step makes of it. -/
theorem plF_fr (s : YSt) (x : List YF) (f : YF) (q : Nat) : plF { s with frames := x } f q = plF s f q := rfl
theorem valS_fr (s : YSt) (x y : List YF) (f : YF) (q : Nat) (l : List Nat) : { valS { s with frames := x } f q l with frames := y } = { valS s f q l with frames := y } := by
  unfold valS
  split
  · rfl
  · split <;> rfl
theorem effS_fr (s : YSt) (x y : List YF) (f : YF) (q : Nat) (l : List Nat) : { effS { s with frames := x } f q l with frames := y } = { effS s f q l with frames := y } := by
  unfold effS
  rw [show stoOk { s with frames := x } f = stoOk s f from rfl]
  split
  · rfl
  · split
    · split <;> rfl
    · split
      · rfl
      · split <;> rfl
theorem plS_fr (s : YSt) (x y : List YF) (f : YF) (q : Nat) : { plS { s with frames := x } f q with frames := y } = { plS s f q with frames := y } := by
  unfold plS
  split
  · exact valS_fr s x y f q _
  · exact effS_fr s x y f q _
  · rfl
theorem callY_fr (s : YSt) (x : List YF) (f : YF) (q : Nat) (low : List YF) : callY { s with frames := x } f q low = callY s f q low := rfl
theorem creY_fr (s : YSt) (x : List YF) (f : YF) (q : Nat) (low : List YF) : creY { s with frames := x } f q low = creY s f q low := rfl
section
variable {s : YSt} {f : YF} {low : List YF} {c c' bc : Nat} {sn : List Nat} {sv : List AW}
theorem ex_plain (hn : f.ntv = 0) (hr : (refN s f (opcN f)).1 = 0) (h0 : opcN f ≠ 0) (h1 : opcN f ≠ 243) (h2 : opcN f ≠ 253) (h3 : opcN f ≠ 255) (h4 : famN (opcN f) ≠ 16) (hox : OxS bc (opcN f) { s with frames := low ++ [stF s f] } (stF s f) low sn sv c c') : ExS bc s f low sn sv c c' := by
  intro w H col cs V hE
  have e : stepY s f low = { plS s (stF s f) (opcN f) with frames := low ++ [plF s (stF s f) (opcN f)] } := by
    unfold stepY
    rw [if_neg (fun h => h hn), if_neg (fun h => h hr), if_neg h0, if_neg h1, if_neg h2, if_neg h3, if_neg h4]
  rw [e]
  have h := hox hE
  rw [plF_fr, plS_fr] at h
  exact h
theorem ex_end (hn : f.ntv = 0) (hr : (refN s f (opcN f)).1 = 0) (hq : opcN f = 0 ∨ opcN f = 243 ∨ opcN f = 253) (hp : s.phase = 1) (hap : s.applied ≤ 4) (hpar : Par low) (hc : c' ≤ c) (hrd : argN (stF s f).stack 1 ≠ 0 → argN (stF s f).stack 0 + argN (stF s f).stack 1 ≤ (stF s f).mem.length) : ExS bc s f low sn sv c c' := by
  intro w H col cs V hE
  have key := m_opEnd (s := { s with frames := low ++ [stF s f] }) (f := stF s f) hE rfl hp (by rw [List.map_append]; rfl) hap hpar hrd
  have ho : opcN (stF s f) = opcN f := rfl
  rw [ho] at key
  have e : stepY s f low = (if opcN f = 0 then lvY s (stF s f) 0 [] low else if opcN f = 253 then lvY s (stF s f) 1 (stO s f) low else lvY s (stF s f) 0 (stO s f) low) := by
    unfold stepY
    rw [if_neg (fun h => h hn), if_neg (fun h => h hr)]
    rcases hq with h | h | h
    · rw [if_pos h, if_pos h]
    · rw [if_neg (by omega), if_pos h, if_neg (by omega), if_neg (by omega)]
    · rw [if_neg (by omega), if_neg (by omega), if_pos h, if_neg (by omega), if_pos h]
  rw [e]
  rw [lvY_fr, lvY_fr, lvY_fr] at key
  have hany : ∀ v w', (v = Value.tuple #[] ∧ XO w H col w' bc (if opcN f = 0 then lvY s (stF s f) 0 [] low else if opcN f = 253 then lvY s (stF s f) 1 (stO s f) low else lvY s (stF s f) 0 (stO s f) low) c) → Ch (fun _ => True) w w' := fun v w' hv => hv.2.chc.mono (fun _ _ _ => trivial)
  rcases hq with h | h | h
  · rw [h] at key hany ⊢
    refine (x_exec0 key hany).mono fun v w' hv => ⟨hv.1, ?_⟩
    obtain ⟨v0, _, hx⟩ := hv.2
    exact hx.slack hc
  · rw [h] at key hany ⊢
    refine (x_exec243 key hany).mono fun v w' hv => ⟨hv.1, ?_⟩
    obtain ⟨v0, _, hx⟩ := hv.2
    exact hx.slack hc
  · rw [h] at key hany ⊢
    refine (x_exec253 key hany).mono fun v w' hv => ⟨hv.1, ?_⟩
    obtain ⟨v0, _, hx⟩ := hv.2
    exact hx.slack hc
end
end Go.Proofs.YgvaawGreat
