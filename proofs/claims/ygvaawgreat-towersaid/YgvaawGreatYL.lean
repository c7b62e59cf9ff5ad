import Derived.Test.YgvaawGreatY24
set_option maxRecDepth 100000
set_option linter.unusedSimpArgs false
set_option linter.unusedVariables false
namespace Go.Proofs.YgvaawGreat
open Go
/-! The logs' list: kept and full, or in a block of its own that grows in place. -/
theorem Gr.tight {base e k B q : Nat} {w : World} {v : Value} {cs : List (List Value)} (h : Gr base e k B w v cs) (hq : v.ownBlock = some q) : Gr q e k (q + 1) w v cs := by
  refine ⟨?_, h.len, fun p hp => by rw [hq] at hp; cases hp; omega⟩
  obtain ⟨h1, h2⟩ := h.own
  refine ⟨h1, ?_⟩
  rcases h2 with h2 | ⟨g, cap, cur, h2, h3, h4, h5⟩
  · exact .inl h2
  · refine .inr ⟨g, cap, cur, h2, ?_, h4, h5⟩
    rw [h2] at hq
    cases hq
    exact Nat.le_refl _
theorem GL.tight {α : Type} {P : Cp α} {H : Store} {base e k B q : Nat} {w : World} {v : Value} {O : List α} (h : GL P H base e k B w v O) (hq : v.ownBlock = some q) : GL P H q e k (q + 1) w v O := by
  obtain ⟨cs, h1, h2⟩ := h.ex
  exact ⟨cs, h1.tight hq, h2⟩
theorem GL.monoH {α : Type} {P : Cp α} (hP : Mono P) {H H' : Store} {base e k B : Nat} {w : World} {v : Value} {O : List α} (h : GL P H base e k B w v O) (hl : Le H H') : GL P H' base e k B w v O := by
  obtain ⟨cs, h1, h2, h3⟩ := h.ex
  exact ⟨cs, h1, h2, fun i c x hc hx => ⟨(h3 i c x hc hx).1, hP _ _ _ _ hl (h3 i c x hc hx).2⟩⟩
theorem GL.sl {α : Type} {P : Cp α} {H : Store} {base e k B : Nat} {w : World} {v : Value} {O : List α} (h : GL P H base e k B w v O) : ∃ a c, v = .slice a O.length c := by
  obtain ⟨cs, h1, h2, h3⟩ := h.ex
  rcases h1.own.2 with ⟨e1, e2⟩ | ⟨g, cap, cur, e1, _⟩
  · exact ⟨none, 0, by rw [e1, ← h2, e2]⟩
  · exact ⟨_, cap, by rw [e1, ← h2]⟩
/-- the own block of a list that is not empty -/
theorem GL.blk {α : Type} {P : Cp α} {H : Store} {base e k B : Nat} {w : World} {v : Value} {O : List α} (h : GL P H base e k B w v O) (hO : 0 < O.length) : ∃ q, v.ownBlock = some q ∧ q < w.heap.size := by
  obtain ⟨cs, h1, h2, h3⟩ := h.ex
  rcases h1.own.2 with ⟨e1, e2⟩ | ⟨g, cap, cur, e1, h4, h5, _⟩
  · omega
  · exact ⟨g, by rw [e1]; rfl, (Array.getElem?_eq_some_iff.1 h5).1⟩
/-- logs in the world: ol is the block that they may write to -/
structure LG (w : World) (H : Store) (ol : Option Nat) (v : Value) (O : List YLog) : Prop where
  ex : (ol = none ∧ LV P_log 22 H v O ∧ ∃ a n, v = .slice a n n) ∨ ∃ q, ol = some q ∧ q < w.heap.size ∧ GL P_log H q 131 22 (q + 1) w v O
theorem LG.ch {M : Nat → Prop} {w w' : World} {H : Store} {ol : Option Nat} {v : Value} {O : List YLog} (h : LG w H ol v O) (c : Ch M w w') (hM : ∀ b, ol = some b → ¬ M b) : LG w' H ol v O := by
  rcases h.ex with h1 | ⟨q, h1, h2, h3⟩
  · exact ⟨.inl h1⟩
  · refine ⟨.inr ⟨q, h1, Nat.lt_of_lt_of_le h2 c.size, h3.ch c fun b hb => ?_⟩⟩
    have : b ≠ q := fun e => hM q h1 (e ▸ hb)
    omega
theorem LG.up {w w' : World} {H : Store} {ol : Option Nat} {v : Value} {O : List YLog} (h : LG w H ol v O) (c : Up w w') : LG w' H ol v O := h.ch c (fun _ _ h => h)
theorem LG.mono {w : World} {H H' : Store} {ol : Option Nat} {v : Value} {O : List YLog} (h : LG w H ol v O) (hl : Le H H') : LG w H' ol v O := by
  rcases h.ex with ⟨h1, h2, h3⟩ | ⟨q, h1, h2, h3⟩
  · exact ⟨.inl ⟨h1, h2.mono hl, h3⟩⟩
  · exact ⟨.inr ⟨q, h1, h2, h3.monoH mono_log hl⟩⟩
theorem LG.sl {w : World} {H : Store} {ol : Option Nat} {v : Value} {O : List YLog} (h : LG w H ol v O) : ∃ a c, v = .slice a O.length c := by
  rcases h.ex with ⟨h1, h2, h3⟩ | ⟨q, h1, h2, h3⟩
  · obtain ⟨a, c, e, _⟩ := h2.val
    exact ⟨a, c, e⟩
  · exact h3.sl
section
variable {n : Nat} {s : Nat → Value} {w : World} {d : Option Nat} {ty : TypeId} {pos : String} {af : Array Edge} {g : Option (Nat × Bool)}
/-- append of a log -/
theorem e_appG {H : Store} {x y : Operand} {by_ : Nat} {ol : Option Nat} {v : Value} {O : List YLog} {c : List Value} {u : YLog} (hF : Fz w H) (hx : ev n s x = v) (hO : LG w H ol v O) (hy : ev n s y = .slice (some ⟨by_, 0, none⟩) 1 1) (hc : c.length = 22) (hr : Blk w by_ c.toArray) (h1 : ∀ u ∈ c, u.one1 = true) (hP : P_log H c u) (hn : O.length ≤ 4294967296) :
    Eff n s w ⟨d, .call { callee := .builtin .append, args := #[x, y], argTypes := #[42, 42] }, ty, pos, af, g⟩ (fun v' w' => ∃ q, LG w' H (some q) v' (O ++ [u]) ∧ Ch (fun b => ol = some b) w w' ∧ (ol = some q ∨ w.heap.size ≤ q)) := by
  rcases hO.ex with ⟨e1, e2, a, m, e3⟩ | ⟨q, e1, e2, e3⟩
  · subst e1 e3
    have hm : m = O.length := e2.cap.1
    have h := e_appK (d := d) (ty := ty) (pos := pos) (af := af) (g := g) Hvaa.underlying42 sz_131 zr_131 by_131 rfl (by decide) hm hx hF e2 hy hc hr h1 hP (by decide) hn
    refine ⟨fun K Q hK => h.out K Q fun v' w' hv => hK v' w' ?_⟩
    obtain ⟨q, hq, hql⟩ := hv.1.blk (by simp)
    have hb := hv.1.lim q hq
    exact ⟨q, ⟨.inr ⟨q, rfl, hql, hv.1.tight hq⟩⟩, ⟨hv.2.1, hv.2.2, hv.2.3, hv.2.4, fun b hb _ => hv.2.5 b hb (fun h => h)⟩, .inr hb.1⟩
  · have h := e_appL (d := d) (ty := ty) (pos := pos) (af := af) (g := g) Hvaa.underlying42 sz_131 zr_131 by_131 rfl (by decide) hx e3 hy hc hr h1 hP (by decide) hn (by omega)
    refine ⟨fun K Q hK => h.out K Q fun v' w' hv => hK v' w' ?_⟩
    obtain ⟨h2, h3, h4⟩ := hv
    obtain ⟨p, hp, hpl⟩ := h2.blk (by simp)
    have hpq : ol = some p ∨ w.heap.size ≤ p := by
      rcases Nat.lt_or_ge p w.heap.size with hlt | hge
      · left
        have h5 : some p = v.ownBlock := by
          by_cases hh : some p = v.ownBlock
          · exact hh
          · exact absurd hp.symm (h4 p hlt hh)
        have := e3.lim p h5.symm
        rw [e1, show p = q by omega]
      · exact .inr hge
    refine ⟨p, ⟨.inr ⟨p, rfl, hpl, h2.tight hp⟩⟩, ?_, hpq⟩
    refine ⟨h3.1, h3.2, h3.3, h3.4, fun b hb hM => h3.5 b hb fun hh => hM ?_⟩
    have := e3.lim b hh.symm
    rw [e1, show b = q by omega]
end
theorem BV.ofBlk {H : Store} {b k : Nat} {l : List Nat} (h : H b = some (bL l).toArray) (hd : Dig 256 l) (hl : l.length < 9223372036854775808) : BV H (.slice (some ⟨b, k, none⟩) (l.length - k) (l.length - k)) (l.drop k) := by
  refine ⟨?_, hd.drop k⟩
  have hr : RowIn (bL l).toArray k (bL (l.drop k)) := by
    rw [← bL_drop]
    have := (RowIn.self (bL l)).drop k
    rw [Nat.zero_add] at this
    exact this
  have := SV.of (k := 1) (n := l.length - k) (c := l.length - k) (o := k) (l := bL (l.drop k)) (by rw [length_bL, List.length_drop]; omega) (Nat.le_refl _) (by omega) h hr
  rw [List.length_drop]
  exact this
end Go.Proofs.YgvaawGreat
