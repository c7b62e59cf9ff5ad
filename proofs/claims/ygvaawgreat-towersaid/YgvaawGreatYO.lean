import Derived.Test.YgvaawGreatYN
set_option maxRecDepth 100000
set_option linter.unusedSimpArgs false
set_option linter.unusedVariables false
namespace Go.Proofs.YgvaawGreat
open Go
/-- the state behind the entry of a frame -/
def entY (s : YSt) (f : YF) : YSt := { entS s f with frames := s.frames ++ [{ f with saved := s.now }] }
theorem yp_enterY {w : World} {H : Store} {bs bf : Nat} {s : YSt} {Y : Nat → Prop} {fc : List Value} {f : YF} (h : YM w H bs s Y bf) (hN : s.frames.length < 60000) (hfl : fc.length = 60) (hf : FC H fc.toArray 0 f (.slice none 0 0)) (hm : f.mem = []) (eh : EnH s f) :
    Ret 55 [.pointer (some ⟨bs, 0, none⟩), .agg fc.toArray] w (fun v w' => v = .tuple #[] ∧ ∃ H' bf', Go Y w H w' H' ∧ YM w' H' bs (entY s f) (fun b => Y b ∨ w.heap.size ≤ b) bf') := by
  obtain ⟨cs, vf, vl, fs, ms, ol, h1, h2, h3, h4, h5, h6, h7, h8⟩ := h.ex
  have hown : ∀ q, vf.ownBlock = some q → q = bf := fun q e => by
    rcases h3.at' with ⟨h3, _⟩ | ⟨cap, h3, _⟩
    · rw [h3] at e; cases e
    · rw [h3] at e; cases e; rfl
  have hbl : ∀ q, vf.ownBlock = some q → q < w.heap.size := fun q e => by
    rcases h3.at' with ⟨h3, _⟩ | ⟨cap, h3, _, _, _, h3'⟩
    · rw [h3] at e; cases e
    · rw [h3] at e; cases e; exact h3'.lt
  have hr := yp_enter h.fz bs cs s vf h1 h2 h6 h7 (fun b e => ⟨(h8.l b e).2.2.2, (h8.l b e).1⟩) h3 hN h8.s.1 (fun q e => by have := hown q e; subst this; exact (h8.f e).2.1) (fun q e => by have := hown q e; subst this; exact ⟨hbl _ e, (h8.f e).1, (h8.f e).2.2.1⟩) hfl hf eh
  refine hr.mono fun v w' hv => ?_
  obtain ⟨rfl, cs', vf', H', bf', fs', bm, g, k1, k2, k3, k4, k5, k6, k7, k8, k9, k10, k11, k12⟩ := hv
  have hYg : ∀ b, b = bs ∨ vf.ownBlock = some b → Y b := fun b e => by
    rcases e with e | e
    · exact e ▸ h8.s.2
    · have := hown b e; subst this; exact (h8.f e).2.2.2
  have hl := h4.len
  have hmb : ∀ m ∈ ms, m.1 ≠ bf' := fun m hm e => by
    obtain ⟨d1, d2, d3, d4, d5, d6⟩ := h8.m m hm
    rcases k7 with k7 | k7
    · have := hown _ k7; omega
    · omega
  have hlb : ∀ b, ol = some b → b ≠ bf' := fun b e e2 => by
    rcases k7 with k7 | k7
    · have := hown _ k7; subst this; exact (h8.f k7).2.2.1 (by rw [← e2]; exact e)
    · have := (h8.l b e).2.2.2; omega
  have hmg : ∀ m ∈ ms, ¬ (m.1 = bs ∨ vf.ownBlock = some m.1) := fun m hm e => by
    obtain ⟨d1, d2, d3, d4, d5, d6⟩ := h8.m m hm
    rcases e with e | e
    · exact d2 e
    · exact d3 (hown _ e)
  refine ⟨rfl, H', bf', g.wk hYg, ⟨g.fz, cs', vf', vl, fs', ms ++ [(bm, .slice none 0 0)], ol, k1, ?_, ?_, ?_, ?_, ?_, ?_, ?_⟩⟩
  · exact k2.frames _
  · show GB _ _ _ _ _ (s.frames ++ [_]).length
    rw [List.length_append]
    exact k3
  · refine FL.snoc ((h4.mono g.le).pre k4 (Nat.le_refl _)) ?_
    exact k5
  · refine ML.snoc (h5.ch g.ch hmg) hl ?_
    show MB _ _ _ f.mem
    rw [hm]
    exact ⟨Dig.nil 256, .inl ⟨rfl, rfl⟩⟩
  · exact (h6.mono g.le).ch g.ch (fun b e => by
      rintro (e2 | e2)
      · exact (h8.l b e).1 e2
      · have := hown _ e2; subst this; exact (h8.f e2).2.2.1 e)
  · rw [k6]; exact h7
  · refine ⟨⟨g.nb h8.s.1 h1.lt, .inl h8.s.2⟩, fun e => ?_, ?_, ?_, ?_⟩
    · refine ⟨?_, k8, fun e2 => hlb _ e2 rfl, ?_⟩
      · rcases k7 with k7 | k7
        · have := hown _ k7; subst this; exact (h8.f k7).1
        · have := h1.lt; omega
      · rcases k7 with k7 | k7
        · exact .inl (hYg _ (.inr k7))
        · exact .inr k7
    · intro m hm
      rcases List.mem_append.1 hm with hm | hm
      · obtain ⟨d1, d2, d3, d4, d5, d6⟩ := h8.m m hm
        exact ⟨Nat.lt_of_lt_of_le d1 g.ch.size, d2, hmb m hm, d4, g.nb d5 d1, .inl d6⟩
      · simp at hm
        subst hm
        have := h1.lt
        exact ⟨k10, by show bm ≠ bs; omega, k11, fun e => by have := (h8.l bm e).2.2.2; omega, k12, .inr k9⟩
    · rw [List.map_append, List.nodup_append]
      refine ⟨h8.nd, by simp, ?_⟩
      intro a ha b hb
      simp at hb
      subst hb
      obtain ⟨m, hm, rfl⟩ := List.mem_map.1 ha
      have := (h8.m m hm).1
      omega
    · intro b e
      obtain ⟨d1, d2, d3, d4⟩ := h8.l b e
      exact ⟨d1, g.nb d2 d4, .inl d3, Nat.lt_of_lt_of_le d4 g.ch.size⟩
end Go.Proofs.YgvaawGreat
