import Derived.Test.YgvaawGreatY42
set_option maxRecDepth 100000
set_option linter.unusedSimpArgs false
set_option linter.unusedVariables false
namespace Go.Proofs.YgvaawGreat
open Go
theorem yp_plainY (hKec : KSum) {w : World} {H : Store} {bs bf : Nat} {s : YSt} {Y : Nat → Prop} {low : List YF} {f : YF} (h : YM w H bs s Y bf) (hfr : s.frames = low ++ [f]) (q : Nat) (hq : q < 256) (rm : SRm s) (htk : tkN q ≤ f.stack.length) (hsl : f.stack.length < 60000) (hpc : f.pc < 4294967000) (ph : PlH s f q) :
    Ret 67 [.pointer (some ⟨bs, 0, none⟩), .pointer (some ⟨bf, low.length * 60, none⟩), .int .u8 q] w (fun v w' => v = .tuple #[] ∧ ∃ H' bf', Go Y w H w' H' ∧ YM w' H' bs { plS s f q with frames := low ++ [plF s f q] } (fun b => Y b ∨ w.heap.size ≤ b) bf') := by
  obtain ⟨cs, fs, cap, vm, bm, msl, ol, vl, t⟩ := h.top hfr
  have h1 := yp_plain hKec h.fz bs cs s _ t.kS t.hs bf (low.length * 60) fs f vm t.kF t.hf bm t.kM t.lM q hq t.nbS t.dSF t.dMF t.dSM t.nbM t.nbF rm t.kL t.hvl t.dL t.nbL htk hsl hpc ph
  refine h1.mono fun v w' hv => ?_
  obtain ⟨rfl, cs', fs', H', ol', vl', g, k1, k2, k3, k4, k5, k6, k7, k8, k9, k10⟩ := hv
  have hsz := k5.size
  have hfl : ∀ b, ol' = some b → b < w'.heap.size := k7.lt
  have hd : ∀ b, ol' = some b → b ≠ bs ∧ b ≠ bf ∧ b ≠ bm := fun b e => by
    rcases k9 b e with e' | e'
    · exact (t.dL b e').2
    · have := t.kS.lt
      have := t.kF.lt
      have := t.lM
      omega
  refine ⟨rfl, H', bf, g.wk (fun b e => ?_), YT.close (low := low) (f := plF s f q) (cs := cs') (fs := fs') (cap := cap) (vm := vm) (bm := bm) (msl := msl) (ol := ol') (vl := vl') ?_ g.fz rfl⟩
  · rcases e with e | e | e | e
    · exact e ▸ t.yS
    · exact e ▸ t.yF
    · exact e ▸ t.yM
    · exact t.yL b e
  · refine ⟨k1, k2.frames _, ⟨t.hc.1, t.hc.2.1, by rw [hsz]; exact t.hc.2.2⟩, k3, k4, k6, (t.hl.mono g.le).pre (k5.pre (Nat.le_refl _)) (Nat.le_refl _), t.kR.ch g.ch ?_, k7, k8, g.nb t.nbS t.kS.lt, g.nb t.nbF t.kF.lt, g.nb t.nbM t.lM, .inl t.yS, .inl t.yF, .inl t.yM, Nat.lt_of_lt_of_le t.lM g.ch.size, t.dSF, t.dMF, t.dSM, fun b e => ⟨hfl b e, hd b e⟩, k10, ?_, ?_, ?_, t.ndR⟩
    · intro m hm
      obtain ⟨x1, x2, x3, x4, x5⟩ := t.dR m hm
      rintro (e | e | e | e)
      · exact x2 e
      · exact x3 e
      · exact x4 e
      · exact x5 e
    · intro b e
      rcases k9 b e with e' | e'
      · exact .inl (t.yL b e')
      · exact .inr e'
    · intro m hm
      obtain ⟨x1, x2, x3, x4, x5⟩ := t.dR m hm
      refine ⟨Nat.lt_of_lt_of_le x1 g.ch.size, x2, x3, x4, fun e => ?_⟩
      rcases k9 _ e with e' | e'
      · exact x5 e'
      · omega
    · intro m hm
      obtain ⟨x1, x2, x3, x4, x5⟩ := t.dR m hm
      exact ⟨g.nb (t.nbR m hm).1 x1, .inl (t.nbR m hm).2⟩
/-- a call that turned only new blocks -/
theorem ref_cost {s : YSt} {f : YF} {q : Nat} (h : (refN s f q).1 = 0) : (refN s f q).2 ≤ f.gas := by
  unfold refN at h ⊢
  split at h
  · rename_i h0
    rw [if_pos h0]
    simp only at h ⊢
    unfold refB at h
    split at h
    · cases h
    · omega
  · rename_i h0
    exact absurd h h0
end Go.Proofs.YgvaawGreat
