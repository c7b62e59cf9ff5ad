import Derived.Test.YgvaawGreatY37
set_option maxRecDepth 100000
set_option linter.unusedSimpArgs false
set_option linter.unusedVariables false
namespace Go.Proofs.YgvaawGreat
open Go
/-! The specification's whole machine in the world. -/
/-- the memories of a row of frames -/
structure ML (w : World) (fl : List YF) (ms : List (Nat × Value)) : Prop where
  mb : ∀ (i : Nat) f m, fl[i]? = some f → ms[i]? = some m → MB w m.1 m.2 f.mem
theorem ML.ch {M : Nat → Prop} {w w' : World} {fl : List YF} {ms : List (Nat × Value)} (h : ML w fl ms) (c : Ch M w w') (hM : ∀ m ∈ ms, ¬ M m.1) : ML w' fl ms := ⟨fun i f m hf hm => (h.mb i f m hf hm).ch c (hM m (List.mem_of_getElem? hm))⟩
theorem ML.up {w w' : World} {fl : List YF} {ms : List (Nat × Value)} (h : ML w fl ms) (c : Up w w') : ML w' fl ms := h.ch c (fun _ _ h => h)
theorem ML.wr {w w' : World} {b : Nat} {cs : Array Value} {fl : List YF} {ms : List (Nat × Value)} (h : ML w fl ms) (c : Wr w w' b cs) (hb : ∀ m ∈ ms, m.1 ≠ b) : ML w' fl ms := h.ch c.ch hb
/-- the cells of a row of frames -/
structure FL (H : Store) (fs : Array Value) (fl : List YF) (ms : List (Nat × Value)) : Prop where
  len : ms.length = fl.length
  fc : ∀ (i : Nat) f m, fl[i]? = some f → ms[i]? = some m → FC H fs (i * 60) f m.2
theorem FL.mono {H H' : Store} {fs : Array Value} {fl : List YF} {ms : List (Nat × Value)} (h : FL H fs fl ms) (hl : Le H H') : FL H' fs fl ms := ⟨h.len, fun i f m hf hm => (h.fc i f m hf hm).mono hl⟩
theorem FL.pre {H : Store} {fs fs' : Array Value} {q : Nat} {fl : List YF} {ms : List (Nat × Value)} (h : FL H fs fl ms) (hp : Pre fs fs' q) (hq : fl.length * 60 ≤ q) : FL H fs' fl ms := ⟨h.len, fun i f m hf hm => hp.fc (h.fc i f m hf hm) (by
  have : i < fl.length := (List.getElem?_eq_some_iff.1 hf).1
  have := Nat.mul_le_mul_right 60 (show i + 1 ≤ fl.length by omega)
  omega)⟩
theorem Out.pre {cs cs' : Array Value} {o k q : Nat} (h : Out cs cs' o k) (hq : q ≤ o) : Pre cs cs' q := fun i hi => h.get i (.inl (by omega))
theorem FL.low {H : Store} {fs : Array Value} {fl : List YF} {f : YF} {ms : List (Nat × Value)} {m : Nat × Value} (h : FL H fs (fl ++ [f]) (ms ++ [m])) : FL H fs fl ms ∧ FC H fs (fl.length * 60) f m.2 := by
  have hl : ms.length = fl.length := by have := h.len; simp at this; omega
  refine ⟨⟨hl, fun i g m' hg hm => h.fc i g m' ?_ ?_⟩, ?_⟩
  · rw [List.getElem?_append_left (List.getElem?_eq_some_iff.1 hg).1]; exact hg
  · rw [List.getElem?_append_left (List.getElem?_eq_some_iff.1 hm).1]; exact hm
  · exact h.fc fl.length f m (by simp) (by rw [← hl]; simp)
theorem FL.snoc {H : Store} {fs : Array Value} {fl : List YF} {f : YF} {ms : List (Nat × Value)} {m : Nat × Value} (h : FL H fs fl ms) (hf : FC H fs (fl.length * 60) f m.2) : FL H fs (fl ++ [f]) (ms ++ [m]) := by
  refine ⟨by simp [h.len], fun i g m' hg hm => ?_⟩
  rcases Nat.lt_or_ge i fl.length with hi | hi
  · rw [List.getElem?_append_left hi] at hg
    rw [List.getElem?_append_left (by rw [h.len]; exact hi)] at hm
    exact h.fc i g m' hg hm
  · rw [List.getElem?_append_right hi] at hg
    rw [List.getElem?_append_right (by rw [h.len]; exact hi), h.len] at hm
    have h0 : i - fl.length = 0 := by
      rcases Nat.eq_zero_or_pos (i - fl.length) with h0 | h0
      · exact h0
      · rw [List.getElem?_eq_none (by simp; omega)] at hg; cases hg
    rw [h0] at hg hm
    simp at hg hm
    subst hg hm
    rw [show i = fl.length by omega]
    exact hf
theorem ML.low {w : World} {fl : List YF} {f : YF} {ms : List (Nat × Value)} {m : Nat × Value} (h : ML w (fl ++ [f]) (ms ++ [m])) (hl : ms.length = fl.length) : ML w fl ms ∧ MB w m.1 m.2 f.mem := by
  refine ⟨⟨fun i g m' hg hm => h.mb i g m' ?_ ?_⟩, ?_⟩
  · rw [List.getElem?_append_left (List.getElem?_eq_some_iff.1 hg).1]; exact hg
  · rw [List.getElem?_append_left (List.getElem?_eq_some_iff.1 hm).1]; exact hm
  · exact h.mb fl.length f m (by simp) (by rw [← hl]; simp)
theorem ML.snoc {w : World} {fl : List YF} {f : YF} {ms : List (Nat × Value)} {m : Nat × Value} (h : ML w fl ms) (hl : ms.length = fl.length) (hm : MB w m.1 m.2 f.mem) : ML w (fl ++ [f]) (ms ++ [m]) := by
  refine ⟨fun i g m' hg hm' => ?_⟩
  rcases Nat.lt_or_ge i fl.length with hi | hi
  · rw [List.getElem?_append_left hi] at hg
    rw [List.getElem?_append_left (by omega)] at hm'
    exact h.mb i g m' hg hm'
  · rw [List.getElem?_append_right hi] at hg
    rw [List.getElem?_append_right (by omega), hl] at hm'
    have h0 : i - fl.length = 0 := by
      rcases Nat.eq_zero_or_pos (i - fl.length) with h0 | h0
      · exact h0
      · rw [List.getElem?_eq_none (by simp; omega)] at hg; cases hg
    rw [h0] at hg hm'
    simp at hg hm'
    subst hg hm'
    exact hm
/-- what keeps the blocks apart; Y holds all blocks that may be turned -/
structure YSep (w : World) (H : Store) (bs : Nat) (Y : Nat → Prop) (vf : Value) (bf : Nat) (ms : List (Nat × Value)) (ol : Option Nat) : Prop where
  s : ¬ H.has bs ∧ Y bs
  f : vf.ownBlock = some bf → bf ≠ bs ∧ ¬ H.has bf ∧ ol ≠ some bf ∧ Y bf
  m : ∀ m ∈ ms, m.1 < w.heap.size ∧ m.1 ≠ bs ∧ m.1 ≠ bf ∧ ol ≠ some m.1 ∧ ¬ H.has m.1 ∧ Y m.1
  nd : (ms.map (·.1)).Nodup
  l : ∀ b, ol = some b → b ≠ bs ∧ ¬ H.has b ∧ Y b ∧ b < w.heap.size
structure YM (w : World) (H : Store) (bs : Nat) (s : YSt) (Y : Nat → Prop) (bf : Nat) : Prop where
  fz : Fz w H
  ex : ∃ cs vf vl fs ms ol, Blk w bs cs ∧ SC H cs s vf ∧ GB w 60 vf bf fs s.frames.length ∧ FL H fs s.frames ms ∧ ML w s.frames ms ∧ LG w H ol vl s.now.logs ∧ cs[4]? = some vl ∧ YSep w H bs Y vf bf ms ol
theorem LG.lt {w : World} {H : Store} {ol : Option Nat} {v : Value} {O : List YLog} (h : LG w H ol v O) : ∀ b, ol = some b → b < w.heap.size := by
  intro b hb
  rcases h.ex with ⟨h1, _⟩ | ⟨q, h1, h2, _⟩
  · rw [h1] at hb; cases hb
  · rw [h1] at hb; cases hb; exact h2
theorem LG.own {w : World} {H : Store} {ol : Option Nat} {v : Value} {O : List YLog} (h : LG w H ol v O) : ∀ b, ol = some b → b < w.heap.size := h.lt
/-- the machine with a top frame, opened -/
structure YT (w : World) (H : Store) (bs : Nat) (cs : Array Value) (s : YSt) (Y : Nat → Prop) (bf : Nat) (fs : Array Value) (cap : Nat) (low : List YF) (f : YF) (vm : Value) (bm : Nat) (msl : List (Nat × Value)) (ol : Option Nat) (vl : Value) : Prop where
  kS : Blk w bs cs
  hs : SC H cs s (.slice (some ⟨bf, 0, none⟩) (low.length + 1) cap)
  hc : low.length + 1 ≤ cap ∧ cap ≤ maxLen ∧ cap * 60 ≤ fs.size
  kF : Blk w bf fs
  hf : FC H fs (low.length * 60) f vm
  kM : MB w bm vm f.mem
  hl : FL H fs low msl
  kR : ML w low msl
  kL : LG w H ol vl s.now.logs
  hvl : cs[4]? = some vl
  nbS : ¬ H.has bs
  nbF : ¬ H.has bf
  nbM : ¬ H.has bm
  yS : Y bs
  yF : Y bf
  yM : Y bm
  lM : bm < w.heap.size
  dSF : bs ≠ bf
  dMF : bm ≠ bf
  dSM : bs ≠ bm
  dL : ∀ b, ol = some b → b < w.heap.size ∧ b ≠ bs ∧ b ≠ bf ∧ b ≠ bm
  nbL : ∀ b, ol = some b → ¬ H.has b
  yL : ∀ b, ol = some b → Y b
  dR : ∀ m ∈ msl, m.1 < w.heap.size ∧ m.1 ≠ bs ∧ m.1 ≠ bf ∧ m.1 ≠ bm ∧ ol ≠ some m.1
  nbR : ∀ m ∈ msl, ¬ H.has m.1 ∧ Y m.1
  ndR : (msl.map (·.1)).Nodup
theorem YM.top {w : World} {H : Store} {bs bf : Nat} {s : YSt} {Y : Nat → Prop} {low : List YF} {f : YF} (h : YM w H bs s Y bf) (hfr : s.frames = low ++ [f]) : ∃ cs fs cap vm bm msl ol vl, YT w H bs cs s Y bf fs cap low f vm bm msl ol vl := by
  obtain ⟨cs, vf, vl, fs, ms, ol, h1, h2, h3, h4, h5, h6, h7, h8⟩ := h.ex
  rw [hfr] at h3 h4 h5
  have hn : (low ++ [f]).length = low.length + 1 := by simp
  rw [hn] at h3
  obtain ⟨cap, rfl, g1, g2, g3, g4⟩ := h3.pos (by omega)
  have hml := h4.len
  rw [hn] at hml
  rcases List.eq_nil_or_concat ms with rfl | ⟨msl, m, rfl⟩
  · simp at hml
  rw [List.concat_eq_append] at *
  simp at hml
  obtain ⟨a1, a2⟩ := h4.low
  obtain ⟨b1, b2⟩ := h5.low hml
  obtain ⟨c1, c2, c3, c4⟩ := h8.f rfl
  obtain ⟨d1, d2, d3, d4, d5, d6⟩ := h8.m m (by simp)
  have hnd := h8.nd
  rw [List.map_append, List.nodup_append] at hnd
  refine ⟨cs, fs, cap, m.2, m.1, msl, ol, vl, ⟨h1, h2, ⟨g1, g2, g3⟩, g4, a2, b2, a1, b1, h6, h7, h8.s.1, c2, d5, h8.s.2, c4, d6, d1, fun e => c1 e.symm, d3, fun e => d2 e.symm, ?_, fun b e => (h8.l b e).2.1, fun b e => (h8.l b e).2.2.1, ?_, ?_, hnd.1⟩⟩
  · intro b e
    refine ⟨(h8.l b e).2.2.2, (h8.l b e).1, fun e2 => c3 (by rw [← e2]; exact e), fun e2 => d4 (by rw [← e2]; exact e)⟩
  · intro m' hm'
    obtain ⟨e1, e2, e3, e4, e5, e6⟩ := h8.m m' (by simp [hm'])
    exact ⟨e1, e2, e3, fun e => hnd.2.2 m'.1 (List.mem_map.2 ⟨m', hm', rfl⟩) m.1 (by simp) e, e4⟩
  · intro m' hm'
    obtain ⟨e1, e2, e3, e4, e5, e6⟩ := h8.m m' (by simp [hm'])
    exact ⟨e5, e6⟩
/-- and closed again -/
theorem YT.close {w : World} {H : Store} {bs : Nat} {cs : Array Value} {s : YSt} {Y : Nat → Prop} {bf : Nat} {fs : Array Value} {cap : Nat} {low : List YF} {f : YF} {vm : Value} {bm : Nat} {msl : List (Nat × Value)} {ol : Option Nat} {vl : Value} (h : YT w H bs cs s Y bf fs cap low f vm bm msl ol vl) (hF : Fz w H) (hfr : s.frames = low ++ [f]) : YM w H bs s Y bf := by
  have hn : s.frames.length = low.length + 1 := by rw [hfr]; simp
  refine ⟨hF, cs, _, vl, fs, msl ++ [(bm, vm)], ol, h.kS, h.hs, ?_, ?_, ?_, h.kL, h.hvl, ?_⟩
  · rw [hn]; exact ⟨.inr ⟨cap, rfl, h.hc.1, h.hc.2.1, h.hc.2.2, h.kF⟩⟩
  · rw [hfr]; exact h.hl.snoc h.hf
  · rw [hfr]; exact h.kR.snoc h.hl.len h.kM
  · refine ⟨⟨h.nbS, h.yS⟩, fun _ => ⟨fun e => h.dSF e.symm, h.nbF, fun e => (h.dL _ e).2.2.1 rfl, h.yF⟩, ?_, ?_, fun b e => ⟨(h.dL b e).2.1, h.nbL b e, h.yL b e, (h.dL b e).1⟩⟩
    · intro m hm
      rcases List.mem_append.1 hm with hm | hm
      · obtain ⟨e1, e2, e3, e4, e5⟩ := h.dR m hm
        exact ⟨e1, e2, e3, e5, (h.nbR m hm).1, (h.nbR m hm).2⟩
      · simp at hm
        subst hm
        exact ⟨h.lM, fun e => h.dSM e.symm, h.dMF, fun e => (h.dL _ e).2.2.2 rfl, h.nbM, h.yM⟩
    · rw [List.map_append, List.nodup_append]
      refine ⟨h.ndR, by simp, ?_⟩
      intro a ha b hb
      simp at hb
      subst hb
      obtain ⟨m, hm, rfl⟩ := List.mem_map.1 ha
      exact (h.dR m hm).2.2.2.1
end Go.Proofs.YgvaawGreat
