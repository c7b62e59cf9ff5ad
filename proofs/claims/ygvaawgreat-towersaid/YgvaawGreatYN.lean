import Derived.Test.YgvaawGreatYM
set_option maxRecDepth 100000
set_option linter.unusedSimpArgs false
set_option linter.unusedVariables false
namespace Go.Proofs.YgvaawGreat
open Go
theorem Go.wk {M N : Nat → Prop} {w w' : World} {H H' : Store} (g : Go M w H w' H') (h : ∀ b, M b → N b) : Go N w H w' H' := ⟨g.ch.mono (fun b _ hb => h b hb), g.fz, g.le, g.new⟩
/-- the state behind the end of the top frame -/
def lvY (s : YSt) (u : YF) (q : Nat) (l : List Nat) (low : List YF) : YSt :=
  match low.getLast? with
  | none => { lvS1 s u q l with frames := [] }
  | some p => { lvS2 s u q l with frames := low.dropLast ++ [lvP p u q l] }
theorem lvY_logs (s : YSt) (u : YF) (q : Nat) (l : List Nat) (low : List YF) : (lvY s u q l low).now = lvW s u q l := by
  unfold lvY
  split <;> rfl
theorem FL.up1 {H : Store} {fs : Array Value} {fl : List YF} {ms : List (Nat × Value)} (h : FL H fs fl ms) : True := trivial
theorem MB.one {w : World} {bm : Nat} {vm : Value} {l : List Nat} (h : MB w bm vm l) : vm.one1 = true := by
  obtain ⟨a, rfl⟩ := h.val
  rfl
theorem yp_leave {w : World} {H : Store} {bs bf : Nat} {s : YSt} {Y : Nat → Prop} {low : List YF} {u : YF} (h : YM w H bs s Y bf) (hfr : s.frames = low ++ [u]) (q : Nat) (hq : q < 256) {vo : Value} {l : List Nat} (hO : BV H vo l) (lh : LvH s u l) (lp : ∀ p, low.getLast? = some p → LvP p u q l) (hN : low.length < 59998) :
    Ret 59 [.pointer (some ⟨bs, 0, none⟩), .int .u8 q, vo] w (fun v w' => v = .tuple #[] ∧ ∃ H', Go Y w H w' H' ∧ YM w' H' bs (lvY s u q l low) Y bf) := by
  obtain ⟨cs, fs, cap, vm, bm, msl, ol, vl, t⟩ := h.top hfr
  have hu : FC H fs (0 + (low.length + 1 - 1) * 60) u vm := by rw [Nat.zero_add, Nat.add_sub_cancel]; exact t.hf
  rcases List.eq_nil_or_concat low with rfl | ⟨low', p, rfl⟩
  · have h1 := yp_leave1 h.fz bs cs s t.kS t.hs t.kF t.hc.1 (by simp) hu t.kM.one t.kL t.hvl q hq hO lh t.nbS t.dSF rfl (fun b e => ⟨(t.dL b e).1, (t.dL b e).2.1, (t.dL b e).2.2.1⟩)
    refine h1.mono fun v w' hv => ?_
    obtain ⟨rfl, cs', H', vl', g, k1, k2, k3, k4⟩ := hv
    refine ⟨rfl, H', g.wk (fun b e => e ▸ t.yS), ⟨g.fz, cs', _, vl', fs, [], _, k1, k2.frames [], GB.nil _ _ _ _, ⟨rfl, fun i f m hf => by simp [lvY] at hf⟩, ⟨fun i f m hf => by simp [lvY] at hf⟩, by rw [lvY_logs]; exact k3, k4, ?_⟩⟩
    refine ⟨⟨g.nb t.nbS t.kS.lt, t.yS⟩, (fun e => (by cases e)), (by simp), (by simp), fun b e => ?_⟩
    split at e
    · exact ⟨(t.dL b e).2.1, g.nb (t.nbL b e) (t.dL b e).1, t.yL b e, Nat.lt_of_lt_of_le (t.dL b e).1 g.ch.size⟩
    · cases e
  · rw [List.concat_eq_append] at *
    have hll : (low' ++ [p]).length = low'.length + 1 := by simp
    have hml : msl.length = low'.length + 1 := by rw [← hll]; exact t.hl.len
    rcases List.eq_nil_or_concat msl with rfl | ⟨msl', m, rfl⟩
    · simp at hml
    rw [List.concat_eq_append] at *
    have hml' : msl'.length = low'.length := by simp at hml; omega
    obtain ⟨l1, l2⟩ := t.hl.low
    obtain ⟨r1, r2⟩ := t.kR.low hml'
    obtain ⟨d1, d2, d3, d4, d5⟩ := t.dR m (by simp)
    obtain ⟨e1, e2⟩ := t.nbR m (by simp)
    have hnd := t.ndR
    rw [List.map_append, List.nodup_append] at hnd
    have hp : FC H fs (0 + ((low' ++ [p]).length + 1 - 1 - 1) * 60) p m.2 := by rw [hll, Nat.zero_add]; simpa using l2
    have h2 := yp_leave2 h.fz bs cs s t.kS t.hs t.kF t.hc.1 (by omega) hu t.kM.one t.kL t.hvl q hq hO lh t.nbS t.dSF (by rw [hll]; omega) hp r2 d1 d3 (fun e => d2 e.symm) t.nbF e1 (fun b e => ⟨(t.dL b e).1, (t.dL b e).2.1, (t.dL b e).2.2.1, fun e2 => d5 (by rw [← e2]; exact e)⟩) (lp p (by simp))
    refine h2.mono fun v w' hv => ?_
    obtain ⟨rfl, cs', fs', H', vl', g, k1, k2, k3, k4, k5, k6, k7, k8⟩ := hv
    have eo : 0 + ((low' ++ [p]).length + 1 - 1 - 1) * 60 = low'.length * 60 := by rw [hll, Nat.zero_add, Nat.add_sub_cancel, Nat.add_sub_cancel]
    rw [eo] at k4 k5
    have eN : (low' ++ [p]).length + 1 - 1 = low'.length + 1 := by rw [hll, Nat.add_sub_cancel]
    rw [eN] at k2
    have hy : lvY s u q l (low' ++ [p]) = { lvS2 s u q l with frames := low' ++ [lvP p u q l] } := by simp [lvY]
    rw [hy]
    have hsz := k5.size
    have hcap := t.hc.2.2
    refine ⟨rfl, H', g.wk (fun b e => ?_), YT.close (low := low') (f := lvP p u q l) (cs := cs') (fs := fs') (cap := low'.length + 1) (vm := m.2) (bm := m.1) (msl := msl') (ol := if lvSt u q l = 0 then ol else none) (vl := vl') ?_ g.fz rfl⟩
    · rcases e with e | e | e
      · exact e ▸ t.yS
      · exact e ▸ t.yF
      · exact e ▸ e2
    · refine ⟨k1, k2.frames _, ⟨Nat.le_refl _, ?_, ?_⟩, k3, k4, k6, (l1.mono g.le).pre (k5.pre (Nat.le_refl _)) (Nat.le_refl _), r1.ch g.ch ?_, k7, k8, g.nb t.nbS t.kS.lt, g.nb t.nbF t.kF.lt, g.nb e1 d1, t.yS, t.yF, e2, Nat.lt_of_lt_of_le d1 g.ch.size, t.dSF, d3, fun e => d2 e.symm, ?_, ?_, ?_, ?_, ?_, hnd.1⟩
      · unfold maxLen; omega
      · rw [hsz]
        refine Nat.le_trans (Nat.mul_le_mul_right 60 ?_) hcap
        have := t.hc.1
        omega
      · intro m' hm'
        obtain ⟨x1, x2, x3, x4, x5⟩ := t.dR m' (by simp [hm'])
        have x6 : m'.1 ≠ m.1 := hnd.2.2 m'.1 (List.mem_map.2 ⟨m', hm', rfl⟩) m.1 (by simp)
        omega
      · intro b e
        split at e
        · exact ⟨Nat.lt_of_lt_of_le (t.dL b e).1 g.ch.size, (t.dL b e).2.1, (t.dL b e).2.2.1, fun e2 => d5 (by rw [← e2]; exact e)⟩
        · cases e
      · intro b e
        split at e
        · exact g.nb (t.nbL b e) (t.dL b e).1
        · cases e
      · intro b e
        split at e
        · exact t.yL b e
        · cases e
      · intro m' hm'
        obtain ⟨x1, x2, x3, x4, x5⟩ := t.dR m' (by simp [hm'])
        refine ⟨Nat.lt_of_lt_of_le x1 g.ch.size, x2, x3, hnd.2.2 m'.1 (List.mem_map.2 ⟨m', hm', rfl⟩) m.1 (by simp), ?_⟩
        split
        · exact x5
        · intro e; cases e
      · intro m' hm'
        obtain ⟨x1, x2, x3, x4, x5⟩ := t.dR m' (by simp [hm'])
        exact ⟨g.nb (t.nbR m' (by simp [hm'])).1 x1, (t.nbR m' (by simp [hm'])).2⟩
end Go.Proofs.YgvaawGreat
