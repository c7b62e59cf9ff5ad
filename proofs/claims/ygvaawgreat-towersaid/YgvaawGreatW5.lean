import Derived.Test.YgvaawGreatZ31
import Derived.Test.YgvaawGreatW3
set_option maxRecDepth 100000
set_option linter.unusedSimpArgs false
set_option linter.unusedVariables false
namespace Go.Proofs.YgvaawGreat
open Go
/-! A frame's end. -/
/-- the whole chain means s -/
def XO (w0 : World) (H0 : Store) (col0 : Nat → Nat) (w : World) (bc : Nat) (s : YSt) (c : Nat) : Prop := ∃ H col cs V sn sv, XT w0 H0 col0 w H col bc cs V s sn sv (s.frames.map (fun f => f.mem)) c
def psS (s : YSt) (f : YF) (low : List YF) (W : YWorld) (g : Nat) : YSt := { s with now := W, frames := low ++ [{ f with gas := g }] }
def g1N (f : YF) (q : Nat) (l : List Nat) : Nat := if crN f.kind = true ∧ q = 0 then (depN f l).1 else f.gas
def o1N (f : YF) (q : Nat) (l : List Nat) : List Nat := if crN f.kind = true ∧ q = 0 ∧ (depN f l).2 = 0 then [] else l
def w1N (s : YSt) (f : YF) (q : Nat) (l : List Nat) : YWorld := if crN f.kind = true ∧ q = 0 ∧ (depN f l).2 = 0 ∧ 0 < l.length then { s.now with accts := putA s.now.accts (setCode (acctAt s.now.accts f.self) l) } else s.now
section
variable {s : YSt} {f : YF} {q : Nat} {l : List Nat} {low : List YF}
theorem lvSt_c (h : crN f.kind = true ∧ q = 0) : lvSt f q l = (depN f l).2 := if_pos h
theorem lvSt_n (h : ¬ (crN f.kind = true ∧ q = 0)) : lvSt f q l = q := if_neg h
theorem lvSt_0 (h : lvSt f q l = 0) (hc : crN f.kind = true) : q = 0 ∧ (depN f l).2 = 0 := by
  by_cases h0 : crN f.kind = true ∧ q = 0
  · rw [lvSt_c h0] at h
    exact ⟨h0.2, h⟩
  · rw [lvSt_n h0] at h
    exact absurd ⟨hc, h⟩ h0
theorem lvW_eq : lvW s f q l = if lvSt f q l = 0 then w1N s f q l else f.saved := by
  unfold lvW w1N
  by_cases h : lvSt f q l = 0
  · rw [if_pos h, if_pos h]
    by_cases hc : crN f.kind = true ∧ 0 < l.length
    · rw [if_pos hc, if_pos ⟨hc.1, (lvSt_0 h hc.1).1, (lvSt_0 h hc.1).2, hc.2⟩]
    · rw [if_neg hc, if_neg (fun h9 => hc ⟨h9.1, h9.2.2.2⟩)]
  · rw [if_neg h, if_neg h]
theorem lvGas_eq : lvGas f q l = if 1 < lvSt f q l then 0 else g1N f q l := rfl
theorem lvOut_eq : lvOut f q l = if 1 < lvSt f q l then [] else o1N f q l := by
  unfold lvOut o1N
  by_cases h : 1 < lvSt f q l
  · rw [if_pos (.inl h), if_pos h]
  · rw [if_neg h]
    by_cases hc : crN f.kind = true ∧ lvSt f q l = 0
    · rw [if_pos (.inr hc), if_pos ⟨hc.1, lvSt_0 hc.2 hc.1⟩]
    · rw [if_neg (by intro h9; rcases h9 with h9 | h9; exact h h9; exact hc h9), if_neg (fun h9 => hc ⟨h9.1, by rw [lvSt_c ⟨h9.1, h9.2.1⟩]; exact h9.2.2⟩)]
theorem dep_leE (f : YF) (l : List Nat) : (depN f l).1 ≤ f.gas := by
  unfold depN
  repeat' split
  all_goals simp
theorem dep_ok (h : (depN f l).2 = 0) : l.length ≤ 256 ∧ (depN f l).1 = f.gas - 200 * l.length ∧ 200 * l.length ≤ f.gas := by
  unfold depN at h ⊢
  split at h
  · cases h
  · split at h
    · cases h
    · split at h
      · cases h
      · rename_i a b d
        rw [if_neg a, if_neg b, if_neg d]
        exact ⟨by omega, rfl, by omega⟩
theorem dep_stE (f : YF) (l : List Nat) : (depN f l).2 < 12 := by
  unfold depN
  repeat' split
  all_goals simp
theorem g1_le (f : YF) (q : Nat) (l : List Nat) : g1N f q l ≤ f.gas := by
  unfold g1N
  split
  · exact dep_leE f l
  · exact Nat.le_refl _
theorem lvGas_le (f : YF) (q : Nat) (l : List Nat) : lvGas f q l ≤ f.gas := by
  rw [lvGas_eq]
  split
  · exact Nat.zero_le _
  · exact g1_le f q l
theorem lvSt_lt (hq : q < 256) : lvSt f q l < 256 := by
  by_cases h : crN f.kind = true ∧ q = 0
  · rw [lvSt_c h]
    have := dep_stE f l
    omega
  · rw [lvSt_n h]
    exact hq
theorem lvOut_len (f : YF) (q : Nat) (l : List Nat) : (lvOut f q l).length ≤ l.length := by
  unfold lvOut
  split
  · exact Nat.zero_le _
  · exact Nat.le_refl _
end
section
variable {w0 w w' : World} {H0 H H' : Store} {col0 col col' : Nat → Nat} {bc : Nat} {cs cs' : Array Value} {V V' : EV} {s : YSt} {sn : List Nat} {sv : List AW} {ms ms' : List (List Nat)} {c c' : Nat} {low : List YF} {f u : YF}
theorem PX.gas (h : PX V s sn sv c) (hs : s.frames = low ++ [f]) (g : Nat) (hg : g + c' ≤ f.gas + c) : PX V (psS s f low s.now g) sn sv c' := by
  have hf : s.frames[low.length]? = some f := by rw [hs]; simp
  refine ⟨h.va, fun i u n hu hn => ?_, h.inc, fun u hu => ?_, h.org, ?_⟩
  · have hu : (low ++ [{ f with gas := g }])[i]? = some u := hu
    rcases top_ix hu with ⟨hi, hg2⟩ | ⟨hi, hg2⟩
    · exact h.snp i u n (by rw [hs, List.getElem?_append_left hi]; exact hg2) hn
    · subst hi hg2
      exact h.snp low.length f n hf hn
  · have hu : u ∈ low ++ [{ f with gas := g }] := hu
    rcases List.mem_append.1 hu with hu | hu
    · exact h.has u (by rw [hs]; exact List.mem_append_left _ hu)
    · simp at hu
      rw [hu]
      exact h.has f (by rw [hs]; simp)
  · have e : gasS (psS s f low s.now g) + f.gas = gasS s + g := by
      rw [gas_top hs, gas_top (s := psS s f low s.now g) (low := low) (f := { f with gas := g }) rfl]
      show (low.map (·.gas)).sum + g + f.gas = _
      omega
    exact h.pot.le (by omega)
theorem PX.gas2 {W : YWorld} {g g' : Nat} (h : PX V (psS s f low W g) sn sv c) (hg : g' ≤ g) : PX V (psS s f low W g') sn sv c :=
  PX.gas (s := psS s f low W g) (f := { f with gas := g }) (c' := c) h rfl g' (by show g' + c ≤ g + c; omega)
theorem PX.re {s' : YSt} (h : PX V s sn sv c) (h1 : s'.now = s.now) (h2 : s'.start = s.start) (h3 : s'.frames = s.frames) (h4 : s'.phase ≠ 0 → s.phase ≠ 0) (h5 : s'.origin = s.origin) (h6 : s'.env = s.env) (h7 : s'.applied = s.applied) : PX V s' sn sv c := by
  obtain ⟨a1, a2, a3, a4, a5, a6⟩ := h
  refine ⟨by rw [h1, h2]; exact a1, by rw [h3]; exact a2, a3, by rw [h3]; exact a4, fun e => by rw [h5, h6]; exact a5 (h4 e), ?_⟩
  have : gasS s' = gasS s := by unfold gasS; rw [h3]
  rw [this, h7]
  exact a6
theorem PX.slack (h : PX V s sn sv c) (hc : c' ≤ c) : PX V s sn sv c' := ⟨h.va, h.snp, h.inc, h.has, h.org, h.pot.le (by omega)⟩
theorem PX.mark {n : Nat} (h : PX V s sn sv c) (hs : s.frames = low ++ [f]) (hn : sn[low.length]? = some n) : ∃ m, V.marks[n]? = some m ∧ m ≤ V.journal.length := by
  have h1 := h.snp low.length f n (by rw [hs]; simp) hn
  have h2 := (List.getElem?_eq_some_iff.1 h1).1
  rw [h.va.len] at h2
  refine ⟨_, List.getElem?_eq_getElem h2, ?_⟩
  exact (h.va.mr n _ (List.getElem?_eq_getElem h2)).1
/-- the chain but for what it means of the world -/
structure EG (w : World) (H : Store) (col : Nat → Nat) (bc : Nat) (cs : Array Value) (V : EV) (s : YSt) (sn : List Nat) (ms : List (List Nat)) : Prop where
  vl : VL w H col bc cs V
  ok : VOk V
  lx : LX H cs bc s sn
  mx : ∃ bm cm n, MA w col cs ms bm cm n
structure XG (w0 : World) (H0 : Store) (col0 : Nat → Nat) (w : World) (H : Store) (col : Nat → Nat) (bc : Nat) (cs : Array Value) (V : EV) (s : YSt) (sn : List Nat) (ms : List (List Nat)) : Prop where
  ex : EG w H col bc cs V s sn ms
  et : ET w0 H0 col0 w H col
theorem XG.xr (h : XG w0 H0 col0 w H col bc cs V s sn ms) : XR w0 H0 col0 w H col bc cs V ms := ⟨h.ex.vl, h.ex.ok, h.ex.mx, h.et⟩
theorem XR.xg (h : XR w0 H0 col0 w H col bc cs V ms) (l : LX H cs bc s sn) : XG w0 H0 col0 w H col bc cs V s sn ms := ⟨⟨h.vl, h.ok, l, h.mx⟩, h.et⟩
theorem XT.xg (h : XT w0 H0 col0 w H col bc cs V s sn sv ms c) : XG w0 H0 col0 w H col bc cs V s sn ms := h.xr.xg h.ex.lx
theorem XG.xt (h : XG w0 H0 col0 w H col bc cs V s sn ms) (p : PX V s sn sv c) : XT w0 H0 col0 w H col bc cs V s sn sv ms c := h.xr.xt h.ex.lx p
theorem XG.ch {M : Nat → Prop} (h : XG w0 H0 col0 w H col bc cs V s sn ms) (u : Ch M w w') (hM : ∀ b, M b → col b = 0 ∧ ¬ H.has b ∧ w0.heap.size ≤ b) : XG w0 H0 col0 w' H col bc cs V s sn ms := (h.xr.ch u hM).xg h.ex.lx
theorem XG.up (h : XG w0 H0 col0 w H col bc cs V s sn ms) (u : Up w w') : XG w0 H0 col0 w' H col bc cs V s sn ms := h.ch u (fun _ h => h.elim)
theorem XG.vt (h : XG w0 H0 col0 w H col bc cs V s sn ms) (t : VT w H col bc cs w' H' col' cs' V') (ok : VOk V') : XG w0 H0 col0 w' H' col' bc cs' V' s sn ms := (h.xr.vt t ok).xg ((h.ex.lx.mono t.go.le).out t.out (.inl (by decide)))
theorem XG.memC (h : XG w0 H0 col0 w H col bc cs V s sn ms) (x : Ch (fun q => q = bc) w w') (hbk : Blk w' bc cs') (ho : Out cs cs' 1 10) (hm : ∃ bm cm n, MA w' col cs' ms' bm cm n) : XG w0 H0 col0 w' H col bc cs' V s sn ms' := (h.xr.memC x hbk ho hm).xg (h.ex.lx.out ho (.inr (by decide)))
theorem XG.st {s' : YSt} {sn' : List Nat} {o : Nat} {vs : List Value} (h : XG w0 H0 col0 w H col bc cs V s sn ms) (x : Wr w w' bc (spl cs o vs)) (h1 : 11 ≤ o) (h2 : o + vs.length ≤ 2435) (l : LX H (spl cs o vs) bc s' sn') : XG w0 H0 col0 w' H col bc (spl cs o vs) V s' sn' ms := (h.xr.st x h1 h2).xg l
theorem XG.leaveC {lo : List (List Nat)} {m : List Nat} (hX : XG w0 H0 col0 w H col bc cs V s sn ms) (hms : ms = lo ++ [m]) : Ret 256 [.pointer (some ⟨bc, 1, none⟩)] w (fun v w' => v = .bool true ∧ ∃ cs', XG w0 H0 col0 w' H col bc cs' V s sn lo ∧ Out cs cs' 1 10 ∧ Ch (fun b => b = bc) w w') := by
  obtain ⟨bm, cm, n, hM⟩ := hX.ex.mx
  subst hms
  refine (g_leave hX.ex.vl.kC hM hX.ex.vl.colC (by rw [hX.ex.vl.size]; decide)).mono fun v w' h => ?_
  obtain ⟨e, cs', h1, h2, h3, h4⟩ := h
  exact ⟨e, cs', hX.memC h4 h1 h3 ⟨_, _, _, h2⟩, h3, h4⟩
theorem SXG.refl (h : XG w0 H0 col0 w H col bc cs V s sn ms) : SX col bc w w := ⟨Ch.refl _ _, h.ex.vl.c1 h.ex.lx.pS rfl⟩
theorem SXLG.refl (h : XG w0 H0 col0 w H col bc cs V s sn ms) : SXL col bc cs w w := ⟨SXG.refl h, h.ex.lx.pS, cs, h.ex.vl.kC, Out.refl _ _ _⟩
theorem cqG_refl (h : XG w0 H0 col0 w H col bc cs V s sn ms) : ∀ b, b < w.heap.size → col b = col b := fun _ _ => rfl
structure EQ (w : World) (H : Store) (col : Nat → Nat) (bc : Nat) (cs : Array Value) (V : EV) (ms : List (List Nat)) : Prop where
  vl : VL w H col bc cs V
  ok : VOk V
  mx : ∃ bm cm n, MA w col cs ms bm cm n
structure XQ (w0 : World) (H0 : Store) (col0 : Nat → Nat) (w : World) (H : Store) (col : Nat → Nat) (bc : Nat) (cs : Array Value) (V : EV) (ms : List (List Nat)) : Prop where
  ex : EQ w H col bc cs V ms
  et : ET w0 H0 col0 w H col
theorem XQ.xr (h : XQ w0 H0 col0 w H col bc cs V ms) : XR w0 H0 col0 w H col bc cs V ms := ⟨h.ex.vl, h.ex.ok, h.ex.mx, h.et⟩
theorem XR.xq (h : XR w0 H0 col0 w H col bc cs V ms) : XQ w0 H0 col0 w H col bc cs V ms := ⟨⟨h.vl, h.ok, h.mx⟩, h.et⟩
theorem XQ.ch {M : Nat → Prop} (h : XQ w0 H0 col0 w H col bc cs V ms) (u : Ch M w w') (hM : ∀ b, M b → col b = 0 ∧ ¬ H.has b ∧ w0.heap.size ≤ b) : XQ w0 H0 col0 w' H col bc cs V ms := (h.xr.ch u hM).xq
theorem XQ.up (h : XQ w0 H0 col0 w H col bc cs V ms) (u : Up w w') : XQ w0 H0 col0 w' H col bc cs V ms := h.ch u (fun _ h => h.elim)
theorem XQ.st {o : Nat} {vs : List Value} (h : XQ w0 H0 col0 w H col bc cs V ms) (x : Wr w w' bc (spl cs o vs)) (h1 : 11 ≤ o) (h2 : o + vs.length ≤ 2435) : XQ w0 H0 col0 w' H col bc (spl cs o vs) V ms := (h.xr.st x h1 h2).xq
theorem LX.cTop (h : LX H cs bc s sn) (hs : s.frames = low ++ [f]) : cs[2258]? = some (.int .i8 (low.length : Nat)) := by
  rw [h.top, hs, List.length_append, List.length_singleton]
  congr 2
  omega
theorem topSub {n : Nat} (h : n ≤ 6) : IntKind.i8.wrap (((n : Nat) : Int) - 1) = ((n : Nat) : Int) - 1 := by
  rcases (show n = 0 ∨ n = 1 ∨ n = 2 ∨ n = 3 ∨ n = 4 ∨ n = 5 ∨ n = 6 by omega) with rfl | rfl | rfl | rfl | rfl | rfl | rfl <;> decide
theorem last_of {α : Type} {l : List α} (h : l ≠ []) : ∃ a x, l = a ++ [x] := ⟨l.dropLast, l.getLast h, (List.dropLast_concat_getLast h).symm⟩
theorem cut0 {l : List Nat} {k : Nat} (h : k ≤ l.length) : cutN l 0 k = l.take k := by
  unfold cutN
  rw [List.drop_zero, show k - (l.length - 0) = 0 by omega, List.replicate_zero, List.append_nil]
/-- as SXL, and the memory's cells may be turned, too -/
structure SXM (col : Nat → Nat) (bc : Nat) (cs0 : Array Value) (w0 w' : World) : Prop where
  sx : SX col bc w0 w'
  low : ∃ cs', Blk w' bc cs' ∧ ∀ i, 11 ≤ i → i < 2435 → cs'[i]? = cs0[i]?
theorem SXM.refl (h : XT w0 H0 col0 w H col bc cs V s sn sv ms c) : SXM col bc cs w w := ⟨SX.refl h, cs, h.ex.vl.kC, fun _ _ _ => rfl⟩
theorem SXMG.refl (h : XG w0 H0 col0 w H col bc cs V s sn ms) : SXM col bc cs w w := ⟨SXG.refl h, cs, h.ex.vl.kC, fun _ _ _ => rfl⟩
theorem SXM.ch (h : SXM col bc cs w w') : Ch (fun b => col b ≠ 0) w w' := h.sx.ch
theorem SXM.tr {w2 : World} (h : SXM col bc cs w w') (u : Up w' w2) : SXM col bc cs w w2 := by
  obtain ⟨d, h1, h2⟩ := h.low
  exact ⟨h.sx.tr u, d, h1.up u, h2⟩
theorem SXM.xc {w2 : World} {H1 H2 : Store} {c1 c2 : Nat → Nat} {cs1 cs2 : Array Value} {V2 : EV} (h : SXM col bc cs w w') (t : VT w' H1 c1 bc cs1 w2 H2 c2 cs2 V2) (hk : Blk w' bc cs1) (hp : w2.cell? ⟨bc, 0, none⟩ = some (.pointer (some ⟨bc, 2435, none⟩))) (hM : ∀ b, b < w.heap.size → (0 < c1 b ∧ c1 b < 8) → col b ≠ 0) : SXM col bc cs w w2 := by
  obtain ⟨d, h1, h2⟩ := h.low
  have e := h1.inj hk
  subst e
  exact ⟨h.sx.xc t.go.ch hp hM, cs2, t.vl.kC, fun i a b => (t.out.get i (.inl (by omega))).trans (h2 i a b)⟩
/-- a call of the memory -/
theorem SXM.xm {M : Nat → Prop} {w2 : World} {cs1 cs2 : Array Value} (h : SXM col bc cs w w') (u : Ch M w' w2) (hk : Blk w' bc cs1) (hk2 : Blk w2 bc cs2) (ho : Out cs1 cs2 1 10) (hp : w2.cell? ⟨bc, 0, none⟩ = some (.pointer (some ⟨bc, 2435, none⟩))) (hM : ∀ b, b < w.heap.size → M b → col b ≠ 0) : SXM col bc cs w w2 := by
  obtain ⟨d, h1, h2⟩ := h.low
  have e := h1.inj hk
  subst e
  exact ⟨h.sx.xc u hp hM, cs2, hk2, fun i a b => (ho.get i (.inr (by omega))).trans (h2 i a b)⟩
theorem toM {P : World → Prop} (h : ∀ w', SX col bc w w' → P w') : ∀ w', SXM col bc cs w w' → P w' := fun w' e => h w' e.sx
theorem atXMP : ∀ w', SXM col bc cs w w' → w'.cell? ⟨bc, 0, none⟩ = some (.pointer (some ⟨bc, 2435, none⟩)) := fun _ h => h.sx.pS
theorem atXMR {o p : Nat} {vs : List Value} (h : RowIn cs p vs) (e : o = p) (hp : 11 ≤ p ∧ p + vs.length ≤ 2435) : ∀ w', SXM col bc cs w w' → Row w' bc o vs := fun w' g => by
  obtain ⟨d, h1, h2⟩ := g.low
  refine h1.rowO (fun i v hv => ?_) e
  have := (List.getElem?_eq_some_iff.1 hv).1
  rw [h2 _ (by omega) (by omega)]
  exact h i v hv
theorem atXMC {o p : Nat} {v : Value} (h : cs[p]? = some v) (e : o = p) (hp : 11 ≤ p ∧ p < 2435) : ∀ w', SXM col bc cs w w' → w'.cell? ⟨bc, o, none⟩ = some v := fun w' g => by
  obtain ⟨d, h1, h2⟩ := g.low
  subst e
  exact h1.cell (by rw [h2 _ hp.1 hp.2]; exact h)
end
end Go.Proofs.YgvaawGreat
