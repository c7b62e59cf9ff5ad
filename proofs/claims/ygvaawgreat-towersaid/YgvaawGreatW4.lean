import Derived.Test.YgvaawGreatW2
set_option maxRecDepth 100000
set_option linter.unusedSimpArgs false
set_option linter.unusedVariables false
namespace Go.Proofs.YgvaawGreat
open Go
/-! Frames that come and go. -/
theorem VL.outL {w w' : World} {H : Store} {col : Nat → Nat} {bc : Nat} {cs cs' : Array Value} {V : EV} {o k : Nat} (h : VL w H col bc cs V) (hw : Ch (fun q => q = bc) w w') (hbk : Blk w' bc cs') (ho : Out cs cs' o k) (hz : o + k ≤ 2435) : VL w' H col bc cs' V := by
  have hc : ∀ i, 2435 ≤ i → cs'[i]? = cs[i]? := fun i hi => ho.get i (.inr (by omega))
  have hM : ∀ k, k = bc → col k = 1 := fun k hk => by rw [hk]; exact h.colC
  exact ⟨h.fz.ch hw (fun b hb hm => by have := h.kept b hb; have := hM b hm; omega), hbk, by rw [ho.size]; exact h.size, h.colC, fun b hb => h.new b (Nat.le_trans hw.size hb), h.kept, (Part.ch h.acc hw (fun b hb => by have := hM b hb; omega)).cs (hc _ (by decide)), (Part.ch h.slo hw (fun b hb => by have := hM b hb; omega)).cs (hc _ (by decide)), (Part.ch h.jou hw (fun b hb => by have := hM b hb; omega)).cs (hc _ (by decide)), (Part.ch h.log hw (fun b hb => by have := hM b hb; omega)).cs (hc _ (by decide)), (Part.ch h.tem hw (fun b hb => by have := hM b hb; omega)).cs (hc _ (by decide)), (TPart.ch h.ttb hw (fun b hb => by have := hM b hb; omega)).cs (hc _ (by decide)), fun p hp => by rw [hc _ (by omega)]; exact h.atb p hp, fun p hp => by rw [hc _ (by omega)]; exact h.stb p hp, fun i m hi => by rw [hc _ (by omega)]; exact h.mrk i m hi, by rw [hc _ (by decide)]; exact h.nmk, by rw [hc _ (by decide)]; exact h.ref, by rw [hc _ (by decide)]; exact h.tb⟩
theorem snap_ok {V : EV} (h : VOk V) (hm : V.marks.length < 16384) : VOk (snapV V) := by
  refine ⟨⟨h.bd.accts, h.bd.slots, h.bd.journal, ?_, fun m hm => ?_, h.bd.ref, h.bd.logs, h.bd.temps⟩, h.a, h.ad, h.s, h.sd, h.t, h.t0, h.td, h.sa, h.ta, fun e he => ?_, h.jl⟩
  · show (V.marks ++ [V.journal.length]).length ≤ 16384
    rw [List.length_append, List.length_singleton]
    omega
  · have hm : m ∈ V.marks ++ [V.journal.length] := hm
    rcases List.mem_append.1 hm with hm | hm
    · exact h.bd.mkb m hm
    · simp at hm
      rw [hm]
      exact h.bd.journal
  · have := h.jr e he
    exact ⟨this.a, this.s, this.t⟩
section
variable {w0 w w' : World} {H0 H H' : Store} {col0 col col' : Nat → Nat} {bc : Nat} {cs cs' : Array Value} {V V' : EV} {s : YSt} {sn : List Nat} {sv : List AW} {ms ms' : List (List Nat)} {c c' : Nat} {low : List YF} {f u : YF}
/-- what is in the world but for the machine's meaning -/
structure XR (w0 : World) (H0 : Store) (col0 : Nat → Nat) (w : World) (H : Store) (col : Nat → Nat) (bc : Nat) (cs : Array Value) (V : EV) (ms : List (List Nat)) : Prop where
  vl : VL w H col bc cs V
  ok : VOk V
  mx : ∃ bm cm n, MA w col cs ms bm cm n
  et : ET w0 H0 col0 w H col
theorem XT.xr (h : XT w0 H0 col0 w H col bc cs V s sn sv ms c) : XR w0 H0 col0 w H col bc cs V ms := ⟨h.ex.vl, h.ex.ok, h.ex.mx, h.et⟩
theorem XR.xt (h : XR w0 H0 col0 w H col bc cs V ms) (l : LX H cs bc s sn) (p : PX V s sn sv c) : XT w0 H0 col0 w H col bc cs V s sn sv ms c := ⟨⟨h.vl, h.ok, l, h.mx, p⟩, h.et⟩
theorem XR.ch {M : Nat → Prop} (h : XR w0 H0 col0 w H col bc cs V ms) (u : Ch M w w') (hM : ∀ b, M b → col b = 0 ∧ ¬ H.has b ∧ w0.heap.size ≤ b) : XR w0 H0 col0 w' H col bc cs V ms := by
  obtain ⟨bm, cm, n, h1⟩ := h.mx
  have hv := h.vl.ch u (fun b hb => ⟨(hM b hb).1, (hM b hb).2.1⟩)
  exact ⟨hv, h.ok, ⟨bm, cm, n, h1.ch u (fun h8 hm => by have := (hM _ hm).1; omega)⟩, ⟨h.et.go.trans ⟨u, hv.fz, Le.refl _, fun _ h => .inl h⟩ (fun b hb => .inr (hM b hb).2.2), h.et.col⟩⟩
theorem XR.up (h : XR w0 H0 col0 w H col bc cs V ms) (u : Up w w') : XR w0 H0 col0 w' H col bc cs V ms := h.ch u (fun _ h => h.elim)
theorem ET.wrC (h : ET w0 H0 col0 w H col) (x : Ch (fun q => q = bc) w w') (hC : col bc = 1) (hf : Fz w' H) : ET w0 H0 col0 w' H col :=
  ⟨⟨h.go.ch.cc x (fun b hb => by
    subst hb
    by_cases hlt : b < w0.heap.size
    · left; rw [← h.col b hlt, hC]; decide
    · right; omega), hf, h.go.le, h.go.new⟩, h.col⟩
/-- cells of the machine were written -/
theorem XR.st {o : Nat} {vs : List Value} (h : XR w0 H0 col0 w H col bc cs V ms) (x : Wr w w' bc (spl cs o vs)) (h1 : 11 ≤ o) (h2 : o + vs.length ≤ 2435) : XR w0 H0 col0 w' H col bc (spl cs o vs) V ms := by
  obtain ⟨bm, cm, n, hm⟩ := h.mx
  have hO : Out cs (spl cs o vs) o vs.length := Out.spl (by rw [h.vl.size]; omega) (Nat.le_refl _) (Nat.le_refl _)
  have hv := h.vl.low x h2
  exact ⟨hv, h.ok, ⟨bm, cm, n, hm.low9 x h.vl.colC hO h1⟩, h.et.wrC x.ch h.vl.colC hv.fz⟩
/-- a call of the memory that turns its cells -/
theorem XR.memC (h : XR w0 H0 col0 w H col bc cs V ms) (x : Ch (fun q => q = bc) w w') (hbk : Blk w' bc cs') (ho : Out cs cs' 1 10) (hm : ∃ bm cm n, MA w' col cs' ms' bm cm n) : XR w0 H0 col0 w' H col bc cs' V ms' := by
  have hv := h.vl.outL x hbk ho (by decide)
  exact ⟨hv, h.ok, hm, h.et.wrC x h.vl.colC hv.fz⟩
theorem XR.vt (h : XR w0 H0 col0 w H col bc cs V ms) (t : VT w H col bc cs w' H' col' cs' V') (ok : VOk V') : XR w0 H0 col0 w' H' col' bc cs' V' ms := by
  obtain ⟨bm, cm, n, h1⟩ := h.mx
  refine ⟨t.vl, ok, ⟨bm, cm, n, ((h1.col (fun b hb => t.col b hb)).ch t.go.ch ?_).out t.out (by decide)⟩, h.et.trans t.et⟩
  intro h8 hm
  obtain ⟨v, e1, e2, e3⟩ := h1.bf
  by_cases hlt : bm < w.heap.size
  · rw [t.col bm hlt] at h8
    omega
  · exact absurd hm.2 (by have := h.vl.new bm (by omega); omega)
/-! The meaning. -/
theorem PX.js {F : AW → AW} {na ns nt nj nl : Nat} {W : YWorld} (h : PX V s sn sv c) (js : JS V V' F na ns nt nj nl) (hF : absY W = F (absY s.now)) (hr : ∀ A, (F A).refund = A.refund) (hc : c' + 2600 * na ≤ c ∧ c' + 2100 * ns ≤ c ∧ c' + 100 * nt ≤ c ∧ c' + 25 * nj ≤ c ∧ c' + 375 * nl ≤ c) : PX V' { s with now := W } sn sv c' := by
  have hva := js.va h.va
  have e : V'.ref = V.ref := by
    have h1 := congrArg AW.refund hva.abs
    have h2 := congrArg AW.refund h.va.abs
    rw [hr] at h1
    exact h1.trans h2.symm
  rw [← hF] at hva
  have hp := h.pot
  refine ⟨hva, h.snp, h.inc, fun f hf => ⟨js.ha _ (h.has f hf).1, js.ha _ (h.has f hf).2⟩, fun e => ⟨js.ha _ (h.org e).1, js.ha _ (h.org e).2⟩, ?_⟩
  have hg : gasS { s with now := W } = gasS s := rfl
  rw [hg]
  have h2 := js.na
  have h3 := js.ns
  have h4 := js.nt
  have h5 := js.nj
  have h6 := js.nl
  have h7 := js.mr
  have p1 := hp.a
  have p2 := hp.s
  have p3 := hp.j
  have p4 := hp.t
  have p5 := hp.l
  have p6 := hp.m
  have p7 := hp.r
  refine ⟨?_, ?_, by omega, by omega, by omega, by rw [h7]; omega, by omega, fun A hA => by have := hp.sr A hA; omega⟩
  · show 2600 * V'.accts.length + _ ≤ 2600 * (8 + 21 * s.applied) + 1048576 * s.applied
    omega
  · show 2100 * V'.slots.length + _ ≤ 2100 * (128 + 64 * s.applied) + 1048576 * s.applied
    omega
/-- a snapshot -/
theorem PX.snap (h : PX V s sn sv c) (hsn : sn.length = s.frames.length) (hm : 100 * V.marks.length + (gasS s + c) ≤ 1048576) : PX (snapV V) s sn (sv ++ [absY s.now]) c := by
  have hp := h.pot
  have hl := h.va.len
  refine ⟨h.va.snap, fun i f n hf hn => ?_, h.inc, h.has, h.org, ⟨hp.a, hp.s, hp.j, hp.t, hp.l, ?_, hp.r, fun A hA => ?_⟩⟩
  · have := h.snp i f n hf hn
    rw [List.getElem?_append_left (List.getElem?_eq_some_iff.1 this).1]
    exact this
  · show 100 * (V.marks ++ [V.journal.length]).length + _ ≤ _
    rw [List.length_append, List.length_singleton]
    omega
  · rcases List.mem_append.1 hA with hA | hA
    · exact hp.sr A hA
    · simp at hA
      rw [hA, ← h.va.abs]
      exact ⟨hp.r, hp.l⟩
theorem PX.pushed {n9 : Nat} (h : PX V s sn sv c) (hsn : sn.length = s.frames.length) (hsv : sv[n9]? = some (absY u.saved)) (hin : ∀ (i : Nat) m, sn[i]? = some m → m < n9) (hh : hasA V u.self ∧ hasA V u.caller) (hg : c' + u.gas ≤ c) : PX V { s with frames := s.frames ++ [u] } (sn ++ [n9]) sv c' := by
  refine ⟨h.va, fun i f n hf hn => ?_, fun i j m n hij hm hn => ?_, fun f hf => ?_, h.org, ?_⟩
  · have hf : (s.frames ++ [u])[i]? = some f := hf
    rcases top_ix hf with ⟨hi, hg2⟩ | ⟨hi, hg2⟩
    · rw [List.getElem?_append_left (by omega)] at hn
      exact h.snp i f n hg2 hn
    · subst hi hg2
      rw [← hsn] at hn
      simp at hn
      subst hn
      exact hsv
  · have hj : j < sn.length + 1 := by have := (List.getElem?_eq_some_iff.1 hn).1; simpa using this
    rw [List.getElem?_append_left (by omega)] at hm
    by_cases e : j < sn.length
    · rw [List.getElem?_append_left e] at hn
      exact h.inc i j m n hij hm hn
    · have e2 : j = sn.length := by omega
      subst e2
      simp at hn
      subst hn
      exact hin i m hm
  · have hf : f ∈ s.frames ++ [u] := hf
    rcases List.mem_append.1 hf with hf | hf
    · exact h.has f hf
    · simp at hf
      rw [hf]
      exact hh
  · have e : gasS { s with frames := s.frames ++ [u] } = gasS s + u.gas := by unfold gasS; simp
    rw [e]
    exact h.pot.le (by omega)
theorem PX.fresh (h : PX V s sn sv c) (hsn : sn.length = s.frames.length) : ∀ (i : Nat) m, sn[i]? = some m → m < V.marks.length := fun i m hm => by
  have hi := (List.getElem?_eq_some_iff.1 hm).1
  have := h.snp i _ m (List.getElem?_eq_getElem (by omega)) hm
  have := (List.getElem?_eq_some_iff.1 this).1
  rw [h.va.len] at this
  exact this
/-! The cells. -/
/-- a frame's value -/
def fcv (u : YF) (vc vi : Value) (dp sb n : Nat) (ds : List Nat) : List Value := [.int .u8 (u.kind : Nat), .int .u8 (dp : Nat), .int .u8 (u.ntv : Nat), .bool u.static, .int .u16 (u.pc : Nat), .int .u16 (sb : Nat), .int .u16 (u.stack.length : Nat), .int .u64 (u.gas : Nat), .int .i32 (n : Nat)] ++ (bL (be 20 u.self) ++ (bL (be 20 u.caller) ++ (wL u.value ++ ([vc, vi] ++ (uL ds ++ [.int .u32 (u.outOff : Nat), .int .u32 (u.outLen : Nat)])))))
theorem fcv_len {vc vi : Value} {dp sb n : Nat} {ds : List Nat} (hd : ds.length = 8) : (fcv u vc vi dp sb n ds).length = 65 := by
  unfold fcv
  simp only [List.length_append, length_bL, length_be, wL_len, length_uL, hd, List.length_cons, List.length_nil]
theorem app_row {cs : Array Value} {o : Nat} {a b : List Value} (h : RowIn cs o (a ++ b)) : RowIn cs o a ∧ RowIn cs (o + a.length) b := by
  refine ⟨fun i v hv => h i v ?_, fun i v hv => ?_⟩
  · rw [List.getElem?_append_left (List.getElem?_eq_some_iff.1 hv).1]
    exact hv
  · have := h (a.length + i) v (by rw [List.getElem?_append_right (by omega)]; rw [show a.length + i - a.length = i by omega]; exact hv)
    rw [Nat.add_assoc]
    exact this
theorem FR.of {i n : Nat} {ca ia : Option Addr} {cc ic : Nat} {ds : List Nat} (h : RowIn cs (1803 + 65 * i) (fcv u (.slice ca u.code.length cc) (.slice ia u.input.length ic) i (64 * i) n ds)) (h1 : BV H (.slice ca u.code.length cc) u.code) (h2 : BV H (.slice ia u.input.length ic) u.input) (h3 : DM u.code ds) : FR H cs i u n := by
  unfold fcv at h
  obtain ⟨r1, h⟩ := app_row h
  obtain ⟨r2, h⟩ := app_row h
  obtain ⟨r3, h⟩ := app_row h
  obtain ⟨r4, h⟩ := app_row h
  obtain ⟨r5, h⟩ := app_row h
  obtain ⟨r6, r7⟩ := app_row h
  simp only [length_bL, length_be, wL_len, length_uL, h3.len, List.length_cons, List.length_nil] at r2 r3 r4 r5 r6 r7
  exact ⟨r1, r2.cast (by omega), r3.cast (by omega), r4.cast (by omega), ⟨ca, cc, ia, ic, r5.cast (by omega), h1, h2⟩, ⟨ds, r6.cast (by omega), h3⟩, r7.cast (by omega)⟩
/-- cells of a frame above the top -/
theorem LX.above {o k : Nat} (h : LX H cs bc s sn) (hp : s.phase ≠ 2) (ho : Out cs cs' o k) (h1 : 1803 + 65 * s.frames.length ≤ o) (h2 : o + k ≤ 2258) : LX H cs' bc s sn := by
  obtain ⟨a, c, g1, g2⟩ := h.ret
  have h7 := h.n7
  refine ⟨by rw [ho.get _ (by omega)]; exact h.pS, h.n7, h.fb, h.snl, fun i f hf j x hx => ho.row (h.stk i f hf j x hx) (by rw [wL_len]; have := (List.getElem?_eq_some_iff.1 hf).1; have := (List.getElem?_eq_some_iff.1 hx).1; have := (h.fb f (List.mem_of_getElem? hf)).stk; omega), fun i f n hf hn => (h.frm i f n hf hn).out ho (by have := (List.getElem?_eq_some_iff.1 hf).1; omega), by rw [ho.get _ (by omega)]; exact h.top, ⟨a, c, by rw [ho.get _ (by omega)]; exact g1, g2⟩, h.env.out ho (by omega), ho.row h.org (by rw [length_bL, length_be]; omega), ho.row h.prc (by rw [wL_len]; omega), by rw [ho.get _ (by omega)]; exact h.phs, fun e => by rw [ho.get _ (by omega)]; exact h.sts e, by rw [ho.get _ (by omega)]; exact h.app, fun e => by rw [ho.get _ (by omega)]; exact h.lim e, fun e => ho.row (h.mad e) (by rw [length_bL, length_be]; omega), fun e => absurd e hp⟩
/-- a single cell above the frames -/
theorem LX.cell {o : Nat} {v : Value} (h : LX H cs bc s sn) (hz : cs.size = 27024) (h1 : 2258 ≤ o) (h2 : o < 2435) (fr : List YF) (sn' : List Nat) (hfr : fr.length ≤ 7) (hsn : sn'.length = fr.length) (hfb : ∀ g ∈ fr, EFB g) (hst : ∀ (i : Nat) g, fr[i]? = some g → ∀ (j : Nat) x, g.stack[j]? = some x → RowIn cs (11 + 4 * (64 * i + j)) (wL x)) (hfm : ∀ (i : Nat) g n, fr[i]? = some g → sn'[i]? = some n → FR H cs i g n) (rt : List Nat) (ph : Nat) (htop : (spl cs o [v])[2258]? = some (.int .i8 ((fr.length : Nat) - 1))) (hrt : ∃ a c, (spl cs o [v])[2259]? = some (.slice a rt.length c) ∧ BV H (.slice a rt.length c) rt) (henv : o < 2260 ∨ 2400 ≤ o) (hprc : o < 2400 ∨ 2404 ≤ o) (hph : (spl cs o [v])[2404]? = some (.int .u8 (ph : Nat))) (hph2 : ph ≠ 2) (happ : o ≠ 2406) (hlim : ph ≠ 0 → (spl cs o [v])[2407]? = some (.int .u64 (s.limit : Nat)) ∧ RowIn (spl cs o [v]) 2415 (bL (be 20 s.made))) : LX H (spl cs o [v]) bc { s with frames := fr, ret := rt, phase := ph } sn' := by
  have hO : Out cs (spl cs o [v]) o 1 := Out.spl (by simp only [List.length_cons, List.length_nil]; omega) (Nat.le_refl _) (Nat.le_refl _)
  refine ⟨by rw [hO.get _ (by omega)]; exact h.pS, hfr, hfb, hsn, fun i f hf j x hx => hO.row (hst i f hf j x hx) (by have hf : fr[i]? = some f := hf; rw [wL_len]; have := (List.getElem?_eq_some_iff.1 hf).1; have := (List.getElem?_eq_some_iff.1 hx).1; have := (hfb f (List.mem_of_getElem? hf)).stk; omega), fun i f n hf hn => (hfm i f n hf hn).out hO (by have hf : fr[i]? = some f := hf; have := (List.getElem?_eq_some_iff.1 hf).1; omega), htop, hrt, ?_, ?_, ?_, hph, fun e => absurd e hph2, by rw [hO.get _ (by omega)]; exact h.app, fun e => (hlim e).1, fun e => (hlim e).2, fun e => absurd e hph2⟩
  · rcases henv with e | e
    · exact h.env.out hO (by omega)
    · exact h.env.out hO (by omega)
  · exact hO.row h.org (by rw [length_bL, length_be]; omega)
  · exact hO.row h.prc (by rw [wL_len]; omega)
theorem LX.push {n9 : Nat} (h : LX H cs bc s sn) (hz : cs.size = 27024) (hp : s.phase ≠ 2) (h6 : s.frames.length ≤ 6) (hu : EFB u) (hst : u.stack = []) (hfr : FR H cs s.frames.length u n9) : LX H (spl cs 2258 [.int .i8 (s.frames.length : Nat)]) bc { s with frames := s.frames ++ [u] } (sn ++ [n9]) := by
  have hO : Out cs (spl cs 2258 [.int .i8 (s.frames.length : Nat)]) 2258 1 := Out.spl (by simp only [List.length_cons, List.length_nil]; omega) (Nat.le_refl _) (Nat.le_refl _)
  obtain ⟨a, c, g1, g2⟩ := h.ret
  refine h.cell hz (Nat.le_refl _) (by decide) (s.frames ++ [u]) (sn ++ [n9]) (by rw [List.length_append, List.length_singleton]; omega) (by rw [List.length_append, List.length_append, List.length_singleton, List.length_singleton, h.snl]) (fun g hg => ?_) (fun i g hg j x hx => ?_) (fun i g n hg hn => ?_) s.ret s.phase ?_ ⟨a, c, by rw [hO.get _ (by omega)]; exact g1, g2⟩ (.inl (by decide)) (.inl (by decide)) (by rw [hO.get _ (by omega)]; exact h.phs) hp (by decide) (fun e => ⟨by rw [hO.get _ (by omega)]; exact h.lim e, hO.row (h.mad e) (by omega)⟩)
  · rcases List.mem_append.1 hg with hg | hg
    · exact h.fb g hg
    · simp at hg
      rw [hg]
      exact hu
  · rcases top_ix hg with ⟨hi, hg2⟩ | ⟨hi, hg2⟩
    · exact h.stk i g hg2 j x hx
    · rw [hg2, hst] at hx
      simp at hx
  · rcases top_ix hg with ⟨hi, hg2⟩ | ⟨hi, hg2⟩
    · rw [List.getElem?_append_left (by rw [h.snl]; exact hi)] at hn
      exact h.frm i g n hg2 hn
    · subst hi hg2
      rw [← h.snl] at hn
      simp at hn
      subst hn
      exact hfr
  · rw [sp0 (by omega), List.length_append, List.length_singleton]
    congr 2
    omega
theorem LX.pop (h : LX H cs bc s sn) (hz : cs.size = 27024) (hp : s.phase ≠ 2) (hs : s.frames = low ++ [f]) : LX H (spl cs 2258 [.int .i8 ((low.length : Nat) - 1)]) bc { s with frames := low } sn.dropLast := by
  have hO : Out cs (spl cs 2258 [.int .i8 ((low.length : Nat) - 1)]) 2258 1 := Out.spl (by simp only [List.length_cons, List.length_nil]; omega) (Nat.le_refl _) (Nat.le_refl _)
  obtain ⟨a, c, g1, g2⟩ := h.ret
  have hl : s.frames.length = low.length + 1 := by rw [hs]; simp
  have h7 := h.n7
  have hlow : ∀ i g, low[i]? = some g → s.frames[i]? = some g := fun i g hg => by
    rw [hs, List.getElem?_append_left (List.getElem?_eq_some_iff.1 hg).1]
    exact hg
  refine h.cell hz (Nat.le_refl _) (by decide) low sn.dropLast (by omega) (by rw [List.length_dropLast, h.snl]; omega) (fun g hg => h.fb g (by rw [hs]; exact List.mem_append_left _ hg)) (fun i g hg j x hx => h.stk i g (hlow i g hg) j x hx) (fun i g n hg hn => h.frm i g n (hlow i g hg) ?_) s.ret s.phase (sp0 (by omega)) ⟨a, c, by rw [hO.get _ (by omega)]; exact g1, g2⟩ (.inl (by decide)) (.inl (by decide)) (by rw [hO.get _ (by omega)]; exact h.phs) hp (by decide) (fun e => ⟨by rw [hO.get _ (by omega)]; exact h.lim e, hO.row (h.mad e) (by omega)⟩)
  rw [List.dropLast_eq_take, List.getElem?_take] at hn
  split at hn
  · exact hn
  · cases hn
theorem LX.phase1 (h : LX H cs bc s sn) (hz : cs.size = 27024) (hl : cs[2407]? = some (.int .u64 (s.limit : Nat))) (hm : RowIn cs 2415 (bL (be 20 s.made))) : LX H (spl cs 2404 [.int .u8 1]) bc { s with phase := 1 } sn := by
  have hO : Out cs (spl cs 2404 [.int .u8 1]) 2404 1 := Out.spl (by simp only [List.length_cons, List.length_nil]; omega) (Nat.le_refl _) (Nat.le_refl _)
  obtain ⟨a, c, g1, g2⟩ := h.ret
  exact h.cell hz (by decide) (by decide) s.frames sn h.n7 h.snl h.fb h.stk h.frm s.ret 1 (by rw [hO.get _ (by omega)]; exact h.top) ⟨a, c, by rw [hO.get _ (by omega)]; exact g1, g2⟩ (.inr (by decide)) (.inr (by decide)) (sp0 (by omega)) (by decide) (by decide) (fun e => ⟨by rw [hO.get _ (by omega)]; exact hl, hO.row hm (by omega)⟩)
theorem LX.retS {a : Option Addr} {k : Nat} {l : List Nat} (h : LX H cs bc s sn) (hz : cs.size = 27024) (hp : s.phase ≠ 2) (hB : BV H (.slice a l.length k) l) : LX H (spl cs 2259 [.slice a l.length k]) bc { s with ret := l } sn := by
  have hO : Out cs (spl cs 2259 [.slice a l.length k]) 2259 1 := Out.spl (by simp only [List.length_cons, List.length_nil]; omega) (Nat.le_refl _) (Nat.le_refl _)
  exact h.cell hz (by decide) (by decide) s.frames sn h.n7 h.snl h.fb h.stk h.frm l s.phase (by rw [hO.get _ (by omega)]; exact h.top) ⟨a, k, sp0 (by omega), hB⟩ (.inl (by decide)) (.inl (by decide)) (by rw [hO.get _ (by omega)]; exact h.phs) hp (by decide) (fun e => ⟨by rw [hO.get _ (by omega)]; exact h.lim e, hO.row (h.mad e) (by omega)⟩)
theorem LX.ended {st g : Nat} (h : LX H cs bc s sn) (hz : cs.size = 27024) (hf : s.frames = []) (hp : s.phase ≠ 0) : LX H (spl (spl (spl cs 2404 [.int .u8 2]) 2405 [.int .u8 (st : Nat)]) (1803 + 7) [.int .u64 (g : Nat)]) bc { s with phase := 2, status := st, left := g } sn := by
  have hO1 : Out cs (spl cs 2404 [.int .u8 2]) 2404 1 := Out.spl (by simp only [List.length_cons, List.length_nil]; omega) (Nat.le_refl _) (Nat.le_refl _)
  have z1 := hO1.size
  have hO2 : Out (spl cs 2404 [.int .u8 2]) (spl (spl cs 2404 [.int .u8 2]) 2405 [.int .u8 (st : Nat)]) 2405 1 := Out.spl (by simp only [List.length_cons, List.length_nil]; omega) (Nat.le_refl _) (Nat.le_refl _)
  have z2 := hO2.size
  have hO3 : Out (spl (spl cs 2404 [.int .u8 2]) 2405 [.int .u8 (st : Nat)]) (spl (spl (spl cs 2404 [.int .u8 2]) 2405 [.int .u8 (st : Nat)]) (1803 + 7) [.int .u64 (g : Nat)]) (1803 + 7) 1 := Out.spl (by simp only [List.length_cons, List.length_nil]; omega) (Nat.le_refl _) (Nat.le_refl _)
  have hg : ∀ i, i ≠ 2404 → i ≠ 2405 → i ≠ 1810 → (spl (spl (spl cs 2404 [.int .u8 2]) 2405 [.int .u8 (st : Nat)]) (1803 + 7) [.int .u64 (g : Nat)])[i]? = cs[i]? := fun i a b d => by
    rw [hO3.get _ (by omega), hO2.get _ (by omega), hO1.get _ (by omega)]
  have hr : ∀ {p : Nat} {l : List Value}, RowIn cs p l → (p + l.length ≤ 1810 ∨ (1811 ≤ p ∧ p + l.length ≤ 2404) ∨ 2406 ≤ p) → RowIn (spl (spl (spl cs 2404 [.int .u8 2]) 2405 [.int .u8 (st : Nat)]) (1803 + 7) [.int .u64 (g : Nat)]) p l := fun r a => hO3.row (hO2.row (hO1.row r (by omega)) (by omega)) (by omega)
  obtain ⟨a, c, g1, g2⟩ := h.ret
  refine ⟨by rw [hg _ (by decide) (by decide) (by decide)]; exact h.pS, h.n7, h.fb, h.snl, fun i f hf2 => ?_, fun i f n hf2 => ?_, by rw [hg _ (by decide) (by decide) (by decide)]; exact h.top, ⟨a, c, by rw [hg _ (by decide) (by decide) (by decide)]; exact g1, g2⟩, ((h.env.out hO1 (by omega)).out hO2 (by omega)).out hO3 (by omega), hr h.org (by rw [length_bL, length_be]; omega), hr h.prc (by rw [wL_len]; omega), ?_, fun _ => ?_, by rw [hg _ (by decide) (by decide) (by decide)]; exact h.app, fun _ => by rw [hg _ (by decide) (by decide) (by decide)]; exact h.lim hp, fun _ => hr (h.mad hp) (by rw [length_bL, length_be]; omega), fun _ => ?_⟩
  · have hf2 : s.frames[i]? = some f := hf2
    rw [hf] at hf2
    simp at hf2
  · have hf2 : s.frames[i]? = some f := hf2
    rw [hf] at hf2
    simp at hf2
  · rw [hO3.get _ (by omega), hO2.get _ (by omega)]
    exact sp0 (by omega)
  · rw [hO3.get _ (by omega)]
    exact sp0 (by omega)
  · exact sp0 (by omega)
theorem gas_low (hs : s.frames = low ++ [f]) {W : YWorld} : gasS { s with frames := low, now := W } + f.gas = gasS s := by
  rw [gas_top hs]
  rfl
theorem PX.pop (h : PX V s sn sv c) (hs : s.frames = low ++ [f]) : PX V { s with frames := low } sn.dropLast sv (c + f.gas) := by
  have hlow : ∀ i g, low[i]? = some g → s.frames[i]? = some g := fun i g hg => by
    rw [hs, List.getElem?_append_left (List.getElem?_eq_some_iff.1 hg).1]
    exact hg
  have hsn : ∀ (i n : Nat), sn.dropLast[i]? = some n → sn[i]? = some n := fun i n hn => by
    rw [List.dropLast_eq_take, List.getElem?_take] at hn
    split at hn
    · exact hn
    · cases hn
  have e := gas_low (W := s.now) hs
  refine ⟨h.va, fun i g n hg hn => h.snp i g n (hlow i g hg) (hsn i n hn), fun i j m n hij hm hn => h.inc i j m n hij (hsn i m hm) (hsn j n hn), fun g hg => h.has g (by rw [hs]; exact List.mem_append_left _ hg), h.org, ?_⟩
  have e2 : gasS { s with frames := low } + (c + f.gas) = gasS s + c := by
    have : gasS { s with frames := low } = gasS { s with frames := low, now := s.now } := rfl
    omega
  rw [e2]
  exact h.pot
theorem PX.rev {Vk : EV} {id m : Nat} (h : PX V s sn sv c) (hs : s.frames = low ++ [f]) (hsn9 : sn.length = s.frames.length) (hid : sn[low.length]? = some id) (hm : V.marks[id]? = some m) (hu : UnR V Vk m) : PX { Vk with marks := V.marks.take id } { s with frames := low, now := f.saved } sn.dropLast (sv.take id) (c + f.gas) := by
  have hlow : ∀ i g, low[i]? = some g → s.frames[i]? = some g := fun i g hg => by
    rw [hs, List.getElem?_append_left (List.getElem?_eq_some_iff.1 hg).1]
    exact hg
  have hsn : ∀ (i n : Nat), sn.dropLast[i]? = some n → sn[i]? = some n ∧ i < low.length := fun i n hn => by
    rw [List.dropLast_eq_take, List.getElem?_take] at hn
    split at hn
    · rename_i h1
      refine ⟨hn, ?_⟩
      rw [hsn9, hs] at h1
      simp at h1
      exact h1
    · cases hn
  have hsv := h.snp low.length f id (by rw [hs]; simp) hid
  obtain ⟨A', h1, h2⟩ := hu.va h.va hm rfl
  rw [hsv] at h1
  cases h1
  have sl := undoL_len (V.journal.drop m).reverse V
  have hA : aKs Vk.accts = aKs V.accts := by rw [hu.a]; exact sl.a
  have hha : ∀ a, hasA V a → hasA { Vk with marks := V.marks.take id } a := fun a ha => by
    show a ∈ aKs Vk.accts
    rw [hA]
    exact ha
  have hp := h.pot
  have hsr := hp.sr (absY f.saved) (List.mem_of_getElem? hsv)
  have el : Vk.logs.length = (absY f.saved).logs.length := congrArg (fun A : AW => A.logs.length) h2.abs
  have er : Vk.ref = (absY f.saved).refund := congrArg AW.refund h2.abs
  have la : Vk.accts.length = V.accts.length := by have := congrArg List.length hA; simpa [aKs] using this
  have ls : Vk.slots.length = V.slots.length := by have h3 : sKs Vk.slots = sKs V.slots := by rw [hu.s]; exact sl.s
                                                   have := congrArg List.length h3; simpa [sKs] using this
  have lt : Vk.temps.length = V.temps.length := by have h3 : tKs Vk.temps = tKs V.temps := by rw [hu.t]; exact sl.t
                                                   have := congrArg List.length h3; simpa [tKs] using this
  have lj : Vk.journal.length ≤ V.journal.length := by rw [hu.jj, List.length_take]; omega
  have e2 : gasS { s with frames := low, now := f.saved } + (c + f.gas) = gasS s + c := by have := gas_low (W := f.saved) hs; omega
  refine ⟨h2, fun i g n hg hn => ?_, fun i j m n hij hm hn => h.inc i j m n hij (hsn i m hm).1 (hsn j n hn).1, fun g hg => ⟨hha _ (h.has g (by rw [hs]; exact List.mem_append_left _ hg)).1, hha _ (h.has g (by rw [hs]; exact List.mem_append_left _ hg)).2⟩, fun e => ⟨hha _ (h.org e).1, hha _ (h.org e).2⟩, ?_⟩
  · obtain ⟨k1, k2⟩ := hsn i n hn
    have hlt := h.inc i low.length n id k2 k1 hid
    rw [List.getElem?_take, if_pos hlt]
    exact h.snp i g n (hlow i g hg) k1
  · rw [e2]
    refine ⟨?_, ?_, ?_, ?_, ?_, ?_, ?_, fun A hA => hp.sr A (List.mem_of_mem_take hA)⟩
    · show 2600 * Vk.accts.length + _ ≤ _
      rw [la]
      exact hp.a
    · show 2100 * Vk.slots.length + _ ≤ _
      rw [ls]
      exact hp.s
    · show 25 * Vk.journal.length + _ ≤ _
      have := hp.j
      omega
    · show 100 * Vk.temps.length + _ ≤ _
      rw [lt]
      exact hp.t
    · show 375 * Vk.logs.length + _ ≤ _
      rw [el]
      exact hsr.2
    · show 100 * (V.marks.take id).length + _ ≤ _
      have := hp.m
      rw [List.length_take]
      omega
    · show Vk.ref + _ ≤ _
      rw [er]
      exact hsr.1
/-! The whole. -/
theorem XT.stFr {o : Nat} {vs : List Value} (hX : XT w0 H0 col0 w H col bc cs V s sn sv ms c) (hp : s.phase ≠ 2) (h6 : s.frames.length ≤ 6) (hv : vs.length = 65) (ho : o = 1803 + 65 * s.frames.length) (x : Wr w w' bc (spl cs o vs)) : XT w0 H0 col0 w' H col bc (spl cs o vs) V s sn sv ms c :=
  (hX.xr.st x (by omega) (by omega)).xt (hX.ex.lx.above hp (Out.spl (k := 65) (by rw [hX.ex.vl.size]; omega) (Nat.le_refl _) (by omega)) (by omega) (by omega)) hX.ex.px
theorem XT.stTop {n9 : Nat} (hX : XT w0 H0 col0 w H col bc cs V s sn sv ms c) (hp : s.phase ≠ 2) (h6 : s.frames.length ≤ 6) (hu : EFB u) (hst : u.stack = []) (hfr : FR H cs s.frames.length u n9) (hsv : sv[n9]? = some (absY u.saved)) (hin : ∀ (i : Nat) m, sn[i]? = some m → m < n9) (hh : hasA V u.self ∧ hasA V u.caller) (hg : c' + u.gas ≤ c) (x : Wr w w' bc (spl cs 2258 [.int .i8 (s.frames.length : Nat)])) : XT w0 H0 col0 w' H col bc (spl cs 2258 [.int .i8 (s.frames.length : Nat)]) V { s with frames := s.frames ++ [u] } (sn ++ [n9]) sv ms c' :=
  (hX.xr.st x (by decide) (Nat.le_of_ble_eq_true rfl)).xt (hX.ex.lx.push hX.ex.vl.size hp h6 hu hst hfr) (hX.ex.px.pushed hX.ex.lx.snl hsv hin hh hg)
theorem XT.stPh (hX : XT w0 H0 col0 w H col bc cs V s sn sv ms c) (hl : cs[2407]? = some (.int .u64 (s.limit : Nat))) (hm : RowIn cs 2415 (bL (be 20 s.made))) (hor : hasA V s.origin ∧ hasA V s.env.coinbase) (x : Wr w w' bc (spl cs 2404 [.int .u8 1])) : XT w0 H0 col0 w' H col bc (spl cs 2404 [.int .u8 1]) V { s with phase := 1 } sn sv ms c :=
  (hX.xr.st x (by decide) (by decide)).xt (hX.ex.lx.phase1 hX.ex.vl.size hl hm) ⟨hX.ex.px.va, hX.ex.px.snp, hX.ex.px.inc, hX.ex.px.has, fun _ => hor, hX.ex.px.pot⟩
theorem XT.stRt {a : Option Addr} {k : Nat} {l : List Nat} (hX : XT w0 H0 col0 w H col bc cs V s sn sv ms c) (hp : s.phase ≠ 2) (hB : BV H (.slice a l.length k) l) (x : Wr w w' bc (spl cs 2259 [.slice a l.length k])) : XT w0 H0 col0 w' H col bc (spl cs 2259 [.slice a l.length k]) V { s with ret := l } sn sv ms c :=
  (hX.xr.st x (by decide) (Nat.le_of_ble_eq_true rfl)).xt (hX.ex.lx.retS hX.ex.vl.size hp hB) ⟨hX.ex.px.va, hX.ex.px.snp, hX.ex.px.inc, hX.ex.px.has, hX.ex.px.org, hX.ex.px.pot⟩
theorem XT.snapC (hX : XT w0 H0 col0 w H col bc cs V s sn sv ms c) (t : VT w H col bc cs w' H' col' cs' (snapV V)) (hm16 : V.marks.length < 16384) (hmk : 100 * V.marks.length + (gasS s + c) ≤ 1048576) : XT w0 H0 col0 w' H' col' bc cs' (snapV V) s sn (sv ++ [absY s.now]) ms c :=
  (hX.xr.vt t (snap_ok hX.ex.ok hm16)).xt ((hX.ex.lx.mono t.go.le).out t.out (.inl (by decide))) (hX.ex.px.snap hX.ex.lx.snl hmk)
theorem XT.memC (hX : XT w0 H0 col0 w H col bc cs V s sn sv ms c) (x : Ch (fun q => q = bc) w w') (hbk : Blk w' bc cs') (ho : Out cs cs' 1 10) (hm : ∃ bm cm n, MA w' col cs' ms' bm cm n) : XT w0 H0 col0 w' H col bc cs' V s sn sv ms' c :=
  (hX.xr.memC x hbk ho hm).xt (hX.ex.lx.out ho (.inr (by decide))) hX.ex.px
theorem XT.enterC (hX : XT w0 H0 col0 w H col bc cs V s sn sv ms c) (h6 : ms.length ≤ 6) : Ret 179 [.pointer (some ⟨bc, 1, none⟩)] w (fun v w' => v = .bool true ∧ ∃ cs', XT w0 H0 col0 w' H col bc cs' V s sn sv (ms ++ [[]]) c ∧ Out cs cs' 1 10 ∧ Ch (fun b => b = bc) w w') := by
  obtain ⟨bm, cm, n, hM⟩ := hX.ex.mx
  refine (g_enter hX.ex.vl.kC hM hX.ex.vl.colC (by rw [hX.ex.vl.size]; decide) h6).mono fun v w' h => ?_
  obtain ⟨e, cs', h1, h2, h3, h4⟩ := h
  exact ⟨e, cs', hX.memC h4 h1 h3 ⟨_, _, _, h2⟩, h3, h4⟩
/-! Cells of a frame's value. -/
section
variable {vc vi : Value} {dp sb n : Nat} {ds : List Nat}
theorem fcv_dp (q : Nat) : spl (fcv u vc vi dp sb n ds).toArray 1 [.int .u8 (q : Nat)] = (fcv u vc vi q sb n ds).toArray := spl_mid [_] _ _ _ 1 rfl
theorem fcv_sb (q : Nat) : spl (fcv u vc vi dp sb n ds).toArray 5 [.int .u16 (q : Nat)] = (fcv u vc vi dp q n ds).toArray := spl_mid [_, _, _, _, _] _ _ _ 5 rfl
theorem fcv_sn (q : Nat) : spl (fcv u vc vi dp sb n ds).toArray 8 [.int .i32 (q : Nat)] = (fcv u vc vi dp sb q ds).toArray := spl_mid [_, _, _, _, _, _, _, _] _ _ _ 8 rfl
theorem fcv_row : RowIn (fcv u vc vi dp sb n ds).toArray 9 (bL (be 20 u.self)) ∧ RowIn (fcv u vc vi dp sb n ds).toArray 29 (bL (be 20 u.caller)) ∧ RowIn (fcv u vc vi dp sb n ds).toArray 49 (wL u.value) ∧ (fcv u vc vi dp sb n ds).toArray[53]? = some vc := by
  have h := RowIn.self (fcv u vc vi dp sb n ds)
  unfold fcv at h
  obtain ⟨r1, h⟩ := app_row h
  obtain ⟨r2, h⟩ := app_row h
  obtain ⟨r3, h⟩ := app_row h
  obtain ⟨r4, h⟩ := app_row h
  obtain ⟨r5, h⟩ := app_row h
  simp only [length_bL, length_be, wL_len, List.length_cons, List.length_nil] at r2 r3 r4 r5
  exact ⟨r2.cast (by omega), r3.cast (by omega), r4.cast (by omega), r5.at1 0 rfl (by omega)⟩
end
end
end Go.Proofs.YgvaawGreat
