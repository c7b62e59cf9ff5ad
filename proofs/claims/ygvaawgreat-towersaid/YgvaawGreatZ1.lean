import Derived.Test.YgvaawGreatG5
import Derived.Test.YgvaawGreatY43
set_option maxRecDepth 100000
set_option linter.unusedSimpArgs false
set_option linter.unusedVariables false
namespace Go.Proofs.YgvaawGreat
open Go
/-! The engine's chain in the world, and the specification's state that it means. -/
def absY (W : YWorld) : AW where
  nonce a := (acctAt W.accts a).nonce
  bal a := (acctAt W.accts a).bal
  code a := (acctAt W.accts a).code
  slot a k := slotAt (acctAt W.accts a).slots k
  warmA a := decide (a ∈ W.warmA)
  warmS a k := decide ((a, k) ∈ W.warmS)
  refund := W.refund
  logs := W.logs
  temp a k := triAt W.temps a k
  made a := decide (a ∈ W.made)
  gone a := decide (a ∈ W.gone)
/-- the map of a code's jump places -/
structure DM (code : List Nat) (ds : List Nat) : Prop where
  len : ds.length = 8
  lt : ∀ d ∈ ds, d < 18446744073709551616
  bit : ∀ a, a < 512 → (ds[a / 64]?.getD 0).testBit (a % 64) = destN code a
structure EFB (f : YF) : Prop where
  kind : f.kind < 8
  ntv : f.ntv < 8
  pc : f.pc ≤ 560
  stk : f.stack.length ≤ 64
  wrd : ∀ x ∈ f.stack, x < W256
  gas : f.gas ≤ 1048576
  self : f.self < A160
  caller : f.caller < A160
  value : f.value < W256
  code : f.code.length ≤ 512
  input : f.input.length ≤ 717280
  oo : f.outOff ≤ 717280
  ol : f.outLen ≤ 717280
  cdig : Dig 256 f.code
  idig : Dig 256 f.input
/-- a frame's cells -/
structure FR (H : Store) (cs : Array Value) (i : Nat) (f : YF) (sn : Nat) : Prop where
  r1 : RowIn cs (1803 + 65 * i) [.int .u8 (f.kind : Nat), .int .u8 (i : Nat), .int .u8 (f.ntv : Nat), .bool f.static, .int .u16 (f.pc : Nat), .int .u16 (64 * i : Nat), .int .u16 (f.stack.length : Nat), .int .u64 (f.gas : Nat), .int .i32 (sn : Nat)]
  r2 : RowIn cs (1803 + 65 * i + 9) (bL (be 20 f.self))
  r3 : RowIn cs (1803 + 65 * i + 29) (bL (be 20 f.caller))
  r4 : RowIn cs (1803 + 65 * i + 49) (wL f.value)
  r5 : ∃ ca cc ia ic, RowIn cs (1803 + 65 * i + 53) [.slice ca f.code.length cc, .slice ia f.input.length ic] ∧ BV H (.slice ca f.code.length cc) f.code ∧ BV H (.slice ia f.input.length ic) f.input
  r6 : ∃ ds, RowIn cs (1803 + 65 * i + 55) (uL ds) ∧ DM f.code ds
  r7 : RowIn cs (1803 + 65 * i + 63) [.int .u32 (f.outOff : Nat), .int .u32 (f.outLen : Nat)]
/-- the machine's cells -/
structure LX (H : Store) (cs : Array Value) (bc : Nat) (s : YSt) (sn : List Nat) : Prop where
  pS : cs[0]? = some (.pointer (some ⟨bc, 2435, none⟩))
  n7 : s.frames.length ≤ 7
  fb : ∀ f ∈ s.frames, EFB f
  snl : sn.length = s.frames.length
  stk : ∀ (i : Nat) f, s.frames[i]? = some f → ∀ (j : Nat) x, f.stack[j]? = some x → RowIn cs (11 + 4 * (64 * i + j)) (wL x)
  frm : ∀ (i : Nat) f n, s.frames[i]? = some f → sn[i]? = some n → FR H cs i f n
  top : cs[2258]? = some (.int .i8 ((s.frames.length : Nat) - 1))
  ret : ∃ a c, cs[2259]? = some (.slice a s.ret.length c) ∧ BV H (.slice a s.ret.length c) s.ret
  env : EC H cs 2260 s.env
  org : RowIn cs 2380 (bL (be 20 s.origin))
  prc : RowIn cs 2400 (wL s.price)
  phs : cs[2404]? = some (.int .u8 (s.phase : Nat))
  sts : s.phase = 2 → cs[2405]? = some (.int .u8 (s.status : Nat))
  app : cs[2406]? = some (.int .u8 (s.applied : Nat))
  lim : s.phase ≠ 0 → cs[2407]? = some (.int .u64 (s.limit : Nat))
  mad : s.phase ≠ 0 → RowIn cs 2415 (bL (be 20 s.made))
  lft : s.phase = 2 → cs[1803 + 7]? = some (.int .u64 (s.left : Nat))
theorem FR.mono {H H' : Store} {cs : Array Value} {i : Nat} {f : YF} {sn : Nat} (h : FR H cs i f sn) (hl : Le H H') : FR H' cs i f sn := by
  obtain ⟨ca, cc, ia, ic, h1, h2, h3⟩ := h.r5
  exact ⟨h.r1, h.r2, h.r3, h.r4, ⟨ca, cc, ia, ic, h1, h2.mono hl, h3.mono hl⟩, h.r6, h.r7⟩
theorem FR.out {H : Store} {cs cs' : Array Value} {i : Nat} {f : YF} {sn o k : Nat} (h : FR H cs i f sn) (ho : Out cs cs' o k) (hd : 1803 + 65 * i + 65 ≤ o ∨ o + k ≤ 1803 + 65 * i) : FR H cs' i f sn := by
  obtain ⟨ca, cc, ia, ic, h1, h2, h3⟩ := h.r5
  obtain ⟨ds, h4, h5⟩ := h.r6
  have hl := h5.len
  exact ⟨ho.row h.r1 (by simp only [List.length_cons, List.length_nil]; omega), ho.row h.r2 (by rw [length_bL, length_be]; omega), ho.row h.r3 (by rw [length_bL, length_be]; omega), ho.row h.r4 (by rw [wL_len]; omega), ⟨ca, cc, ia, ic, ho.row h1 (by simp only [List.length_cons, List.length_nil]; omega), h2, h3⟩, ⟨ds, ho.row h4 (by rw [length_uL]; omega), h5⟩, ho.row h.r7 (by simp only [List.length_cons, List.length_nil]; omega)⟩
theorem EC.out {H : Store} {cs cs' : Array Value} {q o k : Nat} {e : YEnv} (h : EC H cs q e) (ho : Out cs cs' o k) (hd : q + 120 ≤ o ∨ o + k ≤ q) : EC H cs' q e := by
  obtain ⟨ha, hc, h1, h2, h3, h4, h5, h6, h7⟩ := h.ex
  exact ⟨h.ok, ha, hc, ho.row h1 (by rw [length_bL, length_be]; omega), ho.row h2 (by simp only [List.length_cons, List.length_nil]; omega), ho.row h3 (by rw [length_bL, length_be]; omega), ho.row h4 (by rw [length_bL, length_be]; omega), ho.row h5 (by rw [length_bL, length_be]; omega), ho.row h6 (by simp only [List.length_cons, List.length_nil]; omega), h7⟩
theorem LX.mono {H H' : Store} {cs : Array Value} {bc : Nat} {s : YSt} {sn : List Nat} (h : LX H cs bc s sn) (hl : Le H H') : LX H' cs bc s sn := by
  obtain ⟨a, c, h1, h2⟩ := h.ret
  exact ⟨h.pS, h.n7, h.fb, h.snl, h.stk, fun i f n hf hn => (h.frm i f n hf hn).mono hl, h.top, ⟨a, c, h1, h2.mono hl⟩, h.env.mono hl, h.org, h.prc, h.phs, h.sts, h.app, h.lim, h.mad, h.lft⟩
/-- cells of the memory or of the vault turned -/
theorem LX.out {H : Store} {cs cs' : Array Value} {bc : Nat} {s : YSt} {sn : List Nat} {o k : Nat} (h : LX H cs bc s sn) (ho : Out cs cs' o k) (hd : 2435 ≤ o ∨ (1 ≤ o ∧ o + k ≤ 11)) : LX H cs' bc s sn := by
  obtain ⟨a, c, h1, h2⟩ := h.ret
  have h7 := h.n7
  refine ⟨by rw [ho.get _ (by omega)]; exact h.pS, h.n7, h.fb, h.snl, fun i f hf j x hx => ho.row (h.stk i f hf j x hx) (by rw [wL_len]; have := (List.getElem?_eq_some_iff.1 hf).1; have := (List.getElem?_eq_some_iff.1 hx).1; have := (h.fb f (List.mem_of_getElem? hf)).stk; omega), fun i f n hf hn => (h.frm i f n hf hn).out ho (by have := (List.getElem?_eq_some_iff.1 hf).1; omega), by rw [ho.get _ (by omega)]; exact h.top, ⟨a, c, by rw [ho.get _ (by omega)]; exact h1, h2⟩, h.env.out ho (by omega), ho.row h.org (by rw [length_bL, length_be]; omega), ho.row h.prc (by rw [wL_len]; omega), by rw [ho.get _ (by omega)]; exact h.phs, fun e => by rw [ho.get _ (by omega)]; exact h.sts e, by rw [ho.get _ (by omega)]; exact h.app, fun e => by rw [ho.get _ (by omega)]; exact h.lim e, fun e => ho.row (h.mad e) (by rw [length_bL, length_be]; omega), fun e => by rw [ho.get _ (by omega)]; exact h.lft e⟩
/-- what is not in the cells -/
theorem LX.now {H : Store} {cs : Array Value} {bc : Nat} {s : YSt} {sn : List Nat} (h : LX H cs bc s sn) (W : YWorld) : LX H cs bc { s with now := W } sn := ⟨h.pS, h.n7, h.fb, h.snl, h.stk, h.frm, h.top, h.ret, h.env, h.org, h.prc, h.phs, h.sts, h.app, h.lim, h.mad, h.lft⟩
/-- frame i turned; its own cells, and maybe cells of its stack above -/
theorem LX.frame {H : Store} {cs cs' : Array Value} {bc : Nat} {s : YSt} {sn : List Nat} {i n : Nat} {f f' : YF} (h : LX H cs bc s sn) (hf : s.frames[i]? = some f) (hn : sn[i]? = some n) (ho : Out cs cs' (1803 + 65 * i) 65) (hp : s.phase ≠ 2) (hb : EFB f') (hst : ∀ (j : Nat) x, f'.stack[j]? = some x → RowIn cs (11 + 4 * (64 * i + j)) (wL x)) (hr : FR H cs' i f' n) : LX H cs' bc { s with frames := s.frames.set i f' } sn := by
  obtain ⟨a, c, h1, h2⟩ := h.ret
  have h7 := h.n7
  have hi := (List.getElem?_eq_some_iff.1 hf).1
  refine ⟨by rw [ho.get _ (by omega)]; exact h.pS, by show (s.frames.set i f').length ≤ 7; rw [List.length_set]; exact h.n7, fun q hq => ?_, by show sn.length = (s.frames.set i f').length; rw [List.length_set]; exact h.snl, fun q g hg j x hx => ?_, fun q g m hg hm => ?_, by rw [ho.get _ (by omega), h.top]; show _ = some (Value.int .i8 (((s.frames.set i f').length : Nat) - 1)); rw [List.length_set], ⟨a, c, by rw [ho.get _ (by omega)]; exact h1, h2⟩, h.env.out ho (by omega), ho.row h.org (by rw [length_bL, length_be]; omega), ho.row h.prc (by rw [wL_len]; omega), by rw [ho.get _ (by omega)]; exact h.phs, fun e => absurd e hp, by rw [ho.get _ (by omega)]; exact h.app, fun e => by rw [ho.get _ (by omega)]; exact h.lim e, fun e => ho.row (h.mad e) (by rw [length_bL, length_be]; omega), fun e => absurd e hp⟩
  · rcases List.mem_or_eq_of_mem_set hq with hq | hq
    · exact h.fb q hq
    · rw [hq]; exact hb
  · have hg : (s.frames.set i f')[q]? = some g := hg
    rw [List.getElem?_set] at hg
    by_cases e : i = q
    · subst e
      rw [if_pos rfl, if_pos hi] at hg
      cases hg
      refine ho.row (hst j x hx) ?_
      have := (List.getElem?_eq_some_iff.1 hx).1
      have := hb.stk
      rw [wL_len]
      omega
    · rw [if_neg e] at hg
      refine ho.row (h.stk q g hg j x hx) ?_
      have := (List.getElem?_eq_some_iff.1 hx).1
      have := (List.getElem?_eq_some_iff.1 hg).1
      have := (h.fb g (List.mem_of_getElem? hg)).stk
      rw [wL_len]
      omega
  · have hg : (s.frames.set i f')[q]? = some g := hg
    rw [List.getElem?_set] at hg
    by_cases e : i = q
    · subst e
      rw [if_pos rfl, if_pos hi] at hg
      cases hg
      rw [hn] at hm
      cases hm
      exact hr
    · rw [if_neg e] at hg
      exact (h.frm q g m hg hm).out ho (by omega)
/-- a stale word of frame i's stack turned -/
theorem LX.stale {H : Store} {cs : Array Value} {bc : Nat} {s : YSt} {sn : List Nat} {i p o : Nat} {vs : List Value} (h : LX H cs bc s sn) (hz : cs.size = 27024) (hv : vs.length = 4) (hi : i < 7) (hp : p < 64) (ho : o = 11 + 4 * (64 * i + p)) (hst : ∀ f, s.frames[i]? = some f → f.stack.length ≤ p) : LX H (spl cs o vs) bc s sn := by
  have hO : Out cs (spl cs o vs) o 4 := Out.spl (by omega) (Nat.le_refl _) (by omega)
  obtain ⟨a, c, h1, h2⟩ := h.ret
  have h7 := h.n7
  refine ⟨by rw [hO.get _ (by omega)]; exact h.pS, h.n7, h.fb, h.snl, fun q f hf j x hx => hO.row (h.stk q f hf j x hx) ?_, fun q f n hf hn => (h.frm q f n hf hn).out hO (by omega), by rw [hO.get _ (by omega)]; exact h.top, ⟨a, c, by rw [hO.get _ (by omega)]; exact h1, h2⟩, h.env.out hO (by omega), hO.row h.org (by omega), hO.row h.prc (by omega), by rw [hO.get _ (by omega)]; exact h.phs, fun e => by rw [hO.get _ (by omega)]; exact h.sts e, by rw [hO.get _ (by omega)]; exact h.app, fun e => by rw [hO.get _ (by omega)]; exact h.lim e, fun e => hO.row (h.mad e) (by omega), fun e => by rw [hO.get _ (by omega)]; exact h.lft e⟩
  have hj := (List.getElem?_eq_some_iff.1 hx).1
  have := (h.fb f (List.mem_of_getElem? hf)).stk
  rw [wL_len]
  by_cases e : q = i
  · subst e
    have := hst f hf
    omega
  · omega
/-- what bounds the vault by the gas that is left -/
structure Pot (V : EV) (sv : List AW) (t g : Nat) : Prop where
  a : 2600 * V.accts.length + g ≤ 2600 * (8 + 21 * t) + 1048576 * t
  s : 2100 * V.slots.length + g ≤ 2100 * (128 + 64 * t) + 1048576 * t
  j : 25 * V.journal.length + g ≤ 2500 + 1048576
  t : 100 * V.temps.length + g ≤ 1048576
  l : 375 * V.logs.length + g ≤ 1048576
  m : 100 * V.marks.length + g ≤ 1048576 + 100
  r : V.ref + 200 * g ≤ 209715200
  sr : ∀ A ∈ sv, A.refund + 200 * g ≤ 209715200 ∧ 375 * A.logs.length + g ≤ 1048576
def gasS (s : YSt) : Nat := (s.frames.map (·.gas)).sum
structure PX (V : EV) (s : YSt) (sn : List Nat) (sv : List AW) (c : Nat) : Prop where
  va : VA V (absY s.now) sv (fun a k => triAt s.start a k)
  snp : ∀ (i : Nat) f n, s.frames[i]? = some f → sn[i]? = some n → sv[n]? = some (absY f.saved)
  inc : ∀ (i j : Nat) m n, i < j → sn[i]? = some m → sn[j]? = some n → m < n
  has : ∀ f ∈ s.frames, hasA V f.self ∧ hasA V f.caller
  org : s.phase ≠ 0 → hasA V s.origin ∧ hasA V s.env.coinbase
  pot : Pot V sv s.applied (gasS s + c)
/-- the whole chain -/
structure EX (w : World) (H : Store) (col : Nat → Nat) (bc : Nat) (cs : Array Value) (V : EV) (s : YSt) (sn : List Nat) (sv : List AW) (ms : List (List Nat)) (c : Nat) : Prop where
  vl : VL w H col bc cs V
  ok : VOk V
  lx : LX H cs bc s sn
  mx : ∃ bm cm n, MA w col cs ms bm cm n
  px : PX V s sn sv c
section
variable {w w' : World} {H H' : Store} {col col' : Nat → Nat} {bc : Nat} {cs cs' : Array Value} {V V' : EV} {s : YSt} {sn : List Nat} {sv : List AW} {ms : List (List Nat)} {c : Nat}
theorem EX.ch {M : Nat → Prop} (h : EX w H col bc cs V s sn sv ms c) (u : Ch M w w') (hM : ∀ b, M b → col b = 0 ∧ ¬ H.has b) : EX w' H col bc cs V s sn sv ms c := by
  obtain ⟨bm, cm, n, h1⟩ := h.mx
  exact ⟨h.vl.ch u hM, h.ok, h.lx, ⟨bm, cm, n, h1.ch u (fun h8 hm => by have := (hM _ hm).1; omega)⟩, h.px⟩
theorem EX.up (h : EX w H col bc cs V s sn sv ms c) (u : Up w w') : EX w' H col bc cs V s sn sv ms c := h.ch u (fun _ h => h.elim)
theorem EX.gn (h : EX w H col bc cs V s sn sv ms c) (g : Go No w H w' H') : EX w' H' col bc cs V s sn sv ms c := by
  obtain ⟨bm, cm, n, h1⟩ := h.mx
  exact ⟨h.vl.go g (fun _ h => h.elim), h.ok, h.lx.mono g.le, ⟨bm, cm, n, h1.up g.up⟩, h.px⟩
/-- a call of the vault -/
theorem EX.vt {F : AW → AW} {na ns nt nj nl c' : Nat} {W : YWorld} (h : EX w H col bc cs V s sn sv ms c) (t : VT w H col bc cs w' H' col' cs' V') (ok : VOk V') (js : JS V V' F na ns nt nj nl) (hF : F (absY s.now) = absY W) (hc : c' + 2600 * na ≤ c ∧ c' + 2100 * ns ≤ c ∧ c' + 100 * nt ≤ c ∧ c' + 25 * nj ≤ c ∧ c' + 375 * nl ≤ c) (hr : V'.ref + 200 * c' ≤ V.ref + 200 * c) : EX w' H' col' bc cs' V' { s with now := W } sn sv ms c' := by
  obtain ⟨bm, cm, n, h1⟩ := h.mx
  have hp := h.px.pot
  have hva := js.va h.px.va
  rw [hF] at hva
  have hg : gasS { s with now := W } = gasS s := rfl
  refine ⟨t.vl, ok, ((h.lx.mono t.go.le).out t.out (.inl (by decide))).now W, ⟨bm, cm, n, ((h1.col (fun b hb => t.col b hb)).ch t.go.ch ?_).out t.out (by decide)⟩, ⟨hva, h.px.snp, h.px.inc, fun f hf => ⟨js.ha _ (h.px.has f hf).1, js.ha _ (h.px.has f hf).2⟩, fun e => ⟨js.ha _ (h.px.org e).1, js.ha _ (h.px.org e).2⟩, ?_⟩⟩
  · intro h8 hm
    obtain ⟨v, e1, e2, e3⟩ := h1.bf
    by_cases hlt : bm < w.heap.size
    · rw [t.col bm hlt] at h8
      omega
    · exact absurd hm.2 (by have := h.vl.new bm (by omega); omega)
  · rw [hg]
    have h2 := js.na
    have h3 := js.ns
    have h4 := js.nt
    have h5 := js.nj
    have h6 := js.nl
    have h7 := js.mr
    have p1 := hp.a
    have p2 := hp.s
    have p3 := hp.j
    have p4 := hp.t
    have p5 := hp.l
    have p6 := hp.m
    have p7 := hp.r
    refine ⟨?_, ?_, by omega, by omega, by omega, by rw [h7]; omega, by omega, fun A hA => ?_⟩
    · show 2600 * V'.accts.length + _ ≤ 2600 * (8 + 21 * s.applied) + 1048576 * s.applied
      omega
    · show 2100 * V'.slots.length + _ ≤ 2100 * (128 + 64 * s.applied) + 1048576 * s.applied
      omega
    · have := hp.sr A hA
      omega
end
end Go.Proofs.YgvaawGreat
