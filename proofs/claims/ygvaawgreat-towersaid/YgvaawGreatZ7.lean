import Derived.Test.YgvaawGreatZ6
set_option maxRecDepth 100000
set_option linter.unusedSimpArgs false
set_option linter.unusedVariables false
namespace Go.Proofs.YgvaawGreat
open Go
/-! From one chain to the next. -/
structure ET (w : World) (H : Store) (col : Nat → Nat) (w' : World) (H' : Store) (col' : Nat → Nat) : Prop where
  go : Go (fun b => col b ≠ 0) w H w' H'
  col : ∀ b, b < w.heap.size → col' b = col b
theorem ET.trans {w w1 w2 : World} {H H1 H2 : Store} {c0 c1 c2 : Nat → Nat} (h : ET w H c0 w1 H1 c1) (g : ET w1 H1 c1 w2 H2 c2) : ET w H c0 w2 H2 c2 :=
  ⟨h.go.trans g.go (fun b hb => by
    by_cases hlt : b < w.heap.size
    · left; rw [← h.col b hlt]; exact hb
    · right; omega), fun b hb => (g.col b (Nat.lt_of_lt_of_le hb h.go.ch.size)).trans (h.col b hb)⟩
theorem VT.et {w w' : World} {H H' : Store} {col col' : Nat → Nat} {bc : Nat} {cs cs' : Array Value} {V' : EV} (h : VT w H col bc cs w' H' col' cs' V') : ET w H col w' H' col' := ⟨h.go.wk (fun b hb => by omega), h.col⟩
structure XT (w0 : World) (H0 : Store) (col0 : Nat → Nat) (w : World) (H : Store) (col : Nat → Nat) (bc : Nat) (cs : Array Value) (V : EV) (s : YSt) (sn : List Nat) (sv : List AW) (ms : List (List Nat)) (c : Nat) : Prop where
  ex : EX w H col bc cs V s sn sv ms c
  et : ET w0 H0 col0 w H col
section
variable {w0 w w' : World} {H0 H H' : Store} {col0 col col' : Nat → Nat} {bc : Nat} {cs cs' : Array Value} {V V' : EV} {s s' : YSt} {sn sn' : List Nat} {sv sv' : List AW} {ms ms' : List (List Nat)} {c c' : Nat} {low : List YF} {f f' : YF}
theorem XT.refl (h : EX w H col bc cs V s sn sv ms c) : XT w H col w H col bc cs V s sn sv ms c := ⟨h, Go.refl h.vl.fz, fun _ _ => rfl⟩
theorem XT.ch {M : Nat → Prop} (h : XT w0 H0 col0 w H col bc cs V s sn sv ms c) (u : Ch M w w') (hM : ∀ b, M b → col b = 0 ∧ ¬ H.has b ∧ w0.heap.size ≤ b) : XT w0 H0 col0 w' H col bc cs V s sn sv ms c :=
  ⟨h.ex.ch u (fun b hb => ⟨(hM b hb).1, (hM b hb).2.1⟩), h.et.go.trans ⟨u, (h.ex.ch u (fun b hb => ⟨(hM b hb).1, (hM b hb).2.1⟩)).vl.fz, Le.refl _, fun _ h => .inl h⟩ (fun b hb => .inr (hM b hb).2.2), h.et.col⟩
theorem XT.up (h : XT w0 H0 col0 w H col bc cs V s sn sv ms c) (u : Up w w') : XT w0 H0 col0 w' H col bc cs V s sn sv ms c := h.ch u (fun _ h => h.elim)
theorem XT.gn (h : XT w0 H0 col0 w H col bc cs V s sn sv ms c) (g : Go No w H w' H') : XT w0 H0 col0 w' H' col bc cs V s sn sv ms c := ⟨h.ex.gn g, h.et.go.tr g, h.et.col⟩
theorem XT.trans (h : XT w0 H0 col0 w H col bc cs V s sn sv ms c) (g : XT w H col w' H' col' bc cs' V' s' sn' sv' ms' c') : XT w0 H0 col0 w' H' col' bc cs' V' s' sn' sv' ms' c' := ⟨g.ex, h.et.trans g.et⟩
/-- a store in the chain's block -/
theorem XT.wrC (h : XT w0 H0 col0 w H col bc cs V s sn sv ms c) {cs' : Array Value} (x : Wr w w' bc cs') (g : EX w' H col bc cs' V s' sn' sv' ms' c') : XT w0 H0 col0 w' H col bc cs' V s' sn' sv' ms' c' :=
  ⟨g, ⟨h.et.go.ch.cc x.ch (fun b hb => by
    subst hb
    by_cases hlt : b < w0.heap.size
    · left; rw [← h.et.col b hlt, h.ex.vl.colC]; decide
    · right; omega), g.vl.fz, h.et.go.le, h.et.go.new⟩, h.et.col⟩
theorem XT.vt {F : AW → AW} {na ns nt nj nl : Nat} {W : YWorld} (h : XT w0 H0 col0 w H col bc cs V s sn sv ms c) (t : VT w H col bc cs w' H' col' cs' V') (ok : VOk V') (js : JS V V' F na ns nt nj nl) (hF : F (absY s.now) = absY W) (hc : c' + 2600 * na ≤ c ∧ c' + 2100 * ns ≤ c ∧ c' + 100 * nt ≤ c ∧ c' + 25 * nj ≤ c ∧ c' + 375 * nl ≤ c) (hr : V'.ref + 200 * c' ≤ V.ref + 200 * c) : XT w0 H0 col0 w' H' col' bc cs' V' { s with now := W } sn sv ms c' := ⟨h.ex.vt t ok js hF hc hr, h.et.trans t.et⟩
/-! Cells of the top frame. -/
theorem MA.low9 {bm : Nat} {cm : Array Value} {n o k : Nat} (h : MA w col cs ms bm cm n) (x : Wr w w' bc cs') (hC : col bc = 1) (ho : Out cs cs' o k) (hk : 11 ≤ o) : MA w' col cs' ms bm cm n := (h.ch x.ch (fun h8 e => by rw [e] at h8; omega)).out ho hk
theorem gas_top (h : s.frames = low ++ [f]) : gasS s = (low.map (·.gas)).sum + f.gas := by
  unfold gasS
  rw [h]
  simp
theorem EX.frame {o n : Nat} {vs : List Value} (hE : EX w H col bc cs V s sn sv ms c) (hs : s.frames = low ++ [f]) (hp : s.phase = 1) (hn : sn[low.length]? = some n) (x : Wr w w' bc (spl cs o vs)) (hr1 : 1803 + 65 * low.length ≤ o) (hr2 : o + vs.length ≤ 1803 + 65 * low.length + 65) (hb : EFB f') (hst : ∀ (j : Nat) y, f'.stack[j]? = some y → RowIn cs (11 + 4 * (64 * low.length + j)) (wL y)) (hr : FR H (spl cs o vs) low.length f' n) (hsv : f'.saved = f.saved) (hse : f'.self = f.self) (hca : f'.caller = f.caller) (hg : f'.gas + c' ≤ f.gas + c) : EX w' H col bc (spl cs o vs) V { s with frames := low ++ [f'] } sn sv ms c' := by
  have h6 : low.length ≤ 6 := by
    have := hE.lx.n7
    rw [hs, List.length_append, List.length_singleton] at this
    omega
  have hf : s.frames[low.length]? = some f := by rw [hs]; simp
  have hset : s.frames.set low.length f' = low ++ [f'] := by rw [hs, List.set_append_right (h := Nat.le_refl _), Nat.sub_self]; rfl
  have hz : o + vs.length ≤ cs.size := by rw [hE.vl.size]; omega
  have hO : Out cs (spl cs o vs) (1803 + 65 * low.length) 65 := Out.spl hz hr1 hr2
  have hlx := hE.lx.frame hf hn hO (by omega) hb hst hr
  rw [hset] at hlx
  obtain ⟨bm, cm, n', hm⟩ := hE.mx
  have hpx := hE.px
  have hg2 : gasS { s with frames := low ++ [f'] } + c' ≤ gasS s + c := by
    rw [gas_top hs, gas_top (s := { s with frames := low ++ [f'] }) rfl]
    omega
  have hp0 := hpx.pot
  refine ⟨hE.vl.low x (by omega), hE.ok, hlx, ⟨bm, cm, n', hm.low9 x hE.vl.colC hO (by omega)⟩, ⟨hpx.va, fun i g m hg hm => ?_, hpx.inc, fun g hg => ?_, hpx.org, ⟨by have := hp0.a; show 2600 * _ + _ ≤ 2600 * (8 + 21 * s.applied) + 1048576 * s.applied; omega, by have := hp0.s; show 2100 * _ + _ ≤ 2100 * (128 + 64 * s.applied) + 1048576 * s.applied; omega, by have := hp0.j; omega, by have := hp0.t; omega, by have := hp0.l; omega, by have := hp0.m; omega, by have := hp0.r; omega, fun A hA => by have := hp0.sr A hA; omega⟩⟩⟩
  · have hg : (low ++ [f'])[i]? = some g := hg
    by_cases hi : i < low.length
    · rw [List.getElem?_append_left hi] at hg
      exact hpx.snp i g m (by rw [hs, List.getElem?_append_left hi]; exact hg) hm
    · have hi2 : i = low.length := by
        have := (List.getElem?_eq_some_iff.1 hg).1
        simp at this
        omega
      subst hi2
      simp at hg
      subst hg
      have := hpx.snp low.length f m hf hm
      rw [hsv]
      exact this
  · have hg : g ∈ low ++ [f'] := hg
    rcases List.mem_append.1 hg with hg | hg
    · exact hpx.has g (by rw [hs]; exact List.mem_append_left _ hg)
    · simp at hg
      rw [hg, hse, hca]
      exact hpx.has f (by rw [hs]; simp)
theorem EX.stale {p o : Nat} {vs : List Value} (hE : EX w H col bc cs V s sn sv ms c) (hs : s.frames = low ++ [f]) (hv : vs.length = 4) (hp : p < 64) (ho : o = 11 + 4 * (64 * low.length + p)) (hpl : f.stack.length ≤ p) (x : Wr w w' bc (spl cs o vs)) : EX w' H col bc (spl cs o vs) V s sn sv ms c := by
  have h6 := hE.six hs
  obtain ⟨bm, cm, n', hm⟩ := hE.mx
  have hz : o + vs.length ≤ cs.size := by rw [hE.vl.size]; omega
  exact ⟨hE.vl.low x (by omega), hE.ok, hE.lx.stale hE.vl.size hv (by omega) hp ho (fun g hg => by rw [hs] at hg; simp at hg; rw [← hg]; exact hpl), ⟨bm, cm, n', hm.low9 x hE.vl.colC (Out.spl (k := 4) hz (Nat.le_refl _) (by omega)) (by omega)⟩, hE.px⟩
end
section
variable {H : Store} {cs : Array Value} {i : Nat} {f : YF} {n : Nat}
theorem FR.put {f' : YF} {j : Nat} {v : Value} (h : FR H cs i f n) (hz : cs.size = 27024) (hi : i ≤ 6) (hj : j < 9) {o : Nat} (ho : o = 1803 + 65 * i + j) (e : ([.int .u8 (f.kind : Nat), .int .u8 (i : Nat), .int .u8 (f.ntv : Nat), .bool f.static, .int .u16 (f.pc : Nat), .int .u16 (64 * i : Nat), .int .u16 (f.stack.length : Nat), .int .u64 (f.gas : Nat), .int .i32 (n : Nat)] : List Value).set j v = [.int .u8 (f'.kind : Nat), .int .u8 (i : Nat), .int .u8 (f'.ntv : Nat), .bool f'.static, .int .u16 (f'.pc : Nat), .int .u16 (64 * i : Nat), .int .u16 (f'.stack.length : Nat), .int .u64 (f'.gas : Nat), .int .i32 (n : Nat)]) (h2 : f'.self = f.self) (h3 : f'.caller = f.caller) (h4 : f'.value = f.value) (h5 : f'.code = f.code) (h6 : f'.input = f.input) (h7 : f'.outOff = f.outOff) (h8 : f'.outLen = f.outLen) : FR H (spl cs o [v]) i f' n := by
  subst ho
  have hO : Out cs (spl cs (1803 + 65 * i + j) [v]) (1803 + 65 * i + j) 1 := Out.spl (by simp only [List.length_cons, List.length_nil]; omega) (Nat.le_refl _) (Nat.le_refl _)
  obtain ⟨ca, cc, ia, ic, g1, g2, g3⟩ := h.r5
  obtain ⟨ds, g4, g5⟩ := h.r6
  have hl := g5.len
  exact ⟨h.r1.put j e, by rw [h2]; exact hO.row h.r2 (by omega), by rw [h3]; exact hO.row h.r3 (by omega), by rw [h4]; exact hO.row h.r4 (by omega), ⟨ca, cc, ia, ic, by rw [h5, h6]; exact hO.row g1 (by omega), by rw [h5]; exact g2, by rw [h6]; exact g3⟩, ⟨ds, hO.row g4 (by omega), by rw [h5]; exact g5⟩, by rw [h7, h8]; exact hO.row h.r7 (by omega)⟩
theorem FR.put7 {f' : YF} {j : Nat} {v : Value} (h : FR H cs i f n) (hz : cs.size = 27024) (hi : i ≤ 6) (hj : j < 2) {o : Nat} (ho : o = 1803 + 65 * i + 63 + j) (e : ([.int .u32 (f.outOff : Nat), .int .u32 (f.outLen : Nat)] : List Value).set j v = [.int .u32 (f'.outOff : Nat), .int .u32 (f'.outLen : Nat)]) (h1 : f'.kind = f.kind) (h1b : f'.ntv = f.ntv) (h1c : f'.static = f.static) (h1d : f'.pc = f.pc) (h1e : f'.stack = f.stack) (h1f : f'.gas = f.gas) (h2 : f'.self = f.self) (h3 : f'.caller = f.caller) (h4 : f'.value = f.value) (h5 : f'.code = f.code) (h6 : f'.input = f.input) : FR H (spl cs o [v]) i f' n := by
  subst ho
  have hO : Out cs (spl cs (1803 + 65 * i + 63 + j) [v]) (1803 + 65 * i + 63 + j) 1 := Out.spl (by simp only [List.length_cons, List.length_nil]; omega) (Nat.le_refl _) (Nat.le_refl _)
  obtain ⟨ca, cc, ia, ic, g1, g2, g3⟩ := h.r5
  obtain ⟨ds, g4, g5⟩ := h.r6
  have hl := g5.len
  exact ⟨by rw [h1, h1b, h1c, h1d, h1e, h1f]; exact hO.row h.r1 (by simp only [List.length_cons, List.length_nil]; omega), by rw [h2]; exact hO.row h.r2 (by rw [length_bL, length_be]; omega), by rw [h3]; exact hO.row h.r3 (by rw [length_bL, length_be]; omega), by rw [h4]; exact hO.row h.r4 (by rw [wL_len]; omega), ⟨ca, cc, ia, ic, by rw [h5, h6]; exact hO.row g1 (by simp only [List.length_cons, List.length_nil]; omega), by rw [h5]; exact g2, by rw [h6]; exact g3⟩, ⟨ds, hO.row g4 (by rw [length_uL]; omega), by rw [h5]; exact g5⟩, h.r7.put j e⟩
end
end Go.Proofs.YgvaawGreat
