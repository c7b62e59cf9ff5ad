import Derived.Test.YgvaawGreatY18
set_option maxRecDepth 100000
set_option linter.unusedSimpArgs false
set_option linter.unusedVariables false
namespace Go.Proofs.YgvaawGreat
open Go
/-! The specification's frame and state, as plain records, and how they lie in blocks. -/
structure YF where
  kind : Nat
  ntv : Nat
  static : Bool
  pc : Nat
  gas : Nat
  value : Nat
  outOff : Nat
  outLen : Nat
  stack : List Nat
  mem : List Nat
  code : List Nat
  input : List Nat
  self : Nat
  caller : Nat
  saved : YWorld
structure YEnv where
  coinbase : Nat
  number : Nat
  time : Nat
  gasLimit : Nat
  randao : Nat
  chainID : Nat
  baseFee : Nat
  hashes : List Nat
structure YSt where
  now : YWorld
  start : List (Nat × Nat × Nat)
  frames : List YF
  ret : List Nat
  phase : Nat
  status : Nat
  applied : Nat
  limit : Nat
  txGas : Nat
  left : Nat
  price : Nat
  total : Nat
  origin : Nat
  made : Nat
  env : YEnv
/-- what bounds a frame -/
structure FOk (f : YF) : Prop where
  kind : f.kind < 256
  ntv : f.ntv < 256
  pc : f.pc < 4294967296
  gas : f.gas < 4294967296
  value : f.value < W256
  outOff : f.outOff < W256
  outLen : f.outLen < W256
  self : f.self < A160
  caller : f.caller < A160
  stack : f.stack.length < 65536
  code : f.code.length < 1048576
  input : f.input.length < 16777216
  mem : f.mem.length < 16777216
theorem P_world.mono {H H' : Store} {c : List Value} {W : YWorld} (h : P_world H c W) (hl : Le H H') : P_world H' c W := mono_world _ _ _ _ hl h
theorem P_world.len {H : Store} {c : List Value} {W : YWorld} (h : P_world H c W) : c.length = 8 := by
  obtain ⟨_, _, _, _, _, _, _, _, rfl, _⟩ := h.ex; rfl
/-- a frame's cells; vm is its memory's slice -/
structure FC (H : Store) (cs : Array Value) (o : Nat) (f : YF) (vm : Value) : Prop where
  ok : FOk f
  ex : ∃ vpc vgas vval voo vol sa sc ca cc ia ic wc, RowIn cs o [.int .u8 (f.kind : Nat), .int .u8 (f.ntv : Nat), .bool f.static, vpc, vgas, vval, voo, vol, .slice sa f.stack.length sc, vm, .slice ca f.code.length cc, .slice ia f.input.length ic] ∧ RowIn cs (o + 12) (bL (be 20 f.self)) ∧ RowIn cs (o + 32) (bL (be 20 f.caller)) ∧ RowIn cs (o + 52) wc ∧ P_world H wc f.saved ∧ NV H vpc f.pc ∧ NV H vgas f.gas ∧ NV H vval f.value ∧ NV H voo f.outOff ∧ NV H vol f.outLen ∧ LV P_nat 1 H (.slice sa f.stack.length sc) f.stack ∧ BV H (.slice ca f.code.length cc) f.code ∧ BV H (.slice ia f.input.length ic) f.input
theorem FC.mono {H H' : Store} {cs : Array Value} {o : Nat} {f : YF} {vm : Value} (h : FC H cs o f vm) (hl : Le H H') : FC H' cs o f vm := by
  obtain ⟨vpc, vgas, vval, voo, vol, sa, sc, ca, cc, ia, ic, wc, r1, r2, r3, r4, h1, h2, h3, h4, h5, h6, h7, h8, h9⟩ := h.ex
  exact ⟨h.ok, vpc, vgas, vval, voo, vol, sa, sc, ca, cc, ia, ic, wc, r1, r2, r3, r4, h1.mono hl, h2.mono hl, h3.mono hl, h4.mono hl, h5.mono hl, h6.mono hl, h7.mono hl, h8.mono hl, h9.mono hl⟩
/-- nothing but the cells from o to o + k turned -/
structure Out (cs cs' : Array Value) (o k : Nat) : Prop where
  size : cs'.size = cs.size
  get : ∀ i, i < o ∨ o + k ≤ i → cs'[i]? = cs[i]?
theorem Out.refl (cs : Array Value) (o k : Nat) : Out cs cs o k := ⟨rfl, fun _ _ => rfl⟩
theorem Out.trans {a b c : Array Value} {o k : Nat} (h : Out a b o k) (g : Out b c o k) : Out a c o k := ⟨g.size.trans h.size, fun i hi => (g.get i hi).trans (h.get i hi)⟩
theorem Out.spl {cs : Array Value} {o k j : Nat} {vs : List Value} (hz : j + vs.length ≤ cs.size) (h1 : o ≤ j) (h2 : j + vs.length ≤ o + k) : Out cs (spl cs j vs) o k := ⟨size_spl _ _ _, fun i hi => get_spl_out hz (by omega)⟩
theorem Out.put {cs cs' : Array Value} {o k j : Nat} {v : Value} (h : Out cs cs' o k) (h1 : o ≤ j) (h2 : j < o + k) : Out cs (Go.Proofs.YgvaawGreat.spl cs' j [v]) o k := by
  refine h.trans ⟨size_spl _ _ _, fun i hi => ?_⟩
  show (cs'.setIfInBounds j v)[i]? = cs'[i]?
  rw [Array.getElem?_setIfInBounds_ne (by omega)]
theorem Out.row {cs cs' : Array Value} {o k p : Nat} {l : List Value} (h : Out cs cs' o k) (r : RowIn cs p l) (hp : p + l.length ≤ o ∨ o + k ≤ p) : RowIn cs' p l := fun i v hv => by
  have hi : i < l.length := (List.getElem?_eq_some_iff.1 hv).1
  rw [h.get _ (by omega)]; exact r i v hv
theorem FC.out {H : Store} {cs cs' : Array Value} {o p k : Nat} {f : YF} {vm : Value} (h : FC H cs p f vm) (ho : Out cs cs' o k) (hp : p + 60 ≤ o ∨ o + k ≤ p) : FC H cs' p f vm := by
  obtain ⟨vpc, vgas, vval, voo, vol, sa, sc, ca, cc, ia, ic, wc, r1, r2, r3, r4, h1, h2⟩ := h.ex
  exact ⟨h.ok, vpc, vgas, vval, voo, vol, sa, sc, ca, cc, ia, ic, wc, ho.row r1 (by simp only [List.length_cons, List.length_nil]; omega), ho.row r2 (by rw [length_bL, length_be]; omega), ho.row r3 (by rw [length_bL, length_be]; omega), ho.row r4 (by rw [h1.len]; omega), h1, h2⟩
/-- a frame's memory: a block of its own -/
structure MB (w : World) (bm : Nat) (vm : Value) (l : List Nat) : Prop where
  dig : Dig 256 l
  at' : (vm = .slice none 0 0 ∧ l = []) ∨ (vm = .slice (some ⟨bm, 0, none⟩) l.length l.length ∧ Blk w bm (bL l).toArray)
theorem MB.wv {w : World} {bm : Nat} {vm : Value} {l : List Nat} (h : MB w bm vm l) (hl : l.length < 9223372036854775808) : WV w.heap.size w vm l := by
  refine ⟨h.dig, ?_⟩
  rcases h.at' with h1 | ⟨h1, h2⟩
  · exact .inl ⟨⟨_, h1.1⟩, h1.2⟩
  · exact .inr ⟨bm, 0, l.length, h1, h2.lt, Nat.le_refl _, hl, h2.row (fun i v hv => by simpa using hv)⟩
theorem MB.ch {M : Nat → Prop} {w w' : World} {bm : Nat} {vm : Value} {l : List Nat} (h : MB w bm vm l) (c : Ch M w w') (hM : ¬ M bm) : MB w' bm vm l := by
  refine ⟨h.dig, ?_⟩
  rcases h.at' with h1 | ⟨h1, h2⟩
  · exact .inl h1
  · exact .inr ⟨h1, h2.ch c hM⟩
theorem MB.up {w w' : World} {bm : Nat} {vm : Value} {l : List Nat} (h : MB w bm vm l) (c : Up w w') : MB w' bm vm l := h.ch c (fun h => h)
theorem MB.wr {w w' : World} {bm b : Nat} {cs : Array Value} {vm : Value} {l : List Nat} (h : MB w bm vm l) (c : Wr w w' b cs) (hb : bm ≠ b) : MB w' bm vm l := h.ch c.ch hb
theorem MB.val {w : World} {bm : Nat} {vm : Value} {l : List Nat} (h : MB w bm vm l) : ∃ a, vm = .slice a l.length l.length := by
  rcases h.at' with ⟨h1, h2⟩ | ⟨h1, h2⟩
  · exact ⟨none, by rw [h1, h2]; rfl⟩
  · exact ⟨_, h1⟩
/-- the environment's cells -/
structure EOk (e : YEnv) : Prop where
  coinbase : e.coinbase < A160
  number : e.number < 18446744073709551616
  time : e.time < 18446744073709551616
  gasLimit : e.gasLimit < 18446744073709551616
  randao : e.randao < W256
  chainID : e.chainID < W256
  baseFee : e.baseFee < W256
  hashes : e.hashes.length ≤ 4
structure EC (H : Store) (cs : Array Value) (o : Nat) (e : YEnv) : Prop where
  ok : EOk e
  ex : ∃ ha hc, RowIn cs o (bL (be 20 e.coinbase)) ∧ RowIn cs (o + 20) [.int .u64 (e.number : Nat), .int .u64 (e.time : Nat), .int .u64 (e.gasLimit : Nat)] ∧ RowIn cs (o + 23) (bL (be 32 e.randao)) ∧ RowIn cs (o + 55) (bL (be 32 e.chainID)) ∧ RowIn cs (o + 87) (bL (be 32 e.baseFee)) ∧ RowIn cs (o + 119) [.slice ha e.hashes.length hc] ∧ LV P_word 32 H (.slice ha e.hashes.length hc) e.hashes
/-- what bounds a state -/
structure SOk (s : YSt) : Prop where
  accts : s.now.accts.length < 1048576
  warmA : s.now.warmA.length < 1048576
  warmS : s.now.warmS.length < 1048576
  refund : s.now.refund < 18446744073709551616
  logs : s.now.logs.length < 1048576
  temps : s.now.temps.length < 1048576
  made : s.now.made.length < 1048576
  gone : s.now.gone.length < 1048576
  start : s.start.length < 1048576
  ret : s.ret.length < 16777216
  phase : s.phase < 256
  status : s.status < 256
  applied : s.applied < 256
  limit : s.limit < 18446744073709551616
  txGas : s.txGas < 18446744073709551616
  left : s.left < 18446744073709551616
  price : s.price < W256
  total : s.total < W256
  origin : s.origin < A160
  mad : s.made < A160
/-- a state's cells; vf is the slice of its frames; the logs' list is not kept (it grows in place) and stands by itself -/
structure SC (H : Store) (cs : Array Value) (s : YSt) (vf : Value) : Prop where
  ok : SOk s
  env : EC H cs 59 s.env
  size : cs.size = 179
  ex : ∃ aa ac wa wc sa sc vr la lc ta tc ma mc ga gc oa oc ra rc vlim vtx vleft vpr vtot,
    RowIn cs 0 [.slice aa s.now.accts.length ac, .slice wa s.now.warmA.length wc, .slice sa s.now.warmS.length sc, vr, .slice la s.now.logs.length lc, .slice ta s.now.temps.length tc, .slice ma s.now.made.length mc, .slice ga s.now.gone.length gc, .slice oa s.start.length oc, vf, .slice ra s.ret.length rc, .int .u8 (s.phase : Nat), .int .u8 (s.status : Nat), .int .u8 (s.applied : Nat), vlim, vtx, vleft, vpr, vtot] ∧
    RowIn cs 19 (bL (be 20 s.origin)) ∧ RowIn cs 39 (bL (be 20 s.made)) ∧
    LV P_acct 24 H (.slice aa s.now.accts.length ac) s.now.accts ∧ LV P_addr 20 H (.slice wa s.now.warmA.length wc) s.now.warmA ∧ LV P_mark 21 H (.slice sa s.now.warmS.length sc) s.now.warmS ∧ NV H vr s.now.refund ∧ LV P_tri 22 H (.slice ta s.now.temps.length tc) s.now.temps ∧ LV P_addr 20 H (.slice ma s.now.made.length mc) s.now.made ∧ LV P_addr 20 H (.slice ga s.now.gone.length gc) s.now.gone ∧ LV P_tri 22 H (.slice oa s.start.length oc) s.start ∧ BV H (.slice ra s.ret.length rc) s.ret ∧ NV H vlim s.limit ∧ NV H vtx s.txGas ∧ NV H vleft s.left ∧ NV H vpr s.price ∧ NV H vtot s.total
theorem EC.mono {H H' : Store} {cs : Array Value} {o : Nat} {e : YEnv} (h : EC H cs o e) (hl : Le H H') : EC H' cs o e := by
  obtain ⟨ha, hc, h1, h2, h3, h4, h5, h6, h7⟩ := h.ex
  exact ⟨h.ok, ha, hc, h1, h2, h3, h4, h5, h6, h7.mono hl⟩
theorem EC.set {H : Store} {cs : Array Value} {o k : Nat} {e : YEnv} {v : Value} (h : EC H cs o e) (hk : k < o) : EC H (spl cs k [v]) o e := by
  obtain ⟨ha, hc, h1, h2, h3, h4, h5, h6, h7⟩ := h.ex
  exact ⟨h.ok, ha, hc, h1.off (by omega), h2.off (by omega), h3.off (by omega), h4.off (by omega), h5.off (by omega), h6.off (by omega), h7⟩
theorem EC.sets {H : Store} {cs : Array Value} {o k : Nat} {e : YEnv} {vs : List Value} (h : EC H cs o e) (hz : k + vs.length ≤ cs.size) (hk : k + vs.length ≤ o) : EC H (spl cs k vs) o e := by
  obtain ⟨ha, hc, h1, h2, h3, h4, h5, h6, h7⟩ := h.ex
  exact ⟨h.ok, ha, hc, h1.offs hz (by omega), h2.offs hz (by omega), h3.offs hz (by omega), h4.offs hz (by omega), h5.offs hz (by omega), h6.offs hz (by omega), h7⟩
theorem SC.mono {H H' : Store} {cs : Array Value} {s : YSt} {vf : Value} (h : SC H cs s vf) (hl : Le H H') : SC H' cs s vf := by
  obtain ⟨aa, ac, wa, wc, sa, sc, vr, la, lc, ta, tc, ma, mc, ga, gc, oa, oc, ra, rc, vlim, vtx, vleft, vpr, vtot, r1, r2, r3, h1, h2, h3, h4, h6, h7, h8, h9, h10, h11, h12, h13, h14, h15⟩ := h.ex
  exact ⟨h.ok, h.env.mono hl, h.size, aa, ac, wa, wc, sa, sc, vr, la, lc, ta, tc, ma, mc, ga, gc, oa, oc, ra, rc, vlim, vtx, vleft, vpr, vtot, r1, r2, r3, h1.mono hl, h2.mono hl, h3.mono hl, h4.mono hl, h6.mono hl, h7.mono hl, h8.mono hl, h9.mono hl, h10.mono hl, h11.mono hl, h12.mono hl, h13.mono hl, h14.mono hl, h15.mono hl⟩
/-- operand i of a stack, 0 the top -/
def argN (l : List Nat) (i : Nat) : Nat := l.reverse[i]?.getD 0
theorem arg_in {l : List Nat} {i : Nat} (h : i < l.length) : argN l i = l[l.length - 1 - i] := by
  unfold argN
  rw [List.getElem?_reverse h, List.getElem?_eq_getElem (by omega)]; rfl
theorem arg_out {l : List Nat} {i : Nat} (h : ¬ i < l.length) : argN l i = 0 := by
  unfold argN
  rw [List.getElem?_eq_none (by simp; omega)]; rfl
end Go.Proofs.YgvaawGreat
