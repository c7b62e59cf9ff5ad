import Derived.Test.YgvaawGreatEV
set_option maxRecDepth 100000
set_option linter.unusedSimpArgs false
set_option linter.unusedVariables false
namespace Go.Proofs.YgvaawGreat
open Go
/-! Reading the vault. -/
theorem VL.ch {M : Nat → Prop} {w w' : World} {H : Store} {col : Nat → Nat} {bc : Nat} {cs : Array Value} {V : EV} (h : VL w H col bc cs V) (c : Ch M w w') (hM : ∀ b, M b → col b = 0 ∧ ¬ H.has b) : VL w' H col bc cs V :=
  h.go ⟨c, ⟨fun b ds hb => (h.fz.blk b ds hb).ch c (fun hm => (hM b hm).2 ⟨ds, hb⟩)⟩, Le.refl _, fun _ h => .inl h⟩ (fun b hm => (hM b hm).1)
theorem RowIn.sub {cs : Array Value} {o : Nat} {l : List Value} (h : RowIn cs o l) (j k : Nat) {m : List Value} (e : (l.drop j).take k = m) {p : Nat} (hp : p = o + j) : RowIn cs p m := by
  subst hp e
  intro i u hu
  rw [List.getElem?_take] at hu
  split at hu
  · rw [List.getElem?_drop] at hu
    rw [Nat.add_assoc]
    exact h (j + i) u hu
  · cases hu
theorem RowIn.at1 {cs : Array Value} {o : Nat} {l : List Value} (h : RowIn cs o l) (j : Nat) {v : Value} (e : l[j]? = some v) {p : Nat} (hp : p = o + j) : cs[p]? = some v := by
  subst hp
  exact h j v e
structure AAt (w : World) (H : Store) (col : Nat → Nat) (cs : Array Value) (V : EV) (i : Nat) (x : EAcct) (b : Nat) (c : Array Value) (cap : Nat) (vc : Value) : Prop where
  ix : V.accts[i]? = some x
  sl : cs[2435]? = some (.slice (some ⟨b, 0, none⟩) V.accts.length cap)
  le : V.accts.length ≤ cap
  mx : cap ≤ maxLen
  sz : cap * 29 ≤ c.size
  kA : Blk w b c
  row : RowIn c (i * 29) (eaC x vc)
  code : BV H vc x.code
  ok : x.Ok
  col : col b = 2
theorem VL.acct {w : World} {H : Store} {col : Nat → Nat} {bc : Nat} {cs : Array Value} {V : EV} {i : Nat} {x : EAcct} (h : VL w H col bc cs V) (hx : V.accts[i]? = some x) : ∃ b c cap vc, AAt w H col cs V i x b c cap vc := by
  obtain ⟨v, b, c, h1, h2, h3⟩ := h.acc
  obtain ⟨cap, c', e1, e2, e3, e4, e5, e6, e7, vc, e10, e8, e9⟩ := h2.get hx
  rw [e10] at e7
  subst e1
  exact ⟨b, c, cap, vc, hx, h1, e2, e3, e4, e5, e7, e8, e9, h3 rfl⟩
section
variable {w : World} {H : Store} {col : Nat → Nat} {cs : Array Value} {V : EV} {i : Nat} {x : EAcct} {b : Nat} {c : Array Value} {cap : Nat} {vc : Value}
theorem AAt.up {w' : World} (h : AAt w H col cs V i x b c cap vc) (u : Up w w') : AAt w' H col cs V i x b c cap vc := ⟨h.ix, h.sl, h.le, h.mx, h.sz, h.kA.up u, h.row, h.code, h.ok, h.col⟩
theorem AAt.lt (h : AAt w H col cs V i x b c cap vc) : i < V.accts.length := (List.getElem?_eq_some_iff.1 h.ix).1
theorem AAt.rAddr (h : AAt w H col cs V i x b c cap vc) {o : Nat} (e : o = i * 29) : Row w b o (bL (be 20 x.addr)) := h.kA.row (h.row.sub 0 20 (by
  rw [List.drop_zero, eaC, List.take_append_of_le_length (by rw [length_bL, length_be]; decide), List.take_of_length_le (by rw [length_bL, length_be]; decide)]) (by omega))
theorem ea_get {a : EAcct} {vc : Value} (j : Nat) : (eaC a vc)[20 + j]? = (.int .u64 (a.nonce : Nat) :: (wL a.bal ++ [vc, .bool a.warm, .bool a.made, .bool a.gone]) : List Value)[j]? := by
  unfold eaC
  rw [List.getElem?_append_right (by rw [length_bL, length_be]; omega), length_bL, length_be, Nat.add_sub_cancel_left]
theorem ea_drop {a : EAcct} {vc : Value} (j : Nat) : (eaC a vc).drop (20 + j) = (.int .u64 (a.nonce : Nat) :: (wL a.bal ++ [vc, .bool a.warm, .bool a.made, .bool a.gone]) : List Value).drop j := by
  unfold eaC
  rw [List.drop_append, length_bL, length_be, Nat.add_sub_cancel_left, List.drop_of_length_le (by rw [length_bL, length_be]; omega), List.nil_append]
theorem AAt.cNonce (h : AAt w H col cs V i x b c cap vc) {o : Nat} (e : o = i * 29 + 20) : w.cell? ⟨b, o, none⟩ = some (.int .u64 (x.nonce : Nat)) := h.kA.cell (h.row.at1 (20 + 0) (ea_get 0) (by omega))
theorem AAt.rBal (h : AAt w H col cs V i x b c cap vc) {o : Nat} (e : o = i * 29 + 21) : Row w b o (wL x.bal) := h.kA.row (h.row.sub (20 + 1) 4 (by rw [ea_drop]; rfl) (by omega))
theorem AAt.cCode (h : AAt w H col cs V i x b c cap vc) {o : Nat} (e : o = i * 29 + 25) : w.cell? ⟨b, o, none⟩ = some vc := h.kA.cell (h.row.at1 (20 + 5) (ea_get 5) (by omega))
theorem AAt.cWarm (h : AAt w H col cs V i x b c cap vc) {o : Nat} (e : o = i * 29 + 26) : w.cell? ⟨b, o, none⟩ = some (.bool x.warm) := h.kA.cell (h.row.at1 (20 + 6) (ea_get 6) (by omega))
theorem AAt.cMade (h : AAt w H col cs V i x b c cap vc) {o : Nat} (e : o = i * 29 + 27) : w.cell? ⟨b, o, none⟩ = some (.bool x.made) := h.kA.cell (h.row.at1 (20 + 7) (ea_get 7) (by omega))
theorem AAt.cGone (h : AAt w H col cs V i x b c cap vc) {o : Nat} (e : o = i * 29 + 28) : w.cell? ⟨b, o, none⟩ = some (.bool x.gone) := h.kA.cell (h.row.at1 (20 + 8) (ea_get 8) (by omega))
end
structure SAt (w : World) (H : Store) (col : Nat → Nat) (cs : Array Value) (V : EV) (i : Nat) (x : ESlot) (b : Nat) (c : Array Value) (cap : Nat) : Prop where
  ix : V.slots[i]? = some x
  sl : cs[2436]? = some (.slice (some ⟨b, 0, none⟩) V.slots.length cap)
  le : V.slots.length ≤ cap
  mx : cap ≤ maxLen
  sz : cap * 14 ≤ c.size
  kA : Blk w b c
  row : RowIn c (i * 14) (esC x)
  ok : x.Ok
  col : col b = 3
theorem VL.slot {w : World} {H : Store} {col : Nat → Nat} {bc : Nat} {cs : Array Value} {V : EV} {i : Nat} {x : ESlot} (h : VL w H col bc cs V) (hx : V.slots[i]? = some x) : ∃ b c cap, SAt w H col cs V i x b c cap := by
  obtain ⟨v, b, c, h1, h2, h3⟩ := h.slo
  obtain ⟨cap, c', e1, e2, e3, e4, e5, e6, e7, rfl, e9⟩ := h2.get hx
  subst e1
  exact ⟨b, c, cap, hx, h1, e2, e3, e4, e5, e7, e9, h3 rfl⟩
section
variable {w : World} {H : Store} {col : Nat → Nat} {cs : Array Value} {V : EV} {i : Nat} {x : ESlot} {b : Nat} {c : Array Value} {cap : Nat}
theorem SAt.up {w' : World} (h : SAt w H col cs V i x b c cap) (u : Up w w') : SAt w' H col cs V i x b c cap := ⟨h.ix, h.sl, h.le, h.mx, h.sz, h.kA.up u, h.row, h.ok, h.col⟩
theorem SAt.lt (h : SAt w H col cs V i x b c cap) : i < V.slots.length := (List.getElem?_eq_some_iff.1 h.ix).1
theorem SAt.cAcct (h : SAt w H col cs V i x b c cap) {o : Nat} (e : o = i * 14) : w.cell? ⟨b, o, none⟩ = some (.int .i32 (x.acct : Nat)) := h.kA.cell (h.row.at1 0 rfl (by omega))
theorem SAt.rKey (h : SAt w H col cs V i x b c cap) {o : Nat} (e : o = i * 14 + 1) : Row w b o (wL x.key) := h.kA.row (h.row.sub 1 4 rfl (by omega))
theorem SAt.rVal (h : SAt w H col cs V i x b c cap) {o : Nat} (e : o = i * 14 + 5) : Row w b o (wL x.val) := h.kA.row (h.row.sub 5 4 rfl (by omega))
theorem SAt.rOrig (h : SAt w H col cs V i x b c cap) {o : Nat} (e : o = i * 14 + 9) : Row w b o (wL x.orig) := h.kA.row (h.row.sub 9 4 rfl (by omega))
theorem SAt.cWarm (h : SAt w H col cs V i x b c cap) {o : Nat} (e : o = i * 14 + 13) : w.cell? ⟨b, o, none⟩ = some (.bool x.warm) := h.kA.cell (h.row.at1 13 rfl (by omega))
end
structure TAt (w : World) (H : Store) (col : Nat → Nat) (cs : Array Value) (V : EV) (i : Nat) (x : ETemp) (b : Nat) (c : Array Value) (cap : Nat) : Prop where
  ix : V.temps[i]? = some x
  sl : cs[27017]? = some (.slice (some ⟨b, 0, none⟩) V.temps.length cap)
  le : V.temps.length ≤ cap
  mx : cap ≤ maxLen
  sz : cap * 9 ≤ c.size
  kA : Blk w b c
  row : RowIn c (i * 9) (etC x)
  ok : x.Ok
  col : col b = 6
theorem VL.temp {w : World} {H : Store} {col : Nat → Nat} {bc : Nat} {cs : Array Value} {V : EV} {i : Nat} {x : ETemp} (h : VL w H col bc cs V) (hx : V.temps[i]? = some x) : ∃ b c cap, TAt w H col cs V i x b c cap := by
  obtain ⟨v, b, c, h1, h2, h3⟩ := h.tem
  obtain ⟨cap, c', e1, e2, e3, e4, e5, e6, e7, rfl, e9⟩ := h2.get hx
  subst e1
  exact ⟨b, c, cap, hx, h1, e2, e3, e4, e5, e7, e9, h3 rfl⟩
section
variable {w : World} {H : Store} {col : Nat → Nat} {cs : Array Value} {V : EV} {i : Nat} {x : ETemp} {b : Nat} {c : Array Value} {cap : Nat}
theorem TAt.up {w' : World} (h : TAt w H col cs V i x b c cap) (u : Up w w') : TAt w' H col cs V i x b c cap := ⟨h.ix, h.sl, h.le, h.mx, h.sz, h.kA.up u, h.row, h.ok, h.col⟩
theorem TAt.lt (h : TAt w H col cs V i x b c cap) : i < V.temps.length := (List.getElem?_eq_some_iff.1 h.ix).1
theorem TAt.cAcct (h : TAt w H col cs V i x b c cap) {o : Nat} (e : o = i * 9) : w.cell? ⟨b, o, none⟩ = some (.int .i32 (x.acct : Nat)) := h.kA.cell (h.row.at1 0 rfl (by omega))
theorem TAt.rKey (h : TAt w H col cs V i x b c cap) {o : Nat} (e : o = i * 9 + 1) : Row w b o (wL x.key) := h.kA.row (h.row.sub 1 4 rfl (by omega))
theorem TAt.rVal (h : TAt w H col cs V i x b c cap) {o : Nat} (e : o = i * 9 + 5) : Row w b o (wL x.val) := h.kA.row (h.row.sub 5 4 rfl (by omega))
end
theorem VL.lenA {w : World} {H : Store} {col : Nat → Nat} {bc : Nat} {cs : Array Value} {V : EV} (h : VL w H col bc cs V) : ∃ a c, cs[2435]? = some (.slice a V.accts.length c) := by
  obtain ⟨v, b, c, h1, h2, h3⟩ := h.acc
  obtain ⟨a, c', rfl⟩ := h2.len
  exact ⟨a, c', h1⟩
theorem VL.lenS {w : World} {H : Store} {col : Nat → Nat} {bc : Nat} {cs : Array Value} {V : EV} (h : VL w H col bc cs V) : ∃ a c, cs[2436]? = some (.slice a V.slots.length c) := by
  obtain ⟨v, b, c, h1, h2, h3⟩ := h.slo
  obtain ⟨a, c', rfl⟩ := h2.len
  exact ⟨a, c', h1⟩
theorem VL.lenJ {w : World} {H : Store} {col : Nat → Nat} {bc : Nat} {cs : Array Value} {V : EV} (h : VL w H col bc cs V) : ∃ a c, cs[10629]? = some (.slice a V.journal.length c) := by
  obtain ⟨v, b, c, h1, h2, h3⟩ := h.jou
  obtain ⟨a, c', rfl⟩ := h2.len
  exact ⟨a, c', h1⟩
theorem VL.lenL {w : World} {H : Store} {col : Nat → Nat} {bc : Nat} {cs : Array Value} {V : EV} (h : VL w H col bc cs V) : ∃ a c, cs[27016]? = some (.slice a V.logs.length c) := by
  obtain ⟨v, b, c, h1, h2, h3⟩ := h.log
  obtain ⟨a, c', rfl⟩ := h2.len
  exact ⟨a, c', h1⟩
theorem VL.lenT {w : World} {H : Store} {col : Nat → Nat} {bc : Nat} {cs : Array Value} {V : EV} (h : VL w H col bc cs V) : ∃ a c, cs[27017]? = some (.slice a V.temps.length c) := by
  obtain ⟨v, b, c, h1, h2, h3⟩ := h.tem
  obtain ⟨a, c', rfl⟩ := h2.len
  exact ⟨a, c', h1⟩
section
variable {w : World} {H : Store} {col : Nat → Nat} {bc : Nat} {cs : Array Value} {V : EV}
theorem VL.cAt (h : VL w H col bc cs V) {p o : Nat} {q : Int} (hp : p < 4096) (hq : V.atb p = q) (e : o = 2437 + p) : w.cell? ⟨bc, o, none⟩ = some (.int .i32 q) := by subst e hq; exact h.kC.cell (h.atb p hp)
theorem VL.cSt (h : VL w H col bc cs V) {p o : Nat} {q : Int} (hp : p < 4096) (hq : V.stb p = q) (e : o = 6533 + p) : w.cell? ⟨bc, o, none⟩ = some (.int .i32 q) := by subst e hq; exact h.kC.cell (h.stb p hp)
theorem VL.c1 (h : VL w H col bc cs V) {p o : Nat} {v : Value} (hc : cs[p]? = some v) (e : o = p) : w.cell? ⟨bc, o, none⟩ = some v := by subst e; exact h.kC.cell hc
end
/-- the transient table -/
structure TQ (w : World) (col : Nat → Nat) (cs : Array Value) (V : EV) (b : Nat) (c : Array Value) : Prop where
  sl : cs[27018]? = some (.slice (some ⟨b, 0, none⟩) 16384 16384)
  kT : Blk w b c
  sz : c.size = 16384
  get : ∀ p, p < 16384 → c[p]? = some (.int .i32 (V.ttb p))
  col : col b = 7
theorem TQ.up {w w' : World} {col : Nat → Nat} {cs : Array Value} {V : EV} {b : Nat} {c : Array Value} (h : TQ w col cs V b c) (u : Up w w') : TQ w' col cs V b c := ⟨h.sl, h.kT.up u, h.sz, h.get, h.col⟩
theorem TQ.ch {M : Nat → Prop} {w w' : World} {col : Nat → Nat} {cs : Array Value} {V : EV} {b : Nat} {c : Array Value} (h : TQ w col cs V b c) (u : Ch M w w') (hM : ∀ b, M b → col b = 0 ∧ True) : TQ w' col cs V b c := ⟨h.sl, h.kT.ch u (fun hm => by have := (hM _ hm).1; have := h.col; omega), h.sz, h.get, h.col⟩
theorem TQ.cT {w : World} {col : Nat → Nat} {cs : Array Value} {V : EV} {b : Nat} {c : Array Value} (h : TQ w col cs V b c) {p o : Nat} {q : Int} (hp : p < 16384) (hq : V.ttb p = q) (e : o = p) : w.cell? ⟨b, o, none⟩ = some (.int .i32 q) := by subst e hq; exact h.kT.cell (h.get o hp)
theorem VL.tab {w : World} {H : Store} {col : Nat → Nat} {bc : Nat} {cs : Array Value} {V : EV} (h : VL w H col bc cs V) (ht : V.tm = true) : ∃ b c, TQ w col cs V b c := by
  obtain ⟨v, b, c, h1, h2, h3⟩ := h.ttb
  obtain ⟨e1, e2, e3, e4, e5⟩ := h3 ht
  subst e1
  exact ⟨b, c, h1, e2, e3, e4, e5⟩
theorem VL.tab0 {w : World} {H : Store} {col : Nat → Nat} {bc : Nat} {cs : Array Value} {V : EV} (h : VL w H col bc cs V) (ht : V.tm = false) : cs[27018]? = some (.slice none 0 0) := by
  obtain ⟨v, b, c, h1, h2, h3⟩ := h.ttb
  rw [← h2 ht]
  exact h1
/-! The keys. -/
def mA (V : EV) (a i : Nat) : Prop := ∃ x, V.accts[i]? = some x ∧ x.addr = a
def mS (V : EV) (q k i : Nat) : Prop := ∃ x, V.slots[i]? = some x ∧ x.acct = q ∧ x.key = k
def mT (V : EV) (q k i : Nat) : Prop := ∃ x, V.temps[i]? = some x ∧ x.acct = q ∧ x.key = k
theorem mA_hm {V : EV} {a i : Nat} (h : mA V a i) : hmA V.accts i = aHome a := by
  obtain ⟨x, h1, h2⟩ := h
  unfold hmA
  rw [h1, ← h2]
theorem mS_hm {V : EV} {q k i : Nat} (h : mS V q k i) : hmS V.slots i = sHome q k := by
  obtain ⟨x, h1, h2, h3⟩ := h
  unfold hmS
  rw [h1, ← h2, ← h3]
theorem mT_hm {V : EV} {q k i : Nat} (h : mT V q k i) : hmT V.temps i = tHome q k := by
  obtain ⟨x, h1, h2, h3⟩ := h
  unfold hmT
  rw [h1, ← h2, ← h3]
/-- what a search answers -/
def Fnd (N : Nat) (T : Nat → Int) (n h0 : Nat) (m : Nat → Prop) (i f : Int) : Prop := (∃ k : Nat, m k ∧ k < n ∧ i = k ∧ f = -1) ∨ ((∀ k, k < n → ¬ m k) ∧ i = -1 ∧ ∃ p : Nat, f = p ∧ Free N T h0 p)
theorem Fnd.free {N : Nat} {T : Nat → Int} {n h0 t : Nat} {hm : Nat → Nat} {m : Nat → Prop} (h : Tab N T n hm) (hk : ∀ i, i < n → m i → hm i = h0) (hp : Pb N T m h0 t) (htN : t < N) (ht : T ((h0 + t) % N) < 0) : Fnd N T n h0 m (-1) ((h0 + t) % N : Nat) := by
  have hN : (h0 + t) % N < N := Nat.mod_lt _ (by omega)
  refine .inr ⟨h.none hk hp ht, rfl, _, rfl, hN, ?_, t, htN, rfl, fun e he => (hp e he).1⟩
  rcases h.rng _ hN with h1 | h1 <;> omega
theorem Pb.next {N : Nat} {T : Nat → Int} {m : Nat → Prop} {h0 t k : Nat} (h : Pb N T m h0 t) (hk : T ((h0 + t) % N) = k) (hm : ¬ m k) : Pb N T m h0 (t + 1) := fun e he => by
  by_cases h1 : e = t
  · subst h1
    rw [hk]
    exact ⟨by omega, by simpa using hm⟩
  · exact h e (by omega)
theorem Tab.ix {N : Nat} {T : Nat → Int} {n p k : Nat} {hm : Nat → Nat} (h : Tab N T n hm) (hp : p < N) (hk : T p = k) : k < n := by
  rcases h.rng p hp with h1 | h1 <;> omega
theorem mod_next {h0 t N : Nat} : ((h0 + t) % N + 1) % N = (h0 + (t + 1)) % N := by rw [Nat.mod_add_mod, Nat.add_assoc]
end Go.Proofs.YgvaawGreat
