import Derived.Test.YgvaawGreatEP
set_option maxRecDepth 100000
set_option linter.unusedSimpArgs false
set_option linter.unusedVariables false
namespace Go.Proofs.YgvaawGreat
open Go
/-! Writing the vault. -/
theorem Eff.mono {n : Nat} {s : Nat → Value} {w : World} {o : Oper} {R R' : Value → World → Prop} (h : Eff n s w o R) (hr : ∀ v w', R v w' → R' v w') : Eff n s w o R' := ⟨fun K Q hK => h.out K Q fun v w' hv => hK v w' (hr v w' hv)⟩
theorem Blk.inj {w : World} {b : Nat} {c d : Array Value} (h : Blk w b c) (g : Blk w b d) : c = d := by
  obtain ⟨T, h⟩ := h
  obtain ⟨T', g⟩ := g
  rw [h] at g
  cases g
  rfl
/-- a list of records, in a block of colour c0, its slice in a cell of the chain -/
def Part {α : Type} (P : Cp α) (k cell c0 : Nat) (w : World) (H : Store) (col : Nat → Nat) (cs : Array Value) (xs : List α) : Prop := ∃ v b c, cs[cell]? = some v ∧ AR P w H k v b c xs ∧ (v.ownBlock = some b → col b = c0)
def TPart (w : World) (col : Nat → Nat) (cs : Array Value) (V : EV) : Prop := ∃ v b c, cs[27018]? = some v ∧ (V.tm = false → v = .slice none 0 0) ∧ (V.tm = true → v = .slice (some ⟨b, 0, none⟩) 16384 16384 ∧ Blk w b c ∧ c.size = 16384 ∧ (∀ p, p < 16384 → c[p]? = some (.int .i32 (V.ttb p))) ∧ col b = 7)
/-- the vault but for the part of colour c0 -/
structure VLm (c0 : Nat) (w : World) (H : Store) (col : Nat → Nat) (bc : Nat) (cs : Array Value) (V : EV) : Prop where
  fz : Fz w H
  kC : Blk w bc cs
  size : cs.size = 27024
  colC : col bc = 1
  new : ∀ b, w.heap.size ≤ b → col b = 0
  kept : ∀ b, H.has b → col b = 0
  acc : c0 ≠ 2 → Part P_ea 29 2435 2 w H col cs V.accts
  slo : c0 ≠ 3 → Part P_es 14 2436 3 w H col cs V.slots
  jou : c0 ≠ 4 → Part P_ee 9 10629 4 w H col cs V.journal
  log : c0 ≠ 5 → Part P_log 22 27016 5 w H col cs V.logs
  tem : c0 ≠ 6 → Part P_et 9 27017 6 w H col cs V.temps
  ttb : c0 ≠ 7 → TPart w col cs V
  atb : ∀ p, p < 4096 → cs[2437 + p]? = some (.int .i32 (V.atb p))
  stb : ∀ p, p < 4096 → cs[6533 + p]? = some (.int .i32 (V.stb p))
  mrk : ∀ (i : Nat) m, V.marks[i]? = some m → cs[10630 + i]? = some (.int .i32 (m : Nat))
  nmk : cs[27014]? = some (.int .i32 (V.marks.length : Nat))
  ref : cs[27015]? = some (.int .u64 (V.ref : Nat))
  tb : cs[27023]? = some (.bool false)
theorem Part.ch {α : Type} {P : Cp α} {k cell c0 : Nat} {M : Nat → Prop} {w w' : World} {H : Store} {col : Nat → Nat} {cs : Array Value} {xs : List α} (h : Part P k cell c0 w H col cs xs) (c : Ch M w w') (hM : ∀ b, M b → col b ≠ c0) : Part P k cell c0 w' H col cs xs := by
  obtain ⟨v, b, d, h1, h2, h3⟩ := h
  exact ⟨v, b, d, h1, h2.ch c (fun e hm => hM b hm (h3 e)), h3⟩
theorem TPart.ch {M : Nat → Prop} {w w' : World} {col : Nat → Nat} {cs : Array Value} {V : EV} (h : TPart w col cs V) (c : Ch M w w') (hM : ∀ b, M b → col b ≠ 7) : TPart w' col cs V := by
  obtain ⟨v, b, d, h1, h2, h3⟩ := h
  refine ⟨v, b, d, h1, h2, fun e => ?_⟩
  obtain ⟨x1, x2, x3, x4, x5⟩ := h3 e
  exact ⟨x1, x2.ch c (fun hm => hM b hm x5), x3, x4, x5⟩
theorem VL.tr {c0 : Nat} {M : Nat → Prop} {w w' : World} {H : Store} {col : Nat → Nat} {bc : Nat} {cs : Array Value} {V : EV} (h : VL w H col bc cs V) (c : Ch M w w') (hM : ∀ b, M b → col b = c0) (h0 : c0 ≠ 0) (h1 : c0 ≠ 1) : VLm c0 w' H col bc cs V :=
  ⟨h.fz.ch c (fun b hb hm => by have := h.kept b hb; have := hM b hm; omega), h.kC.ch c (fun hm => by have := h.colC; have := hM _ hm; omega), h.size, h.colC, fun b hb => h.new b (Nat.le_trans c.size hb), h.kept, fun hc => Part.ch h.acc c (fun b hb => by have := hM b hb; omega), fun hc => Part.ch h.slo c (fun b hb => by have := hM b hb; omega), fun hc => Part.ch h.jou c (fun b hb => by have := hM b hb; omega), fun hc => Part.ch h.log c (fun b hb => by have := hM b hb; omega), fun hc => Part.ch h.tem c (fun b hb => by have := hM b hb; omega), fun hc => TPart.ch h.ttb c (fun b hb => by have := hM b hb; omega), h.atb, h.stb, h.mrk, h.nmk, h.ref, h.tb⟩
theorem VL.m {w : World} {H : Store} {col : Nat → Nat} {bc : Nat} {cs : Array Value} {V : EV} (h : VL w H col bc cs V) (c0 : Nat) : VLm c0 w H col bc cs V :=
  ⟨h.fz, h.kC, h.size, h.colC, h.new, h.kept, fun _ => h.acc, fun _ => h.slo, fun _ => h.jou, fun _ => h.log, fun _ => h.tem, fun _ => h.ttb, h.atb, h.stb, h.mrk, h.nmk, h.ref, h.tb⟩
theorem VLm.ch {c0 : Nat} {M : Nat → Prop} {w w' : World} {H : Store} {col : Nat → Nat} {bc : Nat} {cs : Array Value} {V : EV} (h : VLm c0 w H col bc cs V) (c : Ch M w w') (hM : ∀ b, M b → col b = 0 ∧ ¬ H.has b) : VLm c0 w' H col bc cs V :=
  ⟨h.fz.ch c (fun b hb hm => (hM b hm).2 hb), h.kC.ch c (fun hm => by have := h.colC; have := (hM _ hm).1; omega), h.size, h.colC, fun b hb => h.new b (Nat.le_trans c.size hb), h.kept, fun hc => (h.acc hc).ch c (fun b hb => by have := (hM b hb).1; omega), fun hc => (h.slo hc).ch c (fun b hb => by have := (hM b hb).1; omega), fun hc => (h.jou hc).ch c (fun b hb => by have := (hM b hb).1; omega), fun hc => (h.log hc).ch c (fun b hb => by have := (hM b hb).1; omega), fun hc => (h.tem hc).ch c (fun b hb => by have := (hM b hb).1; omega), fun hc => (h.ttb hc).ch c (fun b hb => by have := (hM b hb).1; omega), h.atb, h.stb, h.mrk, h.nmk, h.ref, h.tb⟩
theorem VLm.up {c0 : Nat} {w w' : World} {H : Store} {col : Nat → Nat} {bc : Nat} {cs : Array Value} {V : EV} (h : VLm c0 w H col bc cs V) (u : Up w w') : VLm c0 w' H col bc cs V := h.ch u (fun _ h => h.elim)
theorem AAt.ch {M : Nat → Prop} {w w' : World} {H : Store} {col : Nat → Nat} {cs : Array Value} {V : EV} {i : Nat} {x : EAcct} {b : Nat} {c : Array Value} {cap : Nat} {vc : Value} (h : AAt w H col cs V i x b c cap vc) (u : Ch M w w') (hM : ¬ M b) : AAt w' H col cs V i x b c cap vc := ⟨h.ix, h.sl, h.le, h.mx, h.sz, h.kA.ch u hM, h.row, h.code, h.ok, h.col⟩
theorem SAt.ch {M : Nat → Prop} {w w' : World} {H : Store} {col : Nat → Nat} {cs : Array Value} {V : EV} {i : Nat} {x : ESlot} {b : Nat} {c : Array Value} {cap : Nat} (h : SAt w H col cs V i x b c cap) (u : Ch M w w') (hM : ¬ M b) : SAt w' H col cs V i x b c cap := ⟨h.ix, h.sl, h.le, h.mx, h.sz, h.kA.ch u hM, h.row, h.ok, h.col⟩
theorem TAt.ch {M : Nat → Prop} {w w' : World} {H : Store} {col : Nat → Nat} {cs : Array Value} {V : EV} {i : Nat} {x : ETemp} {b : Nat} {c : Array Value} {cap : Nat} (h : TAt w H col cs V i x b c cap) (u : Ch M w w') (hM : ¬ M b) : TAt w' H col cs V i x b c cap := ⟨h.ix, h.sl, h.le, h.mx, h.sz, h.kA.ch u hM, h.row, h.ok, h.col⟩
theorem AAt.fit {w : World} {H : Store} {col : Nat → Nat} {cs : Array Value} {V : EV} {i : Nat} {x : EAcct} {b : Nat} {c : Array Value} {cap : Nat} {vc : Value} (h : AAt w H col cs V i x b c cap vc) : i * 29 + 29 ≤ c.size := by
  have h1 := h.sz
  have h2 := h.lt
  have h3 := h.le
  have := Nat.mul_le_mul_right 29 (show i + 1 ≤ cap by omega)
  omega
theorem SAt.fit {w : World} {H : Store} {col : Nat → Nat} {cs : Array Value} {V : EV} {i : Nat} {x : ESlot} {b : Nat} {c : Array Value} {cap : Nat} (h : SAt w H col cs V i x b c cap) : i * 14 + 14 ≤ c.size := by
  have h1 := h.sz
  have h2 := h.lt
  have h3 := h.le
  have := Nat.mul_le_mul_right 14 (show i + 1 ≤ cap by omega)
  omega
theorem TAt.fit {w : World} {H : Store} {col : Nat → Nat} {cs : Array Value} {V : EV} {i : Nat} {x : ETemp} {b : Nat} {c : Array Value} {cap : Nat} (h : TAt w H col cs V i x b c cap) : i * 9 + 9 ≤ c.size := by
  have h1 := h.sz
  have h2 := h.lt
  have h3 := h.le
  have := Nat.mul_le_mul_right 9 (show i + 1 ≤ cap by omega)
  omega
/-! A field of an entry. -/
theorem VL.setA {w w' : World} {H : Store} {col : Nat → Nat} {bc : Nat} {cs : Array Value} {V : EV} {i : Nat} {x y : EAcct} {b : Nat} {c c' : Array Value} {cap : Nat} {vc vc' : Value} (h : VL w H col bc cs V) (hA : AAt w H col cs V i x b c cap vc) (hw : Wr w w' b c') (ho : Out c c' (i * 29) 29) (hr : RowIn c' (i * 29) (eaC y vc')) (hc : BV H vc' y.code) (hy : y.Ok) : VL w' H col bc cs { V with accts := V.accts.set i y } := by
  have m := h.tr (c0 := 2) hw.ch (fun k hk => by rw [hk]; exact hA.col) (by decide) (by decide)
  refine ⟨m.fz, m.kC, m.size, m.colC, m.new, m.kept, ?_, m.slo (by decide), m.jou (by decide), m.log (by decide), m.tem (by decide), m.ttb (by decide), m.atb, m.stb, m.mrk, m.nmk, m.ref, m.tb⟩
  obtain ⟨v1, b1, c1, h1, h2, h3⟩ := h.acc
  have e := hA.sl
  rw [h1] at e
  cases e
  obtain ⟨cap', e1, e2, e3, e4, e5⟩ := h2.gb.pos (Nat.lt_of_le_of_lt (Nat.zero_le _) hA.lt)
  cases e1
  have hcc := e5.inj hA.kA
  subst hcc
  exact ⟨_, b, c', h1, h2.put hA.lt ho (eaC_len _ _) hr ⟨vc', rfl, hc, hy⟩ hw.blk, fun _ => hA.col⟩
theorem VL.setS {w w' : World} {H : Store} {col : Nat → Nat} {bc : Nat} {cs : Array Value} {V : EV} {i : Nat} {x y : ESlot} {b : Nat} {c c' : Array Value} {cap : Nat} (h : VL w H col bc cs V) (hA : SAt w H col cs V i x b c cap) (hw : Wr w w' b c') (ho : Out c c' (i * 14) 14) (hr : RowIn c' (i * 14) (esC y)) (hy : y.Ok) : VL w' H col bc cs { V with slots := V.slots.set i y } := by
  have m := h.tr (c0 := 3) hw.ch (fun k hk => by rw [hk]; exact hA.col) (by decide) (by decide)
  refine ⟨m.fz, m.kC, m.size, m.colC, m.new, m.kept, m.acc (by decide), ?_, m.jou (by decide), m.log (by decide), m.tem (by decide), m.ttb (by decide), m.atb, m.stb, m.mrk, m.nmk, m.ref, m.tb⟩
  obtain ⟨v1, b1, c1, h1, h2, h3⟩ := h.slo
  have e := hA.sl
  rw [h1] at e
  cases e
  obtain ⟨cap', e1, e2, e3, e4, e5⟩ := h2.gb.pos (Nat.lt_of_le_of_lt (Nat.zero_le _) hA.lt)
  cases e1
  have hcc := e5.inj hA.kA
  subst hcc
  exact ⟨_, b, c', h1, h2.put hA.lt ho (esC_len _) hr ⟨rfl, hy⟩ hw.blk, fun _ => hA.col⟩
theorem VL.setT {w w' : World} {H : Store} {col : Nat → Nat} {bc : Nat} {cs : Array Value} {V : EV} {i : Nat} {x y : ETemp} {b : Nat} {c c' : Array Value} {cap : Nat} (h : VL w H col bc cs V) (hA : TAt w H col cs V i x b c cap) (hw : Wr w w' b c') (ho : Out c c' (i * 9) 9) (hr : RowIn c' (i * 9) (etC y)) (hy : y.Ok) : VL w' H col bc cs { V with temps := V.temps.set i y } := by
  have m := h.tr (c0 := 6) hw.ch (fun k hk => by rw [hk]; exact hA.col) (by decide) (by decide)
  refine ⟨m.fz, m.kC, m.size, m.colC, m.new, m.kept, m.acc (by decide), m.slo (by decide), m.jou (by decide), m.log (by decide), ?_, m.ttb (by decide), m.atb, m.stb, m.mrk, m.nmk, m.ref, m.tb⟩
  obtain ⟨v1, b1, c1, h1, h2, h3⟩ := h.tem
  have e := hA.sl
  rw [h1] at e
  cases e
  obtain ⟨cap', e1, e2, e3, e4, e5⟩ := h2.gb.pos (Nat.lt_of_le_of_lt (Nat.zero_le _) hA.lt)
  cases e1
  have hcc := e5.inj hA.kA
  subst hcc
  exact ⟨_, b, c', h1, h2.put hA.lt ho (etC_len _) hr ⟨rfl, hy⟩ hw.blk, fun _ => hA.col⟩
/-! Cells of the chain. -/
theorem Part.cs {α : Type} {P : Cp α} {k cell c0 : Nat} {w : World} {H : Store} {col : Nat → Nat} {cs cs' : Array Value} {xs : List α} (h : Part P k cell c0 w H col cs xs) (e : cs'[cell]? = cs[cell]?) : Part P k cell c0 w H col cs' xs := by
  obtain ⟨v, b, c, h1, h2, h3⟩ := h
  exact ⟨v, b, c, by rw [e]; exact h1, h2, h3⟩
theorem TPart.cs {w : World} {col : Nat → Nat} {cs cs' : Array Value} {V : EV} (h : TPart w col cs V) (e : cs'[27018]? = cs[27018]?) : TPart w col cs' V := by
  obtain ⟨v, b, c, h1, h2, h3⟩ := h
  exact ⟨v, b, c, by rw [e]; exact h1, h2, h3⟩
theorem Part.col {α : Type} {P : Cp α} {k cell c0 : Nat} {w : World} {H : Store} {col col' : Nat → Nat} {cs : Array Value} {xs : List α} (h : Part P k cell c0 w H col cs xs) (e : ∀ b, col b = c0 → col' b = c0) : Part P k cell c0 w H col' cs xs := by
  obtain ⟨v, b, c, h1, h2, h3⟩ := h
  exact ⟨v, b, c, h1, h2, fun e' => e b (h3 e')⟩
theorem TPart.col {w : World} {col col' : Nat → Nat} {cs : Array Value} {V : EV} (h : TPart w col cs V) (e : ∀ b, col b = 7 → col' b = 7) : TPart w col' cs V := by
  obtain ⟨v, b, c, h1, h2, h3⟩ := h
  refine ⟨v, b, c, h1, h2, fun e' => ?_⟩
  obtain ⟨x1, x2, x3, x4, x5⟩ := h3 e'
  exact ⟨x1, x2, x3, x4, e b x5⟩
/-- the machine's cells were written -/
theorem VL.low {w w' : World} {H : Store} {col : Nat → Nat} {bc : Nat} {cs : Array Value} {V : EV} {o : Nat} {vs : List Value} (h : VL w H col bc cs V) (hw : Wr w w' bc (spl cs o vs)) (hz : o + vs.length ≤ 2435) : VL w' H col bc (spl cs o vs) V := by
  have hc : ∀ i, 2435 ≤ i → (spl cs o vs)[i]? = cs[i]? := fun i hi => get_spl_out (by rw [h.size]; omega) (by omega)
  have hM : ∀ k, k = bc → col k = 1 := fun k hk => by rw [hk]; exact h.colC
  exact ⟨h.fz.ch hw.ch (fun b hb hm => by have := h.kept b hb; have := hM b hm; omega), hw.blk, by rw [size_spl]; exact h.size, h.colC, fun b hb => h.new b (Nat.le_trans hw.ch.size hb), h.kept, (Part.ch h.acc hw.ch (fun b hb => by have := hM b hb; omega)).cs (hc _ (by decide)), (Part.ch h.slo hw.ch (fun b hb => by have := hM b hb; omega)).cs (hc _ (by decide)), (Part.ch h.jou hw.ch (fun b hb => by have := hM b hb; omega)).cs (hc _ (by decide)), (Part.ch h.log hw.ch (fun b hb => by have := hM b hb; omega)).cs (hc _ (by decide)), (Part.ch h.tem hw.ch (fun b hb => by have := hM b hb; omega)).cs (hc _ (by decide)), (TPart.ch h.ttb hw.ch (fun b hb => by have := hM b hb; omega)).cs (hc _ (by decide)), fun p hp => by rw [hc _ (by omega)]; exact h.atb p hp, fun p hp => by rw [hc _ (by omega)]; exact h.stb p hp, fun i m hi => by rw [hc _ (by omega)]; exact h.mrk i m hi, by rw [hc _ (by decide)]; exact h.nmk, by rw [hc _ (by decide)]; exact h.ref, by rw [hc _ (by decide)]; exact h.tb⟩
/-- a slice was laid in a cell -/
structure CStore (w w' : World) (bc : Nat) (cs : Array Value) (o : Nat) (v : Value) : Prop where
  wr : Wr w w' bc (spl cs o [v])
theorem sp1 {cs : Array Value} {o i : Nat} {v : Value} (h : i ≠ o) : (spl cs o [v])[i]? = cs[i]? := by
  show (cs.setIfInBounds o v)[i]? = cs[i]?
  rw [Array.getElem?_setIfInBounds_ne (by omega)]
theorem sp0 {cs : Array Value} {o : Nat} {v : Value} (h : o < cs.size) : (spl cs o [v])[o]? = some v := by
  show (cs.setIfInBounds o v)[o]? = some v
  rw [Array.getElem?_setIfInBounds_self_of_lt h]
/-- a list that is built and not yet laid in its cell -/
def Pend {α : Type} (P : Cp α) (k c0 : Nat) (w : World) (H : Store) (col : Nat → Nat) (v : Value) (xs : List α) : Prop := ∃ b c, AR P w H k v b c xs ∧ (v.ownBlock = some b → (col b = c0 ∨ col b = 0) ∧ ¬ H.has b)
theorem Pend.up {α : Type} {P : Cp α} {k c0 : Nat} {w w' : World} {H : Store} {col : Nat → Nat} {v : Value} {xs : List α} (h : Pend P k c0 w H col v xs) (u : Up w w') : Pend P k c0 w' H col v xs := by
  obtain ⟨b, c, h1, h2⟩ := h
  exact ⟨b, c, h1.ch u (fun _ h => h), h2⟩
/-- the colours behind: a new block may have got colour c0 -/
structure CC (w : World) (col col' : Nat → Nat) : Prop where
  old : ∀ b, col b ≠ 0 → col' b = col b
  new : ∀ b, w.heap.size ≤ b → col' b = 0
theorem Pend.lay {α : Type} {P : Cp α} {k cell c0 : Nat} {w w' : World} {H : Store} {col : Nat → Nat} {v : Value} {xs : List α} {bc : Nat} {cs' : Array Value} (h : Pend P k c0 w H col v xs) (hw : Wr w w' bc cs') (hk : cs'[cell]? = some v) (h1 : col bc = 1) (hc : c0 ≠ 1) (hc0 : c0 ≠ 0) (hn : ∀ b, w.heap.size ≤ b → col b = 0) (hkp : ∀ b, H.has b → col b = 0) : ∃ col' : Nat → Nat, (∀ b, col b ≠ 0 → col' b = col b) ∧ (∀ b, w'.heap.size ≤ b → col' b = 0) ∧ (∀ b, H.has b → col' b = 0) ∧ (∀ b, col' b = col b ∨ (v.ownBlock = some b ∧ col b = 0)) ∧ Part P k cell c0 w' H col' cs' xs := by
  obtain ⟨b, c, h2, h3⟩ := h
  by_cases hb : v.ownBlock = some b
  · obtain ⟨h4, h5⟩ := h3 hb
    have hlt : b < w.heap.size := (h2.gb.own hb).2
    refine ⟨fun q => if q = b then c0 else col q, fun q hq => ?_, fun q hq => ?_, fun q hq => ?_, fun q => ?_, v, b, c, hk, h2.ch hw.ch (fun _ e => ?_), fun _ => if_pos rfl⟩
    · show (if q = b then c0 else col q) = col q
      by_cases e : q = b
      · rw [if_pos e, e]; rw [e] at hq; omega
      · rw [if_neg e]
    · show (if q = b then c0 else col q) = 0
      have := hw.ch.size
      rw [if_neg (by omega)]
      exact hn q (by omega)
    · show (if q = b then c0 else col q) = 0
      rw [if_neg (show ¬ q = b from fun e => h5 (by rw [← e]; exact hq))]
      exact hkp q hq
    · show (if q = b then c0 else col q) = col q ∨ _
      by_cases e : q = b
      · rcases h4 with h4 | h4
        · left; rw [if_pos e, e, h4]
        · right; rw [e]; exact ⟨hb, h4⟩
      · left; rw [if_neg e]
    · rw [e] at h4; omega
  · exact ⟨col, fun _ _ => rfl, fun q hq => hn q (Nat.le_trans hw.ch.size hq), hkp, fun _ => .inl rfl, v, b, c, hk, h2.ch hw.ch (fun e => absurd e hb), fun e => absurd e hb⟩
/-- what came of colours -/
structure Cl (w : World) (col col' : Nat → Nat) : Prop where
  old : ∀ b, b < w.heap.size → col' b = col b
theorem Cl.refl (w : World) (col : Nat → Nat) : Cl w col col := ⟨fun _ _ => rfl⟩
theorem Cl.trans {w w' : World} {c1 c2 c3 : Nat → Nat} (h : Cl w c1 c2) (g : Cl w' c2 c3) (hs : w.heap.size ≤ w'.heap.size) : Cl w c1 c3 := ⟨fun b hb => (g.old b (by omega)).trans (h.old b hb)⟩
section
variable {w w' : World} {H : Store} {col : Nat → Nat} {bc : Nat} {cs : Array Value} {V : EV} {v : Value}
theorem VLm.parts {c0 o : Nat} (m : VLm c0 w H col bc cs V) (hw : Wr w w' bc (spl cs o [v])) {col' : Nat → Nat} (g1 : ∀ b, col b ≠ 0 → col' b = col b) (g2 : ∀ b, w'.heap.size ≤ b → col' b = 0) (g3 : ∀ b, H.has b → col' b = 0) (ho : o = 2435 ∨ o = 2436 ∨ o = 10629 ∨ o = 27014 ∨ o = 27015 ∨ o = 27016 ∨ o = 27017 ∨ o = 27018) :
    Fz w' H ∧ Blk w' bc (spl cs o [v]) ∧ (spl cs o [v]).size = 27024 ∧ col' bc = 1 ∧ (c0 ≠ 2 → o ≠ 2435 → Part P_ea 29 2435 2 w' H col' (spl cs o [v]) V.accts) ∧ (c0 ≠ 3 → o ≠ 2436 → Part P_es 14 2436 3 w' H col' (spl cs o [v]) V.slots) ∧ (c0 ≠ 4 → o ≠ 10629 → Part P_ee 9 10629 4 w' H col' (spl cs o [v]) V.journal) ∧ (c0 ≠ 5 → o ≠ 27016 → Part P_log 22 27016 5 w' H col' (spl cs o [v]) V.logs) ∧ (c0 ≠ 6 → o ≠ 27017 → Part P_et 9 27017 6 w' H col' (spl cs o [v]) V.temps) ∧ (c0 ≠ 7 → o ≠ 27018 → TPart w' col' (spl cs o [v]) V) ∧ (∀ p, p < 4096 → (spl cs o [v])[2437 + p]? = some (.int .i32 (V.atb p))) ∧ (∀ p, p < 4096 → (spl cs o [v])[6533 + p]? = some (.int .i32 (V.stb p))) ∧ (V.marks.length ≤ 16384 → ∀ (i : Nat) m, V.marks[i]? = some m → (spl cs o [v])[10630 + i]? = some (.int .i32 (m : Nat))) ∧ (o ≠ 27014 → (spl cs o [v])[27014]? = some (.int .i32 (V.marks.length : Nat))) ∧ (o ≠ 27015 → (spl cs o [v])[27015]? = some (.int .u64 (V.ref : Nat))) ∧ (spl cs o [v])[27023]? = some (.bool false) := by
  have hM : ∀ k, k = bc → col k = 1 := fun k hk => by rw [hk]; exact m.colC
  refine ⟨m.fz.ch hw.ch (fun b hb hm => by have := m.kept b hb; have := hM b hm; omega), hw.blk, by rw [size_spl]; exact m.size, by rw [g1 bc (by rw [m.colC]; decide)]; exact m.colC, fun h1 h2 => (((m.acc h1).ch hw.ch (fun b hb => by have := hM b hb; omega)).col (fun b hb => by rw [g1 b (by omega)]; exact hb)).cs (sp1 (by omega)), fun h1 h2 => (((m.slo h1).ch hw.ch (fun b hb => by have := hM b hb; omega)).col (fun b hb => by rw [g1 b (by omega)]; exact hb)).cs (sp1 (by omega)), fun h1 h2 => (((m.jou h1).ch hw.ch (fun b hb => by have := hM b hb; omega)).col (fun b hb => by rw [g1 b (by omega)]; exact hb)).cs (sp1 (by omega)), fun h1 h2 => (((m.log h1).ch hw.ch (fun b hb => by have := hM b hb; omega)).col (fun b hb => by rw [g1 b (by omega)]; exact hb)).cs (sp1 (by omega)), fun h1 h2 => (((m.tem h1).ch hw.ch (fun b hb => by have := hM b hb; omega)).col (fun b hb => by rw [g1 b (by omega)]; exact hb)).cs (sp1 (by omega)), fun h1 h2 => (((m.ttb h1).ch hw.ch (fun b hb => by have := hM b hb; omega)).col (fun b hb => by rw [g1 b (by omega)]; exact hb)).cs (sp1 (by omega)), fun p hp => by rw [sp1 (by omega)]; exact m.atb p hp, fun p hp => by rw [sp1 (by omega)]; exact m.stb p hp, fun hml i q hi => ?_, fun h1 => by rw [sp1 (by omega)]; exact m.nmk, fun h1 => by rw [sp1 (by omega)]; exact m.ref, by rw [sp1 (by omega)]; exact m.tb⟩
  have := (List.getElem?_eq_some_iff.1 hi).1
  rw [sp1 (by omega)]
  exact m.mrk i q hi
theorem VLm.layA {xs : List EAcct} (m : VLm 2 w H col bc cs V) (hml : V.marks.length ≤ 16384) (hp : Pend P_ea 29 2 w H col v xs) (hw : Wr w w' bc (spl cs 2435 [v])) : ∃ col', VL w' H col' bc (spl cs 2435 [v]) { V with accts := xs } ∧ ∀ b, col' b = col b ∨ (v.ownBlock = some b ∧ col b = 0) := by
  obtain ⟨col', g1, g2, g3, g4, g5⟩ := hp.lay (cell := 2435) hw (sp0 (by rw [m.size]; decide)) m.colC (by decide) (by decide) m.new m.kept
  obtain ⟨a1, a2, a3, a4, a5, a6, a7, a8, a9, b1, b2, b3, b4, b5, b6, b7⟩ := m.parts hw g1 g2 g3 (by omega)
  exact ⟨col', ⟨a1, a2, a3, a4, g2, g3, g5, a6 (by decide) (by decide), a7 (by decide) (by decide), a8 (by decide) (by decide), a9 (by decide) (by decide), b1 (by decide) (by decide), b2, b3, b4 hml, b5 (by decide), b6 (by decide), b7⟩, g4⟩
theorem VLm.layS {xs : List ESlot} (m : VLm 3 w H col bc cs V) (hml : V.marks.length ≤ 16384) (hp : Pend P_es 14 3 w H col v xs) (hw : Wr w w' bc (spl cs 2436 [v])) : ∃ col', VL w' H col' bc (spl cs 2436 [v]) { V with slots := xs } ∧ ∀ b, col' b = col b ∨ (v.ownBlock = some b ∧ col b = 0) := by
  obtain ⟨col', g1, g2, g3, g4, g5⟩ := hp.lay (cell := 2436) hw (sp0 (by rw [m.size]; decide)) m.colC (by decide) (by decide) m.new m.kept
  obtain ⟨a1, a2, a3, a4, a5, a6, a7, a8, a9, b1, b2, b3, b4, b5, b6, b7⟩ := m.parts hw g1 g2 g3 (by omega)
  exact ⟨col', ⟨a1, a2, a3, a4, g2, g3, a5 (by decide) (by decide), g5, a7 (by decide) (by decide), a8 (by decide) (by decide), a9 (by decide) (by decide), b1 (by decide) (by decide), b2, b3, b4 hml, b5 (by decide), b6 (by decide), b7⟩, g4⟩
theorem VLm.layJ {xs : List EEnt} (m : VLm 4 w H col bc cs V) (hml : V.marks.length ≤ 16384) (hp : Pend P_ee 9 4 w H col v xs) (hw : Wr w w' bc (spl cs 10629 [v])) : ∃ col', VL w' H col' bc (spl cs 10629 [v]) { V with journal := xs } ∧ ∀ b, col' b = col b ∨ (v.ownBlock = some b ∧ col b = 0) := by
  obtain ⟨col', g1, g2, g3, g4, g5⟩ := hp.lay (cell := 10629) hw (sp0 (by rw [m.size]; decide)) m.colC (by decide) (by decide) m.new m.kept
  obtain ⟨a1, a2, a3, a4, a5, a6, a7, a8, a9, b1, b2, b3, b4, b5, b6, b7⟩ := m.parts hw g1 g2 g3 (by omega)
  exact ⟨col', ⟨a1, a2, a3, a4, g2, g3, a5 (by decide) (by decide), a6 (by decide) (by decide), g5, a8 (by decide) (by decide), a9 (by decide) (by decide), b1 (by decide) (by decide), b2, b3, b4 hml, b5 (by decide), b6 (by decide), b7⟩, g4⟩
theorem VLm.layL {xs : List YLog} (m : VLm 5 w H col bc cs V) (hml : V.marks.length ≤ 16384) (hp : Pend P_log 22 5 w H col v xs) (hw : Wr w w' bc (spl cs 27016 [v])) : ∃ col', VL w' H col' bc (spl cs 27016 [v]) { V with logs := xs } ∧ ∀ b, col' b = col b ∨ (v.ownBlock = some b ∧ col b = 0) := by
  obtain ⟨col', g1, g2, g3, g4, g5⟩ := hp.lay (cell := 27016) hw (sp0 (by rw [m.size]; decide)) m.colC (by decide) (by decide) m.new m.kept
  obtain ⟨a1, a2, a3, a4, a5, a6, a7, a8, a9, b1, b2, b3, b4, b5, b6, b7⟩ := m.parts hw g1 g2 g3 (by omega)
  exact ⟨col', ⟨a1, a2, a3, a4, g2, g3, a5 (by decide) (by decide), a6 (by decide) (by decide), a7 (by decide) (by decide), g5, a9 (by decide) (by decide), b1 (by decide) (by decide), b2, b3, b4 hml, b5 (by decide), b6 (by decide), b7⟩, g4⟩
theorem VLm.layT {xs : List ETemp} (m : VLm 6 w H col bc cs V) (hml : V.marks.length ≤ 16384) (hp : Pend P_et 9 6 w H col v xs) (hw : Wr w w' bc (spl cs 27017 [v])) : ∃ col', VL w' H col' bc (spl cs 27017 [v]) { V with temps := xs } ∧ ∀ b, col' b = col b ∨ (v.ownBlock = some b ∧ col b = 0) := by
  obtain ⟨col', g1, g2, g3, g4, g5⟩ := hp.lay (cell := 27017) hw (sp0 (by rw [m.size]; decide)) m.colC (by decide) (by decide) m.new m.kept
  obtain ⟨a1, a2, a3, a4, a5, a6, a7, a8, a9, b1, b2, b3, b4, b5, b6, b7⟩ := m.parts hw g1 g2 g3 (by omega)
  exact ⟨col', ⟨a1, a2, a3, a4, g2, g3, a5 (by decide) (by decide), a6 (by decide) (by decide), a7 (by decide) (by decide), a8 (by decide) (by decide), g5, b1 (by decide) (by decide), b2, b3, b4 hml, b5 (by decide), b6 (by decide), b7⟩, g4⟩
theorem VL.stRef (h : VL w H col bc cs V) (hml : V.marks.length ≤ 16384) {n : Nat} (hw : Wr w w' bc (spl cs 27015 [.int .u64 (n : Nat)])) : VL w' H col bc (spl cs 27015 [.int .u64 (n : Nat)]) { V with ref := n } := by
  obtain ⟨a1, a2, a3, a4, a5, a6, a7, a8, a9, b1, b2, b3, b4, b5, b6, b7⟩ := (h.m 0).parts hw (col' := col) (fun _ _ => rfl) (fun b hb => h.new b (Nat.le_trans hw.ch.size hb)) h.kept (by omega)
  exact ⟨a1, a2, a3, a4, fun b hb => h.new b (Nat.le_trans hw.ch.size hb), h.kept, a5 (by decide) (by decide), a6 (by decide) (by decide), a7 (by decide) (by decide), a8 (by decide) (by decide), a9 (by decide) (by decide), b1 (by decide) (by decide), b2, b3, b4 hml, b5 (by decide), sp0 (by rw [h.size]; decide), b7⟩
theorem VL.stA (h : VL w H col bc cs V) (hml : V.marks.length ≤ 16384) {p o : Nat} {q : Int} (hp : p < 4096) (e : o = 2437 + p) (hw : Wr w w' bc (spl cs o [.int .i32 q])) : VL w' H col bc (spl cs o [.int .i32 q]) { V with atb := updT V.atb p q } := by
  subst e
  have hM : ∀ k, k = bc → col k = 1 := fun k hk => by rw [hk]; exact h.colC
  have hc : ∀ i, i ≠ 2437 + p → (spl cs (2437 + p) [.int .i32 q])[i]? = cs[i]? := fun i hi => sp1 hi
  refine ⟨h.fz.ch hw.ch (fun b hb hm => by have := h.kept b hb; have := hM b hm; omega), hw.blk, by rw [size_spl]; exact h.size, h.colC, fun b hb => h.new b (Nat.le_trans hw.ch.size hb), h.kept, (Part.ch h.acc hw.ch (fun b hb => by have := hM b hb; omega)).cs (hc _ (by omega)), (Part.ch h.slo hw.ch (fun b hb => by have := hM b hb; omega)).cs (hc _ (by omega)), (Part.ch h.jou hw.ch (fun b hb => by have := hM b hb; omega)).cs (hc _ (by omega)), (Part.ch h.log hw.ch (fun b hb => by have := hM b hb; omega)).cs (hc _ (by omega)), (Part.ch h.tem hw.ch (fun b hb => by have := hM b hb; omega)).cs (hc _ (by omega)), (TPart.ch h.ttb hw.ch (fun b hb => by have := hM b hb; omega)).cs (hc _ (by omega)), fun r hr => ?_, fun r hr => by rw [hc _ (by omega)]; exact h.stb r hr, fun i m hi => by rw [hc _ (by omega)]; exact h.mrk i m hi, by rw [hc _ (by omega)]; exact h.nmk, by rw [hc _ (by omega)]; exact h.ref, by rw [hc _ (by omega)]; exact h.tb⟩
  show _ = some (Value.int .i32 (if r = p then q else V.atb r))
  by_cases e : r = p
  · rw [e, if_pos rfl]
    exact sp0 (by rw [h.size]; omega)
  · rw [if_neg e, hc _ (by omega)]
    exact h.atb r hr
theorem VL.stS (h : VL w H col bc cs V) (hml : V.marks.length ≤ 16384) {p o : Nat} {q : Int} (hp : p < 4096) (e : o = 6533 + p) (hw : Wr w w' bc (spl cs o [.int .i32 q])) : VL w' H col bc (spl cs o [.int .i32 q]) { V with stb := updT V.stb p q } := by
  subst e
  have hM : ∀ k, k = bc → col k = 1 := fun k hk => by rw [hk]; exact h.colC
  have hc : ∀ i, i ≠ 6533 + p → (spl cs (6533 + p) [.int .i32 q])[i]? = cs[i]? := fun i hi => sp1 hi
  refine ⟨h.fz.ch hw.ch (fun b hb hm => by have := h.kept b hb; have := hM b hm; omega), hw.blk, by rw [size_spl]; exact h.size, h.colC, fun b hb => h.new b (Nat.le_trans hw.ch.size hb), h.kept, (Part.ch h.acc hw.ch (fun b hb => by have := hM b hb; omega)).cs (hc _ (by omega)), (Part.ch h.slo hw.ch (fun b hb => by have := hM b hb; omega)).cs (hc _ (by omega)), (Part.ch h.jou hw.ch (fun b hb => by have := hM b hb; omega)).cs (hc _ (by omega)), (Part.ch h.log hw.ch (fun b hb => by have := hM b hb; omega)).cs (hc _ (by omega)), (Part.ch h.tem hw.ch (fun b hb => by have := hM b hb; omega)).cs (hc _ (by omega)), (TPart.ch h.ttb hw.ch (fun b hb => by have := hM b hb; omega)).cs (hc _ (by omega)), fun r hr => by rw [hc _ (by omega)]; exact h.atb r hr, fun r hr => ?_, fun i m hi => by rw [hc _ (by omega)]; exact h.mrk i m hi, by rw [hc _ (by omega)]; exact h.nmk, by rw [hc _ (by omega)]; exact h.ref, by rw [hc _ (by omega)]; exact h.tb⟩
  show _ = some (Value.int .i32 (if r = p then q else V.stb r))
  by_cases e : r = p
  · rw [e, if_pos rfl]
    exact sp0 (by rw [h.size]; omega)
  · rw [if_neg e, hc _ (by omega)]
    exact h.stb r hr
end
section
variable {n : Nat} {s : Nat → Value} {w : World} {d : Option Nat} {ty : TypeId} {pos : String} {af : Array Edge} {g : Option (Nat × Bool)}
/-- append of one record to a list of the vault -/
theorem e_appV {α : Type} {P : Cp α} {H : Store} {col : Nat → Nat} {bc c0 cell : Nat} {cs : Array Value} {V : EV} {xs : List α} {y : α} {x z_ : Operand} {T e k q by_ m c : Nat} {z v : Value} {news : List Value} (hU : Hvaa.prog.underlying T = some (.slice e)) (hs : Sz e k) (hz : Zr e z) (hq : By e q) (hzs : z.cells.size = k) (hk : 0 < k)
    (hx : ev n s x = v) (hV : VL w H col bc cs V) (hpt : Part P k cell c0 w H col cs xs) (hcl : cs[cell]? = some v) (h0 : c0 ≠ 0) (h1 : c0 ≠ 1) (hy : ev n s z_ = .slice (some ⟨by_, 0, none⟩) 1 c) (hr : Blk w by_ news.toArray) (hl : news.length = k) (hone : ∀ u ∈ news, u.one1 = true) (hP : P H news y) (hq2 : q ≤ 4096) (hn : xs.length + 1 ≤ 4294967296) :
    Eff n s w ⟨d, .call { callee := .builtin .append, args := #[x, z_], argTypes := #[T, T] }, ty, pos, af, g⟩ (fun v' w' => VLm c0 w' H col bc cs V ∧ Pend P k c0 w' H col v' (xs ++ [y]) ∧ Ch (fun b => col b = c0) w w' ∧ ∀ b, v'.ownBlock = some b → col b = c0 ∨ w.heap.size ≤ b) := by
  obtain ⟨v1, b1, c1, p1, p2, p3⟩ := hpt
  rw [p1] at hcl
  cases hcl
  have hE := e_appGB (d := d) (ty := ty) (pos := pos) (af := af) (g := g) (m := 1) hU hs hz hq hzs hk hx p2.gb hy (by decide) (by rw [Nat.one_mul]; exact hl) (hr.row (RowIn.self news)) hone hq2 hn
  refine hE.mono fun v' w' ⟨bg, cur, h2, h3, h4, h5, h6⟩ => ?_
  have hM : ∀ b, v.ownBlock = some b → col b = c0 := fun b hb => by
    have := (p2.gb.own hb).1
    subst this
    exact p3 hb
  have hc5 : Ch (fun b => col b = c0) w w' := h5.mono (fun b _ hb => hM b hb)
  refine ⟨hV.tr hc5 (fun _ h => h) h0 h1, ⟨bg, cur, p2.app h2 h3 h4 hl hP, fun hb => ?_⟩, hc5, fun b hb => ?_⟩
  · rcases h6 with h6 | h6
    · have hc := hM bg h6
      exact ⟨.inl hc, fun hh => by have := hV.kept _ hh; omega⟩
    · exact ⟨.inr (hV.new bg h6.1), fun hh => by have := hV.fz.lt hh; omega⟩
  · have := (h2.own hb).1
    subst this
    rcases h6 with h6 | h6
    · exact .inl (hM _ h6)
    · exact .inr h6.1
end
end Go.Proofs.YgvaawGreat
