import Derived.Test.YgvaawGreatD8
import Derived.Laws.MakeOwn
set_option linter.unusedSimpArgs false
set_option linter.unusedVariables false
namespace Go.Proofs.YgvaawGreat
open Go
/-! Blocks that no one turns any more: a store H of them. -/
def Store := Nat → Option (Array Value)
def Store.has (H : Store) (b : Nat) : Prop := ∃ cs, H b = some cs
def Store.add (H : Store) (b : Nat) (cs : Array Value) : Store := fun q => if q = b then some cs else H q
/-- a block that can be read -/
def RBlk (w : World) (b : Nat) (cs : Array Value) : Prop := ∃ T f, w.heap[b]? = some (.cells cs T f)
theorem Blk.r {w : World} {b : Nat} {cs : Array Value} (h : Blk w b cs) : RBlk w b cs := by
  obtain ⟨T, h⟩ := h
  exact ⟨T, _, h⟩
theorem RBlk.lt {w : World} {b : Nat} {cs : Array Value} (h : RBlk w b cs) : b < w.heap.size := by
  obtain ⟨T, f, h⟩ := h
  exact (Array.getElem?_eq_some_iff.1 h).1
theorem RBlk.cell {w : World} {b o : Nat} {cs : Array Value} {v : Value} (h : RBlk w b cs) (hv : cs[o]? = some v) : w.cell? ⟨b, o, none⟩ = some v := by
  obtain ⟨T, f, h⟩ := h
  simp [World.cell?, h, hv]
theorem RBlk.ch {M : Nat → Prop} {w w' : World} {b : Nat} {cs : Array Value} (h : RBlk w b cs) (hc : Ch M w w') (hM : ¬ M b) : RBlk w' b cs := by
  have := h.lt
  obtain ⟨T, f, h⟩ := h
  exact ⟨T, f, by rw [hc.block b this hM]; exact h⟩
theorem RBlk.up {w w' : World} {b : Nat} {cs : Array Value} (h : RBlk w b cs) (hc : Up w w') : RBlk w' b cs := h.ch hc (fun h => h)
theorem RBlk.row {w : World} {b o : Nat} {cs : Array Value} {l : List Value} (h : RBlk w b cs) (hl : ∀ i v, l[i]? = some v → cs[o + i]? = some v) : Row w b o l := fun i v hv => h.cell (hl i v hv)
theorem RBlk.same {w : World} {b : Nat} {cs ds : Array Value} (h : RBlk w b cs) (k : Blk w b ds) : cs = ds := by
  obtain ⟨T, f, h⟩ := h
  obtain ⟨T', k⟩ := k
  rw [h] at k
  cases k; rfl
structure Fz (w : World) (H : Store) : Prop where
  blk : ∀ b cs, H b = some cs → RBlk w b cs
theorem Fz.lt {w : World} {H : Store} (h : Fz w H) {b : Nat} (hb : H.has b) : b < w.heap.size := by
  obtain ⟨cs, hb⟩ := hb
  exact (h.blk b cs hb).lt
theorem Fz.up {w w' : World} {H : Store} (h : Fz w H) (u : Up w w') : Fz w' H := ⟨fun b cs hb => (h.blk b cs hb).up u⟩
theorem Fz.ch {M : Nat → Prop} {w w' : World} {H : Store} (h : Fz w H) (c : Ch M w w') (hM : ∀ b, H.has b → ¬ M b) : Fz w' H := ⟨fun b cs hb => (h.blk b cs hb).ch c (hM b ⟨cs, hb⟩)⟩
def Le (H H' : Store) : Prop := ∀ b cs, H b = some cs → H' b = some cs
theorem Le.refl (H : Store) : Le H H := fun _ _ h => h
theorem Le.trans {H1 H2 H3 : Store} (h : Le H1 H2) (k : Le H2 H3) : Le H1 H3 := fun b cs hb => k b cs (h b cs hb)
/-- from w, H to w', H': only blocks of M turned; what is newly kept lies in new blocks -/
structure Go (M : Nat → Prop) (w : World) (H : Store) (w' : World) (H' : Store) : Prop where
  ch : Ch M w w'
  fz : Fz w' H'
  le : Le H H'
  new : ∀ b, H'.has b → H.has b ∨ w.heap.size ≤ b
abbrev No : Nat → Prop := fun _ => False
theorem Go.up {w w' : World} {H H' : Store} (h : Go No w H w' H') : Up w w' := h.ch
theorem Go.refl {M : Nat → Prop} {w : World} {H : Store} (h : Fz w H) : Go M w H w H := ⟨Ch.refl _ _, h, Le.refl _, fun _ h => .inl h⟩
theorem Go.ofUp {w w' : World} {H : Store} (h : Fz w H) (u : Up w w') : Go No w H w' H := ⟨u, h.up u, Le.refl _, fun _ h => .inl h⟩
theorem Go.trans {M N : Nat → Prop} {w1 w2 w3 : World} {H1 H2 H3 : Store} (h : Go M w1 H1 w2 H2) (k : Go N w2 H2 w3 H3) (hN : ∀ b, N b → M b ∨ w1.heap.size ≤ b) : Go M w1 H1 w3 H3 :=
  ⟨h.ch.trans k.ch hN, k.fz, h.le.trans k.le, fun b hb => by
    rcases k.new b hb with hb | hb
    · exact h.new b hb
    · exact .inr (Nat.le_trans h.ch.size hb)⟩
theorem Go.tr {M : Nat → Prop} {w1 w2 w3 : World} {H1 H2 H3 : Store} (h : Go M w1 H1 w2 H2) (k : Go No w2 H2 w3 H3) : Go M w1 H1 w3 H3 := h.trans k (fun _ h => h.elim)
/-- a world step that turns new blocks and those of M alone, none of them kept -/
theorem Go.step {M : Nat → Prop} {w1 w2 w3 : World} {H1 H2 : Store} (h : Go M w1 H1 w2 H2) (c : Ch M w1 w3) (f : Fz w3 H2) : Go M w1 H1 w3 H2 := ⟨c, f, h.le, h.new⟩
/-- a block is kept from now on -/
theorem Go.keep {M : Nat → Prop} {w w' : World} {H H' : Store} (h : Go M w H w' H') {b : Nat} {cs : Array Value} (hb : Blk w' b cs) (hf : w.heap.size ≤ b) (hn : ¬ H'.has b) : Go M w H w' (H'.add b cs) :=
  ⟨h.ch, ⟨fun q ds hq => by
    unfold Store.add at hq
    by_cases e : q = b
    · rw [if_pos e] at hq; cases hq; rw [e]; exact hb.r
    · rw [if_neg e] at hq; exact h.fz.blk q ds hq⟩, fun q ds hq => by
    have h1 := h.le q ds hq
    unfold Store.add
    rw [if_neg (fun e => hn ⟨ds, by rw [← e]; exact h1⟩)]; exact h1, fun q hq => by
    obtain ⟨ds, hq⟩ := hq
    unfold Store.add at hq
    by_cases e : q = b
    · rw [e]; exact .inr hf
    · rw [if_neg e] at hq; exact h.new q ⟨ds, hq⟩⟩
theorem Store.add_get (H : Store) (b : Nat) (cs : Array Value) : H.add b cs b = some cs := by simp [Store.add]
/-! A row of cells in an array. -/
def RowIn (cs : Array Value) (o : Nat) (l : List Value) : Prop := ∀ (i : Nat) (v : Value), l[i]? = some v → cs[o + i]? = some v
theorem RowIn.self (l : List Value) : RowIn l.toArray 0 l := fun i v h => by simpa using h
theorem RowIn.app (l m : List Value) : RowIn (l ++ m).toArray 0 l := fun i v h => by
  have : i < l.length := (List.getElem?_eq_some_iff.1 h).1
  rw [Nat.zero_add, List.getElem?_toArray, List.getElem?_append_left this]; exact h
theorem RowIn.take {cs : Array Value} {o : Nat} {l : List Value} (h : RowIn cs o l) (k : Nat) : RowIn cs o (l.take k) := fun i v hv => by
  rw [List.getElem?_take] at hv
  split at hv
  · exact h i v hv
  · cases hv
theorem RowIn.drop {cs : Array Value} {o : Nat} {l : List Value} (h : RowIn cs o l) (k : Nat) : RowIn cs (o + k) (l.drop k) := fun i v hv => by
  rw [List.getElem?_drop] at hv
  rw [Nat.add_assoc]
  exact h (k + i) v hv
theorem RowIn.row {w : World} {b o : Nat} {cs : Array Value} {l : List Value} (h : RowIn cs o l) (hb : Blk w b cs) : Row w b o l := hb.row h
/-- a slice of n parts of k cells; its cells -/
structure SV (H : Store) (k n : Nat) (v : Value) (l : List Value) : Prop where
  len : l.length = n * k
  at' : ((∃ q, v = .slice q 0 0) ∧ n = 0) ∨ ∃ b o c cs, v = .slice (some ⟨b, o, none⟩) n c ∧ n ≤ c ∧ c < 9223372036854775808 ∧ H b = some cs ∧ RowIn cs o l
theorem SV.mono {H H' : Store} {k n : Nat} {v : Value} {l : List Value} (h : SV H k n v l) (hl : Le H H') : SV H' k n v l := by
  obtain ⟨h1, h2⟩ := h
  refine ⟨h1, ?_⟩
  rcases h2 with h2 | ⟨b, o, c, cs, h2, h3, h4, h5, h6⟩
  · exact .inl h2
  · exact .inr ⟨b, o, c, cs, h2, h3, h4, hl _ _ h5, h6⟩
theorem SV.nil (H : Store) (k : Nat) : SV H k 0 (.slice none 0 0) [] := ⟨by simp, .inl ⟨⟨none, rfl⟩, rfl⟩⟩
/-- as a slice value -/
theorem SV.val {H : Store} {k n : Nat} {v : Value} {l : List Value} (h : SV H k n v l) : ∃ a c, v = .slice a n c ∧ n ≤ c ∧ c < 9223372036854775808 ∧ (a = none → n = 0 ∧ c = 0) := by
  rcases h.at' with ⟨⟨q, h1⟩, h2⟩ | ⟨b, o, c, cs, h1, h2, h3, h4, h5⟩
  · exact ⟨q, 0, by rw [h1, h2], by omega, by omega, fun _ => ⟨h2, rfl⟩⟩
  · exact ⟨_, c, h1, h2, h3, fun e => (by cases e)⟩
/-- where its cells lie -/
theorem SV.at {H : Store} {k n c : Nat} {a : Option Addr} {l : List Value} {w : World} (h : SV H k n (.slice a n c) l) (hw : Fz w H) (hn : 0 < n) : ∃ b o, a = some ⟨b, o, none⟩ ∧ H.has b ∧ Row w b o l := by
  rcases h.at' with ⟨h1, h2⟩ | ⟨b, o, c', cs, h1, h2, h3, h4, h5⟩
  · omega
  · cases h1
    exact ⟨b, o, rfl, ⟨cs, h4⟩, (hw.blk b cs h4).row h5⟩
/-- a block that was made here becomes a slice -/
theorem SV.of {H : Store} {k n c b o : Nat} {cs : Array Value} {l : List Value} (hl : l.length = n * k) (hc : n ≤ c) (h63 : c < 9223372036854775808) (hb : H b = some cs) (hr : RowIn cs o l) : SV H k n (.slice (some ⟨b, o, none⟩) n c) l :=
  ⟨hl, .inr ⟨b, o, c, cs, rfl, hc, h63, hb, hr⟩⟩
/-! Bytes. -/
structure BV (H : Store) (v : Value) (l : List Nat) : Prop where
  sv : SV H 1 l.length v (bL l)
  dig : Dig 256 l
theorem BV.mono {H H' : Store} {v : Value} {l : List Nat} (h : BV H v l) (hl : Le H H') : BV H' v l := ⟨h.sv.mono hl, h.dig⟩
theorem BV.nil (H : Store) : BV H (.slice none 0 0) [] := ⟨SV.nil H 1, Dig.nil 256⟩
/-- no zero at the top -/
def Tr (l : List Nat) : Prop := ∀ d, l.getLast? = some d → d ≠ 0
/-- a natural as yp keeps it -/
structure NV (H : Store) (v : Value) (x : Nat) : Prop where
  ex : ∃ l, BV H v l ∧ val 256 l = x ∧ Tr l
theorem NV.mono {H H' : Store} {v : Value} {x : Nat} (h : NV H v x) (hl : Le H H') : NV H' v x := by
  obtain ⟨l, h1, h2, h3⟩ := h.ex
  exact ⟨l, h1.mono hl, h2, h3⟩
theorem NV.nil (H : Store) : NV H (.slice none 0 0) 0 := ⟨[], BV.nil H, rfl, fun d h => by cases h⟩
theorem tr_len {l : List Nat} {k : Nat} (ht : Tr l) (hv : val 256 l < 256 ^ k) : l.length ≤ k := by
  rcases Nat.lt_or_ge k l.length with h | h
  · exfalso
    rcases List.eq_nil_or_concat l with rfl | ⟨m, d, rfl⟩
    · simp at h
    · rw [List.concat_eq_append] at *
      have h1 : d ≠ 0 := ht d (by simp)
      rw [val_snoc] at hv
      simp only [List.length_append, List.length_cons, List.length_nil] at h
      have h2 : 256 ^ k ≤ 256 ^ m.length := Nat.pow_le_pow_right (by decide) (by omega)
      have h3 : 256 ^ m.length * 1 ≤ 256 ^ m.length * d := Nat.mul_le_mul_left _ (by omega)
      omega
  · exact h
/-! A slice that is being built. -/
theorem size_madeZ (z : Value) (hz : z.one1 = true) (n : Nat) : madeCells #[z] n = (List.replicate n z).toArray := by
  apply Array.ext
  · simp [madeCells]
  · intro i h1 h2
    simp [madeCells, Nat.mod_one]
section
variable {n : Nat} {s : Nat → Value} {w : World} {d : Option Nat} {ty : TypeId} {pos : String} {af : Array Edge} {g : Option (Nat × Bool)}
def By (e q : Nat) : Prop := (Hvaa.prog.info? e).map (·.bytes) = some q
theorem info_of {e k q : Nat} {z : Value} (hs : Sz e k) (hz : Zr e z) (hy : By e q) : ∃ i, Hvaa.prog.info? e = some i ∧ i.size = k ∧ i.bytes = q ∧ i.zero = some z := by
  unfold Sz Zr By at *
  cases hi : Hvaa.prog.info? e with
  | none => simp [hi] at hs
  | some i => simp [hi] at hs hz hy; exact ⟨i, rfl, hs, hy, hz⟩

set_option maxRecDepth 8000 in
theorem e_make {x y : Operand} {T e m k q : Nat} {z : Value} (hU : Hvaa.prog.underlying T = some (.slice e)) (hs : Sz e k) (hz : Zr e z) (hq : By e q) {kl kc : IntKind} (hx : ev n s x = .int kl (m : Nat)) (hy : ev n s y = .int kc (m : Nat))
    (hb : q * m ≤ 281474976710656) (hm : m < 9223372036854775808) :
    Eff n s w ⟨d, .makeSlice T x y, ty, pos, af, g⟩ (fun v w' => ∃ b, v = .slice (some ⟨b, 0, none⟩) m m ∧ New w w' b (madeCells z.cells (m * k))) := by
  refine ⟨fun K Q hK => ?_⟩
  refine (info_of hs hz hq).elim fun i hh => ?_
  have hi := hh.1
  have h2 := hh.2.1
  have h3 := hh.2.2.1
  have h4 := hh.2.2.2
  rw [← h3] at hb
  rw [← h2] at hK
  have hb' : (i.bytes : Int) * (m : Int) ≤ 281474976710656 := by
    have h : ((i.bytes * m : Nat) : Int) ≤ 281474976710656 := by omega
    rwa [Int.natCast_mul] at h
  have hr := run_make (P := Hvaa.prog) w T e i z hU hi h4 kl kc m m (by omega) (Int.le_refl _) hb' (by omega)
  have : (execOp (mk n s).eval ⟨d, .makeSlice T x y, ty, pos, af, g⟩).run Hvaa.prog w = .ok (.value (.slice (some ⟨w.heap.size, 0, none⟩) m m)) (w.alloc (.cells (madeCells z.cells (m * i.size)) e)) := by
    rw [mk_eval']
    simp only [Int.toNat_natCast] at hr
    simp [execOp, hx, hy, hr]
  unfold Oper.wp
  rw [this]
  exact hK _ _ ⟨_, rfl, new_alloc w _ e⟩
/-- append(s, x...) to a slice that was begun here -/
theorem e_append {x y : Operand} {T e k q base m c N : Nat} {z v : Value} {xs news : List Value} {a : Addr} (hU : Hvaa.prog.underlying T = some (.slice e)) (hs : Sz e k) (hz : Zr e z) (hq : By e q) (hzs : z.cells.size = k) (hk : 0 < k)
    (hx : ev n s x = v) (hown : w.ownsRow base e k v N xs) (hy : ev n s y = .slice (some a) m c) (hl : news.length = m * k) (hnews : ∀ j u, news[j]? = some u → w.cell? (a.add j) = some u) (h1 : ∀ u ∈ news, u.oneCell' = true)
    (h63 : N + m ≤ maxLen) (hbytes : (N + m) * q ≤ 140737488355328) (hbase : base ≤ w.heap.size) :
    Eff n s w ⟨d, .call { callee := .builtin .append, args := #[x, y], argTypes := #[T, T] }, ty, pos, af, g⟩ (fun v' w' => w'.ownsRow base e k v' (N + m) (xs ++ news) ∧ Ch (fun b => some b = v.ownBlock) w w') := by
  refine ⟨fun K Q hK => ?_⟩
  obtain ⟨i, hi, h2, h3, h4⟩ := info_of hs hz hq
  obtain ⟨v', w', hr, ho, hg, _⟩ := run_append_own (P := Hvaa.prog) w base T ty e i z k q hU hi h4 h2 h3 hzs hk v N xs hown a m c news hl hnews h1 h63 hbytes hbase
  have : (execOp (mk n s).eval ⟨d, .call { callee := .builtin .append, args := #[x, y], argTypes := #[T, T] }, ty, pos, af, g⟩).run Hvaa.prog w = .ok (.value v') w' := by
    rw [mk_eval']
    simp [execOp, resolve, invoke, builtin, hx, hy, hr]
  unfold Oper.wp
  rw [this]
  obtain ⟨g1, g2, g3, g4, g5⟩ := hg
  exact hK _ _ ⟨ho, ⟨g1, g2, g3, g4, fun b hb hM => g5 b hb hM⟩⟩
theorem foldl_spl (off : Nat) : ∀ (l : List Value) (j : Nat) (cs : Array Value), (l.zipIdx j).foldl (fun cs p => cs.setIfInBounds (off + p.2) p.1) cs = spl cs (off + j) l
  | [], j, cs => rfl
  | v :: l, j, cs => by
    rw [List.zipIdx_cons, List.foldl_cons, foldl_spl off l (j + 1)]
    rfl
theorem fill_one {place : Nat → Option (Nat × Nat)} {cs : Array Value} {i off k : Nat} {v : Value} {rest : List (Nat × Value)} (hp : place i = some (off, k)) (hv : v.cells.size = k) (ho : off + k ≤ cs.size) :
    Instr.fill place cs ((i, v) :: rest) = Instr.fill place (spl cs off v.cells.toList) rest := by
  have h1 : v.cells.zipIdx.foldl (fun cs p => cs.setIfInBounds (off + p.2) p.1) cs = spl cs off v.cells.toList := by
    rw [← Array.foldl_toList, Array.toList_zipIdx]
    have := foldl_spl off v.cells.toList 0 cs
    simpa using this
  rw [Instr.fill, hp]
  simp only [hv]
  rw [if_neg (by simp; omega)]
  rw [← h1]
/-- []T{x} -/
theorem e_slice1 {x : Operand} {T e k : Nat} {z v : Value} (hU : Hvaa.prog.underlying T = some (.slice e)) (hs : Sz e (k + 1)) (hz : Zr e z) (hzs : z.cells.size = k + 1) (hk : k < 16777216) (hx : ev n s x = v) (hv : v.cells.size = k + 1) :
    Eff n s w ⟨d, .buildSlice T 1 #[(0, x)], ty, pos, af, g⟩ (fun u w' => ∃ b, u = .slice (some ⟨b, 0, none⟩) 1 1 ∧ New w w' b v.cells) := by
  refine ⟨fun K Q hK => ?_⟩
  have hf : Instr.fill (fun i => some (i * (k + 1), k + 1)) ((Array.range (k + 1)).map (z.cells[· % z.cells.size]!)) [(0, v)] = some v.cells := by
    rw [fill_one (off := 0) (k := k + 1) (by simp) hv (by simp), Instr.fill]
    rw [spl_full _ _ (by simp [hv])]
  have : (execOp (mk n s).eval ⟨d, .buildSlice T 1 #[(0, x)], ty, pos, af, g⟩).run Hvaa.prog w = .ok (.value (.slice (some ⟨w.heap.size, 0, none⟩) 1 1)) (w.alloc (.cells v.cells e)) := by
    rw [mk_eval']
    have : ¬ 16777216 < k + 1 := by omega
    simp [execOp, Instr.buildSlice, run_underlying hU, run_sizeOf hs, run_zero hz, hx, newRow, hf, this]
  unfold Oper.wp
  rw [this]
  exact hK _ _ ⟨_, rfl, new_alloc w _ e⟩
end
section
variable {S : World → Prop} {n : Nat} {s : Nat → Value} {d : Option Nat} {ty : TypeId} {pos : String} {af : Array Edge} {g : Option (Nat × Bool)}
theorem y_idxSa {x y : Operand} {T e k b o len cap : Nat} {a : Option Addr} {K : IntKind} {i : Nat} (ha : a = some ⟨b, o, none⟩) (hU : Hvaa.prog.underlying T = some (.slice e)) (hs : Sz e k) (hx : ev n s x = .slice a len cap) (hy : ev n s y = .int K (i : Nat)) (h1 : i < len) :
    Yv S n s ⟨d, .indexAddr T x y, ty, pos, af, g⟩ (.pointer (some ⟨b, o + i * k, none⟩)) := by
  subst ha
  exact y_idxS hU hs hx hy (by omega) (by omega)
theorem y_slS011n {T e k len cap : Nat} {x h m : Operand} {kh km : IntKind} {j p : Nat} {a : Option Addr} (hU : Hvaa.prog.underlying T = some (.slice e)) (hs : Sz e k) (hx : ev n s x = .slice a len cap) (hh : ev n s h = .int kh (j : Nat)) (hm : ev n s m = .int km (p : Nat)) (c4 : j ≤ p) (c6 : p ≤ cap) :
    Yv S n s ⟨d, .slice T x none (some h) (some m), ty, pos, af, g⟩ (.slice a j p) := by
  have := y_slS011 (S := S) (d := d) (ty := ty) (pos := pos) (af := af) (g := g) hU hs hx hh hm (by omega) (by omega) (by omega) (by omega)
  simpa using this
end
/-! Bytes in a world: a slice whose block is older than s0. -/
structure WV (s0 : Nat) (w : World) (v : Value) (l : List Nat) : Prop where
  dig : Dig 256 l
  at' : ((∃ q, v = .slice q 0 0) ∧ l = []) ∨ ∃ b o c, v = .slice (some ⟨b, o, none⟩) l.length c ∧ b < s0 ∧ l.length ≤ c ∧ c < 9223372036854775808 ∧ Row w b o (bL l)
theorem WV.ch {s0 : Nat} {M : Nat → Prop} {w w' : World} {v : Value} {l : List Nat} (h : WV s0 w v l) (c : Ch M w w') (hM : ∀ b, M b → s0 ≤ b) : WV s0 w' v l := by
  obtain ⟨h1, h2⟩ := h
  refine ⟨h1, ?_⟩
  rcases h2 with h2 | ⟨b, o, q, h2, h3, h4, h5, h6⟩
  · exact .inl h2
  · exact .inr ⟨b, o, q, h2, h3, h4, h5, h6.ch c (fun hm => by have := hM b hm; omega)⟩
theorem WV.up {s0 : Nat} {w w' : World} {v : Value} {l : List Nat} (h : WV s0 w v l) (c : Up w w') : WV s0 w' v l := h.ch c (fun _ h => h.elim)
theorem WV.mono {s0 s1 : Nat} {w : World} {v : Value} {l : List Nat} (h : WV s0 w v l) (hs : s0 ≤ s1) : WV s1 w v l := by
  obtain ⟨h1, h2⟩ := h
  refine ⟨h1, ?_⟩
  rcases h2 with h2 | ⟨b, o, q, h2, h3, h4⟩
  · exact .inl h2
  · exact .inr ⟨b, o, q, h2, by omega, h4⟩
theorem BV.wv {w : World} {H : Store} {v : Value} {l : List Nat} (h : BV H v l) (hw : Fz w H) : WV w.heap.size w v l := by
  refine ⟨h.dig, ?_⟩
  rcases h.sv.at' with ⟨h1, h2⟩ | ⟨b, o, c, cs, h1, h2, h3, h4, h5⟩
  · exact .inl ⟨h1, List.eq_nil_of_length_eq_zero h2⟩
  · exact .inr ⟨b, o, c, h1, (hw.blk b cs h4).lt, h2, h3, (hw.blk b cs h4).row h5⟩
theorem WV.val {s0 : Nat} {w : World} {v : Value} {l : List Nat} (h : WV s0 w v l) : ∃ a c, v = .slice a l.length c ∧ l.length ≤ c ∧ c < 9223372036854775808 := by
  rcases h.at' with ⟨⟨q, h1⟩, h2⟩ | ⟨b, o, c, h1, h2, h3, h4, h5⟩
  · exact ⟨q, 0, by rw [h1, h2]; rfl, by rw [h2]; decide, by decide⟩
  · exact ⟨_, c, h1, h3, h4⟩
theorem WV.at {s0 c : Nat} {w : World} {a : Option Addr} {l : List Nat} (h : WV s0 w (.slice a l.length c) l) (hn : 0 < l.length) : ∃ b o, a = some ⟨b, o, none⟩ ∧ b < s0 ∧ Row w b o (bL l) := by
  rcases h.at' with ⟨h1, h2⟩ | ⟨b, o, c', h1, h2, h3, h4, h5⟩
  · rw [h2] at hn; exact absurd hn (by decide)
  · cases h1; exact ⟨b, o, rfl, h2, h5⟩
theorem WV.take {s0 c k : Nat} {w : World} {a : Option Addr} {l : List Nat} (h : WV s0 w (.slice a l.length c) l) (hk : k ≤ l.length) : WV s0 w (.slice a k k) (l.take k) := by
  refine ⟨h.dig.take k, ?_⟩
  rcases h.at' with ⟨h1, h2⟩ | ⟨b, o, c', h1, h2, h3, h4, h5⟩
  · subst h2
    have : k = 0 := by simpa using hk
    subst this
    exact .inl ⟨⟨a, rfl⟩, rfl⟩
  · cases h1
    refine .inr ⟨b, o, k, by simp [Nat.min_eq_left hk], h2, by simp [Nat.min_eq_left hk], by omega, ?_⟩
    intro i v hv
    refine h5 i v ?_
    simp only [bL, List.map_take, List.getElem?_take] at hv
    split at hv
    · exact hv
    · cases hv
theorem row_byte {w : World} {b o : Nat} {l : List Nat} (h : Row w b o (bL l)) {i : Nat} (hi : i < l.length) : w.cell? ⟨b, o + i * 1, none⟩ = some (.int .u8 (l[i] : Nat)) := by
  rw [Nat.mul_one]; exact h i _ (get_bL l i hi)
theorem WV.ofBlk {s0 b c : Nat} {w : World} {l r : List Nat} (h : Blk w b (bL l ++ bL r).toArray) (hd : Dig 256 l) (hb : b < s0) (hc : l.length ≤ c) (h63 : c < 9223372036854775808) : WV s0 w (.slice (some ⟨b, 0, none⟩) l.length c) l := by
  refine ⟨hd, .inr ⟨b, 0, c, rfl, hb, hc, h63, h.row (fun i v hv => ?_)⟩⟩
  have : i < (bL l).length := (List.getElem?_eq_some_iff.1 hv).1
  rw [Nat.zero_add, List.getElem?_toArray, List.getElem?_append_left this]; exact hv
end Go.Proofs.YgvaawGreat
