import Derived.Test.YgvaawGreatY16
set_option maxRecDepth 100000
set_option linter.unusedSimpArgs false
set_option linter.unusedVariables false
namespace Go.Proofs.YgvaawGreat
open Go
theorem orI {a b c d : Prop} (h : a ∨ b) (f : a → c) (g : b → d) : c ∨ d := by
  rcases h with h | h
  · exact .inl (f h)
  · exact .inr (g h)
theorem pwI {α : Type} {R S : α → α → Prop} {l : List α} (h : l.Pairwise R) (f : ∀ {a b : α}, R a b → S a b) : l.Pairwise S := by
  induction h with
  | nil => exact .nil
  | cons h1 _ ih => exact .cons (fun b hb => f (h1 b hb)) ih
theorem then_ret {K : Act → World → Prop} {Q : Exit → Act → World → Prop} {a : Act} {w : World} (h : Q .ret a w) : Exit.then K Q .ret a w := h
/-! Rows in a block that is turned. -/
theorem RowIn.lt {cs : Array Value} {o : Nat} {l : List Value} (h : RowIn cs o l) {j : Nat} (hj : j < l.length) : o + j < cs.size :=
  (Array.getElem?_eq_some_iff.1 (h j _ (List.getElem?_eq_getElem hj))).1
theorem RowIn.le {cs : Array Value} {o : Nat} {l : List Value} (h : RowIn cs o l) (hl : 0 < l.length) : o + l.length ≤ cs.size := by
  have := h.lt (j := l.length - 1) (by omega)
  omega
/-- one cell of the row is turned -/
theorem RowIn.put {cs : Array Value} {o : Nat} {l : List Value} (h : RowIn cs o l) (j : Nat) {v : Value} {l' : List Value} (e : l.set j v = l') : RowIn (spl cs (o + j) [v]) o l' := by
  subst e
  intro i u hu
  show (cs.setIfInBounds (o + j) v)[o + i]? = some u
  rw [List.getElem?_set] at hu
  by_cases hij : j = i
  · subst hij
    rw [if_pos rfl] at hu
    split at hu
    · rename_i hl
      rw [Array.getElem?_setIfInBounds_self, if_pos (h.lt hl)]; exact hu
    · cases hu
  · rw [if_neg hij] at hu
    rw [Array.getElem?_setIfInBounds_ne (by omega)]
    exact h i u hu
/-- a cell beside the row is turned -/
theorem RowIn.off {cs : Array Value} {o k : Nat} {l : List Value} {v : Value} (h : RowIn cs o l) (hk : k < o ∨ o + l.length ≤ k) : RowIn (spl cs k [v]) o l := by
  intro i u hu
  have hi : i < l.length := (List.getElem?_eq_some_iff.1 hu).1
  show (cs.setIfInBounds k v)[o + i]? = some u
  rw [Array.getElem?_setIfInBounds_ne (by omega)]
  exact h i u hu
/-- cells beside the row are turned -/
theorem RowIn.offs {cs : Array Value} {o k : Nat} {l vs : List Value} (h : RowIn cs o l) (hz : k + vs.length ≤ cs.size) (hk : k + vs.length ≤ o ∨ o + l.length ≤ k) : RowIn (spl cs k vs) o l := by
  intro i u hu
  have hi : i < l.length := (List.getElem?_eq_some_iff.1 hu).1
  rw [get_spl_out hz (by omega)]
  exact h i u hu
theorem RowIn.puts {cs : Array Value} {o : Nat} {vs : List Value} (hz : o + vs.length ≤ cs.size) : RowIn (spl cs o vs) o vs := fun i v hv => get_spl_in hz hv
theorem RowIn.cast {cs : Array Value} {o o' : Nat} {l : List Value} (h : RowIn cs o l) (e : o = o') : RowIn cs o' l := e ▸ h
theorem RowIn.part {cs : Array Value} {o j : Nat} {l m r : List Value} (h : RowIn cs o (l ++ m ++ r)) (hj : l.length = j) : RowIn cs (o + j) m := by
  subst hj
  intro i u hu
  have hi : i < m.length := (List.getElem?_eq_some_iff.1 hu).1
  rw [Nat.add_assoc]
  refine h (l.length + i) u ?_
  rw [List.append_assoc, List.getElem?_append_right (by omega), show l.length + i - l.length = i by omega, List.getElem?_append_left hi]; exact hu
theorem Blk.rput {w : World} {b o : Nat} {cs : Array Value} {l l' : List Value} {v : Value} {k : Nat} (h : Blk w b (spl cs k [v])) (r : RowIn cs o l) (j : Nat) (e : l.set j v = l') (hk : k = o + j := by omega) : RowIn (spl cs k [v]) o l' := by subst hk; exact r.put j e
theorem Blk.rputo {w : World} {b o : Nat} {cs : Array Value} {l : List Value} {v : Value} {k : Nat} (h : Blk w b (spl cs k [v])) (r : RowIn cs o l) (hk : k < o ∨ o + l.length ≤ k) : RowIn (spl cs k [v]) o l := r.off hk
theorem Blk.rset {w : World} {b o : Nat} {cs : Array Value} {l l' : List Value} {v : Value} {k : Nat} (h : Blk w b (cs.setIfInBounds k v)) (r : RowIn cs o l) (j : Nat) (e : l.set j v = l') (hk : k = o + j := by omega) : RowIn (cs.setIfInBounds k v) o l' := by subst hk; exact r.put j e
theorem Blk.rseto {w : World} {b o : Nat} {cs : Array Value} {l : List Value} {v : Value} {k : Nat} (h : Blk w b (cs.setIfInBounds k v)) (r : RowIn cs o l) (hk : k < o ∨ o + l.length ≤ k) : RowIn (cs.setIfInBounds k v) o l := r.off hk
section
variable {S : World → Prop} {n : Nat} {s : Nat → Value} {d : Option Nat} {ty : TypeId} {pos : String} {af : Array Edge} {g : Option (Nat × Bool)}
theorem y_slS100n {T e k b o len cap i : Nat} {x l : Operand} {kl : IntKind} (hU : Hvaa.prog.underlying T = some (.slice e)) (hs : Sz e k) (hx : ev n s x = .slice (some ⟨b, o, none⟩) len cap) (hl : ev n s l = .int kl (i : Nat)) (c2 : i ≤ len) (c7 : i < cap) :
    Yv S n s ⟨d, .slice T x (some l) none none, ty, pos, af, g⟩ (.slice (some ⟨b, o + i * k, none⟩) (len - i) (cap - i)) := by
  have := y_slS100 (S := S) (d := d) (ty := ty) (pos := pos) (af := af) (g := g) hU hs hx hl (by omega) (by omega) (by omega)
  simpa using this
theorem run_equalS {T e k c : Nat} {a : Option Addr} (hU : Hvaa.prog.underlying T = some (.slice e)) (w : World) : (Op.equal T (.slice a k c) (.slice none 0 0)).run Hvaa.prog w = .ok a.isNone w := by
  unfold Op.equal
  rw [show Op.maxDepth = 9999 + 1 from rfl]
  unfold Op.equalIn
  cases a <;> simp [run_underlying hU]
/-- a slice beside nil -/
theorem y_eqlNS {x y : Operand} {T T' e k c : Nat} {a : Option Addr} (hU : Hvaa.prog.underlying T = some (.slice e)) (hx : ev n s x = .slice a k c) (hy : ev n s y = .slice none 0 0) : Yv S n s ⟨d, .binOp .eql T x y T', ty, pos, af, g⟩ (.bool a.isNone) := fun w _ => by
  simp [execOp, hx, hy, eqGuard, binOp, run_equalS hU]
end
theorem WV.empty0 {s0 k c : Nat} {w : World} {a : Option Addr} {l : List Nat} (h : WV s0 w (.slice a k c) l) (ha : a.isNone = true) : l = [] := by
  rcases h.at' with ⟨h1, h2⟩ | ⟨b, o, c', h1, _⟩
  · exact h2
  · cases h1; cases ha
theorem OB.bv {M : Nat → Prop} {w w' : World} {H : Store} {v : Value} {l : List Nat} (h : OB w w' v l) (g : Go M w H w' H) (hF : Fz w H) : ∃ H2, Go M w H w' H2 ∧ BV H2 v l := by
  obtain ⟨H2, g2, _, b2⟩ := h.fb.keep g (fun b hb => hF.lt hb)
  exact ⟨H2, g2, b2⟩
section
variable {n : Nat} {s : Nat → Value} {w : World} {d : Option Nat} {ty : TypeId} {pos : String} {af : Array Edge} {g : Option (Nat × Bool)}
/-- copy of records that lie in another block -/
theorem e_copyK {x y : Operand} {T T' e k b o b2 o2 dl dc sl sc : Nat} {cs : Array Value} {l : List Value} (hU : Hvaa.prog.underlying T = some (.slice e)) (hs : Sz e k) (hx : ev n s x = .slice (some ⟨b, o, none⟩) dl dc) (hy : ev n s y = .slice (some ⟨b2, o2, none⟩) sl sc)
    (hl : l.length = min sl dl * k) (hr : Row w b2 o2 l) (h1 : ∀ v ∈ l, v.one1 = true) (hb : Blk w b cs) (ho : o + l.length ≤ cs.size) :
    Eff n s w ⟨d, .call { callee := .builtin .copy, args := #[x, y], argTypes := #[T, T'] }, ty, pos, af, g⟩ (fun v w' => v = .int .i64 (min sl dl : Nat) ∧ Wr w w' b (spl cs o l)) := by
  refine ⟨fun K Q hK => ?_⟩
  obtain ⟨Tb, hb⟩ := hb
  obtain ⟨w', g1, g2, g3, g4⟩ := run_storeCells_blk b Tb l w cs o 0 hb (by omega) h1
  have hc : (loadCells ⟨b2, o2, none⟩ l.length).run Hvaa.prog w = .ok l.toArray w :=
    run_loadCells_list (P := Hvaa.prog) w ⟨b2, o2, none⟩ l (fun j v h => by rw [addr_add]; exact hr j v h)
  rw [hl] at hc
  have : (execOp (mk n s).eval ⟨d, .call { callee := .builtin .copy, args := #[x, y], argTypes := #[T, T'] }, ty, pos, af, g⟩).run Hvaa.prog w = .ok (.value (.int .i64 (min sl dl : Nat))) w' := by
    rw [mk_eval']
    have e1 : Nat.min sl dl = min sl dl := rfl
    simp [execOp, resolve, invoke, builtin, Builtin.copy_, Builtin.lenOf, Builtin.firstCells, hx, hy, run_underlying hU, run_sizeOf hs, goInt, e1, hc, g1, hl]
  unfold Oper.wp
  rw [this]
  exact hK _ _ ⟨rfl, g3, ⟨Tb, by simpa using g2⟩, g4⟩
/-- a row at an address, or nothing -/
def RowA (w : World) (a : Addr) (l : List Value) : Prop := l = [] ∨ (a.spot = none ∧ Row w a.block a.off l)
theorem RowA.up {w w' : World} {a : Addr} {l : List Value} (h : RowA w a l) (u : Up w w') : RowA w' a l := orI h id (fun h => ⟨h.1, h.2.up u⟩)
theorem RowA.at {w : World} {a : Addr} {l : List Value} (h : RowA w a l) : ∀ (j : Nat) v, l[j]? = some v → w.cell? (a.add j) = some v := fun j v hv => by
  rcases h with h | ⟨h1, h2⟩
  · rw [h] at hv; simp at hv
  · obtain ⟨b, o, sp⟩ := a
    have h1 : sp = none := h1
    subst h1
    rw [addr_add]
    exact h2 j v hv
theorem e_copyKA {x y : Operand} {T T' e k b o dl dc sl sc : Nat} {a2 : Addr} {cs : Array Value} {l : List Value} (hU : Hvaa.prog.underlying T = some (.slice e)) (hs : Sz e k) (hx : ev n s x = .slice (some ⟨b, o, none⟩) dl dc) (hy : ev n s y = .slice (some a2) sl sc)
    (hl : l.length = min sl dl * k) (hr : RowA w a2 l) (h1 : ∀ v ∈ l, v.one1 = true) (hb : Blk w b cs) (ho : o + l.length ≤ cs.size) :
    Eff n s w ⟨d, .call { callee := .builtin .copy, args := #[x, y], argTypes := #[T, T'] }, ty, pos, af, g⟩ (fun v w' => v = .int .i64 (min sl dl : Nat) ∧ Wr w w' b (spl cs o l)) := by
  refine ⟨fun K Q hK => ?_⟩
  obtain ⟨Tb, hb⟩ := hb
  obtain ⟨w', g1, g2, g3, g4⟩ := run_storeCells_blk b Tb l w cs o 0 hb (by omega) h1
  have hc : (loadCells a2 l.length).run Hvaa.prog w = .ok l.toArray w := run_loadCells_list (P := Hvaa.prog) w a2 l (fun j v h => hr.at j v h)
  rw [hl] at hc
  have : (execOp (mk n s).eval ⟨d, .call { callee := .builtin .copy, args := #[x, y], argTypes := #[T, T'] }, ty, pos, af, g⟩).run Hvaa.prog w = .ok (.value (.int .i64 (min sl dl : Nat))) w' := by
    rw [mk_eval']
    have e1 : Nat.min sl dl = min sl dl := rfl
    simp [execOp, resolve, invoke, builtin, Builtin.copy_, Builtin.lenOf, Builtin.firstCells, hx, hy, run_underlying hU, run_sizeOf hs, goInt, e1, hc, g1, hl]
  unfold Oper.wp
  rw [this]
  exact hK _ _ ⟨rfl, g3, ⟨Tb, by simpa using g2⟩, g4⟩
/-- append of one record to a full list of kept ones: a new block -/
theorem e_appK {α : Type} {P : Cp α} {H : Store} {x y : Operand} {T e k q by_ : Nat} {a : Option Addr} {z : Value} {xs : List α} {c : List Value} {u : α} (hU : Hvaa.prog.underlying T = some (.slice e)) (hs : Sz e k) (hz : Zr e z) (hq : By e q) (hzs : z.cells.size = k) (hk : 0 < k)
    {m : Nat} (hm : m = xs.length) (hx : ev n s x = .slice a m m) (hF : Fz w H) (hL : LV P k H (.slice a m m) xs) (hy : ev n s y = .slice (some ⟨by_, 0, none⟩) 1 1) (hc : c.length = k) (hr : Blk w by_ c.toArray) (h1 : ∀ u ∈ c, u.one1 = true) (hP : P H c u) (hq2 : q ≤ 4096) (hn : xs.length ≤ 4294967296) :
    Eff n s w ⟨d, .call { callee := .builtin .append, args := #[x, y], argTypes := #[T, T] }, ty, pos, af, g⟩ (fun v' w' => GL P H w.heap.size e k w'.heap.size w' v' (xs ++ [u]) ∧ Up w w') := by
  subst hm
  have hb2 : (xs.length + 1) * q ≤ 140737488355328 := by
    have := Nat.mul_le_mul (show xs.length + 1 ≤ 4294967297 by omega) hq2
    omega
  obtain ⟨i, hi, g2, g3, g4⟩ := info_of hs hz hq
  have hnews : ∀ (j : Nat) u, c[j]? = some u → w.cell? ((⟨by_, 0, none⟩ : Addr).add j) = some u := fun j u hu => by
    rw [addr_add]; exact hr.cell (by simpa using hu)
  obtain ⟨cs, hsv, hcl, hcp⟩ := hL.ex
  have hck : ∀ c ∈ cs, c.length = k := fun q hq => by
    obtain ⟨j, hj, e⟩ := List.getElem_of_mem hq
    exact (hcp j q xs[j] (by rw [List.getElem?_eq_getElem hj, e]) (List.getElem?_eq_getElem (by omega))).1
  have fin : ∀ (old : Nat) (cc : Nat), cc = grownCap w (xs.length + 1) old e →
      GL P H w.heap.size e k (w.drew.alloc (.cells (cs.flatten.toArray ++ c.toArray ++ Builtin.zeroCells z.cells (cc - (xs.length + 1))) e)).heap.size (w.drew.alloc (.cells (cs.flatten.toArray ++ c.toArray ++ Builtin.zeroCells z.cells (cc - (xs.length + 1))) e)) (.slice (some ⟨w.heap.size, 0, none⟩) (xs.length + 1) cc) (xs ++ [u]) ∧ Up w (w.drew.alloc (.cells (cs.flatten.toArray ++ c.toArray ++ Builtin.zeroCells z.cells (cc - (xs.length + 1))) e)) := by
    intro old cc hcc
    have hge := grownCap_ge w (xs.length + 1) old e
    have hcm : grownCap w (xs.length + 1) old e ≤ maxLen := grownCap_le_maxLen w (xs.length + 1) old e (by unfold maxLen; omega)
    rw [← hcc] at hge hcm
    have hlen : (cs ++ [c]).flatten.length = (xs.length + 1) * k := by
      rw [List.flatten_append, List.length_append, hsv.len, List.flatten_singleton, hc, Nat.add_mul, Nat.one_mul]
    refine ⟨⟨cs ++ [c], ⟨?_, ?_, ?_⟩, by simp [hcl], ?_⟩, ⟨rfl, rfl, rfl, by simp, fun b hb _ => heap_alloc_old w.drew _ hb⟩⟩
    · rw [show (cs ++ [c]).length = xs.length + 1 by simp [hcl]]
      refine ⟨hlen, .inr ⟨w.heap.size, cc, _, rfl, Nat.le_refl _, heap_alloc_new w.drew _, hge, hcm, ?_, ?_⟩⟩
      · simp only [Array.size_append, List.size_toArray, size_zeroCells, hzs, hsv.len, hc]
        rw [show xs.length * k + k = (xs.length + 1) * k by rw [Nat.add_mul, Nat.one_mul], ← Nat.add_mul]
        congr 1
        omega
      · rw [List.flatten_append, List.flatten_singleton] at hlen ⊢
        simp only [Array.toList_append]
        rw [← hlen]
        exact List.take_left
    · intro c' hc'
      rcases List.mem_append.1 hc' with h | h
      · exact hck c' h
      · rw [List.mem_singleton.1 h]; exact hc
    · intro r hr'
      cases hr'
      exact ⟨Nat.le_refl _, by simp⟩
    · intro j c' x' hc' hx'
      by_cases hj : j < cs.length
      · rw [List.getElem?_append_left hj] at hc'
        rw [List.getElem?_append_left (by omega)] at hx'
        exact hcp j c' x' hc' hx'
      · rw [List.getElem?_append_right (by omega)] at hc'
        rw [List.getElem?_append_right (by omega)] at hx'
        have h0 : j - cs.length = 0 := by
          have := (List.getElem?_eq_some_iff.1 hc').1
          simpa using this
        rw [h0] at hc'
        rw [show j - xs.length = 0 by omega] at hx'
        simp at hc' hx'
        rw [← hc', ← hx']
        exact ⟨hc, hP⟩
  subst g2 g3
  have hl' : c.length = 1 * i.size := by rw [hc, Nat.one_mul]
  have go : ∃ v' w', (Builtin.append_ #[T, T] ty #[.slice a xs.length xs.length, .slice (some ⟨by_, 0, none⟩) 1 1]).run Hvaa.prog w = .ok v' w' ∧ GL P H w.heap.size e i.size w'.heap.size w' v' (xs ++ [u]) ∧ Up w w' := by
    rcases hsv.at' with ⟨e1, e2⟩ | ⟨b, o, c', ds, e1, e2, e3, e4, e5⟩
    · have hx0 : xs = [] := List.eq_nil_of_length_eq_zero e2
      subst hx0
      have hc0 : cs = [] := List.eq_nil_of_length_eq_zero hcl
      subst hc0
      cases a with
      | some aq =>
        have hr2 := run_append_grow (P := Hvaa.prog) w T ty e i z hU hi g4 aq 0 0 [] (by simp) (fun j v hv => by simp at hv) ⟨by_, 0, none⟩ 1 1 c hl' hnews (by omega) (by omega) (growslice_fits (by omega) hb2)
        exact ⟨_, _, hr2, fin 0 _ rfl⟩
      | none =>
        have hr2 := run_append_nil (P := Hvaa.prog) w T ty e i z hU hi g4 ⟨by_, 0, none⟩ 1 1 c hl' hnews (by decide) (by decide) (by simp at hb2 ⊢; omega)
        have := fin 0 (grownCap w 1 0 e) rfl
        refine ⟨_, _, hr2, ?_⟩
        simpa using this
    · cases e1
      have hr2 := run_append_grow (P := Hvaa.prog) w T ty e i z hU hi g4 ⟨b, o, none⟩ xs.length xs.length cs.flatten hsv.len (fun j v hv => by rw [addr_add]; exact ((hF.blk b ds e4).row e5) j v hv) ⟨by_, 0, none⟩ 1 1 c hl' hnews (by omega) (by omega) (growslice_fits (by omega) hb2)
      exact ⟨_, _, hr2, fin xs.length _ rfl⟩
  obtain ⟨v', w', hrun, hg⟩ := go
  refine ⟨fun K Q hK => ?_⟩
  have : (execOp (mk n s).eval ⟨d, .call { callee := .builtin .append, args := #[x, y], argTypes := #[T, T] }, ty, pos, af, g⟩).run Hvaa.prog w = .ok (.value v') w' := by
    rw [mk_eval']
    simp [execOp, resolve, invoke, builtin, hx, hy, hrun]
  unfold Oper.wp
  rw [this]
  exact hK _ _ hg
end
end Go.Proofs.YgvaawGreat
