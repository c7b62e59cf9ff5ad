import Derived.Test.YgvaawGreatEW
set_option maxRecDepth 100000
set_option linter.unusedSimpArgs false
set_option linter.unusedVariables false
namespace Go.Proofs.YgvaawGreat
open Go
/-! What a vault means: a world as functions. -/
structure AW where
  nonce : Nat → Nat
  bal : Nat → Nat
  code : Nat → List Nat
  slot : Nat → Nat → Nat
  warmA : Nat → Bool
  warmS : Nat → Nat → Bool
  refund : Nat
  logs : List YLog
  temp : Nat → Nat → Nat
  made : Nat → Bool
  gone : Nat → Bool
def fset {β : Type} (f : Nat → β) (a : Nat) (v : β) : Nat → β := fun b => if b = a then v else f b
def fset2 {β : Type} (f : Nat → Nat → β) (a k : Nat) (v : β) : Nat → Nat → β := fun b q => if b = a ∧ q = k then v else f b q
def blankA (a : Nat) : EAcct := ⟨a, 0, 0, [], false, false, false⟩
def blankS (i k : Nat) : ESlot := ⟨i, k, 0, 0, false⟩
def blankT (i k : Nat) : ETemp := ⟨i, k, 0⟩
def aKs (l : List EAcct) : List Nat := l.map (fun x => x.addr)
def sKs (l : List ESlot) : List (Nat × Nat) := l.map (fun x => (x.acct, x.key))
def tKs (l : List ETemp) : List (Nat × Nat) := l.map (fun x => (x.acct, x.key))
def ai (V : EV) (a : Nat) : Nat := (aKs V.accts).idxOf a
def ax (V : EV) (a : Nat) : EAcct := (V.accts[ai V a]?).getD (blankA a)
def si (V : EV) (i k : Nat) : Nat := (sKs V.slots).idxOf (i, k)
def sx (V : EV) (a k : Nat) : ESlot := (V.slots[si V (ai V a) k]?).getD (blankS 0 k)
def ti (V : EV) (i k : Nat) : Nat := (tKs V.temps).idxOf (i, k)
def tx (V : EV) (a k : Nat) : ETemp := (V.temps[ti V (ai V a) k]?).getD (blankT 0 k)
def hasA (V : EV) (a : Nat) : Prop := a ∈ aKs V.accts
def hasS (V : EV) (a k : Nat) : Prop := hasA V a ∧ (ai V a, k) ∈ sKs V.slots
def hasT (V : EV) (a k : Nat) : Prop := hasA V a ∧ (ai V a, k) ∈ tKs V.temps
def absV (V : EV) : AW where
  nonce a := (ax V a).nonce
  bal a := (ax V a).bal
  code a := (ax V a).code
  slot a k := (sx V a k).val
  warmA a := (ax V a).warm
  warmS a k := (sx V a k).warm
  refund := V.ref
  logs := V.logs
  temp a k := (tx V a k).val
  made a := (ax V a).made
  gone a := (ax V a).gone
def ogV (V : EV) : Nat → Nat → Nat := fun a k => (sx V a k).orig
theorem idx_get {α : Type} [BEq α] [LawfulBEq α] {l : List α} {a : α} (h : a ∈ l) : l[l.idxOf a]? = some a := by
  have hlt := List.idxOf_lt_length_iff.2 h
  rw [List.getElem?_eq_getElem hlt, List.getElem_idxOf hlt]
theorem aKs_get {l : List EAcct} {i a : Nat} : (aKs l)[i]? = some a ↔ ∃ x, l[i]? = some x ∧ x.addr = a := by
  unfold aKs
  rw [List.getElem?_map]
  cases h : l[i]? with
  | none => simp
  | some x => simp
theorem sKs_get {l : List ESlot} {i q k : Nat} : (sKs l)[i]? = some (q, k) ↔ ∃ x, l[i]? = some x ∧ x.acct = q ∧ x.key = k := by
  unfold sKs
  rw [List.getElem?_map]
  cases h : l[i]? with
  | none => simp
  | some x => simp
theorem tKs_get {l : List ETemp} {i q k : Nat} : (tKs l)[i]? = some (q, k) ↔ ∃ x, l[i]? = some x ∧ x.acct = q ∧ x.key = k := by
  unfold tKs
  rw [List.getElem?_map]
  cases h : l[i]? with
  | none => simp
  | some x => simp
theorem hasA_ix {V : EV} {a : Nat} (h : hasA V a) : ∃ x, V.accts[ai V a]? = some x ∧ x.addr = a := aKs_get.1 (idx_get h)
theorem hasA_lt {V : EV} {a : Nat} (h : hasA V a) : ai V a < V.accts.length := by
  obtain ⟨x, hx, _⟩ := hasA_ix h
  exact (List.getElem?_eq_some_iff.1 hx).1
theorem hasA_of {V : EV} {a i : Nat} {x : EAcct} (hx : V.accts[i]? = some x) (ha : x.addr = a) : hasA V a := List.mem_of_getElem? (aKs_get.2 ⟨x, hx, ha⟩)
theorem ai_no {V : EV} {a : Nat} (h : ¬ hasA V a) : ai V a = V.accts.length := by
  have := List.idxOf_eq_length h
  unfold ai
  rw [this]
  simp [aKs]
theorem ai_eq {V : EV} {a i : Nat} {x : EAcct} (ho : VOk V) (hx : V.accts[i]? = some x) (ha : x.addr = a) : ai V a = i := by
  obtain ⟨y, hy, he⟩ := hasA_ix (hasA_of hx ha)
  exact ho.ad _ _ y x hy hx (by rw [he, ha])
theorem ax_eq {V : EV} {a i : Nat} {x : EAcct} (ho : VOk V) (hx : V.accts[i]? = some x) (ha : x.addr = a) : ax V a = x := by
  unfold ax
  rw [ai_eq ho hx ha, hx]
  rfl
theorem ax_no {V : EV} {a : Nat} (h : ¬ hasA V a) : ax V a = blankA a := by
  unfold ax
  rw [ai_no h, List.getElem?_eq_none (Nat.le_refl _)]
  rfl
theorem sKs_lt {l : List ESlot} {n : Nat} {p : Nat × Nat} (h : ∀ x ∈ l, x.acct < n) (hp : p ∈ sKs l) : p.1 < n := by
  unfold sKs at hp
  obtain ⟨x, hx, rfl⟩ := List.mem_map.1 hp
  exact h x hx
theorem tKs_lt {l : List ETemp} {n : Nat} {p : Nat × Nat} (h : ∀ x ∈ l, x.acct < n) (hp : p ∈ tKs l) : p.1 < n := by
  unfold tKs at hp
  obtain ⟨x, hx, rfl⟩ := List.mem_map.1 hp
  exact h x hx
theorem hasS_ix {V : EV} {a k : Nat} (h : hasS V a k) : ∃ x, V.slots[si V (ai V a) k]? = some x ∧ x.acct = ai V a ∧ x.key = k := sKs_get.1 (idx_get h.2)
theorem hasT_ix {V : EV} {a k : Nat} (h : hasT V a k) : ∃ x, V.temps[ti V (ai V a) k]? = some x ∧ x.acct = ai V a ∧ x.key = k := tKs_get.1 (idx_get h.2)
theorem si_eq {V : EV} {q k i : Nat} {x : ESlot} (ho : VOk V) (hx : V.slots[i]? = some x) (ha : x.acct = q) (hk : x.key = k) : si V q k = i := by
  obtain ⟨y, hy, he, hf⟩ := sKs_get.1 (idx_get (List.mem_of_getElem? (sKs_get.2 ⟨x, hx, ha, hk⟩)))
  exact ho.sd _ _ y x hy hx (by rw [he, ha]) (by rw [hf, hk])
theorem ti_eq {V : EV} {q k i : Nat} {x : ETemp} (ho : VOk V) (hx : V.temps[i]? = some x) (ha : x.acct = q) (hk : x.key = k) : ti V q k = i := by
  obtain ⟨y, hy, he, hf⟩ := tKs_get.1 (idx_get (List.mem_of_getElem? (tKs_get.2 ⟨x, hx, ha, hk⟩)))
  exact ho.td _ _ y x hy hx (by rw [he, ha]) (by rw [hf, hk])
theorem sx_eq {V : EV} {a k i : Nat} {x : ESlot} (ho : VOk V) (hx : V.slots[i]? = some x) (ha : x.acct = ai V a) (hk : x.key = k) : sx V a k = x := by
  unfold sx
  rw [si_eq ho hx ha hk, hx]
  rfl
theorem tx_eq {V : EV} {a k i : Nat} {x : ETemp} (ho : VOk V) (hx : V.temps[i]? = some x) (ha : x.acct = ai V a) (hk : x.key = k) : tx V a k = x := by
  unfold tx
  rw [ti_eq ho hx ha hk, hx]
  rfl
theorem sx_no {V : EV} {a k : Nat} (h : (ai V a, k) ∉ sKs V.slots) : sx V a k = blankS 0 k := by
  unfold sx si
  rw [List.idxOf_eq_length h, List.getElem?_eq_none (by simp [sKs])]
  rfl
theorem tx_no {V : EV} {a k : Nat} (h : (ai V a, k) ∉ tKs V.temps) : tx V a k = blankT 0 k := by
  unfold tx ti
  rw [List.idxOf_eq_length h, List.getElem?_eq_none (by simp [tKs])]
  rfl
theorem sx_noA {V : EV} {a k : Nat} (hs : ∀ x ∈ V.slots, x.acct < V.accts.length) (h : ¬ hasA V a) : sx V a k = blankS 0 k := sx_no fun hm => by
  have := sKs_lt hs hm
  rw [ai_no h] at this
  exact Nat.lt_irrefl _ this
theorem tx_noA {V : EV} {a k : Nat} (hs : ∀ x ∈ V.temps, x.acct < V.accts.length) (h : ¬ hasA V a) : tx V a k = blankT 0 k := tx_no fun hm => by
  have := tKs_lt hs hm
  rw [ai_no h] at this
  exact Nat.lt_irrefl _ this
/-! More entries that bear nothing. -/
structure Ext (V V' : EV) : Prop where
  a : ∃ l, V'.accts = V.accts ++ l ∧ ∀ x ∈ l, x = blankA x.addr
  s : ∃ l, V'.slots = V.slots ++ l ∧ ∀ x ∈ l, x = blankS x.acct x.key
  t : ∃ l, V'.temps = V.temps ++ l ∧ ∀ x ∈ l, x = blankT x.acct x.key
  ref : V'.ref = V.ref
  logs : V'.logs = V.logs
theorem Ext.refl (V : EV) : Ext V V := ⟨⟨[], by simp, fun _ h => by simp at h⟩, ⟨[], by simp, fun _ h => by simp at h⟩, ⟨[], by simp, fun _ h => by simp at h⟩, rfl, rfl⟩
theorem Ext.trans {V V1 V2 : EV} (h : Ext V V1) (g : Ext V1 V2) : Ext V V2 := by
  obtain ⟨l1, a1, a2⟩ := h.a
  obtain ⟨l2, b1, b2⟩ := g.a
  obtain ⟨l3, c1, c2⟩ := h.s
  obtain ⟨l4, d1, d2⟩ := g.s
  obtain ⟨l5, e1, e2⟩ := h.t
  obtain ⟨l6, f1, f2⟩ := g.t
  exact ⟨⟨l1 ++ l2, by rw [b1, a1, List.append_assoc], fun x hx => (List.mem_append.1 hx).elim (a2 x) (b2 x)⟩, ⟨l3 ++ l4, by rw [d1, c1, List.append_assoc], fun x hx => (List.mem_append.1 hx).elim (c2 x) (d2 x)⟩, ⟨l5 ++ l6, by rw [f1, e1, List.append_assoc], fun x hx => (List.mem_append.1 hx).elim (e2 x) (f2 x)⟩, g.ref.trans h.ref, g.logs.trans h.logs⟩
theorem Ext.hasA {V V' : EV} {a : Nat} (h : Ext V V') (ha : hasA V a) : hasA V' a := by
  obtain ⟨l, h1, _⟩ := h.a
  unfold Go.Proofs.YgvaawGreat.hasA aKs at ha ⊢
  rw [h1, List.map_append]
  exact List.mem_append_left _ ha
theorem Ext.ai {V V' : EV} {a : Nat} (h : Ext V V') (ha : Go.Proofs.YgvaawGreat.hasA V a) : ai V' a = ai V a := by
  obtain ⟨l, h1, _⟩ := h.a
  unfold Go.Proofs.YgvaawGreat.hasA aKs at ha
  unfold Go.Proofs.YgvaawGreat.ai aKs
  rw [h1, List.map_append, List.idxOf_append, if_pos ha]
theorem Ext.ai_ge {V V' : EV} {a : Nat} (h : Ext V V') (ha : ¬ Go.Proofs.YgvaawGreat.hasA V a) : V.accts.length ≤ Go.Proofs.YgvaawGreat.ai V' a := by
  obtain ⟨l, h1, _⟩ := h.a
  unfold Go.Proofs.YgvaawGreat.hasA aKs at ha
  unfold Go.Proofs.YgvaawGreat.ai aKs
  rw [h1, List.map_append, List.idxOf_append, if_neg ha, List.length_map]
  omega
theorem Ext.ax {V V' : EV} (h : Ext V V') (a : Nat) : Go.Proofs.YgvaawGreat.ax V' a = Go.Proofs.YgvaawGreat.ax V a := by
  obtain ⟨l, h1, h2⟩ := h.a
  by_cases ha : Go.Proofs.YgvaawGreat.hasA V a
  · unfold Go.Proofs.YgvaawGreat.ax
    rw [h.ai ha, h1, List.getElem?_append_left (hasA_lt ha)]
  · rw [ax_no ha]
    by_cases hb : Go.Proofs.YgvaawGreat.hasA V' a
    · obtain ⟨x, hx, he⟩ := hasA_ix hb
      have hge := h.ai_ge ha
      have hx' := hx
      rw [h1, List.getElem?_append_right hge] at hx
      have := h2 x (List.mem_of_getElem? hx)
      unfold Go.Proofs.YgvaawGreat.ax
      rw [hx', Option.getD_some, this, he]
    · exact ax_no hb
theorem Ext.sx {β : Type} {V V' : EV} (h : Ext V V') (hs : ∀ x ∈ V.slots, x.acct < V.accts.length) (g : ESlot → β) (hg : ∀ i j k q, g (blankS i k) = g (blankS j q)) (a k : Nat) : g (Go.Proofs.YgvaawGreat.sx V' a k) = g (Go.Proofs.YgvaawGreat.sx V a k) := by
  obtain ⟨l, h1, h2⟩ := h.s
  by_cases hm : Go.Proofs.YgvaawGreat.hasS V a k
  · obtain ⟨ha, hm⟩ := hm
    unfold Go.Proofs.YgvaawGreat.sx si
    have e : (sKs V'.slots).idxOf (Go.Proofs.YgvaawGreat.ai V' a, k) = (sKs V.slots).idxOf (Go.Proofs.YgvaawGreat.ai V a, k) := by
      rw [h.ai ha, h1]
      unfold sKs at hm ⊢
      rw [List.map_append, List.idxOf_append, if_pos hm]
    rw [e, h1, List.getElem?_append_left]
    have := List.idxOf_lt_length_iff.2 hm
    simpa [sKs] using this
  · have h0 : Go.Proofs.YgvaawGreat.sx V a k = blankS 0 k := by
      by_cases ha : Go.Proofs.YgvaawGreat.hasA V a
      · exact sx_no fun hh => hm ⟨ha, hh⟩
      · exact sx_noA hs ha
    rw [h0]
    have hn : (Go.Proofs.YgvaawGreat.ai V' a, k) ∉ sKs V.slots := fun hh => by
      by_cases ha : Go.Proofs.YgvaawGreat.hasA V a
      · rw [h.ai ha] at hh; exact hm ⟨ha, hh⟩
      · have := sKs_lt hs hh
        have := h.ai_ge ha
        simp only at *
        omega
    by_cases hb : (Go.Proofs.YgvaawGreat.ai V' a, k) ∈ sKs V'.slots
    · obtain ⟨x, hx, e1, e2⟩ := sKs_get.1 (idx_get hb)
      have hge : V.slots.length ≤ (sKs V'.slots).idxOf (Go.Proofs.YgvaawGreat.ai V' a, k) := by
        rw [h1]
        unfold sKs at hn ⊢
        rw [List.map_append, List.idxOf_append, if_neg hn, List.length_map]
        omega
      have hx' := hx
      rw [h1, ← h1, h1, List.getElem?_append_right (by rw [← h1]; exact hge)] at hx
      have := h2 x (List.mem_of_getElem? hx)
      unfold Go.Proofs.YgvaawGreat.sx si
      rw [hx', Option.getD_some, this]
      exact hg _ _ _ _
    · rw [sx_no hb]
theorem Ext.tx {β : Type} {V V' : EV} (h : Ext V V') (hs : ∀ x ∈ V.temps, x.acct < V.accts.length) (g : ETemp → β) (hg : ∀ i j k q, g (blankT i k) = g (blankT j q)) (a k : Nat) : g (Go.Proofs.YgvaawGreat.tx V' a k) = g (Go.Proofs.YgvaawGreat.tx V a k) := by
  obtain ⟨l, h1, h2⟩ := h.t
  by_cases hm : Go.Proofs.YgvaawGreat.hasT V a k
  · obtain ⟨ha, hm⟩ := hm
    unfold Go.Proofs.YgvaawGreat.tx ti
    have e : (tKs V'.temps).idxOf (Go.Proofs.YgvaawGreat.ai V' a, k) = (tKs V.temps).idxOf (Go.Proofs.YgvaawGreat.ai V a, k) := by
      rw [h.ai ha, h1]
      unfold tKs at hm ⊢
      rw [List.map_append, List.idxOf_append, if_pos hm]
    rw [e, h1, List.getElem?_append_left]
    have := List.idxOf_lt_length_iff.2 hm
    simpa [tKs] using this
  · have h0 : Go.Proofs.YgvaawGreat.tx V a k = blankT 0 k := by
      by_cases ha : Go.Proofs.YgvaawGreat.hasA V a
      · exact tx_no fun hh => hm ⟨ha, hh⟩
      · exact tx_noA hs ha
    rw [h0]
    have hn : (Go.Proofs.YgvaawGreat.ai V' a, k) ∉ tKs V.temps := fun hh => by
      by_cases ha : Go.Proofs.YgvaawGreat.hasA V a
      · rw [h.ai ha] at hh; exact hm ⟨ha, hh⟩
      · have := tKs_lt hs hh
        have := h.ai_ge ha
        simp only at *
        omega
    by_cases hb : (Go.Proofs.YgvaawGreat.ai V' a, k) ∈ tKs V'.temps
    · obtain ⟨x, hx, e1, e2⟩ := tKs_get.1 (idx_get hb)
      have hge : V.temps.length ≤ (tKs V'.temps).idxOf (Go.Proofs.YgvaawGreat.ai V' a, k) := by
        rw [h1]
        unfold tKs at hn ⊢
        rw [List.map_append, List.idxOf_append, if_neg hn, List.length_map]
        omega
      have hx' := hx
      rw [h1, ← h1, h1, List.getElem?_append_right (by rw [← h1]; exact hge)] at hx
      have := h2 x (List.mem_of_getElem? hx)
      unfold Go.Proofs.YgvaawGreat.tx ti
      rw [hx', Option.getD_some, this]
      exact hg _ _ _ _
    · rw [tx_no hb]
theorem Ext.abs {V V' : EV} (h : Ext V V') (hs : ∀ x ∈ V.slots, x.acct < V.accts.length) (ht : ∀ x ∈ V.temps, x.acct < V.accts.length) : absV V' = absV V := by
  have e1 : (fun a k => (Go.Proofs.YgvaawGreat.sx V' a k).val) = fun a k => (Go.Proofs.YgvaawGreat.sx V a k).val := by funext a k; exact h.sx hs (fun x => x.val) (fun _ _ _ _ => rfl) a k
  have e2 : (fun a k => (Go.Proofs.YgvaawGreat.sx V' a k).warm) = fun a k => (Go.Proofs.YgvaawGreat.sx V a k).warm := by funext a k; exact h.sx hs (fun x => x.warm) (fun _ _ _ _ => rfl) a k
  have e3 : (fun a k => (Go.Proofs.YgvaawGreat.tx V' a k).val) = fun a k => (Go.Proofs.YgvaawGreat.tx V a k).val := by funext a k; exact h.tx ht (fun x => x.val) (fun _ _ _ _ => rfl) a k
  have e4 : Go.Proofs.YgvaawGreat.ax V' = Go.Proofs.YgvaawGreat.ax V := by funext a; exact h.ax a
  unfold absV
  rw [e1, e2, e3, e4, h.ref, h.logs]
theorem Ext.og {V V' : EV} (h : Ext V V') (hs : ∀ x ∈ V.slots, x.acct < V.accts.length) : ogV V' = ogV V := by
  unfold ogV
  funext a k
  exact h.sx hs (fun x => x.orig) (fun _ _ _ _ => rfl) a k
/-! Undoing. -/
theorem mod_app {α : Type} {l r : List α} {i : Nat} {f : α → α} (h : i < l.length) : (l ++ r).modify i f = l.modify i f ++ r := by
  apply List.ext_getElem?
  intro j
  rw [List.getElem?_modify]
  by_cases hj : j < l.length
  · rw [List.getElem?_append_left hj, List.getElem?_append_left (by simpa using hj), List.getElem?_modify]
  · rw [List.getElem?_append_right (by omega), List.getElem?_append_right (by simp; omega)]
    simp only [List.length_modify]
    rw [show (fun a => if i = j then f a else a) = id by funext a; rw [if_neg (by omega)]; rfl]
    simp
def undoE (V : EV) (e : EEnt) : EV :=
  if e.kind = 0 then { V with accts := V.accts.modify e.pl (fun x => { x with bal := e.w }) }
  else if e.kind = 1 then { V with accts := V.accts.modify e.pl (fun x => { x with nonce := e.n }) }
  else if e.kind = 2 then { V with accts := V.accts.modify e.pl (fun x => { x with code := e.b }) }
  else if e.kind = 4 then { V with accts := V.accts.modify e.pl (fun x => { x with warm := e.flag }) }
  else if e.kind = 9 then { V with accts := V.accts.modify e.pl (fun x => { x with made := e.flag }) }
  else if e.kind = 10 then { V with accts := V.accts.modify e.pl (fun x => { x with gone := e.flag }) }
  else if e.kind = 3 then { V with slots := V.slots.modify e.pl (fun x => { x with val := e.w }) }
  else if e.kind = 5 then { V with slots := V.slots.modify e.pl (fun x => { x with warm := e.flag }) }
  else if e.kind = 8 then { V with temps := V.temps.modify e.pl (fun x => { x with val := e.w }) }
  else if e.kind = 6 then { V with ref := e.n }
  else if e.kind = 7 then { V with logs := V.logs.dropLast }
  else V
theorem u_0 {V : EV} {e : EEnt} (h : e.kind = 0) : undoE V e = { V with accts := V.accts.modify e.pl (fun x => { x with bal := e.w }) } := by
  unfold undoE
  simp [h]
theorem u_1 {V : EV} {e : EEnt} (h : e.kind = 1) : undoE V e = { V with accts := V.accts.modify e.pl (fun x => { x with nonce := e.n }) } := by
  unfold undoE
  simp [h]
theorem u_2 {V : EV} {e : EEnt} (h : e.kind = 2) : undoE V e = { V with accts := V.accts.modify e.pl (fun x => { x with code := e.b }) } := by
  unfold undoE
  simp [h]
theorem u_3 {V : EV} {e : EEnt} (h : e.kind = 3) : undoE V e = { V with slots := V.slots.modify e.pl (fun x => { x with val := e.w }) } := by
  unfold undoE
  simp [h]
theorem u_4 {V : EV} {e : EEnt} (h : e.kind = 4) : undoE V e = { V with accts := V.accts.modify e.pl (fun x => { x with warm := e.flag }) } := by
  unfold undoE
  simp [h]
theorem u_5 {V : EV} {e : EEnt} (h : e.kind = 5) : undoE V e = { V with slots := V.slots.modify e.pl (fun x => { x with warm := e.flag }) } := by
  unfold undoE
  simp [h]
theorem u_6 {V : EV} {e : EEnt} (h : e.kind = 6) : undoE V e = { V with ref := e.n } := by
  unfold undoE
  simp [h]
theorem u_7 {V : EV} {e : EEnt} (h : e.kind = 7) : undoE V e = { V with logs := V.logs.dropLast } := by
  unfold undoE
  simp [h]
theorem u_8 {V : EV} {e : EEnt} (h : e.kind = 8) : undoE V e = { V with temps := V.temps.modify e.pl (fun x => { x with val := e.w }) } := by
  unfold undoE
  simp [h]
theorem u_9 {V : EV} {e : EEnt} (h : e.kind = 9) : undoE V e = { V with accts := V.accts.modify e.pl (fun x => { x with made := e.flag }) } := by
  unfold undoE
  simp [h]
theorem u_10 {V : EV} {e : EEnt} (h : e.kind = 10) : undoE V e = { V with accts := V.accts.modify e.pl (fun x => { x with gone := e.flag }) } := by
  unfold undoE
  simp [h]
theorem u_x {V : EV} {e : EEnt} (h : 11 ≤ e.kind) : undoE V e = V := by
  unfold undoE
  repeat rw [if_neg (by omega)]
theorem undoE_ext {V V' : EV} {e : EEnt} (h : Ext V V') (hi : EIn V e) : Ext (undoE V e) (undoE V' e) := by
  obtain ⟨l1, a1, a2⟩ := h.a
  obtain ⟨l3, c1, c2⟩ := h.s
  obtain ⟨l5, e1, e2⟩ := h.t
  rcases (show e.kind = 0 ∨ e.kind = 1 ∨ e.kind = 2 ∨ e.kind = 3 ∨ e.kind = 4 ∨ e.kind = 5 ∨ e.kind = 6 ∨ e.kind = 7 ∨ e.kind = 8 ∨ e.kind = 9 ∨ e.kind = 10 ∨ 11 ≤ e.kind by omega) with k | k | k | k | k | k | k | k | k | k | k | k
  · rw [u_0 k, u_0 k]
    exact ⟨⟨l1, by simp only [a1]; exact mod_app (hi.a (by omega)), a2⟩, ⟨l3, c1, c2⟩, ⟨l5, e1, e2⟩, h.ref, h.logs⟩
  · rw [u_1 k, u_1 k]
    exact ⟨⟨l1, by simp only [a1]; exact mod_app (hi.a (by omega)), a2⟩, ⟨l3, c1, c2⟩, ⟨l5, e1, e2⟩, h.ref, h.logs⟩
  · rw [u_2 k, u_2 k]
    exact ⟨⟨l1, by simp only [a1]; exact mod_app (hi.a (by omega)), a2⟩, ⟨l3, c1, c2⟩, ⟨l5, e1, e2⟩, h.ref, h.logs⟩
  · rw [u_3 k, u_3 k]
    exact ⟨⟨l1, a1, a2⟩, ⟨l3, by simp only [c1]; exact mod_app (hi.s (by omega)), c2⟩, ⟨l5, e1, e2⟩, h.ref, h.logs⟩
  · rw [u_4 k, u_4 k]
    exact ⟨⟨l1, by simp only [a1]; exact mod_app (hi.a (by omega)), a2⟩, ⟨l3, c1, c2⟩, ⟨l5, e1, e2⟩, h.ref, h.logs⟩
  · rw [u_5 k, u_5 k]
    exact ⟨⟨l1, a1, a2⟩, ⟨l3, by simp only [c1]; exact mod_app (hi.s (by omega)), c2⟩, ⟨l5, e1, e2⟩, h.ref, h.logs⟩
  · rw [u_6 k, u_6 k]
    exact ⟨⟨l1, a1, a2⟩, ⟨l3, c1, c2⟩, ⟨l5, e1, e2⟩, rfl, h.logs⟩
  · rw [u_7 k, u_7 k]
    exact ⟨⟨l1, a1, a2⟩, ⟨l3, c1, c2⟩, ⟨l5, e1, e2⟩, h.ref, by simp only [h.logs]⟩
  · rw [u_8 k, u_8 k]
    exact ⟨⟨l1, a1, a2⟩, ⟨l3, c1, c2⟩, ⟨l5, by simp only [e1]; exact mod_app (hi.t (by omega)), e2⟩, h.ref, h.logs⟩
  · rw [u_9 k, u_9 k]
    exact ⟨⟨l1, by simp only [a1]; exact mod_app (hi.a (by omega)), a2⟩, ⟨l3, c1, c2⟩, ⟨l5, e1, e2⟩, h.ref, h.logs⟩
  · rw [u_10 k, u_10 k]
    exact ⟨⟨l1, by simp only [a1]; exact mod_app (hi.a (by omega)), a2⟩, ⟨l3, c1, c2⟩, ⟨l5, e1, e2⟩, h.ref, h.logs⟩
  · rw [u_x k, u_x k]
    exact h
structure SameLen (V V' : EV) : Prop where
  a : aKs V'.accts = aKs V.accts
  s : sKs V'.slots = sKs V.slots
  t : tKs V'.temps = tKs V.temps
theorem mod_map {α β : Type} {l : List α} {i : Nat} {f : α → α} {g : α → β} (h : ∀ x, g (f x) = g x) : (l.modify i f).map g = l.map g := by
  apply List.ext_getElem?
  intro j
  rw [List.getElem?_map, List.getElem?_map, List.getElem?_modify]
  cases l[j]? with
  | none => rfl
  | some x =>
    simp
    split
    · exact h x
    · rfl
theorem undoE_len (V : EV) (e : EEnt) : SameLen V (undoE V e) := by
  rcases (show e.kind = 0 ∨ e.kind = 1 ∨ e.kind = 2 ∨ e.kind = 3 ∨ e.kind = 4 ∨ e.kind = 5 ∨ e.kind = 6 ∨ e.kind = 7 ∨ e.kind = 8 ∨ e.kind = 9 ∨ e.kind = 10 ∨ 11 ≤ e.kind by omega) with k | k | k | k | k | k | k | k | k | k | k | k
  · rw [u_0 k]
    exact ⟨mod_map (fun _ => rfl), rfl, rfl⟩
  · rw [u_1 k]
    exact ⟨mod_map (fun _ => rfl), rfl, rfl⟩
  · rw [u_2 k]
    exact ⟨mod_map (fun _ => rfl), rfl, rfl⟩
  · rw [u_3 k]
    exact ⟨rfl, mod_map (fun _ => rfl), rfl⟩
  · rw [u_4 k]
    exact ⟨mod_map (fun _ => rfl), rfl, rfl⟩
  · rw [u_5 k]
    exact ⟨rfl, mod_map (fun _ => rfl), rfl⟩
  · rw [u_6 k]
    exact ⟨rfl, rfl, rfl⟩
  · rw [u_7 k]
    exact ⟨rfl, rfl, rfl⟩
  · rw [u_8 k]
    exact ⟨rfl, rfl, mod_map (fun _ => rfl)⟩
  · rw [u_9 k]
    exact ⟨mod_map (fun _ => rfl), rfl, rfl⟩
  · rw [u_10 k]
    exact ⟨mod_map (fun _ => rfl), rfl, rfl⟩
  · rw [u_x k]
    exact ⟨rfl, rfl, rfl⟩
theorem SameLen.al {V V' : EV} (h : SameLen V V') : V'.accts.length = V.accts.length := by have := congrArg List.length h.a; simpa [aKs] using this
theorem SameLen.sl {V V' : EV} (h : SameLen V V') : V'.slots.length = V.slots.length := by have := congrArg List.length h.s; simpa [sKs] using this
theorem SameLen.tl {V V' : EV} (h : SameLen V V') : V'.temps.length = V.temps.length := by have := congrArg List.length h.t; simpa [tKs] using this
theorem SameLen.ein {V V' : EV} {e : EEnt} (h : SameLen V V') (hi : EIn V e) : EIn V' e := ⟨fun k => by rw [h.al]; exact hi.a k, fun k => by rw [h.sl]; exact hi.s k, fun k => by rw [h.tl]; exact hi.t k⟩
theorem SameLen.sa {V V' : EV} (h : SameLen V V') (hs : ∀ x ∈ V.slots, x.acct < V.accts.length) : ∀ x ∈ V'.slots, x.acct < V'.accts.length := fun x hx => by
  have h1 : (x.acct, x.key) ∈ sKs V'.slots := List.mem_map.2 ⟨x, hx, rfl⟩
  rw [h.s] at h1
  rw [h.al]
  exact sKs_lt hs h1
theorem SameLen.ta {V V' : EV} (h : SameLen V V') (hs : ∀ x ∈ V.temps, x.acct < V.accts.length) : ∀ x ∈ V'.temps, x.acct < V'.accts.length := fun x hx => by
  have h1 : (x.acct, x.key) ∈ tKs V'.temps := List.mem_map.2 ⟨x, hx, rfl⟩
  rw [h.t] at h1
  rw [h.al]
  exact tKs_lt hs h1
def undoL : List EEnt → EV → EV
  | [], V => V
  | e :: es, V => undoL es (undoE V e)
theorem undoL_ext : ∀ (es : List EEnt) {V V' : EV}, Ext V V' → (∀ e ∈ es, EIn V e) → Ext (undoL es V) (undoL es V')
  | [], _, _, h, _ => h
  | e :: es, V, V', h, hi => undoL_ext es (undoE_ext h (hi e List.mem_cons_self)) (fun e' he => (undoE_len V e).ein (hi e' (List.mem_cons_of_mem _ he)))
theorem SameLen.trans {V V1 V2 : EV} (h : SameLen V V1) (g : SameLen V1 V2) : SameLen V V2 := ⟨g.a.trans h.a, g.s.trans h.s, g.t.trans h.t⟩
theorem undoL_len : ∀ (es : List EEnt) (V : EV), SameLen V (undoL es V)
  | [], _ => ⟨rfl, rfl, rfl⟩
  | e :: es, V => (undoE_len V e).trans (undoL_len es _)
def sva (V : EV) (m : Nat) : AW := absV (undoL (V.journal.drop m).reverse V)
/-- a vault bears a world, the worlds of its snapshots, and the values at the start -/
structure VA (V : EV) (A : AW) (sv : List AW) (og : Nat → Nat → Nat) : Prop where
  abs : absV V = A
  og : ogV V = og
  len : sv.length = V.marks.length
  mr : ∀ (i : Nat) m, V.marks[i]? = some m → m ≤ V.journal.length ∧ sv[i]? = some (sva V m)
  mono : ∀ (i j : Nat) m n, i ≤ j → V.marks[i]? = some m → V.marks[j]? = some n → m ≤ n
structure JS (V V' : EV) (f : AW → AW) (na ns nt nj nl : Nat) : Prop where
  va : ∀ {A sv og}, VA V A sv og → VA V' (f A) sv og
  ha : ∀ a, hasA V a → hasA V' a
  hs : ∀ a k, hasS V a k → hasS V' a k
  mr : V'.marks = V.marks
  na : V'.accts.length ≤ V.accts.length + na
  ns : V'.slots.length ≤ V.slots.length + ns
  nt : V'.temps.length ≤ V.temps.length + nt
  nj : V'.journal.length ≤ V.journal.length + nj
  nl : V'.logs.length ≤ V.logs.length + nl
theorem JS.trans {V V1 V2 : EV} {f g : AW → AW} {a b c d e a' b' c' d' e' : Nat} (h : JS V V1 f a b c d e) (k : JS V1 V2 g a' b' c' d' e') : JS V V2 (fun A => g (f A)) (a + a') (b + b') (c + c') (d + d') (e + e') :=
  ⟨fun hv => k.va (h.va hv), fun x hx => k.ha x (h.ha x hx), fun x y hx => k.hs x y (h.hs x y hx), k.mr.trans h.mr, by have := h.na; have := k.na; omega, by have := h.ns; have := k.ns; omega, by have := h.nt; have := k.nt; omega, by have := h.nj; have := k.nj; omega, by have := h.nl; have := k.nl; omega⟩
theorem JS.refl (V : EV) : JS V V id 0 0 0 0 0 := ⟨fun h => h, fun _ h => h, fun _ _ h => h, rfl, by omega, by omega, by omega, by omega, by omega⟩
theorem VA.step {V V' : EV} {A : AW} {sv : List AW} {og : Nat → Nat → Nat} {e : EEnt} (h : VA V A sv og) (ho : VOk V) (hx : Ext V (undoE V' e)) (hj : V'.journal = V.journal ++ [e]) (hm : V'.marks = V.marks) (hog : ogV V' = ogV V) : VA V' (absV V') sv og := by
  refine ⟨rfl, hog.trans h.og, by rw [hm]; exact h.len, fun i m hi => ?_, by rw [hm]; exact h.mono⟩
  rw [hm] at hi
  obtain ⟨h1, h2⟩ := h.mr i m hi
  refine ⟨by rw [hj, List.length_append]; omega, ?_⟩
  rw [h2]
  congr 1
  unfold sva
  rw [hj, List.drop_append_of_le_length h1, List.reverse_append]
  show absV (undoL (V.journal.drop m).reverse V) = absV (undoL (V.journal.drop m).reverse (undoE V' e))
  have hl := undoL_len (V.journal.drop m).reverse V
  exact ((undoL_ext _ hx (fun e' he => ho.jr e' (List.mem_of_mem_drop (List.mem_reverse.1 he)))).abs (hl.sa ho.sa) (hl.ta ho.ta)).symm
end Go.Proofs.YgvaawGreat
