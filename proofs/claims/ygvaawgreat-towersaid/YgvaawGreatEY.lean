import Derived.Test.YgvaawGreatEX
set_option maxRecDepth 100000
set_option linter.unusedSimpArgs false
set_option linter.unusedVariables false
namespace Go.Proofs.YgvaawGreat
open Go
/-! The vault's changes, plainly. -/
theorem hmA_ks {l l' : List EAcct} (h : aKs l' = aKs l) : hmA l' = hmA l := by
  have e : ∀ (l : List EAcct) i, hmA l i = ((aKs l)[i]?.map aHome).getD 0 := fun l i => by
    unfold hmA aKs
    rw [List.getElem?_map]
    cases l[i]? with
    | none => simp
    | some x => simp
  funext i
  rw [e, e, h]
theorem hmS_ks {l l' : List ESlot} (h : sKs l' = sKs l) : hmS l' = hmS l := by
  have e : ∀ (l : List ESlot) i, hmS l i = ((sKs l)[i]?.map (fun p => sHome p.1 p.2)).getD 0 := fun l i => by
    unfold hmS sKs
    rw [List.getElem?_map]
    cases l[i]? with
    | none => simp
    | some x => simp
  funext i
  rw [e, e, h]
theorem hmT_ks {l l' : List ETemp} (h : tKs l' = tKs l) : hmT l' = hmT l := by
  have e : ∀ (l : List ETemp) i, hmT l i = ((tKs l)[i]?.map (fun p => tHome p.1 p.2)).getD 0 := fun l i => by
    unfold hmT tKs
    rw [List.getElem?_map]
    cases l[i]? with
    | none => simp
    | some x => simp
  funext i
  rw [e, e, h]
theorem VOk.data {V V' : EV} (h : VOk V) (sl : SameLen V V') (bd : VBd V') (e1 : V'.atb = V.atb) (e2 : V'.stb = V.stb) (e3 : V'.tm = V.tm) (e4 : V'.ttb = V.ttb) (hj : ∀ e ∈ V'.journal, EIn V e) (hl : (V'.journal.filter (fun e => e.kind == 7)).length ≤ V'.logs.length) : VOk V' := by
  refine ⟨bd, by rw [e1, sl.al, hmA_ks sl.a]; exact h.a, fun i j x y hx hy e => ?_, by rw [e2, sl.sl, hmS_ks sl.s]; exact h.s, fun i j x y hx hy e f => ?_, fun hm => by rw [e4, sl.tl, hmT_ks sl.t]; exact h.t (by rw [← e3]; exact hm), fun hm => ?_, fun i j x y hx hy e f => ?_, sl.sa h.sa, sl.ta h.ta, fun e he => sl.ein (hj e he), hl⟩
  · have h1 := aKs_get.2 ⟨x, hx, rfl⟩
    have h2 := aKs_get.2 ⟨y, hy, rfl⟩
    rw [sl.a] at h1 h2
    obtain ⟨x0, h3, h4⟩ := aKs_get.1 h1
    obtain ⟨y0, h5, h6⟩ := aKs_get.1 h2
    exact h.ad i j x0 y0 h3 h5 (by rw [h4, h6]; exact e)
  · have h1 := sKs_get.2 ⟨x, hx, rfl, rfl⟩
    have h2 := sKs_get.2 ⟨y, hy, rfl, rfl⟩
    rw [sl.s] at h1 h2
    obtain ⟨x0, h3, h4, h4'⟩ := sKs_get.1 h1
    obtain ⟨y0, h5, h6, h6'⟩ := sKs_get.1 h2
    exact h.sd i j x0 y0 h3 h5 (by rw [h4, h6]; exact e) (by rw [h4', h6']; exact f)
  · have h1 := h.t0 (by rw [← e3]; exact hm)
    have h2 := sl.tl
    rw [h1] at h2
    exact List.eq_nil_of_length_eq_zero h2
  · have h1 := tKs_get.2 ⟨x, hx, rfl, rfl⟩
    have h2 := tKs_get.2 ⟨y, hy, rfl, rfl⟩
    rw [sl.t] at h1 h2
    obtain ⟨x0, h3, h4, h4'⟩ := tKs_get.1 h1
    obtain ⟨y0, h5, h6, h6'⟩ := tKs_get.1 h2
    exact h.td i j x0 y0 h3 h5 (by rw [h4, h6]; exact e) (by rw [h4', h6']; exact f)
theorem hm_app {α : Type} {l : List α} {y : α} {i : Nat} (h : i < l.length) : (l ++ [y])[i]? = l[i]? := List.getElem?_append_left h
theorem get_snoc {α : Type} {l : List α} {y x : α} {i : Nat} (h : (l ++ [y])[i]? = some x) : l[i]? = some x ∨ (i = l.length ∧ x = y) := by
  by_cases hi : i < l.length
  · left; rw [hm_app hi] at h; exact h
  · have := (List.getElem?_eq_some_iff.1 h).1
    simp at this
    have e : i = l.length := by omega
    subst e
    simp at h
    exact .inr ⟨rfl, h.symm⟩
theorem EIn.more {V V' : EV} {e : EEnt} (h : EIn V e) (ha : V.accts.length ≤ V'.accts.length) (hs : V.slots.length ≤ V'.slots.length) (ht : V.temps.length ≤ V'.temps.length) : EIn V' e := ⟨fun k => by have := h.a k; omega, fun k => by have := h.s k; omega, fun k => by have := h.t k; omega⟩
theorem VOk.layA {V : EV} {a p : Nat} (h : VOk V) (hn : ¬ hasA V a) (hr : V.accts.length < 2560) (hf : Free 4096 V.atb (aHome a) p) : VOk { V with accts := V.accts ++ [blankA a], atb := updT V.atb p V.accts.length } := by
  have hlen : (V.accts ++ [blankA a]).length = V.accts.length + 1 := by simp
  refine ⟨⟨by show (V.accts ++ [blankA a]).length ≤ 2560; omega, h.bd.slots, h.bd.journal, h.bd.marks, h.bd.mkb, h.bd.ref, h.bd.logs, h.bd.temps⟩, ?_, fun i j x y hx hy e => ?_, h.s, h.sd, h.t, h.t0, h.td, fun x hx => ?_, fun x hx => ?_, fun e he => (h.jr e he).more (by show _ ≤ (V.accts ++ [blankA a]).length; omega) (Nat.le_refl _) (Nat.le_refl _), h.jl⟩
  · show Tab 4096 _ (V.accts ++ [blankA a]).length _
    rw [hlen]
    refine h.a.add ?_ (fun i hi => ?_)
    · have : hmA (V.accts ++ [blankA a]) V.accts.length = aHome a := by
        unfold hmA
        rw [List.getElem?_append_right (Nat.le_refl _), Nat.sub_self]
        simp [blankA, blankS, blankT]
      rw [this]
      exact hf
    · unfold hmA
      rw [hm_app hi]
  · rcases get_snoc hx with hx | ⟨rfl, rfl⟩ <;> rcases get_snoc hy with hy | ⟨rfl, rfl⟩
    · exact h.ad i j x y hx hy e
    · exact absurd (hasA_of hx e) hn
    · exact absurd (hasA_of hy e.symm) hn
    · rfl
  · have := h.sa x hx
    show _ < (V.accts ++ [blankA a]).length
    omega
  · have := h.ta x hx
    show _ < (V.accts ++ [blankA a]).length
    omega
theorem VOk.layS {V : EV} {q k p : Nat} (h : VOk V) (hn : (q, k) ∉ sKs V.slots) (hq : q < V.accts.length) (hr : V.slots.length < 2560) (hf : Free 4096 V.stb (sHome q k) p) : VOk { V with slots := V.slots ++ [blankS q k], stb := updT V.stb p V.slots.length } := by
  have hlen : (V.slots ++ [blankS q k]).length = V.slots.length + 1 := by simp
  refine ⟨⟨h.bd.accts, by show (V.slots ++ [blankS q k]).length ≤ 2560; omega, h.bd.journal, h.bd.marks, h.bd.mkb, h.bd.ref, h.bd.logs, h.bd.temps⟩, h.a, h.ad, ?_, fun i j x y hx hy e f => ?_, h.t, h.t0, h.td, fun x hx => ?_, h.ta, fun e he => (h.jr e he).more (Nat.le_refl _) (by show _ ≤ (V.slots ++ [blankS q k]).length; omega) (Nat.le_refl _), h.jl⟩
  · show Tab 4096 _ (V.slots ++ [blankS q k]).length _
    rw [hlen]
    refine h.s.add ?_ (fun i hi => ?_)
    · have : hmS (V.slots ++ [blankS q k]) V.slots.length = sHome q k := by
        unfold hmS
        rw [List.getElem?_append_right (Nat.le_refl _), Nat.sub_self]
        simp [blankA, blankS, blankT]
      rw [this]
      exact hf
    · unfold hmS
      rw [hm_app hi]
  · rcases get_snoc hx with hx | ⟨rfl, rfl⟩ <;> rcases get_snoc hy with hy | ⟨rfl, rfl⟩
    · exact h.sd i j x y hx hy e f
    · exact absurd (List.mem_of_getElem? (sKs_get.2 ⟨x, hx, e, f⟩)) hn
    · exact absurd (List.mem_of_getElem? (sKs_get.2 ⟨y, hy, e.symm, f.symm⟩)) hn
    · rfl
  · rcases List.mem_append.1 hx with hx | hx
    · exact h.sa x hx
    · simp at hx
      rw [hx]
      exact hq
theorem VOk.layT {V : EV} {q k p : Nat} (h : VOk V) (hn : (q, k) ∉ tKs V.temps) (hq : q < V.accts.length) (hr : V.temps.length < 12288) (hm : V.tm = true) (hf : Free 16384 V.ttb (tHome q k) p) : VOk { V with temps := V.temps ++ [blankT q k], ttb := updT V.ttb p V.temps.length } := by
  have hlen : (V.temps ++ [blankT q k]).length = V.temps.length + 1 := by simp
  refine ⟨⟨h.bd.accts, h.bd.slots, h.bd.journal, h.bd.marks, h.bd.mkb, h.bd.ref, h.bd.logs, by show (V.temps ++ [blankT q k]).length ≤ 12288; omega⟩, h.a, h.ad, h.s, h.sd, fun _ => ?_, fun h0 => ?_, fun i j x y hx hy e f => ?_, h.sa, fun x hx => ?_, fun e he => (h.jr e he).more (Nat.le_refl _) (Nat.le_refl _) (by show _ ≤ (V.temps ++ [blankT q k]).length; omega), h.jl⟩
  · show Tab 16384 _ (V.temps ++ [blankT q k]).length _
    rw [hlen]
    refine (h.t hm).add ?_ (fun i hi => ?_)
    · have : hmT (V.temps ++ [blankT q k]) V.temps.length = tHome q k := by
        unfold hmT
        rw [List.getElem?_append_right (Nat.le_refl _), Nat.sub_self]
        simp [blankA, blankS, blankT]
      rw [this]
      exact hf
    · unfold hmT
      rw [hm_app hi]
  · have h0 : V.tm = false := h0
    rw [hm] at h0
    cases h0
  · rcases get_snoc hx with hx | ⟨rfl, rfl⟩ <;> rcases get_snoc hy with hy | ⟨rfl, rfl⟩
    · exact h.td i j x y hx hy e f
    · exact absurd (List.mem_of_getElem? (tKs_get.2 ⟨x, hx, e, f⟩)) hn
    · exact absurd (List.mem_of_getElem? (tKs_get.2 ⟨y, hy, e.symm, f.symm⟩)) hn
    · rfl
  · rcases List.mem_append.1 hx with hx | hx
    · exact h.ta x hx
    · simp at hx
      rw [hx]
      exact hq
theorem Ext.layA (V : EV) (a : Nat) (T : Nat → Int) : Ext V { V with accts := V.accts ++ [blankA a], atb := T } := ⟨⟨[blankA a], rfl, fun x hx => by simp at hx; rw [hx]; rfl⟩, ⟨[], by simp, fun _ h => by simp at h⟩, ⟨[], by simp, fun _ h => by simp at h⟩, rfl, rfl⟩
theorem Ext.layS (V : EV) (q k : Nat) (T : Nat → Int) : Ext V { V with slots := V.slots ++ [blankS q k], stb := T } := ⟨⟨[], by simp, fun _ h => by simp at h⟩, ⟨[blankS q k], rfl, fun x hx => by simp at hx; rw [hx]; rfl⟩, ⟨[], by simp, fun _ h => by simp at h⟩, rfl, rfl⟩
theorem Ext.layT (V : EV) (q k : Nat) (T : Nat → Int) : Ext V { V with temps := V.temps ++ [blankT q k], ttb := T } := ⟨⟨[], by simp, fun _ h => by simp at h⟩, ⟨[], by simp, fun _ h => by simp at h⟩, ⟨[blankT q k], rfl, fun x hx => by simp at hx; rw [hx]; rfl⟩, rfl, rfl⟩
theorem set_mod {α : Type} {l : List α} {i : Nat} {x y : α} {f : α → α} (h : l[i]? = some x) (hf : f y = x) : (l.set i y).modify i f = l := by
  apply List.ext_getElem?
  intro j
  rw [List.getElem?_modify, List.getElem?_set]
  by_cases e : i = j
  · subst e
    have := (List.getElem?_eq_some_iff.1 h).1
    simp [this, hf, h]
    have := (List.getElem?_eq_some_iff.1 h).2
    exact this.symm
  · rw [if_neg e]
    rw [show (fun a => if i = j then f a else a) = id by funext a; rw [if_neg e]; rfl]
    simp
theorem set_ks {l : List EAcct} {i : Nat} {x y : EAcct} (h : l[i]? = some x) (hy : y.addr = x.addr) : aKs (l.set i y) = aKs l := by
  apply List.ext_getElem?
  intro j
  unfold aKs
  rw [List.getElem?_map, List.getElem?_map, List.getElem?_set]
  by_cases e : i = j
  · subst e
    have := (List.getElem?_eq_some_iff.1 h).1
    rw [if_pos rfl, if_pos this, h]
    simp [hy]
  · rw [if_neg e]
theorem sset_ks {l : List ESlot} {i : Nat} {x y : ESlot} (h : l[i]? = some x) (hy : y.acct = x.acct) (hk : y.key = x.key) : sKs (l.set i y) = sKs l := by
  apply List.ext_getElem?
  intro j
  unfold sKs
  rw [List.getElem?_map, List.getElem?_map, List.getElem?_set]
  by_cases e : i = j
  · subst e
    have := (List.getElem?_eq_some_iff.1 h).1
    rw [if_pos rfl, if_pos this, h]
    simp [hy, hk]
  · rw [if_neg e]
theorem tset_ks {l : List ETemp} {i : Nat} {x y : ETemp} (h : l[i]? = some x) (hy : y.acct = x.acct) (hk : y.key = x.key) : tKs (l.set i y) = tKs l := by
  apply List.ext_getElem?
  intro j
  unfold tKs
  rw [List.getElem?_map, List.getElem?_map, List.getElem?_set]
  by_cases e : i = j
  · subst e
    have := (List.getElem?_eq_some_iff.1 h).1
    rw [if_pos rfl, if_pos this, h]
    simp [hy, hk]
  · rw [if_neg e]
theorem SameLen.hasA {V V' : EV} (h : SameLen V V') (a : Nat) : hasA V' a ↔ Go.Proofs.YgvaawGreat.hasA V a := by unfold Go.Proofs.YgvaawGreat.hasA; rw [h.a]
theorem SameLen.ai {V V' : EV} (h : SameLen V V') (a : Nat) : ai V' a = Go.Proofs.YgvaawGreat.ai V a := by unfold Go.Proofs.YgvaawGreat.ai; rw [h.a]
theorem SameLen.si {V V' : EV} (h : SameLen V V') (q k : Nat) : si V' q k = Go.Proofs.YgvaawGreat.si V q k := by unfold Go.Proofs.YgvaawGreat.si; rw [h.s]
theorem SameLen.ti {V V' : EV} (h : SameLen V V') (q k : Nat) : ti V' q k = Go.Proofs.YgvaawGreat.ti V q k := by unfold Go.Proofs.YgvaawGreat.ti; rw [h.t]
theorem SameLen.hasS {V V' : EV} (h : SameLen V V') (a k : Nat) : hasS V' a k ↔ Go.Proofs.YgvaawGreat.hasS V a k := by unfold Go.Proofs.YgvaawGreat.hasS; rw [h.hasA, h.ai, h.s]
theorem Ext.hasS {V V' : EV} {a k : Nat} (h : Ext V V') (ha : Go.Proofs.YgvaawGreat.hasS V a k) : Go.Proofs.YgvaawGreat.hasS V' a k := by
  obtain ⟨l, h1, _⟩ := h.s
  refine ⟨h.hasA ha.1, ?_⟩
  rw [h.ai ha.1, h1]
  unfold sKs
  rw [List.map_append]
  exact List.mem_append_left _ ha.2
/-- the account at place i turned -/
theorem ax_set {V1 V' : EV} {i : Nat} {x y : EAcct} (ho : VOk V1) (hi : V1.accts[i]? = some x) (hy : y.addr = x.addr) (he : V'.accts = V1.accts.set i y) (b : Nat) : ax V' b = if b = x.addr then y else ax V1 b := by
  have hk : aKs V'.accts = aKs V1.accts := by rw [he]; exact set_ks hi hy
  have hlt := (List.getElem?_eq_some_iff.1 hi).1
  have hai : ai V' b = ai V1 b := by unfold ai; rw [hk]
  unfold ax
  rw [hai, he, List.getElem?_set]
  by_cases e : b = x.addr
  · rw [if_pos e, ai_eq ho hi e.symm, if_pos rfl, if_pos hlt]
    rfl
  · rw [if_neg e, if_neg]
    intro h
    by_cases hb : hasA V1 b
    · obtain ⟨z, h1, h2⟩ := hasA_ix hb
      rw [← h, hi] at h1
      cases h1
      exact e h2.symm
    · rw [ai_no hb] at h
      omega
theorem sx_same {V1 V' : EV} (h : SameLen V1 V') (he : V'.slots = V1.slots) (a k : Nat) : sx V' a k = sx V1 a k := by
  unfold sx
  rw [h.ai, h.si, he]
theorem tx_same {V1 V' : EV} (h : SameLen V1 V') (he : V'.temps = V1.temps) (a k : Nat) : tx V' a k = tx V1 a k := by
  unfold tx
  rw [h.ai, h.ti, he]
theorem ax_same {V1 V' : EV} (he : V'.accts = V1.accts) (a : Nat) : ax V' a = ax V1 a := by
  unfold ax ai
  rw [he]
theorem ai_inj {V : EV} {a b : Nat} (ha : hasA V a) (h : ai V b = ai V a) : b = a := by
  obtain ⟨x, h1, h2⟩ := hasA_ix ha
  by_cases hb : hasA V b
  · obtain ⟨y, h3, h4⟩ := hasA_ix hb
    rw [h, h1] at h3
    cases h3
    rw [← h2, ← h4]
  · have := hasA_lt ha
    rw [ai_no hb] at h
    omega
/-- the slot at place j turned -/
theorem sx_set {V1 V' : EV} {j a : Nat} {x y : ESlot} (ho : VOk V1) (hj : V1.slots[j]? = some x) (ha : hasA V1 a) (hxa : x.acct = ai V1 a) (hy : y.acct = x.acct) (hk : y.key = x.key) (he : V'.slots = V1.slots.set j y) (hA : V'.accts = V1.accts) (b q : Nat) : sx V' b q = if b = a ∧ q = x.key then y else sx V1 b q := by
  have hks : sKs V'.slots = sKs V1.slots := by rw [he]; exact sset_ks hj hy hk
  have hlt := (List.getElem?_eq_some_iff.1 hj).1
  have hai : ai V' b = ai V1 b := by unfold ai; rw [hA]
  unfold sx si
  rw [hai, hks, he, List.getElem?_set]
  by_cases e : b = a ∧ q = x.key
  · obtain ⟨rfl, rfl⟩ := e
    have := si_eq ho hj hxa rfl
    unfold si at this
    rw [if_pos (show b = b ∧ x.key = x.key from ⟨rfl, rfl⟩), this, if_pos rfl, if_pos hlt]
    rfl
  · rw [if_neg e, if_neg]
    intro h
    by_cases hb : (ai V1 b, q) ∈ sKs V1.slots
    · obtain ⟨z, h1, h2, h3⟩ := sKs_get.1 (idx_get hb)
      rw [← h, hj] at h1
      cases h1
      exact e ⟨ai_inj ha (by rw [← h2, hxa]), h3.symm⟩
    · rw [List.idxOf_eq_length hb] at h
      simp [sKs] at h
      omega
theorem tx_set {V1 V' : EV} {j a : Nat} {x y : ETemp} (ho : VOk V1) (hj : V1.temps[j]? = some x) (ha : hasA V1 a) (hxa : x.acct = ai V1 a) (hy : y.acct = x.acct) (hk : y.key = x.key) (he : V'.temps = V1.temps.set j y) (hA : V'.accts = V1.accts) (b q : Nat) : tx V' b q = if b = a ∧ q = x.key then y else tx V1 b q := by
  have hks : tKs V'.temps = tKs V1.temps := by rw [he]; exact tset_ks hj hy hk
  have hlt := (List.getElem?_eq_some_iff.1 hj).1
  have hai : ai V' b = ai V1 b := by unfold ai; rw [hA]
  unfold tx ti
  rw [hai, hks, he, List.getElem?_set]
  by_cases e : b = a ∧ q = x.key
  · obtain ⟨rfl, rfl⟩ := e
    have := ti_eq ho hj hxa rfl
    unfold ti at this
    rw [if_pos (show b = b ∧ x.key = x.key from ⟨rfl, rfl⟩), this, if_pos rfl, if_pos hlt]
    rfl
  · rw [if_neg e, if_neg]
    intro h
    by_cases hb : (ai V1 b, q) ∈ tKs V1.temps
    · obtain ⟨z, h1, h2, h3⟩ := tKs_get.1 (idx_get hb)
      rw [← h, hj] at h1
      cases h1
      exact e ⟨ai_inj ha (by rw [← h2, hxa]), h3.symm⟩
    · rw [List.idxOf_eq_length hb] at h
      simp [tKs] at h
      omega
/-- what the search for a place answers: the vault V1 has it -/
structure Lay (V V1 : EV) (na ns nt : Nat) : Prop where
  ok : VOk V1
  ext : Ext V V1
  j : V1.journal = V.journal
  m : V1.marks = V.marks
  na : V1.accts.length ≤ V.accts.length + na
  ns : V1.slots.length ≤ V.slots.length + ns
  nt : V1.temps.length ≤ V.temps.length + nt
theorem Lay.refl {V : EV} (h : VOk V) : Lay V V 0 0 0 := ⟨h, Ext.refl V, rfl, rfl, by omega, by omega, by omega⟩
theorem Lay.trans {V V1 V2 : EV} {a b c a' b' c' : Nat} (h : Lay V V1 a b c) (g : Lay V1 V2 a' b' c') : Lay V V2 (a + a') (b + b') (c + c') := ⟨g.ok, h.ext.trans g.ext, g.j.trans h.j, g.m.trans h.m, by have := h.na; have := g.na; omega, by have := h.ns; have := g.ns; omega, by have := h.nt; have := g.nt; omega⟩
/-- a change that is in the journal -/
theorem Lay.js {V V1 V' : EV} {e : EEnt} {f : AW → AW} {na ns nt : Nat} (h : Lay V V1 na ns nt) (ho : VOk V) (sl : SameLen V1 V') (hu : Ext V1 (undoE V' e)) (hj : V'.journal = V1.journal ++ [e]) (hm : V'.marks = V1.marks) (hog : ogV V' = ogV V1) (hab : absV V' = f (absV V1)) {nl : Nat} (hlg : V'.logs.length ≤ V1.logs.length + nl) : JS V V' f na ns nt 1 nl := by
  refine ⟨fun {A sv og} hv => ?_, fun a ha => (sl.hasA a).2 (h.ext.hasA ha), fun a k ha => (sl.hasS a k).2 (h.ext.hasS ha), hm.trans h.m, by rw [sl.al]; exact h.na, by rw [sl.sl]; exact h.ns, by rw [sl.tl]; exact h.nt, by rw [hj, h.j, List.length_append]; simp, by rw [← h.ext.logs]; exact hlg⟩
  have h1 := hv.step ho (h.ext.trans hu) (by rw [hj, h.j]) (hm.trans h.m) (hog.trans (h.ext.og ho.sa))
  have h2 : absV V' = f A := by rw [hab, h.ext.abs ho.sa ho.ta, hv.abs]
  rw [h2] at h1
  exact h1
theorem put_bal {V V1 : EV} {i : Nat} {x : EAcct} {v : Nat} {na ns nt : Nat} (h : Lay V V1 na ns nt) (ho : VOk V) (hi : V1.accts[i]? = some x) (hr : V.journal.length < 65536) :
    VOk { V1 with accts := V1.accts.set i { x with bal := v }, journal := V1.journal ++ [⟨0, i, 0, x.bal, [], false⟩] } ∧ JS V { V1 with accts := V1.accts.set i { x with bal := v }, journal := V1.journal ++ [⟨0, i, 0, x.bal, [], false⟩] } (fun A => { A with bal := fset A.bal x.addr v }) na ns nt 1 0 := by
  have hlt := (List.getElem?_eq_some_iff.1 hi).1
  have sl : SameLen V1 { V1 with accts := V1.accts.set i { x with bal := v }, journal := V1.journal ++ [⟨0, i, 0, x.bal, [], false⟩] } := ⟨set_ks hi rfl, rfl, rfl⟩
  refine ⟨h.ok.data sl ⟨by show (V1.accts.set i _).length ≤ 2560; rw [List.length_set]; exact h.ok.bd.accts, h.ok.bd.slots, by show (V1.journal ++ [_]).length ≤ 65536; rw [List.length_append, h.j]; simp only [List.length_cons, List.length_nil]; omega, h.ok.bd.marks, h.ok.bd.mkb, h.ok.bd.ref, h.ok.bd.logs, h.ok.bd.temps⟩ rfl rfl rfl rfl (fun e he => ?_) ?_, h.js ho sl ?_ rfl rfl ?_ ?_ (Nat.le_refl _)⟩
  · rcases List.mem_append.1 he with he | he
    · exact h.ok.jr e he
    · simp at he
      rw [he]
      exact ⟨fun _ => hlt, fun k => by simp at k, fun k => by simp at k⟩
  · show (List.filter _ (V1.journal ++ [_])).length ≤ V1.logs.length
    rw [List.filter_append, List.length_append]
    simp
    exact h.ok.jl
  · rw [u_0 rfl]
    refine ⟨⟨[], ?_, fun _ h => by simp at h⟩, ⟨[], by simp, fun _ h => by simp at h⟩, ⟨[], by simp, fun _ h => by simp at h⟩, rfl, rfl⟩
    show (V1.accts.set i _).modify i _ = V1.accts ++ []
    rw [List.append_nil]
    exact set_mod hi rfl
  · funext a k
    unfold ogV
    rw [sx_same sl rfl]
  · have hax := ax_set (V' := { V1 with accts := V1.accts.set i { x with bal := v }, journal := V1.journal ++ [⟨0, i, 0, x.bal, [], false⟩] }) h.ok hi (y := { x with bal := v }) rfl rfl
    have hx := ax_eq h.ok hi rfl
    unfold absV fset
    simp only [AW.mk.injEq, sx_same sl rfl, tx_same sl rfl, hax, true_and, and_true]
    refine ⟨?_, ?_, ?_, ?_, ?_, ?_⟩ <;> (funext b; by_cases e : b = x.addr <;> simp [e, hx])
theorem put_nonce {V V1 : EV} {i : Nat} {x : EAcct} {v : Nat} {na ns nt : Nat} (h : Lay V V1 na ns nt) (ho : VOk V) (hi : V1.accts[i]? = some x) (hr : V.journal.length < 65536) :
    VOk { V1 with accts := V1.accts.set i { x with nonce := v }, journal := V1.journal ++ [⟨1, i, x.nonce, 0, [], false⟩] } ∧ JS V { V1 with accts := V1.accts.set i { x with nonce := v }, journal := V1.journal ++ [⟨1, i, x.nonce, 0, [], false⟩] } (fun A => { A with nonce := fset A.nonce x.addr v }) na ns nt 1 0 := by
  have hlt := (List.getElem?_eq_some_iff.1 hi).1
  have sl : SameLen V1 { V1 with accts := V1.accts.set i { x with nonce := v }, journal := V1.journal ++ [⟨1, i, x.nonce, 0, [], false⟩] } := ⟨set_ks hi rfl, rfl, rfl⟩
  refine ⟨h.ok.data sl ⟨by show (V1.accts.set i _).length ≤ 2560; rw [List.length_set]; exact h.ok.bd.accts, h.ok.bd.slots, by show (V1.journal ++ [_]).length ≤ 65536; rw [List.length_append, h.j]; simp only [List.length_cons, List.length_nil]; omega, h.ok.bd.marks, h.ok.bd.mkb, h.ok.bd.ref, h.ok.bd.logs, h.ok.bd.temps⟩ rfl rfl rfl rfl (fun e he => ?_) ?_, h.js ho sl ?_ rfl rfl ?_ ?_ (Nat.le_refl _)⟩
  · rcases List.mem_append.1 he with he | he
    · exact h.ok.jr e he
    · simp at he
      rw [he]
      exact ⟨fun _ => hlt, fun k => by simp at k, fun k => by simp at k⟩
  · show (List.filter _ (V1.journal ++ [_])).length ≤ V1.logs.length
    rw [List.filter_append, List.length_append]
    simp
    exact h.ok.jl
  · rw [u_1 rfl]
    refine ⟨⟨[], ?_, fun _ h => by simp at h⟩, ⟨[], by simp, fun _ h => by simp at h⟩, ⟨[], by simp, fun _ h => by simp at h⟩, rfl, rfl⟩
    show (V1.accts.set i _).modify i _ = V1.accts ++ []
    rw [List.append_nil]
    exact set_mod hi rfl
  · funext a k
    unfold ogV
    rw [sx_same sl rfl]
  · have hax := ax_set (V' := { V1 with accts := V1.accts.set i { x with nonce := v }, journal := V1.journal ++ [⟨1, i, x.nonce, 0, [], false⟩] }) h.ok hi (y := { x with nonce := v }) rfl rfl
    have hx := ax_eq h.ok hi rfl
    unfold absV fset
    simp only [AW.mk.injEq, sx_same sl rfl, tx_same sl rfl, hax, true_and, and_true]
    refine ⟨?_, ?_, ?_, ?_, ?_, ?_⟩ <;> (funext b; by_cases e : b = x.addr <;> simp [e, hx])
theorem put_code {V V1 : EV} {i : Nat} {x : EAcct} {v : List Nat} {na ns nt : Nat} (h : Lay V V1 na ns nt) (ho : VOk V) (hi : V1.accts[i]? = some x) (hr : V.journal.length < 65536) :
    VOk { V1 with accts := V1.accts.set i { x with code := v }, journal := V1.journal ++ [⟨2, i, 0, 0, x.code, false⟩] } ∧ JS V { V1 with accts := V1.accts.set i { x with code := v }, journal := V1.journal ++ [⟨2, i, 0, 0, x.code, false⟩] } (fun A => { A with code := fset A.code x.addr v }) na ns nt 1 0 := by
  have hlt := (List.getElem?_eq_some_iff.1 hi).1
  have sl : SameLen V1 { V1 with accts := V1.accts.set i { x with code := v }, journal := V1.journal ++ [⟨2, i, 0, 0, x.code, false⟩] } := ⟨set_ks hi rfl, rfl, rfl⟩
  refine ⟨h.ok.data sl ⟨by show (V1.accts.set i _).length ≤ 2560; rw [List.length_set]; exact h.ok.bd.accts, h.ok.bd.slots, by show (V1.journal ++ [_]).length ≤ 65536; rw [List.length_append, h.j]; simp only [List.length_cons, List.length_nil]; omega, h.ok.bd.marks, h.ok.bd.mkb, h.ok.bd.ref, h.ok.bd.logs, h.ok.bd.temps⟩ rfl rfl rfl rfl (fun e he => ?_) ?_, h.js ho sl ?_ rfl rfl ?_ ?_ (Nat.le_refl _)⟩
  · rcases List.mem_append.1 he with he | he
    · exact h.ok.jr e he
    · simp at he
      rw [he]
      exact ⟨fun _ => hlt, fun k => by simp at k, fun k => by simp at k⟩
  · show (List.filter _ (V1.journal ++ [_])).length ≤ V1.logs.length
    rw [List.filter_append, List.length_append]
    simp
    exact h.ok.jl
  · rw [u_2 rfl]
    refine ⟨⟨[], ?_, fun _ h => by simp at h⟩, ⟨[], by simp, fun _ h => by simp at h⟩, ⟨[], by simp, fun _ h => by simp at h⟩, rfl, rfl⟩
    show (V1.accts.set i _).modify i _ = V1.accts ++ []
    rw [List.append_nil]
    exact set_mod hi rfl
  · funext a k
    unfold ogV
    rw [sx_same sl rfl]
  · have hax := ax_set (V' := { V1 with accts := V1.accts.set i { x with code := v }, journal := V1.journal ++ [⟨2, i, 0, 0, x.code, false⟩] }) h.ok hi (y := { x with code := v }) rfl rfl
    have hx := ax_eq h.ok hi rfl
    unfold absV fset
    simp only [AW.mk.injEq, sx_same sl rfl, tx_same sl rfl, hax, true_and, and_true]
    refine ⟨?_, ?_, ?_, ?_, ?_, ?_⟩ <;> (funext b; by_cases e : b = x.addr <;> simp [e, hx])
theorem put_warm {V V1 : EV} {i : Nat} {x : EAcct} {v : Bool} {na ns nt : Nat} (h : Lay V V1 na ns nt) (ho : VOk V) (hi : V1.accts[i]? = some x) (hr : V.journal.length < 65536) :
    VOk { V1 with accts := V1.accts.set i { x with warm := v }, journal := V1.journal ++ [⟨4, i, 0, 0, [], x.warm⟩] } ∧ JS V { V1 with accts := V1.accts.set i { x with warm := v }, journal := V1.journal ++ [⟨4, i, 0, 0, [], x.warm⟩] } (fun A => { A with warmA := fset A.warmA x.addr v }) na ns nt 1 0 := by
  have hlt := (List.getElem?_eq_some_iff.1 hi).1
  have sl : SameLen V1 { V1 with accts := V1.accts.set i { x with warm := v }, journal := V1.journal ++ [⟨4, i, 0, 0, [], x.warm⟩] } := ⟨set_ks hi rfl, rfl, rfl⟩
  refine ⟨h.ok.data sl ⟨by show (V1.accts.set i _).length ≤ 2560; rw [List.length_set]; exact h.ok.bd.accts, h.ok.bd.slots, by show (V1.journal ++ [_]).length ≤ 65536; rw [List.length_append, h.j]; simp only [List.length_cons, List.length_nil]; omega, h.ok.bd.marks, h.ok.bd.mkb, h.ok.bd.ref, h.ok.bd.logs, h.ok.bd.temps⟩ rfl rfl rfl rfl (fun e he => ?_) ?_, h.js ho sl ?_ rfl rfl ?_ ?_ (Nat.le_refl _)⟩
  · rcases List.mem_append.1 he with he | he
    · exact h.ok.jr e he
    · simp at he
      rw [he]
      exact ⟨fun _ => hlt, fun k => by simp at k, fun k => by simp at k⟩
  · show (List.filter _ (V1.journal ++ [_])).length ≤ V1.logs.length
    rw [List.filter_append, List.length_append]
    simp
    exact h.ok.jl
  · rw [u_4 rfl]
    refine ⟨⟨[], ?_, fun _ h => by simp at h⟩, ⟨[], by simp, fun _ h => by simp at h⟩, ⟨[], by simp, fun _ h => by simp at h⟩, rfl, rfl⟩
    show (V1.accts.set i _).modify i _ = V1.accts ++ []
    rw [List.append_nil]
    exact set_mod hi rfl
  · funext a k
    unfold ogV
    rw [sx_same sl rfl]
  · have hax := ax_set (V' := { V1 with accts := V1.accts.set i { x with warm := v }, journal := V1.journal ++ [⟨4, i, 0, 0, [], x.warm⟩] }) h.ok hi (y := { x with warm := v }) rfl rfl
    have hx := ax_eq h.ok hi rfl
    unfold absV fset
    simp only [AW.mk.injEq, sx_same sl rfl, tx_same sl rfl, hax, true_and, and_true]
    refine ⟨?_, ?_, ?_, ?_, ?_, ?_⟩ <;> (funext b; by_cases e : b = x.addr <;> simp [e, hx])
theorem put_made {V V1 : EV} {i : Nat} {x : EAcct} {v : Bool} {na ns nt : Nat} (h : Lay V V1 na ns nt) (ho : VOk V) (hi : V1.accts[i]? = some x) (hr : V.journal.length < 65536) :
    VOk { V1 with accts := V1.accts.set i { x with made := v }, journal := V1.journal ++ [⟨9, i, 0, 0, [], x.made⟩] } ∧ JS V { V1 with accts := V1.accts.set i { x with made := v }, journal := V1.journal ++ [⟨9, i, 0, 0, [], x.made⟩] } (fun A => { A with made := fset A.made x.addr v }) na ns nt 1 0 := by
  have hlt := (List.getElem?_eq_some_iff.1 hi).1
  have sl : SameLen V1 { V1 with accts := V1.accts.set i { x with made := v }, journal := V1.journal ++ [⟨9, i, 0, 0, [], x.made⟩] } := ⟨set_ks hi rfl, rfl, rfl⟩
  refine ⟨h.ok.data sl ⟨by show (V1.accts.set i _).length ≤ 2560; rw [List.length_set]; exact h.ok.bd.accts, h.ok.bd.slots, by show (V1.journal ++ [_]).length ≤ 65536; rw [List.length_append, h.j]; simp only [List.length_cons, List.length_nil]; omega, h.ok.bd.marks, h.ok.bd.mkb, h.ok.bd.ref, h.ok.bd.logs, h.ok.bd.temps⟩ rfl rfl rfl rfl (fun e he => ?_) ?_, h.js ho sl ?_ rfl rfl ?_ ?_ (Nat.le_refl _)⟩
  · rcases List.mem_append.1 he with he | he
    · exact h.ok.jr e he
    · simp at he
      rw [he]
      exact ⟨fun _ => hlt, fun k => by simp at k, fun k => by simp at k⟩
  · show (List.filter _ (V1.journal ++ [_])).length ≤ V1.logs.length
    rw [List.filter_append, List.length_append]
    simp
    exact h.ok.jl
  · rw [u_9 rfl]
    refine ⟨⟨[], ?_, fun _ h => by simp at h⟩, ⟨[], by simp, fun _ h => by simp at h⟩, ⟨[], by simp, fun _ h => by simp at h⟩, rfl, rfl⟩
    show (V1.accts.set i _).modify i _ = V1.accts ++ []
    rw [List.append_nil]
    exact set_mod hi rfl
  · funext a k
    unfold ogV
    rw [sx_same sl rfl]
  · have hax := ax_set (V' := { V1 with accts := V1.accts.set i { x with made := v }, journal := V1.journal ++ [⟨9, i, 0, 0, [], x.made⟩] }) h.ok hi (y := { x with made := v }) rfl rfl
    have hx := ax_eq h.ok hi rfl
    unfold absV fset
    simp only [AW.mk.injEq, sx_same sl rfl, tx_same sl rfl, hax, true_and, and_true]
    refine ⟨?_, ?_, ?_, ?_, ?_, ?_⟩ <;> (funext b; by_cases e : b = x.addr <;> simp [e, hx])
theorem put_gone {V V1 : EV} {i : Nat} {x : EAcct} {v : Bool} {na ns nt : Nat} (h : Lay V V1 na ns nt) (ho : VOk V) (hi : V1.accts[i]? = some x) (hr : V.journal.length < 65536) :
    VOk { V1 with accts := V1.accts.set i { x with gone := v }, journal := V1.journal ++ [⟨10, i, 0, 0, [], x.gone⟩] } ∧ JS V { V1 with accts := V1.accts.set i { x with gone := v }, journal := V1.journal ++ [⟨10, i, 0, 0, [], x.gone⟩] } (fun A => { A with gone := fset A.gone x.addr v }) na ns nt 1 0 := by
  have hlt := (List.getElem?_eq_some_iff.1 hi).1
  have sl : SameLen V1 { V1 with accts := V1.accts.set i { x with gone := v }, journal := V1.journal ++ [⟨10, i, 0, 0, [], x.gone⟩] } := ⟨set_ks hi rfl, rfl, rfl⟩
  refine ⟨h.ok.data sl ⟨by show (V1.accts.set i _).length ≤ 2560; rw [List.length_set]; exact h.ok.bd.accts, h.ok.bd.slots, by show (V1.journal ++ [_]).length ≤ 65536; rw [List.length_append, h.j]; simp only [List.length_cons, List.length_nil]; omega, h.ok.bd.marks, h.ok.bd.mkb, h.ok.bd.ref, h.ok.bd.logs, h.ok.bd.temps⟩ rfl rfl rfl rfl (fun e he => ?_) ?_, h.js ho sl ?_ rfl rfl ?_ ?_ (Nat.le_refl _)⟩
  · rcases List.mem_append.1 he with he | he
    · exact h.ok.jr e he
    · simp at he
      rw [he]
      exact ⟨fun _ => hlt, fun k => by simp at k, fun k => by simp at k⟩
  · show (List.filter _ (V1.journal ++ [_])).length ≤ V1.logs.length
    rw [List.filter_append, List.length_append]
    simp
    exact h.ok.jl
  · rw [u_10 rfl]
    refine ⟨⟨[], ?_, fun _ h => by simp at h⟩, ⟨[], by simp, fun _ h => by simp at h⟩, ⟨[], by simp, fun _ h => by simp at h⟩, rfl, rfl⟩
    show (V1.accts.set i _).modify i _ = V1.accts ++ []
    rw [List.append_nil]
    exact set_mod hi rfl
  · funext a k
    unfold ogV
    rw [sx_same sl rfl]
  · have hax := ax_set (V' := { V1 with accts := V1.accts.set i { x with gone := v }, journal := V1.journal ++ [⟨10, i, 0, 0, [], x.gone⟩] }) h.ok hi (y := { x with gone := v }) rfl rfl
    have hx := ax_eq h.ok hi rfl
    unfold absV fset
    simp only [AW.mk.injEq, sx_same sl rfl, tx_same sl rfl, hax, true_and, and_true]
    refine ⟨?_, ?_, ?_, ?_, ?_, ?_⟩ <;> (funext b; by_cases e : b = x.addr <;> simp [e, hx])
theorem put_store {V V1 : EV} {i a : Nat} {x : ESlot} {v : Nat} {na ns nt : Nat} (h : Lay V V1 na ns nt) (ho : VOk V) (ha : hasA V1 a) (hxa : x.acct = ai V1 a) (hi : V1.slots[i]? = some x) (hr : V.journal.length < 65536) :
    VOk { V1 with slots := V1.slots.set i { x with val := v }, journal := V1.journal ++ [⟨3, i, 0, x.val, [], false⟩] } ∧ JS V { V1 with slots := V1.slots.set i { x with val := v }, journal := V1.journal ++ [⟨3, i, 0, x.val, [], false⟩] } (fun A => { A with slot := fset2 A.slot a x.key v }) na ns nt 1 0 := by
  have hlt := (List.getElem?_eq_some_iff.1 hi).1
  have sl : SameLen V1 { V1 with slots := V1.slots.set i { x with val := v }, journal := V1.journal ++ [⟨3, i, 0, x.val, [], false⟩] } := ⟨rfl, sset_ks hi rfl rfl, rfl⟩
  have hsx := sx_set (V' := { V1 with slots := V1.slots.set i { x with val := v }, journal := V1.journal ++ [⟨3, i, 0, x.val, [], false⟩] }) h.ok hi ha hxa (y := { x with val := v }) rfl rfl rfl rfl
  have hx := sx_eq (a := a) (k := x.key) h.ok hi hxa rfl
  refine ⟨h.ok.data sl ⟨h.ok.bd.accts, by show (V1.slots.set i _).length ≤ 2560; rw [List.length_set]; exact h.ok.bd.slots, by show (V1.journal ++ [_]).length ≤ 65536; rw [List.length_append, h.j]; simp only [List.length_cons, List.length_nil]; omega, h.ok.bd.marks, h.ok.bd.mkb, h.ok.bd.ref, h.ok.bd.logs, h.ok.bd.temps⟩ rfl rfl rfl rfl (fun e he => ?_) ?_, h.js ho sl ?_ rfl rfl ?_ ?_ (Nat.le_refl _)⟩
  · rcases List.mem_append.1 he with he | he
    · exact h.ok.jr e he
    · simp at he
      rw [he]
      exact ⟨fun k => by simp at k, fun _ => hlt, fun k => by simp at k⟩
  · show (List.filter _ (V1.journal ++ [_])).length ≤ V1.logs.length
    rw [List.filter_append, List.length_append]
    simp
    exact h.ok.jl
  · rw [u_3 rfl]
    refine ⟨⟨[], by simp, fun _ h => by simp at h⟩, ⟨[], ?_, fun _ h => by simp at h⟩, ⟨[], by simp, fun _ h => by simp at h⟩, rfl, rfl⟩
    show (V1.slots.set i _).modify i _ = V1.slots ++ []
    rw [List.append_nil]
    exact set_mod hi rfl
  · funext b q
    unfold ogV
    rw [hsx]
    by_cases e : b = a ∧ q = x.key
    · rw [if_pos e, e.1, e.2, hx]
    · rw [if_neg e]
  · have hax : ∀ b, ax { V1 with slots := V1.slots.set i { x with val := v }, journal := V1.journal ++ [⟨3, i, 0, x.val, [], false⟩] } b = ax V1 b := fun b => ax_same rfl b
    unfold absV fset2
    simp only [AW.mk.injEq, hax, tx_same sl rfl, hsx, true_and, and_true]
    refine ⟨?_, ?_⟩ <;> (funext b q; by_cases e : b = a ∧ q = x.key <;> simp [e, hx])
theorem put_warmS {V V1 : EV} {i a : Nat} {x : ESlot} {v : Bool} {na ns nt : Nat} (h : Lay V V1 na ns nt) (ho : VOk V) (ha : hasA V1 a) (hxa : x.acct = ai V1 a) (hi : V1.slots[i]? = some x) (hr : V.journal.length < 65536) :
    VOk { V1 with slots := V1.slots.set i { x with warm := v }, journal := V1.journal ++ [⟨5, i, 0, 0, [], x.warm⟩] } ∧ JS V { V1 with slots := V1.slots.set i { x with warm := v }, journal := V1.journal ++ [⟨5, i, 0, 0, [], x.warm⟩] } (fun A => { A with warmS := fset2 A.warmS a x.key v }) na ns nt 1 0 := by
  have hlt := (List.getElem?_eq_some_iff.1 hi).1
  have sl : SameLen V1 { V1 with slots := V1.slots.set i { x with warm := v }, journal := V1.journal ++ [⟨5, i, 0, 0, [], x.warm⟩] } := ⟨rfl, sset_ks hi rfl rfl, rfl⟩
  have hsx := sx_set (V' := { V1 with slots := V1.slots.set i { x with warm := v }, journal := V1.journal ++ [⟨5, i, 0, 0, [], x.warm⟩] }) h.ok hi ha hxa (y := { x with warm := v }) rfl rfl rfl rfl
  have hx := sx_eq (a := a) (k := x.key) h.ok hi hxa rfl
  refine ⟨h.ok.data sl ⟨h.ok.bd.accts, by show (V1.slots.set i _).length ≤ 2560; rw [List.length_set]; exact h.ok.bd.slots, by show (V1.journal ++ [_]).length ≤ 65536; rw [List.length_append, h.j]; simp only [List.length_cons, List.length_nil]; omega, h.ok.bd.marks, h.ok.bd.mkb, h.ok.bd.ref, h.ok.bd.logs, h.ok.bd.temps⟩ rfl rfl rfl rfl (fun e he => ?_) ?_, h.js ho sl ?_ rfl rfl ?_ ?_ (Nat.le_refl _)⟩
  · rcases List.mem_append.1 he with he | he
    · exact h.ok.jr e he
    · simp at he
      rw [he]
      exact ⟨fun k => by simp at k, fun _ => hlt, fun k => by simp at k⟩
  · show (List.filter _ (V1.journal ++ [_])).length ≤ V1.logs.length
    rw [List.filter_append, List.length_append]
    simp
    exact h.ok.jl
  · rw [u_5 rfl]
    refine ⟨⟨[], by simp, fun _ h => by simp at h⟩, ⟨[], ?_, fun _ h => by simp at h⟩, ⟨[], by simp, fun _ h => by simp at h⟩, rfl, rfl⟩
    show (V1.slots.set i _).modify i _ = V1.slots ++ []
    rw [List.append_nil]
    exact set_mod hi rfl
  · funext b q
    unfold ogV
    rw [hsx]
    by_cases e : b = a ∧ q = x.key
    · rw [if_pos e, e.1, e.2, hx]
    · rw [if_neg e]
  · have hax : ∀ b, ax { V1 with slots := V1.slots.set i { x with warm := v }, journal := V1.journal ++ [⟨5, i, 0, 0, [], x.warm⟩] } b = ax V1 b := fun b => ax_same rfl b
    unfold absV fset2
    simp only [AW.mk.injEq, hax, tx_same sl rfl, hsx, true_and, and_true]
    refine ⟨?_, ?_⟩ <;> (funext b q; by_cases e : b = a ∧ q = x.key <;> simp [e, hx])
theorem put_temp {V V1 : EV} {i a : Nat} {x : ETemp} {v : Nat} {na ns nt : Nat} (h : Lay V V1 na ns nt) (ho : VOk V) (ha : hasA V1 a) (hxa : x.acct = ai V1 a) (hi : V1.temps[i]? = some x) (hr : V.journal.length < 65536) :
    VOk { V1 with temps := V1.temps.set i { x with val := v }, journal := V1.journal ++ [⟨8, i, 0, x.val, [], false⟩] } ∧ JS V { V1 with temps := V1.temps.set i { x with val := v }, journal := V1.journal ++ [⟨8, i, 0, x.val, [], false⟩] } (fun A => { A with temp := fset2 A.temp a x.key v }) na ns nt 1 0 := by
  have hlt := (List.getElem?_eq_some_iff.1 hi).1
  have sl : SameLen V1 { V1 with temps := V1.temps.set i { x with val := v }, journal := V1.journal ++ [⟨8, i, 0, x.val, [], false⟩] } := ⟨rfl, rfl, tset_ks hi rfl rfl⟩
  have htx := tx_set (V' := { V1 with temps := V1.temps.set i { x with val := v }, journal := V1.journal ++ [⟨8, i, 0, x.val, [], false⟩] }) h.ok hi ha hxa (y := { x with val := v }) rfl rfl rfl rfl
  have hx := tx_eq (a := a) (k := x.key) h.ok hi hxa rfl
  refine ⟨h.ok.data sl ⟨h.ok.bd.accts, h.ok.bd.slots, by show (V1.journal ++ [_]).length ≤ 65536; rw [List.length_append, h.j]; simp only [List.length_cons, List.length_nil]; omega, h.ok.bd.marks, h.ok.bd.mkb, h.ok.bd.ref, h.ok.bd.logs, by show (V1.temps.set i _).length ≤ 12288; rw [List.length_set]; exact h.ok.bd.temps⟩ rfl rfl rfl rfl (fun e he => ?_) ?_, h.js ho sl ?_ rfl rfl ?_ ?_ (Nat.le_refl _)⟩
  · rcases List.mem_append.1 he with he | he
    · exact h.ok.jr e he
    · simp at he
      rw [he]
      exact ⟨fun k => by simp at k, fun k => by simp at k, fun _ => hlt⟩
  · show (List.filter _ (V1.journal ++ [_])).length ≤ V1.logs.length
    rw [List.filter_append, List.length_append]
    simp
    exact h.ok.jl
  · rw [u_8 rfl]
    refine ⟨⟨[], by simp, fun _ h => by simp at h⟩, ⟨[], by simp, fun _ h => by simp at h⟩, ⟨[], ?_, fun _ h => by simp at h⟩, rfl, rfl⟩
    show (V1.temps.set i _).modify i _ = V1.temps ++ []
    rw [List.append_nil]
    exact set_mod hi rfl
  · funext b q
    unfold ogV
    rw [sx_same sl rfl]
  · have hax : ∀ b, ax { V1 with temps := V1.temps.set i { x with val := v }, journal := V1.journal ++ [⟨8, i, 0, x.val, [], false⟩] } b = ax V1 b := fun b => ax_same rfl b
    unfold absV fset2
    simp only [AW.mk.injEq, hax, sx_same sl rfl, htx, true_and, and_true]
    (funext b q; by_cases e : b = a ∧ q = x.key <;> simp [e, hx])
theorem put_ref {V : EV} {n : Nat} (ho : VOk V) (hn : n < 18446744073709551616) (hr : V.journal.length < 65536) :
    VOk { V with ref := n, journal := V.journal ++ [⟨6, 0, V.ref, 0, [], false⟩] } ∧ JS V { V with ref := n, journal := V.journal ++ [⟨6, 0, V.ref, 0, [], false⟩] } (fun A => { A with refund := n }) 0 0 0 1 0 := by
  have h := Lay.refl ho
  have sl : SameLen V { V with ref := n, journal := V.journal ++ [⟨6, 0, V.ref, 0, [], false⟩] } := ⟨rfl, rfl, rfl⟩
  refine ⟨h.ok.data sl ⟨ho.bd.accts, ho.bd.slots, by show (V.journal ++ [_]).length ≤ 65536; rw [List.length_append]; simp only [List.length_cons, List.length_nil]; omega, ho.bd.marks, ho.bd.mkb, hn, ho.bd.logs, ho.bd.temps⟩ rfl rfl rfl rfl (fun e he => ?_) ?_, h.js ho sl ?_ rfl rfl rfl rfl (Nat.le_refl _)⟩
  · rcases List.mem_append.1 he with he | he
    · exact h.ok.jr e he
    · simp at he
      rw [he]
      exact ⟨fun k => by simp at k, fun k => by simp at k, fun k => by simp at k⟩
  · show (List.filter _ (V.journal ++ [_])).length ≤ V.logs.length
    rw [List.filter_append, List.length_append]
    simp
    exact h.ok.jl
  · exact ⟨⟨[], by simp [undoE], fun _ h => by simp at h⟩, ⟨[], by simp [undoE], fun _ h => by simp at h⟩, ⟨[], by simp [undoE], fun _ h => by simp at h⟩, rfl, rfl⟩
theorem put_log {V : EV} {l : YLog} (ho : VOk V) (hl : V.logs.length < 2800) (hr : V.journal.length < 65536) :
    VOk { V with logs := V.logs ++ [l], journal := V.journal ++ [⟨7, 0, 0, 0, [], false⟩] } ∧ JS V { V with logs := V.logs ++ [l], journal := V.journal ++ [⟨7, 0, 0, 0, [], false⟩] } (fun A => { A with logs := A.logs ++ [l] }) 0 0 0 1 1 := by
  have h := Lay.refl ho
  have sl : SameLen V { V with logs := V.logs ++ [l], journal := V.journal ++ [⟨7, 0, 0, 0, [], false⟩] } := ⟨rfl, rfl, rfl⟩
  refine ⟨h.ok.data sl ⟨ho.bd.accts, ho.bd.slots, by show (V.journal ++ [_]).length ≤ 65536; rw [List.length_append]; simp only [List.length_cons, List.length_nil]; omega, ho.bd.marks, ho.bd.mkb, ho.bd.ref, by show (V.logs ++ [l]).length ≤ 2800; rw [List.length_append]; simp only [List.length_cons, List.length_nil]; omega, ho.bd.temps⟩ rfl rfl rfl rfl (fun e he => ?_) ?_, h.js ho sl ?_ rfl rfl rfl rfl (by simp)⟩
  · rcases List.mem_append.1 he with he | he
    · exact h.ok.jr e he
    · simp at he
      rw [he]
      exact ⟨fun k => by simp at k, fun k => by simp at k, fun k => by simp at k⟩
  · show (List.filter _ (V.journal ++ [_])).length ≤ (V.logs ++ [l]).length
    rw [List.filter_append, List.length_append, List.length_append]
    have := ho.jl
    simp
    exact this
  · exact ⟨⟨[], by simp [undoE], fun _ h => by simp at h⟩, ⟨[], by simp [undoE], fun _ h => by simp at h⟩, ⟨[], by simp [undoE], fun _ h => by simp at h⟩, rfl, by simp [undoE]⟩
end Go.Proofs.YgvaawGreat
