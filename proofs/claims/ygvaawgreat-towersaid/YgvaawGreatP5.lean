import Derived.Test.YgvaawGreatP4
import Derived.Test.YgvaawGreatQ1
set_option maxRecDepth 100000
set_option linter.unusedSimpArgs false
set_option linter.unusedVariables false
namespace Go.Proofs.YgvaawGreat
open Go
/-! What a step leans on follows from what holds. -/
section
variable {s s' : YSt} {f u p g : YF} {low : List YF} {q : Nat} {l : List Nat} {W : YWorld} {st : List (Nat × Nat × Nat)} {hold : Nat} {V V' : EV}
theorem bal_non (l : List YAcct) (b n a : Nat) : (acctAt (putA l (setNon (acctAt l b) n)) a).bal = (acctAt l a).bal := by
  rw [acct_put]
  have e : (setNon (acctAt l b) n).addr = b := acct_ad l b
  rw [e]
  by_cases h : a = b
  · rw [if_pos h, h]; rfl
  · rw [if_neg h]
theorem sum_non {l : List YAcct} (h : AlOk l) (b n : Nat) : sumB (putA l (setNon (acctAt l b) n)) = sumB l :=
  sum_same h (by show (acctAt l b).bal = (acctAt l (acctAt l b).addr).bal; rw [acct_ad])
theorem WI.room (h : WI st hold W) {a b v : Nat} (hv : v ≤ (acctAt W.accts a).bal) : (acctAt (takeB W.accts a v) b).bal + v < W256 := by
  have := move_room h.wf.accts (b := b) hv
  have := h.sum
  omega
theorem WI.roomC (h : WI st hold W) {a b c v n m : Nat} (hv : v ≤ (acctAt W.accts a).bal) : (acctAt (takeB (putA (putA W.accts (setNon (acctAt W.accts b) n)) (setNon (acctAt (putA W.accts (setNon (acctAt W.accts b) n)) c) m)) a v) c).bal + v < W256 := by
  have h1 := h.wf.accts.non b n
  have h2 := h1.non c m
  have := move_room h2 (a := a) (b := c) (v := v) (by rw [bal_non, bal_non]; exact hv)
  rw [sum_non h1, sum_non h.wf.accts] at this
  have := h.sum
  omega
theorem Par.of (h : ∀ p ∈ low, PF p) : Par low := fun p hp => by
  have := h p (List.mem_of_getLast? hp)
  exact ⟨this.stk, this.pc, this.out⟩
theorem stepE_of (h : IS s low f) (hs : s.frames = low ++ [f]) (hB : EFB f) : StepE s f low where
  hs := hs
  hp := h.ph
  hap := h.b.ap
  par := Par.of h.par
  fb := hB
  org := h.b.org
  prc := h.b.prc
  rl := h.b.ret
  ml := h.fm
  m32 := h.mf
  gm := by
    have h1 := h.gl
    have h2 := h.b.lim
    have h3 : gm f = f.gas + memN (f.mem.length / 32) := rfl
    omega
  sto := fun _ => sto_ok h.b.st h.b.snz h.b.now
  des := fun _ _ => h.b.now.room (Nat.le_refl _)
  call := fun _ hle _ => h.b.now.room hle
  cre := fun q hq _ hf _ => by
    have hv : argN (stF s f).stack 0 ≤ (acctAt s.now.accts f.self).bal := Nat.le_of_not_lt fun h9 => hf (.inr (.inl h9))
    have e : entA1 (crS { s with ret := [] } (stF s f) q).now (crChild { s with ret := [] } (stF s f) q) = putA (putA s.now.accts (setNon (acctAt s.now.accts f.self) ((acctAt s.now.accts f.self).nonce + 1))) (setNon (acctAt (putA s.now.accts (setNon (acctAt s.now.accts f.self) ((acctAt s.now.accts f.self).nonce + 1))) (crSelf { s with ret := [] } (stF s f) q)) 1) := by
      unfold entA1
      rw [if_pos (by show crN (crK q) = true; rcases hq with h | h <;> subst h <;> decide)]
      rfl
    rw [e]
    exact h.b.now.roomC hv
/-- places enough: a list without twins within another -/
theorem nd_len {α : Type} [DecidableEq α] : ∀ (l m : List α), l.Nodup → (∀ x ∈ l, x ∈ m) → l.length ≤ m.length
  | [], _, _, _ => Nat.zero_le _
  | x :: l, m, h, hs => by
    obtain ⟨h1, h2⟩ := List.nodup_cons.1 h
    have hx := hs x (List.mem_cons_self ..)
    have ih := nd_len l (m.erase x) h2 (fun y hy => (List.mem_erase_of_ne (fun e => h1 (by rw [← e]; exact hy))).2 (hs y (List.mem_cons_of_mem _ hy)))
    rw [List.length_erase_of_mem hx] at ih
    have : 0 < m.length := List.length_pos_of_mem hx
    rw [List.length_cons]
    omega
theorem nd_map {α β : Type} {R : α → α → Prop} {g : α → β} {l : List α} (h : l.Pairwise R) (hg : ∀ x ∈ l, ∀ y ∈ l, R x y → g x ≠ g y) : (l.map g).Nodup := by
  rw [List.Nodup, List.pairwise_map]
  exact h.imp_of_mem (fun hx hy hr => hg _ hx _ hy hr)
structure WLB (W : YWorld) : Prop where
  accts : W.accts.length ≤ 2560
  warmA : W.warmA.length ≤ 2560
  warmS : W.warmS.length ≤ 2560
  temps : W.temps.length ≤ 12288
  made : W.made.length ≤ 2560
  gone : W.gone.length ≤ 2560
  slots : ∀ A ∈ W.accts, A.slots.length ≤ 2560
theorem ai_inj9 {a b : Nat} (ha : hasA V a) (hb : hasA V b) (h : ai V a = ai V b) : a = b := by
  obtain ⟨x, h1, h2⟩ := hasA_ix ha
  obtain ⟨y, h3, h4⟩ := hasA_ix hb
  rw [h] at h1
  rw [h1] at h3
  cases h3
  omega
theorem slot_find {l : List (Nat × Nat)} (h : l.Pairwise Ls) {x : Nat × Nat} (hx : x ∈ l) : slotAt l x.1 = x.2 := by
  unfold slotAt
  induction l with
  | nil => cases hx
  | cons y l ih =>
    obtain ⟨ha, hb⟩ := List.pairwise_cons.1 h
    rw [List.find?_cons]
    rcases List.mem_cons.1 hx with e | e
    · rw [e]; simp
    · have : y.1 < x.1 := ha x e
      rw [show (y.1 == x.1) = false from by simp; omega]
      exact ih hb e
theorem tri_find {l : List (Nat × Nat × Nat)} (h : l.Pairwise Lt3) {x : Nat × Nat × Nat} (hx : x ∈ l) : triAt l x.1 x.2.1 = x.2.2 := by
  induction l with
  | nil => cases hx
  | cons y l ih =>
    obtain ⟨ha, hb⟩ := List.pairwise_cons.1 h
    rw [tri_cons]
    rcases List.mem_cons.1 hx with e | e
    · rw [e, if_pos ⟨rfl, rfl⟩]
    · have := ha x e
      unfold Lt3 at this
      rw [if_neg (by omega)]
      exact ih hb e
theorem has_slot (hsa : ∀ x ∈ V.slots, x.acct < V.accts.length) {a k : Nat} (h : (absV V).slot a k ≠ 0) : hasS V a k := by
  have h : (sx V a k).val ≠ 0 := h
  by_cases h1 : hasA V a
  · refine ⟨h1, Classical.byContradiction fun h2 => h ?_⟩
    rw [sx_no h2]; rfl
  · rw [sx_noA hsa h1] at h
    exact absurd rfl h
theorem has_warmS (hsa : ∀ x ∈ V.slots, x.acct < V.accts.length) {a k : Nat} (h : (absV V).warmS a k = true) : hasS V a k := by
  have h : (sx V a k).warm = true := h
  by_cases h1 : hasA V a
  · refine ⟨h1, Classical.byContradiction fun h2 => ?_⟩
    rw [sx_no h2] at h
    cases h
  · rw [sx_noA hsa h1] at h
    cases h
theorem has_temp (hta : ∀ x ∈ V.temps, x.acct < V.accts.length) {a k : Nat} (h : (absV V).temp a k ≠ 0) : hasT V a k := by
  have h : (tx V a k).val ≠ 0 := h
  by_cases h1 : hasA V a
  · refine ⟨h1, Classical.byContradiction fun h2 => h ?_⟩
    rw [tx_no h2]; rfl
  · rw [tx_noA hta h1] at h
    exact absurd rfl h
theorem has_made {a : Nat} (h : (absV V).made a = true) : hasA V a := by
  refine Classical.byContradiction fun hn => ?_
  have h : (ax V a).made = true := h
  rw [ax_no hn] at h
  cases h
theorem has_gone {a : Nat} (h : (absV V).gone a = true) : hasA V a := by
  refine Classical.byContradiction fun hn => ?_
  have h : (ax V a).gone = true := h
  rw [ax_no hn] at h
  cases h
/-- an account that is listed has an entry -/
theorem has_acct (hw : AlOk W.accts) (hsa : ∀ x ∈ V.slots, x.acct < V.accts.length) (ha : absV V = absY W) {A : YAcct} (hA : A ∈ W.accts) : hasA V A.addr := by
  refine Classical.byContradiction fun hn => ?_
  have he := find_rise hw.rise hA
  have hz := hw.nz A hA
  have e1 : (absV V).nonce A.addr = A.nonce := by rw [ha]; show (acctAt W.accts A.addr).nonce = _; rw [he]
  have e2 : (absV V).bal A.addr = A.bal := by rw [ha]; show (acctAt W.accts A.addr).bal = _; rw [he]
  have e3 : (absV V).code A.addr = A.code := by rw [ha]; show (acctAt W.accts A.addr).code = _; rw [he]
  have f1 : (absV V).nonce A.addr = 0 := by show (ax V A.addr).nonce = 0; rw [ax_no hn]; rfl
  have f2 : (absV V).bal A.addr = 0 := by show (ax V A.addr).bal = 0; rw [ax_no hn]; rfl
  have f3 : (absV V).code A.addr = [] := by show (ax V A.addr).code = []; rw [ax_no hn]; rfl
  have f4 : A.slots = [] := by
    cases hl : A.slots with
    | nil => rfl
    | cons x t =>
      exfalso
      have hx : x ∈ A.slots := by rw [hl]; exact List.mem_cons_self ..
      have e4 : (absV V).slot A.addr x.1 = x.2 := by
        rw [ha]
        show slotAt (acctAt W.accts A.addr).slots x.1 = x.2
        rw [he]
        exact slot_find (hw.sl A hA).rise hx
      exact hn (has_slot hsa (a := A.addr) (k := x.1) (by rw [e4]; exact (hw.sl A hA).nz x hx)).1
  have : emptyS A = true := by
    unfold emptyS emptyB
    rw [f4, show A.nonce = 0 by omega, show A.bal = 0 by omega, show A.code = [] by rw [← e3, f3]]
    rfl
  rw [this] at hz
  cases hz
theorem lb_of (hw : WF W) (bd : VBd V) (hsl : SameLen V V') (hsa : ∀ x ∈ V'.slots, x.acct < V'.accts.length) (hta : ∀ x ∈ V'.temps, x.acct < V'.accts.length) (ha : absV V' = absY W) : WLB W := by
  have la : V'.accts.length = V.accts.length := hsl.al
  have ls : V'.slots.length = V.slots.length := hsl.sl
  have lt : V'.temps.length = V.temps.length := hsl.tl
  have ka : (aKs V'.accts).length = V.accts.length := by rw [← la]; exact List.length_map ..
  have ks : (sKs V'.slots).length = V.slots.length := by rw [← ls]; exact List.length_map ..
  have kt : (tKs V'.temps).length = V.temps.length := by rw [← lt]; exact List.length_map ..
  have addrs : ∀ {l : List Nat}, l.Pairwise (· < ·) → (∀ a ∈ l, hasA V' a) → l.length ≤ 2560 := fun {l} h1 h2 => by
    have := nd_len l (aKs V'.accts) (pwI h1 (fun h => Nat.ne_of_lt h)) h2
    have := bd.accts
    omega
  refine ⟨?_, addrs hw.warmA (fun a h => has_warm (by rw [ha]; exact decide_eq_true h)), ?_, ?_, addrs hw.made (fun a h => has_made (by rw [ha]; exact decide_eq_true h)), addrs hw.gone (fun a h => has_gone (by rw [ha]; exact decide_eq_true h)), fun A hA => ?_⟩
  · have h1 := nd_len (W.accts.map (fun A => A.addr)) (aKs V'.accts) (nd_map hw.accts.rise (fun x _ y _ h => Nat.ne_of_lt h)) (fun a h => by
      obtain ⟨A, hA, e⟩ := List.mem_map.1 h
      rw [← e]
      exact has_acct hw.accts hsa ha hA)
    rw [List.length_map] at h1
    have := bd.accts
    omega
  · have hh : ∀ x ∈ W.warmS, hasS V' x.1 x.2 := fun x hx => has_warmS hsa (by rw [ha]; exact decide_eq_true hx)
    have h1 := nd_len (W.warmS.map (fun x => (ai V' x.1, x.2))) (sKs V'.slots) (nd_map hw.warmS (fun x hx y hy h e => by
      have e1 := congrArg Prod.fst e
      have e2 := congrArg Prod.snd e
      have := ai_inj9 (hh x hx).1 (hh y hy).1 e1
      unfold Lx at h
      simp only at e2
      omega)) (fun z h => by
      obtain ⟨x, hx, e⟩ := List.mem_map.1 h
      rw [← e]
      exact (hh x hx).2)
    rw [List.length_map] at h1
    have := bd.slots
    omega
  · have hh : ∀ x ∈ W.temps, hasT V' x.1 x.2.1 := fun x hx => has_temp hta (by rw [ha]; show triAt W.temps x.1 x.2.1 ≠ 0; rw [tri_find hw.temps hx]; exact hw.tnz x hx)
    have h1 := nd_len (W.temps.map (fun x => (ai V' x.1, x.2.1))) (tKs V'.temps) (nd_map hw.temps (fun x hx y hy h e => by
      have e1 := congrArg Prod.fst e
      have e2 := congrArg Prod.snd e
      have := ai_inj9 (hh x hx).1 (hh y hy).1 e1
      unfold Lt3 at h
      simp only at e2
      omega)) (fun z h => by
      obtain ⟨x, hx, e⟩ := List.mem_map.1 h
      rw [← e]
      exact (hh x hx).2)
    rw [List.length_map] at h1
    have := bd.temps
    omega
  · have he := find_rise hw.accts.rise hA
    have hh : ∀ x ∈ A.slots, hasS V' A.addr x.1 := fun x hx => has_slot hsa (by
      rw [ha]
      show slotAt (acctAt W.accts A.addr).slots x.1 ≠ 0
      rw [he, slot_find (hw.accts.sl A hA).rise hx]
      exact (hw.accts.sl A hA).nz x hx)
    have h1 := nd_len (A.slots.map (fun x => (ai V' A.addr, x.1))) (sKs V'.slots) (nd_map (hw.accts.sl A hA).rise (fun x hx y hy h e => by
      have e2 := congrArg Prod.snd e
      unfold Ls at h
      simp only at e2
      omega)) (fun z h => by
      obtain ⟨x, hx, e⟩ := List.mem_map.1 h
      rw [← e]
      exact (hh x hx).2)
    rw [List.length_map] at h1
    have := bd.slots
    omega
theorem lb_now {A : AW} {sv : List AW} {og : Nat → Nat → Nat} (hw : WF W) (ho : VOk V) (hv : VA V (absY W) sv og) : WLB W := lb_of hw ho.bd ⟨rfl, rfl, rfl⟩ ho.sa ho.ta hv.abs
theorem lb_sav {A : AW} {sv : List AW} {og : Nat → Nat → Nat} {n : Nat} (hw : WF W) (ho : VOk V) (hv : VA V A sv og) (hn : sv[n]? = some (absY W)) : WLB W := by
  have hl : n < V.marks.length := by rw [← hv.len]; exact (List.getElem?_eq_some_iff.1 hn).1
  have hm := (hv.mr n V.marks[n] (List.getElem?_eq_getElem hl)).2
  rw [hn] at hm
  have hm : absY W = sva V V.marks[n] := Option.some.inj hm
  have hs := undoL_len (V.journal.drop V.marks[n]).reverse V
  exact lb_of hw ho.bd hs (hs.sa ho.sa) (hs.ta ho.ta) hm.symm
end
end Go.Proofs.YgvaawGreat
