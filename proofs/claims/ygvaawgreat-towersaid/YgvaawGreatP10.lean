import Derived.Test.YgvaawGreatP5
import Derived.Test.YgvaawGreatE7
import Derived.Test.YgvaawGreatS2
set_option maxRecDepth 100000
set_option linter.unusedSimpArgs false
set_option linter.unusedVariables false
namespace Go.Proofs.YgvaawGreat
open Go
/-! What the vault's Export answers, and that it is the specification's. -/
theorem srt_eq {α : Type} {R : α → α → Prop} (ir : ∀ a, ¬ R a a) (hs : ∀ a b, R a b → ¬ R b a) : ∀ l m : List α, l.Pairwise R → m.Pairwise R → (∀ x, x ∈ l ↔ x ∈ m) → l = m
  | [], [], _, _, _ => rfl
  | [], y :: m, _, _, h => absurd ((h y).2 (List.mem_cons_self ..)) (by simp)
  | x :: l, [], _, _, h => absurd ((h x).1 (List.mem_cons_self ..)) (by simp)
  | x :: l, y :: m, h1, h2, h => by
    obtain ⟨a1, b1⟩ := List.pairwise_cons.1 h1
    obtain ⟨a2, b2⟩ := List.pairwise_cons.1 h2
    have e : x = y := by
      rcases List.mem_cons.1 ((h x).1 (List.mem_cons_self ..)) with h3 | h3
      · exact h3
      · rcases List.mem_cons.1 ((h y).2 (List.mem_cons_self ..)) with h4 | h4
        · exact h4.symm
        · exact absurd (a1 y h4) (hs _ _ (a2 x h3))
    subst e
    rw [srt_eq ir hs l m b1 b2 (fun z => ⟨fun hz => by
      rcases List.mem_cons.1 ((h z).1 (List.mem_cons_of_mem _ hz)) with h3 | h3
      · exact absurd (a1 z hz) (by rw [h3]; exact ir _)
      · exact h3, fun hz => by
      rcases List.mem_cons.1 ((h z).2 (List.mem_cons_of_mem _ hz)) with h3 | h3
      · exact absurd (a2 z hz) (by rw [h3]; exact ir _)
      · exact h3⟩)]
structure ExpOf (V : EV) (L : List YAcct) : Prop where
  rise : L.Pairwise La
  sl : ∀ A ∈ L, A.slots.Pairwise Ls
  of : ∀ A ∈ L, ∃ (i : Nat) (x : EAcct), V.accts[i]? = some x ∧ emA x = false ∧ A.addr = x.addr ∧ A.nonce = x.nonce ∧ A.bal = x.bal ∧ A.code = x.code ∧ ∀ k v, (k, v) ∈ A.slots ↔ v ≠ 0 ∧ ∃ (j : Nat) (y : ESlot), V.slots[j]? = some y ∧ y.acct = i ∧ y.key = k ∧ y.val = v
  all : ∀ (i : Nat) (x : EAcct), V.accts[i]? = some x → emA x = false → ∃ A ∈ L, A.addr = x.addr
theorem slotAt_no {l : List (Nat × Nat)} {k : Nat} (h : ∀ x ∈ l, x.1 ≠ k) : slotAt l k = 0 := slotAt_none (fun j hj => h _ (List.getElem_mem hj))
theorem slot_iff {l : List (Nat × Nat)} (h : SlOk l) (k v : Nat) : (k, v) ∈ l ↔ v ≠ 0 ∧ slotAt l k = v := by
  constructor
  · intro hm
    exact ⟨h.nz _ hm, slot_find h.rise hm⟩
  · rintro ⟨h1, h2⟩
    by_cases hx : ∃ x ∈ l, x.1 = k
    · obtain ⟨x, hx, e⟩ := hx
      have := slot_find h.rise hx
      rw [e, h2] at this
      have e2 : (k, v) = x := by rw [← e, this]
      rw [e2]
      exact hx
    · exact absurd (h2.symm.trans (slotAt_no (fun x hm e => hx ⟨x, hm, e⟩))) h1
theorem yacct_ext {A B : YAcct} (h1 : A.addr = B.addr) (h2 : A.nonce = B.nonce) (h3 : A.bal = B.bal) (h4 : A.code = B.code) (h5 : A.slots = B.slots) : A = B := by
  cases A
  cases B
  simp_all
/-- what Export answers -/
def expL (l : List YAcct) : List YAcct := l.filter (fun A => !emptyB A)
theorem exp_skip {l : List YAcct} {i : Nat} (h : i < l.length) (he : emptyB l[i] = true) : expL (l.take (i + 1)) = expL (l.take i) := by
  unfold expL
  rw [← List.take_append_getElem h, List.filter_append]
  simp [he]
theorem exp_take {l : List YAcct} {i : Nat} (h : i < l.length) (he : emptyB l[i] = false) : expL (l.take (i + 1)) = expL (l.take i) ++ [l[i]] := by
  unfold expL
  rw [← List.take_append_getElem h, List.filter_append]
  simp [he]
theorem exp_len {l : List YAcct} {i : Nat} : (expL (l.take i)).length ≤ l.length := by
  unfold expL
  refine Nat.le_trans (List.length_filter_le _ _) ?_
  rw [List.length_take]
  omega
theorem Ls_ir (a : Nat × Nat) : ¬ Ls a a := fun h => Nat.lt_irrefl _ h
theorem Ls_as (a b : Nat × Nat) (h : Ls a b) : ¬ Ls b a := fun h2 => by unfold Ls at h h2; omega
theorem La_ir (a : YAcct) : ¬ La a a := fun h => Nat.lt_irrefl _ h
theorem La_as (a b : YAcct) (h : La a b) : ¬ La b a := fun h2 => by unfold La at h h2; omega
section
variable {V : EV} {W : YWorld} {L : List YAcct}
theorem exp_in (hw : AlOk W.accts) (ho : VOk V) (hv : absV V = absY W) (h : ExpOf V L) {A : YAcct} (hA : A ∈ L) : A ∈ expL W.accts := by
  obtain ⟨i, x, hx, he, ea, en, eb, ec, es⟩ := h.of A hA
  have hax := ax_eq ho hx rfl
  have hn : (acctAt W.accts x.addr).nonce = x.nonce := by
    have h1 := congrFun (congrArg AW.nonce hv) x.addr
    have h1 : (ax V x.addr).nonce = (acctAt W.accts x.addr).nonce := h1
    rw [← h1, hax]
  have hb : (acctAt W.accts x.addr).bal = x.bal := by
    have h1 := congrFun (congrArg AW.bal hv) x.addr
    have h1 : (ax V x.addr).bal = (acctAt W.accts x.addr).bal := h1
    rw [← h1, hax]
  have hc : (acctAt W.accts x.addr).code = x.code := by
    have h1 := congrFun (congrArg AW.code hv) x.addr
    have h1 : (ax V x.addr).code = (acctAt W.accts x.addr).code := h1
    rw [← h1, hax]
  have hs : ∀ k, slotAt (acctAt W.accts x.addr).slots k = (sx V x.addr k).val := fun k => (congrFun (congrFun (congrArg AW.slot hv) x.addr) k).symm
  have hai := ai_eq ho hx (rfl : x.addr = x.addr)
  have hem : emptyB (acctAt W.accts x.addr) = false := by
    unfold emptyB
    rw [hn, hb, hc]
    exact he
  have hB : acctAt W.accts x.addr ∈ W.accts := by
    rcases acct_mem (l := W.accts) (a := x.addr) with h1 | h1
    · exact h1
    · rw [h1] at hem
      exact absurd hem (fun h9 => by cases h9)
  have e : A = acctAt W.accts x.addr := by
    refine yacct_ext (by rw [acct_ad, ea]) (by rw [hn, en]) (by rw [hb, eb]) (by rw [hc, ec]) ?_
    refine srt_eq Ls_ir Ls_as _ _ (h.sl A hA) (hw.sl _ hB).rise (fun z => ?_)
    obtain ⟨k, v⟩ := z
    rw [es, slot_iff (hw.sl _ hB), hs]
    refine and_congr_right (fun hv0 => ⟨fun ⟨j, y, h1, h2, h3, h4⟩ => ?_, fun h1 => ?_⟩)
    · rw [sx_eq ho h1 (by rw [hai, h2]) h3, h4]
    · have h2 := has_slot (V := V) ho.sa (a := x.addr) (k := k) (by show (sx V x.addr k).val ≠ 0; rw [h1]; exact hv0)
      obtain ⟨y, h3, h4, h5⟩ := hasS_ix h2
      refine ⟨_, y, h3, by rw [h4, hai], h5, ?_⟩
      rw [sx_eq ho h3 h4 h5] at h1
      exact h1
  rw [e]
  exact List.mem_filter.2 ⟨hB, by rw [hem]; rfl⟩
theorem exp_eq (hw : AlOk W.accts) (ho : VOk V) (hv : absV V = absY W) (h : ExpOf V L) : L = expL W.accts := by
  refine srt_eq La_ir La_as _ _ h.rise (hw.rise.filter _) (fun A => ⟨fun hA => exp_in hw ho hv h hA, fun hA => ?_⟩)
  obtain ⟨h1, h2⟩ := List.mem_filter.1 hA
  obtain ⟨x, hx, ha⟩ := hasA_ix (has_acct hw ho.sa hv h1)
  have hax := ax_eq ho hx ha
  have hfr := find_rise hw.rise h1
  have hn : A.nonce = x.nonce := by
    have h1 := congrFun (congrArg AW.nonce hv) A.addr
    have h1 : (ax V A.addr).nonce = (acctAt W.accts A.addr).nonce := h1
    rw [hax, hfr] at h1
    exact h1.symm
  have hb : A.bal = x.bal := by
    have h1 := congrFun (congrArg AW.bal hv) A.addr
    have h1 : (ax V A.addr).bal = (acctAt W.accts A.addr).bal := h1
    rw [hax, hfr] at h1
    exact h1.symm
  have hc : A.code = x.code := by
    have h1 := congrFun (congrArg AW.code hv) A.addr
    have h1 : (ax V A.addr).code = (acctAt W.accts A.addr).code := h1
    rw [hax, hfr] at h1
    exact h1.symm
  have he : emA x = false := by
    unfold emA
    rw [← hn, ← hb, ← hc]
    cases hh : emptyB A with
    | true => rw [hh] at h2; cases h2
    | false => exact hh
  obtain ⟨B, hB, e⟩ := h.all _ x hx he
  have hB2 := (List.mem_filter.1 (exp_in hw ho hv h hB)).1
  have e3 := find_rise hw.rise hB2
  rw [e, ha, hfr] at e3
  rw [e3]
  exact hB
end
/-! The loops of Export as plain lists. -/
def aks (l : List EAcct) : Nat → List SK
  | 0 => []
  | i + 1 => match l[i]? with
    | some x => if emA x = true then aks l i else aks l i ++ [⟨0, x.addr, i⟩]
    | none => aks l i
theorem aks_no {l : List EAcct} {i : Nat} {x : EAcct} (hx : l[i]? = some x) (he : emA x = true) : aks l (i + 1) = aks l i := by
  rw [aks, hx]
  simp only [he, if_true]
theorem aks_yes {l : List EAcct} {i : Nat} {x : EAcct} (hx : l[i]? = some x) (he : emA x = false) : aks l (i + 1) = aks l i ++ [⟨0, x.addr, i⟩] := by
  rw [aks, hx]
  simp only [he, Bool.false_eq_true, if_false]
theorem aks_mem {l : List EAcct} {k : SK} : ∀ n, k ∈ aks l n ↔ k.pl < n ∧ ∃ x, l[k.pl]? = some x ∧ emA x = false ∧ k = ⟨0, x.addr, k.pl⟩
  | 0 => by simp [aks]
  | n + 1 => by
    cases hx : l[n]? with
    | none =>
      rw [aks, hx]
      simp only
      rw [aks_mem n]
      refine ⟨fun ⟨h1, h2⟩ => ⟨by omega, h2⟩, fun ⟨h1, x, h2, h3⟩ => ⟨?_, x, h2, h3⟩⟩
      rcases Nat.lt_or_ge k.pl n with h | h
      · exact h
      · rw [show k.pl = n by omega, hx] at h2; cases h2
    | some x =>
      cases he : emA x with
      | true =>
        rw [aks_no hx he, aks_mem n]
        refine ⟨fun ⟨h1, h2⟩ => ⟨by omega, h2⟩, fun ⟨h1, y, h2, h3, h4⟩ => ⟨?_, y, h2, h3, h4⟩⟩
        rcases Nat.lt_or_ge k.pl n with h | h
        · exact h
        · rw [show k.pl = n by omega, hx] at h2; cases h2; rw [he] at h3; cases h3
      | false =>
        rw [aks_yes hx he, List.mem_append, aks_mem n, List.mem_singleton]
        constructor
        · rintro (⟨h1, h2⟩ | h1)
          · exact ⟨by omega, h2⟩
          · rw [h1]
            exact ⟨Nat.lt_succ_self n, x, hx, he, rfl⟩
        · rintro ⟨h1, y, h2, h3, h4⟩
          rcases Nat.lt_or_ge k.pl n with h | h
          · exact .inl ⟨h, y, h2, h3, h4⟩
          · have e : k.pl = n := by omega
            rw [e, hx] at h2
            cases h2
            right
            rw [h4, e]
theorem aks_nd {l : List EAcct} : ∀ n, (aks l n).Pairwise (fun a b => a.pl < b.pl)
  | 0 => .nil
  | n + 1 => by
    cases hx : l[n]? with
    | none => rw [aks, hx]; exact aks_nd n
    | some x =>
      cases he : emA x with
      | true => rw [aks_no hx he]; exact aks_nd n
      | false =>
        rw [aks_yes hx he, List.pairwise_append]
        refine ⟨aks_nd n, by simp, fun a ha b hb => ?_⟩
        rw [List.mem_singleton.1 hb]
        exact ((aks_mem n).1 ha).1
theorem aks_len {l : List EAcct} : ∀ n, (aks l n).length ≤ n
  | 0 => Nat.le_refl _
  | n + 1 => by
    have := aks_len (l := l) n
    rw [aks]
    split
    · split
      · omega
      · rw [List.length_append]; simp only [List.length_cons, List.length_nil]; omega
    · omega
/-- the ranks behind r keys -/
def rkF (K : List SK) : Nat → Nat → Nat
  | 0 => fun _ => 0
  | r + 1 => fun i => match K[r]? with
    | some k => if i = k.pl then r + 1 else rkF K r i
    | none => rkF K r i
theorem rkF_s {K : List SK} {r : Nat} {k : SK} (h : K[r]? = some k) (i : Nat) : rkF K (r + 1) i = if i = k.pl then r + 1 else rkF K r i := by
  rw [rkF, h]
theorem rkF_of {K : List SK} {i q : Nat} : ∀ r, rkF K r i = q + 1 → q < r ∧ ∃ k, K[q]? = some k ∧ k.pl = i
  | 0 => fun h => by cases h
  | r + 1 => fun h => by
    cases hk : K[r]? with
    | none =>
      rw [rkF, hk] at h
      obtain ⟨h1, h2⟩ := rkF_of r h
      exact ⟨by omega, h2⟩
    | some k =>
      rw [rkF_s hk] at h
      by_cases e : i = k.pl
      · rw [if_pos e] at h
        have : q = r := by omega
        rw [this]
        exact ⟨Nat.lt_succ_self r, k, hk, e.symm⟩
      · rw [if_neg e] at h
        obtain ⟨h1, h2⟩ := rkF_of r h
        exact ⟨by omega, h2⟩
theorem rkF_le {K : List SK} (i : Nat) : ∀ r, rkF K r i ≤ r
  | 0 => Nat.le_refl _
  | r + 1 => by
    have := rkF_le (K := K) i r
    cases hk : K[r]? with
    | none => rw [rkF, hk]; show rkF K r i ≤ _; omega
    | some k =>
      rw [rkF_s hk]
      split <;> omega
/-- distinct places -/
def Dpl (K : List SK) : Prop := ∀ (p q : Nat) (k l : SK), K[p]? = some k → K[q]? = some l → k.pl = l.pl → p = q
theorem rkF_at {K : List SK} (hd : Dpl K) {q : Nat} {k : SK} (hk : K[q]? = some k) : ∀ r, q < r → rkF K r k.pl = q + 1
  | 0 => fun h => absurd h (Nat.not_lt_zero _)
  | r + 1 => fun h => by
    by_cases e : q = r
    · rw [← e, rkF_s hk, if_pos rfl]
    · have hi := rkF_at hd hk r (by omega)
      cases hl : K[r]? with
      | none => rw [rkF, hl]; exact hi
      | some l =>
        rw [rkF_s hl, if_neg (fun e2 => e (hd q r k l hk hl e2))]
        exact hi
/-- the slots' keys -/
def sks (f : Nat → Nat) (l : List ESlot) : Nat → List SK
  | 0 => []
  | j + 1 => match l[j]? with
    | some y => if 0 < f y.acct ∧ y.val ≠ 0 then sks f l j ++ [⟨f y.acct, y.key, j⟩] else sks f l j
    | none => sks f l j
theorem sks_no {f : Nat → Nat} {l : List ESlot} {j : Nat} {y : ESlot} (hy : l[j]? = some y) (h : ¬ (0 < f y.acct ∧ y.val ≠ 0)) : sks f l (j + 1) = sks f l j := by
  rw [sks, hy]
  simp only [if_neg h]
theorem sks_yes {f : Nat → Nat} {l : List ESlot} {j : Nat} {y : ESlot} (hy : l[j]? = some y) (h : 0 < f y.acct ∧ y.val ≠ 0) : sks f l (j + 1) = sks f l j ++ [⟨f y.acct, y.key, j⟩] := by
  rw [sks, hy]
  simp only [if_pos h]
theorem sks_mem {f : Nat → Nat} {l : List ESlot} {k : SK} : ∀ n, k ∈ sks f l n ↔ k.pl < n ∧ ∃ y, l[k.pl]? = some y ∧ (0 < f y.acct ∧ y.val ≠ 0) ∧ k = ⟨f y.acct, y.key, k.pl⟩
  | 0 => by simp [sks]
  | n + 1 => by
    cases hx : l[n]? with
    | none =>
      rw [sks, hx]
      simp only
      rw [sks_mem n]
      refine ⟨fun ⟨h1, h2⟩ => ⟨by omega, h2⟩, fun ⟨h1, x, h2, h3⟩ => ⟨?_, x, h2, h3⟩⟩
      rcases Nat.lt_or_ge k.pl n with h | h
      · exact h
      · rw [show k.pl = n by omega, hx] at h2; cases h2
    | some y =>
      by_cases he : 0 < f y.acct ∧ y.val ≠ 0
      · rw [sks_yes hx he, List.mem_append, sks_mem n, List.mem_singleton]
        constructor
        · rintro (⟨h1, h2⟩ | h1)
          · exact ⟨by omega, h2⟩
          · rw [h1]
            exact ⟨Nat.lt_succ_self n, y, hx, he, rfl⟩
        · rintro ⟨h1, z, h2, h3, h4⟩
          rcases Nat.lt_or_ge k.pl n with h | h
          · exact .inl ⟨h, z, h2, h3, h4⟩
          · have e : k.pl = n := by omega
            rw [e, hx] at h2
            cases h2
            right
            rw [h4, e]
      · rw [sks_no hx he, sks_mem n]
        refine ⟨fun ⟨h1, h2⟩ => ⟨by omega, h2⟩, fun ⟨h1, z, h2, h3, h4⟩ => ⟨?_, z, h2, h3, h4⟩⟩
        rcases Nat.lt_or_ge k.pl n with h | h
        · exact h
        · rw [show k.pl = n by omega, hx] at h2; cases h2; exact absurd h3 he
theorem sks_nd {f : Nat → Nat} {l : List ESlot} : ∀ n, (sks f l n).Pairwise (fun a b => a.pl < b.pl)
  | 0 => .nil
  | n + 1 => by
    cases hx : l[n]? with
    | none => rw [sks, hx]; exact sks_nd n
    | some y =>
      by_cases he : 0 < f y.acct ∧ y.val ≠ 0
      · rw [sks_yes hx he, List.pairwise_append]
        refine ⟨sks_nd n, by simp, fun a ha b hb => ?_⟩
        rw [List.mem_singleton.1 hb]
        exact ((sks_mem n).1 ha).1
      · rw [sks_no hx he]; exact sks_nd n
theorem sks_len {f : Nat → Nat} {l : List ESlot} : ∀ n, (sks f l n).length ≤ n
  | 0 => Nat.le_refl _
  | n + 1 => by
    have := sks_len (f := f) (l := l) n
    rw [sks]
    split
    · split
      · rw [List.length_append]; simp only [List.length_cons, List.length_nil]; omega
      · omega
    · omega
theorem dpl_of {K M : List SK} (hp : K.Perm M) (hm : M.Pairwise (fun a b => a.pl < b.pl)) : Dpl K := by
  have h1 : M.Pairwise (fun a b => a.pl ≠ b.pl) := pwI hm (fun h => by omega)
  have h2 : K.Pairwise (fun a b => a.pl ≠ b.pl) := (hp.pairwise_iff (fun {a b} h => Ne.symm h)).2 h1
  intro p q k l hk hl e
  obtain ⟨hp1, hk1⟩ := List.getElem?_eq_some_iff.1 hk
  obtain ⟨hq1, hl1⟩ := List.getElem?_eq_some_iff.1 hl
  rcases Nat.lt_trichotomy p q with h | h | h
  · have := List.pairwise_iff_getElem.1 h2 p q hp1 hq1 h
    rw [hk1, hl1] at this
    exact absurd e this
  · exact h
  · have := List.pairwise_iff_getElem.1 h2 q p hq1 hp1 h
    rw [hk1, hl1] at this
    exact absurd e.symm this
def mkA (l : List EAcct) (k : SK) : YAcct := match l[k.pl]? with
  | some x => ⟨x.addr, x.nonce, x.bal, x.code, []⟩
  | none => noAcct 0
def kvS (l : List ESlot) (k : SK) : Nat × Nat := match l[k.pl]? with
  | some y => (y.key, y.val)
  | none => (0, 0)
def wL1 (l : List EAcct) (K : List SK) (r : Nat) : List YAcct := (K.take r).map (mkA l) ++ List.replicate (K.length - r) (noAcct 0)
theorem wL1_len {l : List EAcct} {K : List SK} {r : Nat} (h : r ≤ K.length) : (wL1 l K r).length = K.length := by
  unfold wL1
  rw [List.length_append, List.length_map, List.length_take, List.length_replicate]
  omega
theorem wL1_zero (l : List EAcct) (K : List SK) : wL1 l K 0 = List.replicate K.length (noAcct 0) := by
  unfold wL1
  simp
theorem wL1_set {l : List EAcct} {K : List SK} {r : Nat} (h : r < K.length) : (wL1 l K r).set r (mkA l K[r]) = wL1 l K (r + 1) := by
  unfold wL1
  have h1 : ((K.take r).map (mkA l)).length = r := by rw [List.length_map, List.length_take]; omega
  rw [List.set_append_right _ _ (by omega), h1, Nat.sub_self, ← List.take_append_getElem h, List.map_append, List.append_assoc]
  congr 1
  rw [show K.length - r = (K.length - (r + 1)) + 1 by omega, List.replicate_succ]
  rfl
def grp (S : List SK) (f r : Nat) : List SK := (S.take f).filter (fun k => k.rank == r + 1)
def wL2 (l : List EAcct) (sl : List ESlot) (K S : List SK) (f : Nat) : List YAcct := K.mapIdx (fun r k => { mkA l k with slots := (grp S f r).map (kvS sl) })
theorem wL2_len {l : List EAcct} {sl : List ESlot} {K S : List SK} {f : Nat} : (wL2 l sl K S f).length = K.length := List.length_mapIdx
theorem wL2_get {l : List EAcct} {sl : List ESlot} {K S : List SK} {f r : Nat} {k : SK} (h : K[r]? = some k) : (wL2 l sl K S f)[r]? = some { mkA l k with slots := (grp S f r).map (kvS sl) } := by
  unfold wL2
  rw [List.getElem?_mapIdx, h]
  rfl
theorem mkA_sl (l : List EAcct) (k : SK) : (mkA l k).slots = [] := by
  unfold mkA
  split <;> rfl
theorem wL2_zero (l : List EAcct) (sl : List ESlot) (K S : List SK) : wL2 l sl K S 0 = wL1 l K K.length := by
  refine List.ext_getElem? (fun r => ?_)
  unfold wL2 wL1
  rw [List.getElem?_mapIdx, List.take_length, Nat.sub_self, List.replicate_zero, List.append_nil, List.getElem?_map]
  cases hk : K[r]? with
  | none => rfl
  | some k =>
    show some _ = some _
    congr 1
    refine yacct_ext rfl rfl rfl rfl ?_
    rw [mkA_sl]
    rfl
/-- the groups below f are whole -/
def Cut (S : List SK) (f : Nat) : Prop := ∀ x ∈ S.take f, ∀ y ∈ S.drop f, x.rank < y.rank
theorem wL2_set {l : List EAcct} {sl : List ESlot} {K S : List SK} {f n q : Nat} (hq : q < K.length) (hn : 0 < n) (hfn : f + n ≤ S.length) (hc : Cut S f) (hr : ∀ x ∈ (S.drop f).take n, x.rank = q + 1) (hG : (wL2 l sl K S f)[q]? = some { mkA l K[q] with slots := (grp S f q).map (kvS sl) }) : (wL2 l sl K S f).set q { mkA l K[q] with slots := ((S.drop f).take n).map (kvS sl) } = wL2 l sl K S (f + n) := by
  have h0 : ∃ y, y ∈ (S.drop f).take n := by
    have h1 : ((S.drop f).take n).length = n := by rw [List.length_take, List.length_drop]; omega
    cases hh : (S.drop f).take n with
    | nil => rw [hh] at h1; simp at h1; omega
    | cons y t => exact ⟨y, List.mem_cons_self ..⟩
  obtain ⟨y, hy⟩ := h0
  have hyd : y ∈ S.drop f := List.mem_of_mem_take hy
  have e1 : (S.take f).filter (fun k => k.rank == q + 1) = [] := by
    rw [List.filter_eq_nil_iff]
    intro x hx
    have := hc x hx y hyd
    rw [hr y hy] at this
    simp
    omega
  have et : S.take (f + n) = S.take f ++ (S.drop f).take n := List.take_add
  refine List.ext_getElem? (fun r => ?_)
  rw [List.getElem?_set]
  by_cases hqr : q = r
  · subst hqr
    rw [if_pos rfl, if_pos (by rw [wL2_len]; exact hq), wL2_get (List.getElem?_eq_getElem hq)]
    congr 1
    refine yacct_ext rfl rfl rfl rfl ?_
    show _ = (grp S (f + n) q).map (kvS sl)
    unfold grp
    rw [et, List.filter_append, e1, List.nil_append, List.filter_eq_self.2 (fun x hx => by rw [hr x hx]; simp)]
  · rw [if_neg hqr]
    cases hk : K[r]? with
    | none =>
      unfold wL2
      rw [List.getElem?_mapIdx, List.getElem?_mapIdx, hk]
      rfl
    | some k =>
      rw [wL2_get hk, wL2_get hk]
      congr 1
      refine yacct_ext rfl rfl rfl rfl ?_
      show (grp S f r).map (kvS sl) = (grp S (f + n) r).map (kvS sl)
      unfold grp
      rw [et, List.filter_append]
      rw [show ((S.drop f).take n).filter (fun k => k.rank == r + 1) = [] from by
        rw [List.filter_eq_nil_iff]
        intro x hx
        rw [hr x hx]
        simp
        omega, List.append_nil]
theorem cutz (S : List SK) : Cut S 0 := fun x hx => by simp at hx
theorem cut_next {S : List SK} {f n q : Nat} (hs : SrtK S) (hc : Cut S f) (hr : ∀ x ∈ (S.drop f).take n, x.rank = q) (he : ∀ y, S[f + n]? = some y → y.rank ≠ q) (hn : 0 < n) : Cut S (f + n) := by
  intro x hx y hy
  rw [List.take_add] at hx
  have hle : x.rank ≤ y.rank := by
    have h1 : S.take (f + n) ++ S.drop (f + n) = S := List.take_append_drop ..
    have h2 : SrtK (S.take (f + n) ++ S.drop (f + n)) := by rw [h1]; exact hs
    have h3 := (List.pairwise_append.1 h2).2.2 x (by rw [List.take_add]; exact hx) y hy
    rw [leK_iff] at h3
    omega
  rcases List.mem_append.1 hx with h | h
  · refine hc x h y ?_
    rw [← List.drop_drop] at hy
    exact List.mem_of_mem_drop hy
  · have hx1 := hr x h
    -- the first behind
    cases hz : S[f + n]? with
    | none =>
      rw [List.getElem?_eq_none_iff] at hz
      rw [List.drop_eq_nil_of_le hz] at hy
      cases hy
    | some z =>
      have hz1 := he z hz
      obtain ⟨hlt, hz2⟩ := List.getElem?_eq_some_iff.1 hz
      have hd : S.drop (f + n) = z :: S.drop (f + n + 1) := by rw [List.drop_eq_getElem_cons hlt, hz2]
      have h1 : S.take (f + n) ++ S.drop (f + n) = S := List.take_append_drop ..
      have h2 : SrtK (S.take (f + n) ++ S.drop (f + n)) := by rw [h1]; exact hs
      have h3 := (List.pairwise_append.1 h2).2.2 x (by rw [List.take_add]; exact hx) z (by rw [hd]; exact List.mem_cons_self ..)
      have h4 : z.rank ≤ y.rank := by
        have h5 := (List.pairwise_append.1 h2).2.1
        rw [hd] at h5 hy
        rcases List.mem_cons.1 hy with h6 | h6
        · rw [h6]; exact Nat.le_refl _
        · have := (List.pairwise_cons.1 h5).1 y h6
          rw [leK_iff] at this
          omega
      rw [leK_iff] at h3
      omega
/-- the whole of Export as a plain law -/
theorem exp_of {V : EV} {K S : List SK} (ho : VOk V) (hK : K.Perm (aks V.accts V.accts.length)) (sK : SrtK K) (hS : S.Perm (sks (rkF K K.length) V.slots V.slots.length)) (sS : SrtK S) : ExpOf V (wL2 V.accts V.slots K S S.length) := by
  have mK : ∀ k ∈ K, ∃ x, V.accts[k.pl]? = some x ∧ emA x = false ∧ k = ⟨0, x.addr, k.pl⟩ := fun k hk => ((aks_mem _).1 (hK.mem_iff.1 hk)).2
  have mS : ∀ k ∈ S, ∃ y, V.slots[k.pl]? = some y ∧ (0 < rkF K K.length y.acct ∧ y.val ≠ 0) ∧ k = ⟨rkF K K.length y.acct, y.key, k.pl⟩ := fun k hk => ((sks_mem _).1 (hS.mem_iff.1 hk)).2
  have dK : Dpl K := dpl_of hK (aks_nd _)
  have nS : S.Pairwise (fun a b => a.pl ≠ b.pl) := (hS.pairwise_iff (fun {a b} h => Ne.symm h)).2 (pwI (sks_nd _) (fun h => by omega))
  have get : ∀ A ∈ wL2 V.accts V.slots K S S.length, ∃ r k x, K[r]? = some k ∧ V.accts[k.pl]? = some x ∧ emA x = false ∧ A = ⟨x.addr, x.nonce, x.bal, x.code, (grp S S.length r).map (kvS V.slots)⟩ := fun A hA => by
    obtain ⟨r, hr⟩ := List.mem_iff_getElem?.1 hA
    have hrl : r < K.length := by rw [← wL2_len (l := V.accts) (sl := V.slots) (K := K) (S := S) (f := S.length)]; exact (List.getElem?_eq_some_iff.1 hr).1
    have hk := List.getElem?_eq_getElem hrl
    obtain ⟨x, h1, h2, h3⟩ := mK _ (List.getElem_mem hrl)
    refine ⟨r, _, x, hk, h1, h2, ?_⟩
    rw [wL2_get hk] at hr
    rw [← Option.some.inj hr]
    refine yacct_ext ?_ ?_ ?_ ?_ rfl <;> (show _ = _; unfold mkA; rw [h1])
  refine ⟨?_, fun A hA => ?_, fun A hA => ?_, fun i x hx he => ?_⟩
  · rw [List.pairwise_iff_getElem]
    intro p q hp hq hpq
    have hp' : p < K.length := by rw [← wL2_len (l := V.accts) (sl := V.slots) (K := K) (S := S) (f := S.length)]; exact hp
    have hq' : q < K.length := by rw [← wL2_len (l := V.accts) (sl := V.slots) (K := K) (S := S) (f := S.length)]; exact hq
    obtain ⟨x, h1, h2, h3⟩ := mK _ (List.getElem_mem hp')
    obtain ⟨y, h4, h5, h6⟩ := mK _ (List.getElem_mem hq')
    have e1 : (wL2 V.accts V.slots K S S.length)[p].addr = x.addr := by
      have := wL2_get (l := V.accts) (sl := V.slots) (K := K) (S := S) (f := S.length) (List.getElem?_eq_getElem hp')
      rw [List.getElem?_eq_getElem hp] at this
      rw [Option.some.inj this]
      show (mkA V.accts K[p]).addr = _
      unfold mkA
      rw [h1]
    have e2 : (wL2 V.accts V.slots K S S.length)[q].addr = y.addr := by
      have := wL2_get (l := V.accts) (sl := V.slots) (K := K) (S := S) (f := S.length) (List.getElem?_eq_getElem hq')
      rw [List.getElem?_eq_getElem hq] at this
      rw [Option.some.inj this]
      show (mkA V.accts K[q]).addr = _
      unfold mkA
      rw [h4]
    show _ < _
    rw [e1, e2]
    have h7 := List.pairwise_iff_getElem.1 sK p q hp' hq' hpq
    rw [leK_iff] at h7
    have w1 : K[p].word = x.addr := by rw [h3]
    have w2 : K[q].word = y.addr := by rw [h6]
    have r1 : K[p].rank = 0 := by rw [h3]
    have r2 : K[q].rank = 0 := by rw [h6]
    rcases Nat.lt_trichotomy x.addr y.addr with h | h | h
    · exact h
    · have h8 := ho.ad _ _ x y h1 h4 h
      have := dK p q _ _ (List.getElem?_eq_getElem hp') (List.getElem?_eq_getElem hq') h8
      omega
    · omega
  · obtain ⟨r, k, x, h1, h2, h3, e⟩ := get A hA
    rw [e]
    show ((grp S S.length r).map (kvS V.slots)).Pairwise Ls
    unfold grp
    rw [List.take_length, List.pairwise_map]
    have h4 : S.Pairwise (fun a b => leK a b = true ∧ a.pl ≠ b.pl) := List.Pairwise.and sS nS
    refine (h4.filter _).imp_of_mem (fun {a b} ha hb hab => ?_)
    obtain ⟨a1, a2⟩ := List.mem_filter.1 ha
    obtain ⟨b1, b2⟩ := List.mem_filter.1 hb
    obtain ⟨y, y1, y2, y3⟩ := mS a a1
    obtain ⟨z, z1, z2, z3⟩ := mS b b1
    have ra : a.rank = r + 1 := by simpa using a2
    have rb : b.rank = r + 1 := by simpa using b2
    have h5 := hab.1
    rw [leK_iff] at h5
    have wa : a.word = y.key := by rw [y3]
    have wb : b.word = z.key := by rw [z3]
    have sa : rkF K K.length y.acct = r + 1 := by rw [← ra, y3]
    have sb : rkF K K.length z.acct = r + 1 := by rw [← rb, z3]
    show (kvS V.slots a).1 < (kvS V.slots b).1
    have ka : (kvS V.slots a).1 = y.key := by unfold kvS; rw [y1]
    have kb : (kvS V.slots b).1 = z.key := by unfold kvS; rw [z1]
    rw [ka, kb]
    rcases Nat.lt_trichotomy y.key z.key with h | h | h
    · exact h
    · exfalso
      obtain ⟨_, k1, g1, g2⟩ := rkF_of _ sa
      obtain ⟨_, k2, g3, g4⟩ := rkF_of _ sb
      rw [g1] at g3
      cases g3
      exact hab.2 (ho.sd _ _ y z y1 z1 (by rw [← g2, ← g4]) h)
    · omega
  · obtain ⟨r, k, x, h1, h2, h3, e⟩ := get A hA
    refine ⟨k.pl, x, h2, h3, by rw [e], by rw [e], by rw [e], by rw [e], fun q v => ?_⟩
    rw [e]
    show (q, v) ∈ (grp S S.length r).map (kvS V.slots) ↔ _
    unfold grp
    rw [List.take_length]
    have hrl : r < K.length := (List.getElem?_eq_some_iff.1 h1).1
    have hrk := rkF_at dK h1 K.length hrl
    constructor
    · intro hm
      obtain ⟨a, ha, e2⟩ := List.mem_map.1 hm
      obtain ⟨a1, a2⟩ := List.mem_filter.1 ha
      have ra : a.rank = r + 1 := by simpa using a2
      obtain ⟨y, y1, y2, y3⟩ := mS a a1
      have sa : rkF K K.length y.acct = r + 1 := by rw [← ra, y3]
      obtain ⟨_, k1, g1, g2⟩ := rkF_of _ sa
      rw [h1] at g1
      cases g1
      unfold kvS at e2
      rw [y1] at e2
      cases e2
      exact ⟨y2.2, a.pl, y, y1, g2.symm, rfl, rfl⟩
    · rintro ⟨hv, j, y, y1, y2, y3, y4⟩
      have hin : (⟨rkF K K.length y.acct, y.key, j⟩ : SK) ∈ S := hS.mem_iff.2 ((sks_mem _).2 ⟨(List.getElem?_eq_some_iff.1 y1).1, y, y1, ⟨by rw [y2, hrk]; omega, by rw [y4]; exact hv⟩, rfl⟩)
      refine List.mem_map.2 ⟨_, List.mem_filter.2 ⟨hin, by rw [y2, hrk]; simp⟩, ?_⟩
      unfold kvS
      rw [y1]
      show (y.key, y.val) = _
      rw [y3, y4]
  · have hin : (⟨0, x.addr, i⟩ : SK) ∈ K := hK.mem_iff.2 ((aks_mem _).2 ⟨(List.getElem?_eq_some_iff.1 hx).1, x, hx, he, rfl⟩)
    obtain ⟨r, hr⟩ := List.mem_iff_getElem?.1 hin
    refine ⟨_, List.mem_of_getElem? (wL2_get hr), ?_⟩
    show (mkA V.accts ⟨0, x.addr, i⟩).addr = _
    unfold mkA
    rw [hx]
end Go.Proofs.YgvaawGreat
