import Derived.Test.YgvaawGreatY46
import Derived.Test.YgvaawGreatQ6
set_option maxRecDepth 100000
set_option linter.unusedSimpArgs false
set_option linter.unusedVariables false
namespace Go.Proofs.YgvaawGreat
open Go
/-! What the opening of a transaction leans on, between transactions. -/
theorem FinH.of {s : YSt} (h : IE s) (hl : WLB s.now) : FinH s := by
  have h4 := use_mul s
  have h5 := h.b.now.sum
  obtain ⟨h1, h2⟩ := pay1_ok h
  have hb1 := sum_le h.b.now.wf.accts.rise s.origin
  have hb2 := sum_le h1.rise s.env.coinbase
  refine ⟨h.ph, by have := hl.accts; omega, by have := hl.gone; omega, by omega, by omega, fun x hx => ?_⟩
  have := h.b.now.wf.logs x hx
  omega
/-- bounds between transactions -/
structure IBd (s : YSt) : Prop where
  lb : WLB s.now
  st : (startL s.now.accts).length ≤ 2560
  cd : ∀ a, (acctAt s.now.accts a).code.length ≤ 512
theorem II.wf {s : YSt} (h : II s) : WF s.now := by
  rw [h.now]
  exact ⟨h.ok, .nil, .nil, .nil, (fun _ h => by cases h), .nil, .nil, (fun _ h => by cases h)⟩
theorem st_len {V : EV} {W : YWorld} {sv : List AW} {og : Nat → Nat → Nat} (hw : WF W) (ho : VOk V) (hv : VA V (absY W) sv og) : (startL W.accts).length ≤ 2560 := by
  have ks : (sKs V.slots).length = V.slots.length := List.length_map ..
  have hh : ∀ x ∈ startL W.accts, hasS V x.1 x.2.1 := fun x hx => by
    obtain ⟨A, hA, y, hy, e⟩ := start_mem hx
    rw [e]
    refine has_slot ho.sa (a := A.addr) (k := y.1) ?_
    rw [hv.abs]
    show slotAt (acctAt W.accts A.addr).slots y.1 ≠ 0
    rw [find_rise hw.accts.rise hA, slot_find (hw.accts.sl A hA).rise hy]
    exact (hw.accts.sl A hA).nz y hy
  have h1 := nd_len ((startL W.accts).map (fun x => (ai V x.1, x.2.1))) (sKs V.slots) (nd_map (start_rise hw.accts) (fun x hx y hy h e => by
    have e1 := congrArg Prod.fst e
    have e2 := congrArg Prod.snd e
    have := ai_inj9 (hh x hx).1 (hh y hy).1 e1
    unfold Lt3 at h
    simp only at e2
    omega)) (fun z h => by
    obtain ⟨x, hx, e⟩ := List.mem_map.1 h
    rw [← e]
    exact (hh x hx).2)
  rw [List.length_map] at h1
  have := ho.bd.slots
  omega
theorem ibd_of {w : World} {H : Store} {col : Nat → Nat} {bc : Nat} {cs : Array Value} {V : EV} {s : YSt} {sv : List AW} {og : Nat → Nat → Nat} (h : II s) (hl : VL w H col bc cs V) (ho : VOk V) (hv : VA V (absY s.now) sv og) : IBd s := by
  refine ⟨lb_now (A := absY s.now) h.wf ho hv, st_len h.wf ho hv, fun a => ?_⟩
  have e : (acctAt s.now.accts a).code = (absY s.now).code a := rfl
  rw [e, ← hv.abs]
  show (ax V a).code.length ≤ 512
  by_cases h : hasA V a
  · obtain ⟨x, h1, h2⟩ := hasA_ix h
    obtain ⟨b, c', cap, vc, hA⟩ := hl.acct h1
    rw [ax_eq ho h1 h2]
    exact hA.ok.code
  · rw [ax_no h]
    exact Nat.zero_le _
theorem bw_accts (s : YSt) (T : YTx) : (bW s T).accts = bA2 s T := list_accts _ _
theorem keys_same (a : Nat) : ∀ (ks : List Nat) (W : YWorld), (wKeys W a ks).logs = W.logs ∧ (wKeys W a ks).made = W.made
  | [], _ => ⟨rfl, rfl⟩
  | _ :: ks, _ => keys_same a ks _
theorem list_same : ∀ (l : List (Nat × List Nat)) (W : YWorld), (wList W l).logs = W.logs ∧ (wList W l).made = W.made
  | [], _ => ⟨rfl, rfl⟩
  | x :: l, W => ⟨(list_same l _).1.trans (keys_same x.1 x.2 _).1, (list_same l _).2.trans (keys_same x.1 x.2 _).2⟩
theorem put_acct {l : List YAcct} {A B : YAcct} (h : B ∈ putA l A) : B = A ∨ B ∈ l := by
  unfold putA at h
  rcases put_mem _ _ h with h1 | h1
  · left
    split at h1
    · cases h1
    · exact (Option.some.inj h1).symm
  · exact .inr h1
theorem slots_le {l : List YAcct} {n : Nat} (h : ∀ A ∈ l, A.slots.length ≤ n) (b : Nat) : (acctAt l b).slots.length ≤ n := by
  rcases acct_mem (l := l) (a := b) with h1 | h1
  · exact h _ h1
  · rw [h1]; exact Nat.zero_le _
theorem slots_put {l : List YAcct} {n : Nat} {A : YAcct} (h : ∀ A ∈ l, A.slots.length ≤ n) (hA : A.slots.length ≤ n) : ∀ B ∈ putA l A, B.slots.length ≤ n := fun B hB => by
  rcases put_acct hB with e | e
  · rw [e]; exact hA
  · exact h B e
section
variable {s : YSt} {T : YTx}
theorem bw_code (h : IBd s) (a : Nat) : (acctAt (bW s T).accts a).code.length ≤ 512 := by
  have h1 : ∀ b, (acctAt (bA1 s T) b).code.length ≤ 512 := fun b => by
    unfold bA1
    rw [acct_put]
    split
    · exact h.cd _
    · exact h.cd _
  rw [bw_accts]
  unfold bA2
  rw [acct_put]
  split
  · exact h1 _
  · exact h1 _
theorem beg_en (hi : II s) (v : Vd s T) (h : IBd s) : EnH { bS s T with phase := 1 } (bF s T) := by
  have hs0 := h.lb.slots
  have hs1 : ∀ A ∈ bA1 s T, A.slots.length ≤ 2560 := slots_put hs0 (slots_le hs0 T.frm)
  have hs2 : ∀ A ∈ bA2 s T, A.slots.length ≤ 2560 := slots_put hs1 (slots_le hs1 T.frm)
  have l1 : (bA1 s T).length ≤ s.now.accts.length + 1 := putA_len _ _
  have l2 : (bA2 s T).length ≤ (bA1 s T).length + 1 := putA_len _ _
  have hla := h.lb.accts
  have hlg : (bW s T).logs = [] := by
    have e : (bW s T).logs = s.now.logs := (list_same T.access (bW3 s T)).1
    rw [e, hi.now]
  have hmd : (bW s T).made = [] := by
    have e : (bW s T).made = s.now.made := (list_same T.access (bW3 s T)).2
    rw [e, hi.now]
  refine ⟨⟨fun A hA => ?_, fun x hx => ?_⟩, ?_, ?_, fun _ _ => ?_⟩
  · have hA : A ∈ (bW s T).accts := hA
    rw [bw_accts] at hA
    have := hs2 A hA
    omega
  · have hx : x ∈ (bW s T).logs := hx
    rw [hlg] at hx
    cases hx
  · show (bW s T).accts.length < 1000000
    rw [bw_accts]
    omega
  · show (bW s T).made.length < 1000000
    rw [hmd]
    decide
  · have hw := WI.bw hi v
    have hf := v.fee
    have hb : T.value ≤ (acctAt (bW s T).accts T.frm).bal := by
      rw [bA2_frm]
      omega
    show (acctAt (takeB (entA1 (bW s T) (bF s T)) (bF s T).caller (bF s T).value) (bF s T).self).bal + (bF s T).value < W256
    have e1 : (bF s T).caller = T.frm := by unfold bF; split <;> rfl
    have e2 : (bF s T).value = T.value := by unfold bF; split <;> rfl
    rw [e1, e2]
    unfold entA1
    split
    · have h2 := (hw.non (bF s T).self 1)
      exact h2.room (by
        show T.value ≤ (acctAt (putA (bW s T).accts (setNon (acctAt (bW s T).accts (bF s T).self) 1)) T.frm).bal
        rw [bal_non]
        exact hb)
    · exact hw.room hb
end
end Go.Proofs.YgvaawGreat
