import Derived.Test.YgvaawGreatP5
import Derived.Test.YgvaawGreatW13
set_option maxRecDepth 100000
set_option linter.unusedSimpArgs false
set_option linter.unusedVariables false
namespace Go.Proofs.YgvaawGreat
open Go
/-! What the specification's step leans on follows from what holds. -/
theorem put_len {α : Type} {same lt : α → Bool} : ∀ (x : Option α) (l : List α), (putP same lt x l).length ≤ l.length + 1
  | none, l => by
    rw [putN_eq]
    have := List.length_filter_le (fun y => !same y) l
    omega
  | some n, [] => by
    show ((some n : Option α).toList).length ≤ 1
    simp
  | some n, y :: l => by
    rw [putP]
    have h1 := put_len (same := same) (lt := lt) (some n) l
    have h2 := List.length_filter_le (fun y => !same y) l
    repeat' split
    · rw [putN_eq, List.length_cons, List.length_cons]
      omega
    · rw [putN_eq, List.length_cons, List.length_cons, List.length_cons]
      omega
    · rw [List.length_cons, List.length_cons]
      omega
theorem move_len (l : List YAcct) (a b v : Nat) : (moveA l a b v).length ≤ l.length + 2 := by
  unfold moveA
  split
  · omega
  · unfold giveB
    have := putA_len (takeB l a v) (setBal (acctAt (takeB l a v) b) ((acctAt (takeB l a v) b).bal + v))
    have := putA_len l (setBal (acctAt l a) ((acctAt l a).bal - v))
    unfold takeB at *
    omega
section
variable {s s' : YSt} {f u p g : YF} {low : List YF} {q : Nat} {l : List Nat} {W : YWorld} {V V' : EV}
structure PC (s : YSt) (low : List YF) (f : YF) : Prop where
  now : WLB s.now
  lgn : s.now.logs.length ≤ 2800
  rfn : s.now.refund ≤ 209715200
  sav : ∀ g ∈ low ++ [f], WLB g.saved ∧ g.saved.logs.length ≤ 2800
  fb : ∀ g ∈ low ++ [f], EFB g
  n7 : low.length ≤ 6
  cdl : ∀ a, (acctAt s.now.accts a).code.length ≤ 512
theorem SvOk.of (h : WLB W) (hl : W.logs.length ≤ 2800) : SvOk W := ⟨by have := h.accts; omega, by have := h.warmA; omega, by have := h.warmS; omega, by omega, by have := h.temps; omega, by have := h.made; omega, by have := h.gone; omega⟩
theorem PC.lv (h : PC s low f) (hu : u.saved = f.saved) (ha : s'.now.accts.length ≤ 2570) (hl : l.length ≤ 717280) : LvH s' u l := by
  refine ⟨?_, by omega, by omega⟩
  rw [hu]
  exact SvOk.of (h.sav f (by simp)).1 (h.sav f (by simp)).2
theorem PC.lp (h : PC s low f) (hp : low.getLast? = some p) (hu : u.gas ≤ f.gas) : LvP p u q l := by
  have hB := h.fb p (List.mem_append_left _ (List.mem_of_getLast? hp))
  have hF := h.fb f (by simp)
  have h1 := lv_gas (u := u) (q := q) (l := l)
  have h2 := hB.gas
  have h3 := hF.gas
  have h4 := hB.stk
  have h5 := hB.pc
  have h6 := hB.ol
  exact ⟨by omega, by omega, by omega, by omega⟩
theorem PC.cl (h : PC s low f) (hw : WF s.now) {s' : YSt} (hl : s'.now.logs = s.now.logs) (ha : ∀ A ∈ s'.now.accts, A ∈ s.now.accts ∨ ∃ b, A.slots = (acctAt s.now.accts b).slots) : ClH s' := by
  have hs : ∀ b, (acctAt s.now.accts b).slots.length ≤ 2560 := fun b => by
    rcases acct_mem (l := s.now.accts) (a := b) with h1 | h1
    · exact h.now.slots _ h1
    · rw [h1]; exact Nat.zero_le _
  refine ⟨fun A hA => ?_, fun x hx => ?_⟩
  · rcases ha A hA with h1 | ⟨b, h1⟩
    · have := h.now.slots A h1; omega
    · rw [h1]
      have := hs b; omega
  · rw [hl] at hx
    have := hw.logs x hx
    omega
theorem argL_at9 {i : Nat} (h : i < tkN q) : opndN (argL f q) i = argN f.stack i := by
  unfold opndN argL
  rw [List.getElem?_map, List.getElem?_range h]
  rfl
theorem refA_parts (h : refA s f q = 0) : tkN q ≤ f.stack.length ∧ ¬ ((q = 240 ∨ q = 245) ∧ 512 < argN f.stack 2) := by
  unfold refA at h
  by_cases a1 : knN q = false
  · rw [if_pos a1] at h; cases h
  · rw [if_neg a1] at h
    by_cases a2 : f.stack.length < tkN q
    · rw [if_pos a2] at h; cases h
    · rw [if_neg a2] at h
      by_cases a3 : 64 < f.stack.length - tkN q + gvN q
      · rw [if_pos a3] at h; cases h
      · rw [if_neg a3] at h
        by_cases a4 : f.static = true ∧ wrtN f q = true
        · rw [if_pos a4] at h; cases h
        · rw [if_neg a4] at h
          by_cases a5 : (q = 240 ∨ q = 245) ∧ 512 < argN f.stack 2
          · rw [if_pos a5] at h; cases h
          · exact ⟨by omega, a5⟩
theorem stH_of (h : IS s low f) (hc : PC s low f) : StH s f low := by
  have hB := hc.fb f (by simp)
  have hn6 := hc.n7
  have ha := hc.now.accts
  have hwa := hc.now.warmA
  have hsg : (stF s f).gas ≤ f.gas := Nat.sub_le _ _
  have hfs := hB.stk
  have hfp := hB.pc
  have hst : ∀ a, (acctAt s.now.accts a).slots.length ≤ 2560 := fun b => by
    rcases acct_mem (l := s.now.accts) (a := b) with h1 | h1
    · exact hc.now.slots _ h1
    · rw [h1]; exact Nat.zero_le _
  have hre : (refN s f (opcN f)).1 = 0 → yReach f.stack (opcN f) ≤ 717280 := fun hr => Nat.le_trans (paid hr h.mf).reach (stF_len h hr)
  have htk : (refN s f (opcN f)).1 = 0 → tkN (opcN f) ≤ f.stack.length := fun hr => (refA_parts (ref_ok hr).1).1
  refine ⟨by omega, fun hn => ⟨by omega, hc.lv rfl (by omega) (Nat.zero_le _), fun p hp => hc.lp hp (Nat.le_refl _), hc.lv rfl (by omega) (nr_len9 hB), fun p hp => hc.lp hp (Nat.sub_le _ _)⟩, hc.lv rfl (by omega) (Nat.zero_le _), fun p hp => hc.lp hp (Nat.le_refl _), fun hr => ?_, hc.lv rfl (by omega) (Nat.zero_le _), fun _ p hp => hc.lp hp hsg, fun hr hq => ?_, fun _ p hp => hc.lp hp hsg, fun _ p hp => hc.lp hp hsg, fun hq => ?_, fun hr hq hq255 => ?_, ?_, htk, by omega, by omega, fun hr => ?_⟩
  · have := hre hr
    unfold wordsN
    omega
  · have h1 := hre hr
    have h2 : endN (argN f.stack 0) (argN f.stack 1) ≤ 717280 := by
      unfold yReach at h1
      rw [if_pos (by omega)] at h1
      exact h1
    have := end_ge h2
    omega
  · refine ⟨by omega, by omega, by omega, by have := hc.now.gone; omega, fun _ => h.b.now.room (Nat.le_refl _), hc.lv rfl ?_ (Nat.zero_le _), fun p hp => hc.lp hp hsg⟩
    show (desA s (stF s f)).length ≤ 2570
    unfold desA
    split
    · have := move_len s.now.accts (stF s f).self (desT (stF s f)) (acctAt s.now.accts (stF s f).self).bal
      omega
    · omega
  · have htk := htk hr
    have hre := hre hr
    have hp := paid hr h.mf
    refine ⟨fun hq2 => ?_, fun hq2 => ?_⟩
    · have hi : argN f.stack 2 ≤ 512 := Nat.le_of_not_lt fun h9 => (refA_parts (ref_ok hr).1).2 ⟨hq2, h9⟩
      have hpl := putA_len s.now.accts (setNon (crMe { s with ret := [] } (stF s f)) ((crMe { s with ret := [] } (stF s f)).nonce + 1))
      refine ⟨hq2, by omega, htk, by show f.stack.length < 60000; omega, by show f.pc + 1 < _; omega, by show argN f.stack 2 < _; omega, by show s.now.warmA.length < _; omega, by show s.now.accts.length < _; omega, fun hf => ⟨?_, ?_, ?_, fun _ _ => ?_⟩⟩
      · refine hc.cl h.b.now.wf rfl (fun A hA => ?_)
        have hA : A ∈ putA s.now.accts (setNon (acctAt s.now.accts f.self) ((acctAt s.now.accts f.self).nonce + 1)) := hA
        unfold putA at hA
        rcases put_mem _ _ hA with h1 | h1
        · right
          refine ⟨f.self, ?_⟩
          split at h1
          · cases h1
          · rw [← Option.some.inj h1]; rfl
        · exact .inl h1
      · show (putA s.now.accts (setNon (crMe { s with ret := [] } (stF s f)) ((crMe { s with ret := [] } (stF s f)).nonce + 1))).length < _
        omega
      · show s.now.made.length < _
        have := hc.now.made
        omega
      · have hv : argN (stF s f).stack 0 ≤ (acctAt s.now.accts f.self).bal := Nat.le_of_not_lt fun h9 => hf (.inr (.inl h9))
        have e : entA1 (crS { s with ret := [] } (stF s f) (opcN f)).now (crChild { s with ret := [] } (stF s f) (opcN f)) = putA (putA s.now.accts (setNon (acctAt s.now.accts f.self) ((acctAt s.now.accts f.self).nonce + 1))) (setNon (acctAt (putA s.now.accts (setNon (acctAt s.now.accts f.self) ((acctAt s.now.accts f.self).nonce + 1))) (crSelf { s with ret := [] } (stF s f) (opcN f))) 1) := by
          unfold entA1
          rw [if_pos (by show crN (crK (opcN f)) = true; rcases hq2 with h | h <;> rw [h] <;> decide)]
          rfl
        show (acctAt (takeB (entA1 (crS { s with ret := [] } (stF s f) (opcN f)).now (crChild { s with ret := [] } (stF s f) (opcN f))) f.self (argN (stF s f).stack 0)) (crSelf { s with ret := [] } (stF s f) (opcN f))).bal + argN (stF s f).stack 0 < W256
        rw [e]
        exact h.b.now.roomC hv
    · have hq3 : opcN f = 241 ∨ opcN f = 242 ∨ opcN f = 244 ∨ opcN f = 250 := by
        have := fam16 hq
        omega
      have hrd : argN f.stack (tkN (opcN f) - 4 + 1) ≤ 717280 := by
        rcases hq3 with e | e | e | e <;> rw [e] at hre ⊢
        · have hre : max (endN (argN f.stack 3) (argN f.stack 4)) (endN (argN f.stack 5) (argN f.stack 6)) ≤ 717280 := hre
          exact end_ge (a := argN f.stack 3) (Nat.le_trans (Nat.le_max_left _ _) hre)
        · have hre : max (endN (argN f.stack 3) (argN f.stack 4)) (endN (argN f.stack 5) (argN f.stack 6)) ≤ 717280 := hre
          exact end_ge (a := argN f.stack 3) (Nat.le_trans (Nat.le_max_left _ _) hre)
        · have hre : max (endN (argN f.stack 2) (argN f.stack 3)) (endN (argN f.stack 4) (argN f.stack 5)) ≤ 717280 := hre
          exact end_ge (a := argN f.stack 2) (Nat.le_trans (Nat.le_max_left _ _) hre)
        · have hre : max (endN (argN f.stack 2) (argN f.stack 3)) (endN (argN f.stack 4) (argN f.stack 5)) ≤ 717280 := hre
          exact end_ge (a := argN f.stack 2) (Nat.le_trans (Nat.le_max_left _ _) hre)
      have hcc : (cCode { s with ret := [] } (stF s f)).length ≤ 512 := by
        unfold cCode
        split
        · exact hc.cdl _
        · exact Nat.zero_le _
      refine ⟨hq3, by omega, htk, by show f.stack.length < 60000; omega, by show f.pc + 1 < _; omega, by have := hB.gas; omega, by show argN f.stack _ < _; omega, by omega, by show s.now.warmA.length < _; omega, fun hf => ⟨hc.cl h.b.now.wf rfl (fun A hA => .inl hA), by show s.now.accts.length < _; omega, by show s.now.made.length < _; have := hc.now.made; omega, fun k3 k7 => ?_⟩⟩
      have hf2 : cV (stF s f) (opcN f) ≤ (acctAt s.now.accts f.self).bal := Nat.le_of_not_lt fun h9 => hf (.inr h9)
      have hn : ¬ crN (cK (opcN f)) = true := by rcases hq3 with e | e | e | e <;> rw [e] <;> decide
      show (acctAt (takeB (entA1 (cS { s with ret := [] } (stF s f)).now (cChild { s with ret := [] } (stF s f) (opcN f))) (cCal (stF s f) (opcN f)) (cVal (stF s f) (opcN f))) (cSelf (stF s f) (opcN f))).bal + cVal (stF s f) (opcN f) < W256
      have e1 : entA1 (cS { s with ret := [] } (stF s f)).now (cChild { s with ret := [] } (stF s f) (opcN f)) = s.now.accts := by
        unfold entA1
        rw [if_neg (by exact hn)]
        rfl
      have n244 : opcN f ≠ 244 := fun e => k3 (by show cK (opcN f) = 3; rw [e]; rfl)
      have e2 : cVal (stF s f) (opcN f) = cV (stF s f) (opcN f) := if_neg n244
      have e3 : cCal (stF s f) (opcN f) = f.self := if_neg n244
      rw [e1, e2, e3]
      exact h.b.now.room hf2
  · exact ⟨by omega, by omega, by have := hc.now.warmS; omega, by have := hc.rfn; omega, by have := hc.lgn; omega, by have := hc.now.temps; omega, fun a => by have := hst a; omega⟩
  · have htk := htk hr
    have hre := hre hr
    have hBB := (ref_ok hr).2.1
    refine ⟨fun hp => ?_, fun _ => sto_ok (f := stF s f) h.b.st h.b.snz h.b.now, fun hq => ?_, fun hq => ?_, fun hq => ?_, fun hq => ?_⟩
    · have hp : opcN f = 86 ∨ (opcN f = 87 ∧ argN f.stack 1 ≠ 0) := by
        have hp : plC f (opcN f) = 0 := hp
        unfold plC at hp
        refine Classical.byContradiction fun h9 => ?_
        rw [if_neg h9] at hp
        repeat' split at hp
        all_goals cases hp
      have hd : destN f.code (argN f.stack 0) = true := by
        cases hh : destN f.code (argN f.stack 0)
        · exfalso
          unfold refB at hBB
          repeat' split at hBB
          all_goals first | cases hBB | skip
          rename_i n1 n2 n3 n4
          rcases hp with h9 | h9
          · exact n3 ⟨h9, hh⟩
          · exact n4 ⟨h9, hh⟩
        · rfl
      have h1 := dest_lt hd
      have h2 := hB.code
      show argN f.stack 0 < _
      omega
    · rw [hq] at hre ⊢
      rw [argL_at9 (by decide)]
      have hre : endN (argN f.stack 0) (argN f.stack 1) ≤ 717280 := hre
      have := end_ge hre
      show argN f.stack 1 ≤ _
      omega
    · have h2 : tkN (opcN f) = 3 := by rcases hq with e | e | e | e <;> rw [e] <;> decide
      rw [argL_at9 (by omega)]
      show argN f.stack 2 ≤ _
      have : endN (argN f.stack 0) (argN f.stack 2) ≤ 717280 := by
        rcases hq with e | e | e | e <;> rw [e] at hre
        · exact hre
        · exact hre
        · exact hre
        · exact Nat.le_trans (Nat.le_max_left _ (endN (argN f.stack 1) (argN f.stack 2))) hre
      have := end_ge this
      omega
    · rw [hq] at hre ⊢
      rw [argL_at9 (by decide)]
      have hre : endN (argN f.stack 1) (argN f.stack 3) ≤ 717280 := hre
      have := end_ge hre
      show argN f.stack 3 ≤ _
      omega
    · have h2 : 2 ≤ tkN (opcN f) := by
        have h9 : ∀ x : Fin 5, 2 ≤ tkN (160 + x.1) := by decide
        have := h9 ⟨opcN f - 160, by omega⟩
        rwa [show 160 + (opcN f - 160) = opcN f from by omega] at this
      rw [argL_at9 (by omega)]
      show argN f.stack 1 ≤ _
      unfold yReach at hre
      rw [if_pos (by omega)] at hre
      have := end_ge hre
      omega
theorem EX.pc {w : World} {H : Store} {col : Nat → Nat} {bc : Nat} {cs : Array Value} {sn : List Nat} {sv : List AW} {ms : List (List Nat)} {c : Nat} (hE : EX w H col bc cs V s sn sv ms c) (h : IS s low f) (hs : s.frames = low ++ [f]) : PC s low f := by
  have h7 := hE.lx.n7
  rw [hs, List.length_append, List.length_singleton] at h7
  have hr : V.ref = s.now.refund := congrArg AW.refund hE.px.va.abs
  have hl : V.logs = s.now.logs := congrArg AW.logs hE.px.va.abs
  refine ⟨lb_now (A := absY s.now) h.b.now.wf hE.ok hE.px.va, by rw [← hl]; exact hE.ok.bd.logs, by have := hE.px.pot.r; omega, fun g hg => ?_, fun g hg => hE.lx.fb g (by rw [hs]; exact hg), by omega, hE.codeLen⟩
  obtain ⟨i, hi⟩ := List.getElem?_of_mem hg
  rw [← hs] at hi
  have hil : i < sn.length := by rw [hE.lx.snl]; exact (List.getElem?_eq_some_iff.1 hi).1
  have hsv := hE.px.snp i g sn[i] hi (List.getElem?_eq_getElem hil)
  refine ⟨lb_sav (h.sv g hg).wf hE.ok hE.px.va hsv, ?_⟩
  have := (hE.px.pot.sr _ (List.mem_of_getElem? hsv)).2
  have e : (absY g.saved).logs = g.saved.logs := rfl
  rw [e] at this
  omega
end
end Go.Proofs.YgvaawGreat
