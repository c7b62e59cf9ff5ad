import Derived.Test.YgvaawGreatZ48
set_option maxRecDepth 100000
set_option linter.unusedSimpArgs false
set_option linter.unusedVariables false
namespace Go.Proofs.YgvaawGreat
open Go
/-! Every instruction. -/
section
variable {s : YSt} {f : YF} {low : List YF} {c c' bc : Nat} {sn : List Nat} {sv : List AW}
theorem ox_all {q : Nat} (H : OxH s f low q c c') (hk : KN q) (hne : q ≠ 0 ∧ q < 240) (hsto : q = 85 → stoOk s f = true) (hgo : q = 86 ∨ (q = 87 ∧ argN f.stack 1 ≠ 0) → argN f.stack 0 < 512) (hlog : 160 ≤ q ∧ q ≤ 164 → OxS bc q s f low sn sv c c') : OxS bc q s f low sn sv c c' := by
  unfold KN at hk
  by_cases h1 : 95 ≤ q ∧ q ≤ 127
  · exact ox_push h1 H
  by_cases h2 : 128 ≤ q ∧ q ≤ 143
  · exact ox_dup h2 H
  by_cases h3 : 144 ≤ q ∧ q ≤ 159
  · exact ox_swap h3 H
  by_cases h4 : 160 ≤ q ∧ q ≤ 164
  · exact hlog h4
  rcases (show q = 1 ∨ q = 2 ∨ q = 3 ∨ q = 4 ∨ q = 5 ∨ q = 6 ∨ q = 7 ∨ q = 8 ∨ q = 9 ∨ q = 10 ∨ q = 11 ∨ q = 16 ∨ q = 17 ∨ q = 18 ∨ q = 19 ∨ q = 20 ∨ q = 21 ∨ q = 22 ∨ q = 23 ∨ q = 24 ∨ q = 25 ∨ q = 26 ∨ q = 27 ∨ q = 28 ∨ q = 29 ∨ q = 32 ∨ q = 48 ∨ q = 49 ∨ q = 50 ∨ q = 51 ∨ q = 52 ∨ q = 53 ∨ q = 54 ∨ q = 55 ∨ q = 56 ∨ q = 57 ∨ q = 58 ∨ q = 59 ∨ q = 60 ∨ q = 61 ∨ q = 62 ∨ q = 63 ∨ q = 64 ∨ q = 65 ∨ q = 66 ∨ q = 67 ∨ q = 68 ∨ q = 69 ∨ q = 70 ∨ q = 71 ∨ q = 72 ∨ q = 80 ∨ q = 81 ∨ q = 82 ∨ q = 83 ∨ q = 84 ∨ q = 85 ∨ q = 86 ∨ q = 87 ∨ q = 88 ∨ q = 89 ∨ q = 90 ∨ q = 91 ∨ q = 92 ∨ q = 93 ∨ q = 94 by omega) with rfl | rfl | rfl | rfl | rfl | rfl | rfl | rfl | rfl | rfl | rfl | rfl | rfl | rfl | rfl | rfl | rfl | rfl | rfl | rfl | rfl | rfl | rfl | rfl | rfl | rfl | rfl | rfl | rfl | rfl | rfl | rfl | rfl | rfl | rfl | rfl | rfl | rfl | rfl | rfl | rfl | rfl | rfl | rfl | rfl | rfl | rfl | rfl | rfl | rfl | rfl | rfl | rfl | rfl | rfl | rfl | rfl | rfl | rfl | rfl | rfl | rfl | rfl | rfl | rfl | rfl
  · exact ox_1 H
  · exact ox_2 H
  · exact ox_3 H
  · exact ox_4 H
  · exact ox_5 H
  · exact ox_6 H
  · exact ox_7 H
  · exact ox_8 H
  · exact ox_9 H
  · exact ox_10 H
  · exact ox_11 H
  · exact ox_16 H
  · exact ox_17 H
  · exact ox_18 H
  · exact ox_19 H
  · exact ox_20 H
  · exact ox_21 H
  · exact ox_22 H
  · exact ox_23 H
  · exact ox_24 H
  · exact ox_25 H
  · exact ox_26 H
  · exact ox_27 H
  · exact ox_28 H
  · exact ox_29 H
  · exact ox_32 H
  · exact ox_48 H
  · exact ox_49 H
  · exact ox_50 H
  · exact ox_51 H
  · exact ox_52 H
  · exact ox_53 H
  · exact ox_54 H
  · exact ox_55 H
  · exact ox_56 H
  · exact ox_57 H
  · exact ox_58 H
  · exact ox_59 H
  · exact ox_60 H
  · exact ox_61 H
  · exact ox_62 H
  · exact ox_63 H
  · exact ox_64 H
  · exact ox_65 H
  · exact ox_66 H
  · exact ox_67 H
  · exact ox_68 H
  · exact ox_69 H
  · exact ox_70 H
  · exact ox_71 H
  · exact ox_72 H
  · exact ox_80 H
  · exact ox_81 H
  · exact ox_82 H
  · exact ox_83 H
  · exact ox_84 H
  · exact ox_85 H (hsto rfl)
  · exact ox_86 H hgo
  · exact ox_87 H hgo
  · exact ox_88 H
  · exact ox_89 H
  · exact ox_90 H
  · exact ox_91 H hgo
  · exact ox_92 H
  · exact ox_93 H
  · exact ox_94 H
theorem grow_ge {m : List Nat} {t : Nat} (h : m.length % 32 = 0) : t ≤ (growN m t).length := by
  by_cases h1 : m.length / 32 < wordsN t
  · rw [len_grow h1]
    unfold wordsN
    omega
  · rw [growN, if_neg h1]
    unfold wordsN at h1
    omega
theorem bare_le (s : YSt) (f : YF) (q : Nat) : bareN s f q ≤ costN s f q := by
  unfold costN
  split <;> omega
theorem dest_lt {l : List Nat} {a : Nat} (h : destN l a = true) : a < l.length := by
  refine Classical.byContradiction fun hn => ?_
  have key : ∀ n i, destW l a n i = false := by
    intro n
    induction n with
    | zero => intro i; rfl
    | succ n ih =>
      intro i
      rw [destW]
      by_cases h1 : i < l.length
      · rw [if_pos h1, if_neg (by omega)]
        exact ih _
      · rw [if_neg h1]
  unfold destN at h
  rw [key] at h
  cases h
/-- what a step leans on -/
structure StepE (s : YSt) (f : YF) (low : List YF) : Prop where
  hs : s.frames = low ++ [f]
  hp : s.phase = 1
  hap : s.applied ≤ 4
  par : Par low
  fb : EFB f
  org : s.origin < A160
  prc : s.price < W256
  rl : s.ret.length ≤ 717280
  ml : f.mem.length ≤ 717280
  m32 : f.mem.length % 32 = 0
  gm : f.gas + memN (f.mem.length / 32) ≤ 1048576
  sto : opcN f = 85 → stoOk s f = true
  des : opcN f = 255 → desT f ≠ f.self → (acctAt (takeB s.now.accts f.self (acctAt s.now.accts f.self).bal) (desT f)).bal + (acctAt s.now.accts f.self).bal < W256
  call : opcN f = 241 → argN f.stack 2 ≤ (acctAt s.now.accts f.self).bal → argN f.stack 2 ≠ 0 → (acctAt (takeB s.now.accts f.self (argN f.stack 2)) (ctT f)).bal + argN f.stack 2 < W256
  cre : ∀ q, q = 240 ∨ q = 245 → opcN f = q → ¬ crFail { s with ret := [] } (stF s f) low.length → argN (stF s f).stack 0 ≠ 0 → (acctAt (takeB (entA1 (crS { s with ret := [] } (stF s f) q).now (crChild { s with ret := [] } (stF s f) q)) (stF s f).self (argN (stF s f).stack 0)) (crSelf { s with ret := [] } (stF s f) q)).bal + argN (stF s f).stack 0 < W256
theorem ex_all (h : StepE s f low) (hc : c' ≤ c) (hn : f.ntv = 0) (hr : (refN s f (opcN f)).1 = 0) (hlog : ∀ {c9 : Nat}, 160 ≤ opcN f ∧ opcN f ≤ 164 → OxH { s with frames := low ++ [stF s f] } (stF s f) low (opcN f) c9 c' → OxS bc (opcN f) { s with frames := low ++ [stF s f] } (stF s f) low sn sv c9 c') : ExS bc s f low sn sv (c + (refN s f (opcN f)).2) c' := by
  have hA : refA s f (opcN f) = 0 := by
    refine Classical.byContradiction fun h9 => ?_
    unfold refN at hr
    rw [if_neg h9] at hr
    exact h9 hr
  have hN : refN s f (opcN f) = (refB s f (opcN f), costN s f (opcN f)) := if_pos hA
  have hB : refB s f (opcN f) = 0 := by rw [hN] at hr; exact hr
  have hcost : (refN s f (opcN f)).2 = costN s f (opcN f) := by rw [hN]
  unfold refA at hA
  have k1 : ¬ knN (opcN f) = false := fun h9 => by rw [if_pos h9] at hA; cases hA
  rw [if_neg k1] at hA
  have k2 : ¬ f.stack.length < tkN (opcN f) := fun h9 => by rw [if_pos h9] at hA; cases hA
  rw [if_neg k2] at hA
  have k3 : ¬ 64 < f.stack.length - tkN (opcN f) + gvN (opcN f) := fun h9 => by rw [if_pos h9] at hA; cases hA
  rw [if_neg k3] at hA
  have k4 : ¬ (f.static = true ∧ wrtN f (opcN f) = true) := fun h9 => by rw [if_pos h9] at hA; cases hA
  rw [if_neg k4] at hA
  have k5 : ¬ ((opcN f = 240 ∨ opcN f = 245) ∧ 512 < argN f.stack 2) := fun h9 => by rw [if_pos h9] at hA; cases hA
  have hKN : KN (opcN f) := kn_KN (by cases hh : knN (opcN f); exact absurd hh k1; rfl)
  unfold refB at hB
  have g1 : ¬ f.gas < costN s f (opcN f) := fun h9 => by rw [if_pos h9] at hB; cases hB
  rw [if_neg g1] at hB
  have g2 : ¬ (opcN f = 85 ∧ f.gas ≤ 2300) := fun h9 => by rw [if_pos h9] at hB; cases hB
  rw [if_neg g2] at hB
  have g3 : ¬ (opcN f = 86 ∧ destN f.code (argN f.stack 0) = false) := fun h9 => by rw [if_pos h9] at hB; cases hB
  rw [if_neg g3] at hB
  have g4 : ¬ ((opcN f = 87 ∧ argN f.stack 1 ≠ 0) ∧ destN f.code (argN f.stack 0) = false) := fun h9 => by rw [if_pos h9] at hB; cases hB
  have hcl := h.fb.code
  have hbl := bare_le s f (opcN f)
  have hmr : yReach (stF s f).stack (opcN f) ≤ (stF s f).mem.length := grow_ge h.m32
  have hpc : opcN f ≠ 0 → f.pc < 512 := fun h0 => by
    refine Classical.byContradiction fun h9 => h0 ?_
    unfold opcN
    rw [List.getElem?_eq_none (by omega)]
    rfl
  have hgo : opcN f = 86 ∨ (opcN f = 87 ∧ argN (stF s f).stack 1 ≠ 0) → argN (stF s f).stack 0 < 512 := fun h9 => by
    have hd : destN f.code (argN f.stack 0) = true := by
      cases hh : destN f.code (argN f.stack 0)
      · rcases h9 with h9 | h9
        · exact absurd ⟨h9, hh⟩ g3
        · exact absurd ⟨h9, hh⟩ g4
      · rfl
    exact Nat.lt_of_lt_of_le (dest_lt hd) hcl
  have hpay : c' + bareN s f (opcN f) ≤ c + (refN s f (opcN f)).2 := by rw [hcost]; omega
  intro w H col cs V hE
  rcases Classical.em (opcN f = 0) with q00 | q00
  · exact ex_end0 (c' := c') hn hr q00 h.hp h.hap h.par (by omega) hE
  rcases Classical.em (opcN f = 243 ∨ opcN f = 253) with q0 | q0
  · refine ex_end (c' := c') hn hr (.inr q0) h.hp h.hap h.par (by omega) ?_ hE
    rcases q0 with q0 | q0
    · rw [q0] at hmr; exact end_in hmr
    · rw [q0] at hmr; exact end_in hmr
  rcases Classical.em (opcN f = 255) with q1 | q1
  · refine ex_des (c' := c') hn hr q1 h.hp h.hap h.par ?_ (h.des q1) hE
    rw [q1] at hpay ⊢
    exact hpay
  rcases Classical.em (opcN f = 241) with q241 | q241
  · have htk : 7 ≤ f.stack.length := by rw [q241] at k2; exact Nat.le_of_not_lt k2
    rw [q241] at hmr
    refine ex_241 (c' := c') hn hr q241 h.hp h.hap h.par (hpc (by omega)) htk hmr ?_ (h.call q241) hE
    rw [q241] at hpay ⊢
    exact hpay
  rcases Classical.em (opcN f = 242) with q242 | q242
  · have htk : 7 ≤ f.stack.length := by rw [q242] at k2; exact Nat.le_of_not_lt k2
    rw [q242] at hmr
    refine ex_242 (c' := c') hn hr q242 h.hp h.hap h.par (hpc (by omega)) htk hmr ?_ hE
    rw [q242] at hpay ⊢
    exact hpay
  rcases Classical.em (opcN f = 244) with q244 | q244
  · have htk : 6 ≤ f.stack.length := by rw [q244] at k2; exact Nat.le_of_not_lt k2
    rw [q244] at hmr
    refine ex_244 (c' := c') hn hr q244 h.hp h.hap h.par (hpc (by omega)) htk hmr ?_ hE
    rw [q244] at hpay ⊢
    exact hpay
  rcases Classical.em (opcN f = 250) with q250 | q250
  · have htk : 6 ≤ f.stack.length := by rw [q250] at k2; exact Nat.le_of_not_lt k2
    rw [q250] at hmr
    refine ex_250 (c' := c') hn hr q250 h.hp h.hap h.par (hpc (by omega)) htk hmr ?_ hE
    rw [q250] at hpay ⊢
    exact hpay
  rcases Classical.em (opcN f = 240) with q240 | q240
  · have htk : 3 ≤ f.stack.length := by rw [q240] at k2; exact Nat.le_of_not_lt k2
    rw [q240] at hmr
    refine ex_240 (c' := c') hn hr q240 h.hp h.hap h.par (hpc (by omega)) htk hmr (Nat.le_of_not_lt (fun h9 => k5 ⟨by omega, h9⟩)) ?_ (h.cre 240 (by decide) q240) hE
    rw [q240] at hpay ⊢
    exact hpay
  rcases Classical.em (opcN f = 245) with q245 | q245
  · have htk : 4 ≤ f.stack.length := by rw [q245] at k2; exact Nat.le_of_not_lt k2
    rw [q245] at hmr
    refine ex_245 (c' := c') hn hr q245 h.hp h.hap h.par (hpc (by omega)) htk hmr (Nat.le_of_not_lt (fun h9 => k5 ⟨by omega, h9⟩)) ?_ (h.cre 245 (by decide) q245) hE
    rw [q245] at hpay ⊢
    exact hpay
  have hlt : opcN f < 240 := by unfold KN at hKN; omega
  have hf16 : famN (opcN f) ≠ 16 := by
    intro h9
    unfold famN at h9
    repeat' split at h9
    all_goals first | omega | (cases h9; done)
  have ho : OxH { s with frames := low ++ [stF s f] } (stF s f) low (opcN f) (c + (refN s f (opcN f)).2) c' := ⟨rfl, h.hp, h.hap, rfl, hpc (by omega), Nat.le_of_not_lt k2, Nat.le_of_not_lt k3, h.org, h.prc, h.rl, hmr, hpay⟩
  exact ex_plain (c' := c') hn hr (by omega) (by omega) (by omega) (by omega) hf16 (ox_all ho hKN ⟨by omega, hlt⟩ h.sto hgo (fun h9 => hlog h9 ho)) hE
end
end Go.Proofs.YgvaawGreat
