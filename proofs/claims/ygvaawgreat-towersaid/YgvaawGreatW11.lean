import Derived.Test.YgvaawGreatW10
set_option maxRecDepth 100000
set_option linter.unusedSimpArgs false
set_option linter.unusedVariables false
namespace Go.Proofs.YgvaawGreat
open Go
section
variable {s : YSt} {f : YF} {low : List YF} {c c' bc : Nat} {sn : List Nat} {sv : List AW}
theorem st_en (hn : f.ntv = 0) (hr : (refN s f (opcN f)).1 = 0) (h0 : opcN f ≠ 0) (h1 : opcN f ≠ 243) (h2 : opcN f ≠ 253) (h3 : opcN f ≠ 255) (h4 : famN (opcN f) = 16) : stepY s f low = entersY s (stF s f) (opcN f) low := by
  unfold stepY
  rw [if_neg (fun h => h hn), if_neg (fun h => h hr), if_neg h0, if_neg h1, if_neg h2, if_neg h3, if_pos h4]
theorem ex_des (hn : f.ntv = 0) (hr : (refN s f (opcN f)).1 = 0) (hq : opcN f = 255) (hp : s.phase = 1) (hap : s.applied ≤ 4) (hpar : Par low) (hpay : c' + dCost s (stF s f) ≤ c) (hsum : desT (stF s f) ≠ (stF s f).self → (acctAt (takeB s.now.accts (stF s f).self (acctAt s.now.accts (stF s f).self).bal) (desT (stF s f))).bal + (acctAt s.now.accts (stF s f).self).bal < W256) : ExS bc s f low sn sv c c' := by
  intro w H col cs V hE
  have hpay2 : c' + ((5000 + (if desT (stF s f) ∈ s.now.warmA then 0 else 2600)) + (if emptyB (acctAt s.now.accts (desT (stF s f))) = true ∧ (acctAt s.now.accts (stF s f).self).bal ≠ 0 then 25000 else 0)) ≤ c := hpay
  have key := m_opDestruct (s := { s with frames := low ++ [stF s f] }) (f := stF s f) (c' := c') hE rfl hp (by rw [List.map_append]; rfl) hap hpar (by omega) (fun hc => by rw [if_neg hc] at hpay2; omega) hsum
  have e : stepY s f low = lvY (desS s (stF s f)) (stF s f) 0 [] low := by
    unfold stepY
    rw [if_neg (fun h => h hn), if_neg (fun h => h hr), if_neg (by omega), if_neg (by omega), if_neg (by omega), if_pos hq]
  have e2 : lvY (desS { s with frames := low ++ [stF s f] } (stF s f)) (stF s f) 0 [] low = lvY (desS s (stF s f)) (stF s f) 0 [] low := lvY_fr (desS s (stF s f)) (low ++ [stF s f]) (stF s f) 0 [] low
  rw [e2] at key
  rw [e, hq]
  refine (x_exec255 key (fun v w' hv => hv.2.chc.mono (fun _ _ _ => trivial))).mono fun v w' hv => ⟨hv.1, ?_⟩
  obtain ⟨v0, _, hx⟩ := hv.2
  exact hx
theorem acc_ge (l : List Nat) (a : Nat) : 100 ≤ accessN l a := by
  unfold accessN
  split <;> omega
theorem call_pay {f : YF} {q : Nat} (hq : q = 241 ∨ q = 242 ∨ q = 244 ∨ q = 250) (h : c' + eCost s f q ≤ c) : (c' + (if cV f q ≠ 0 then 2350 else 0)) + 100 ≤ c ∧ (ctT f ∉ s.now.warmA → (c' + (if cV f q ≠ 0 then 2350 else 0)) + 2600 ≤ c) := by
  have ha := acc_ge s.now.warmA (yT f 1)
  have key : (if cV f q ≠ 0 then 2350 else 0) + accessN s.now.warmA (yT f 1) ≤ eCost s f q := by
    have e : eCost s f q = if (q = 241 ∨ q = 242) ∧ argN f.stack 2 ≠ 0 then (if q = 241 ∧ emptyB (acctAt s.now.accts (yT f 1)) = true then accessN s.now.warmA (yT f 1) + 9000 + 25000 else accessN s.now.warmA (yT f 1) + 9000) else accessN s.now.warmA (yT f 1) := by
      unfold eCost
      rw [if_neg (by omega), if_neg (by omega)]
    rw [e]
    by_cases hv : (q = 241 ∨ q = 242) ∧ argN f.stack 2 ≠ 0
    · rw [if_pos hv]
      have : cV f q ≠ 0 := by unfold cV; rw [if_pos hv.1]; exact hv.2
      rw [if_pos this]
      split <;> omega
    · rw [if_neg hv]
      have : ¬ cV f q ≠ 0 := by
        unfold cV
        by_cases h1 : q = 241 ∨ q = 242
        · rw [if_pos h1]; exact fun h2 => hv ⟨h1, h2⟩
        · rw [if_neg h1]; exact fun h2 => h2 rfl
      rw [if_neg this]
      omega
  refine ⟨by omega, fun hc => ?_⟩
  have e : accessN s.now.warmA (yT f 1) = 2600 := if_neg hc
  omega
theorem ex_241 (hn : f.ntv = 0) (hr : (refN s f (opcN f)).1 = 0) (hq : opcN f = 241) (hp : s.phase = 1) (hap : s.applied ≤ 4) (hpar : Par low) (hpc : f.pc < 512) (htk : 7 ≤ f.stack.length) (hm : yReach (stF s f).stack 241 ≤ (stF s f).mem.length) (hpay : c' + eCost s (stF s f) 241 ≤ c) (hov : argN (stF s f).stack 2 ≤ (acctAt s.now.accts (stF s f).self).bal → argN (stF s f).stack 2 ≠ 0 → (acctAt (takeB s.now.accts (stF s f).self (argN (stF s f).stack 2)) (ctT (stF s f))).bal + argN (stF s f).stack 2 < W256) : ExS bc s f low sn sv c c' := by
  intro w H col cs V hE
  have hm2 : max (endN (argN (stF s f).stack 3) (argN (stF s f).stack 4)) (endN (argN (stF s f).stack 5) (argN (stF s f).stack 6)) ≤ (stF s f).mem.length := hm
  have hcp := call_pay (s := s) (f := stF s f) (q := 241) (by decide) hpay
  have key := m_opCall241 (s := { s with frames := low ++ [stF s f] }) (f := stF s f) (c' := c') (c1 := c' + (if cV (stF s f) 241 ≠ 0 then 2350 else 0)) hE rfl hp (by rw [List.map_append]; rfl) hap hpar hq hpc htk (end_in (Nat.le_trans (Nat.le_max_left _ _) hm2)) (end_in (Nat.le_trans (Nat.le_max_right _ _) hm2)) hcp.1 hcp.2 (Nat.le_refl _) hov
  have e : stepY s f low = callY { s with ret := [] } (stF s f) 241 low := by
    rw [st_en hn hr (by omega) (by omega) (by omega) (by omega) (by rw [hq]; rfl), hq]
    rfl
  have e2 : callY { ({ s with frames := low ++ [stF s f] } : YSt) with ret := [] } (stF s f) 241 low = callY { s with ret := [] } (stF s f) 241 low := callY_fr { s with ret := [] } (low ++ [stF s f]) (stF s f) 241 low
  rw [e2] at key
  rw [e, hq]
  refine (x_exec241 key (fun v w' hv => hv.2.chc.mono (fun _ _ _ => trivial))).mono fun v w' hv => ⟨hv.1, ?_⟩
  obtain ⟨v0, _, hx⟩ := hv.2
  exact hx
theorem ex_242 (hn : f.ntv = 0) (hr : (refN s f (opcN f)).1 = 0) (hq : opcN f = 242) (hp : s.phase = 1) (hap : s.applied ≤ 4) (hpar : Par low) (hpc : f.pc < 512) (htk : 7 ≤ f.stack.length) (hm : yReach (stF s f).stack 242 ≤ (stF s f).mem.length) (hpay : c' + eCost s (stF s f) 242 ≤ c) : ExS bc s f low sn sv c c' := by
  intro w H col cs V hE
  have hm2 : max (endN (argN (stF s f).stack 3) (argN (stF s f).stack 4)) (endN (argN (stF s f).stack 5) (argN (stF s f).stack 6)) ≤ (stF s f).mem.length := hm
  have hcp := call_pay (s := s) (f := stF s f) (q := 242) (by decide) hpay
  have key := m_opCall242 (s := { s with frames := low ++ [stF s f] }) (f := stF s f) (c' := c') (c1 := c' + (if cV (stF s f) 242 ≠ 0 then 2350 else 0)) hE rfl hp (by rw [List.map_append]; rfl) hap hpar hq hpc htk (end_in (Nat.le_trans (Nat.le_max_left _ _) hm2)) (end_in (Nat.le_trans (Nat.le_max_right _ _) hm2)) hcp.1 hcp.2 (Nat.le_refl _)
  have e : stepY s f low = callY { s with ret := [] } (stF s f) 242 low := by
    rw [st_en hn hr (by omega) (by omega) (by omega) (by omega) (by rw [hq]; rfl), hq]
    rfl
  have e2 : callY { ({ s with frames := low ++ [stF s f] } : YSt) with ret := [] } (stF s f) 242 low = callY { s with ret := [] } (stF s f) 242 low := callY_fr { s with ret := [] } (low ++ [stF s f]) (stF s f) 242 low
  rw [e2] at key
  rw [e, hq]
  refine (x_exec242 key (fun v w' hv => hv.2.chc.mono (fun _ _ _ => trivial))).mono fun v w' hv => ⟨hv.1, ?_⟩
  obtain ⟨v0, _, hx⟩ := hv.2
  exact hx
theorem ex_244 (hn : f.ntv = 0) (hr : (refN s f (opcN f)).1 = 0) (hq : opcN f = 244) (hp : s.phase = 1) (hap : s.applied ≤ 4) (hpar : Par low) (hpc : f.pc < 512) (htk : 6 ≤ f.stack.length) (hm : yReach (stF s f).stack 244 ≤ (stF s f).mem.length) (hpay : c' + eCost s (stF s f) 244 ≤ c) : ExS bc s f low sn sv c c' := by
  intro w H col cs V hE
  have hm2 : max (endN (argN (stF s f).stack 2) (argN (stF s f).stack 3)) (endN (argN (stF s f).stack 4) (argN (stF s f).stack 5)) ≤ (stF s f).mem.length := hm
  have hcp := call_pay (s := s) (f := stF s f) (q := 244) (by decide) hpay
  have key := m_opCall244 (s := { s with frames := low ++ [stF s f] }) (f := stF s f) (c' := c') (c1 := c' + (if cV (stF s f) 244 ≠ 0 then 2350 else 0)) hE rfl hp (by rw [List.map_append]; rfl) hap hpar hq hpc htk (end_in (Nat.le_trans (Nat.le_max_left _ _) hm2)) (end_in (Nat.le_trans (Nat.le_max_right _ _) hm2)) hcp.1 hcp.2 (Nat.le_refl _)
  have e : stepY s f low = callY { s with ret := [] } (stF s f) 244 low := by
    rw [st_en hn hr (by omega) (by omega) (by omega) (by omega) (by rw [hq]; rfl), hq]
    rfl
  have e2 : callY { ({ s with frames := low ++ [stF s f] } : YSt) with ret := [] } (stF s f) 244 low = callY { s with ret := [] } (stF s f) 244 low := callY_fr { s with ret := [] } (low ++ [stF s f]) (stF s f) 244 low
  rw [e2] at key
  rw [e, hq]
  refine (x_exec244 key (fun v w' hv => hv.2.chc.mono (fun _ _ _ => trivial))).mono fun v w' hv => ⟨hv.1, ?_⟩
  obtain ⟨v0, _, hx⟩ := hv.2
  exact hx
theorem ex_250 (hn : f.ntv = 0) (hr : (refN s f (opcN f)).1 = 0) (hq : opcN f = 250) (hp : s.phase = 1) (hap : s.applied ≤ 4) (hpar : Par low) (hpc : f.pc < 512) (htk : 6 ≤ f.stack.length) (hm : yReach (stF s f).stack 250 ≤ (stF s f).mem.length) (hpay : c' + eCost s (stF s f) 250 ≤ c) : ExS bc s f low sn sv c c' := by
  intro w H col cs V hE
  have hm2 : max (endN (argN (stF s f).stack 2) (argN (stF s f).stack 3)) (endN (argN (stF s f).stack 4) (argN (stF s f).stack 5)) ≤ (stF s f).mem.length := hm
  have hcp := call_pay (s := s) (f := stF s f) (q := 250) (by decide) hpay
  have key := m_opCall250 (s := { s with frames := low ++ [stF s f] }) (f := stF s f) (c' := c') (c1 := c' + (if cV (stF s f) 250 ≠ 0 then 2350 else 0)) hE rfl hp (by rw [List.map_append]; rfl) hap hpar hq hpc htk (end_in (Nat.le_trans (Nat.le_max_left _ _) hm2)) (end_in (Nat.le_trans (Nat.le_max_right _ _) hm2)) hcp.1 hcp.2 (Nat.le_refl _)
  have e : stepY s f low = callY { s with ret := [] } (stF s f) 250 low := by
    rw [st_en hn hr (by omega) (by omega) (by omega) (by omega) (by rw [hq]; rfl), hq]
    rfl
  have e2 : callY { ({ s with frames := low ++ [stF s f] } : YSt) with ret := [] } (stF s f) 250 low = callY { s with ret := [] } (stF s f) 250 low := callY_fr { s with ret := [] } (low ++ [stF s f]) (stF s f) 250 low
  rw [e2] at key
  rw [e, hq]
  refine (x_exec250 key (fun v w' hv => hv.2.chc.mono (fun _ _ _ => trivial))).mono fun v w' hv => ⟨hv.1, ?_⟩
  obtain ⟨v0, _, hx⟩ := hv.2
  exact hx
theorem ex_240 (hn : f.ntv = 0) (hr : (refN s f (opcN f)).1 = 0) (hq : opcN f = 240) (hp : s.phase = 1) (hap : s.applied ≤ 4) (hpar : Par low) (hpc : f.pc < 512) (htk : 3 ≤ f.stack.length) (hm : yReach (stF s f).stack 240 ≤ (stF s f).mem.length) (hil : argN f.stack 2 ≤ 512) (hpay : c' + eCost s (stF s f) 240 ≤ c) (hov : ¬ crFail { s with ret := [] } (stF s f) low.length → argN (stF s f).stack 0 ≠ 0 → (acctAt (takeB (entA1 (crS { s with ret := [] } (stF s f) 240).now (crChild { s with ret := [] } (stF s f) 240)) (stF s f).self (argN (stF s f).stack 0)) (crSelf { s with ret := [] } (stF s f) 240)).bal + argN (stF s f).stack 0 < W256) : ExS bc s f low sn sv c c' := by
  intro w H col cs V hE
  have hm2 : endN (argN (stF s f).stack 1) (argN (stF s f).stack 2) ≤ (stF s f).mem.length := hm
  have hp2 : c' + (32000 + 2 * wordsN (argN (stF s f).stack 2)) ≤ c := hpay
  have hil2 : (crCode (stF s f)).length ≤ 512 := by
    show (rdN _ _ (argN f.stack 2)).length ≤ 512
    unfold rdN
    split
    · exact Nat.zero_le _
    · rw [len_cut]; exact hil
  have key := m_opCre240 (s := { s with frames := low ++ [stF s f] }) (f := stF s f) (c' := c') hE rfl hp (by rw [List.map_append]; rfl) hap hpar hq hpc htk (end_in hm2) hil2 (by omega) hov
  have e : stepY s f low = creY { s with ret := [] } (stF s f) 240 low := by
    rw [st_en hn hr (by omega) (by omega) (by omega) (by omega) (by rw [hq]; rfl), hq]
    rfl
  have e2 : creY { ({ s with frames := low ++ [stF s f] } : YSt) with ret := [] } (stF s f) 240 low = creY { s with ret := [] } (stF s f) 240 low := creY_fr { s with ret := [] } (low ++ [stF s f]) (stF s f) 240 low
  rw [e2] at key
  rw [e, hq]
  refine (x_exec240 key (fun v w' hv => hv.2.chc.mono (fun _ _ _ => trivial))).mono fun v w' hv => ⟨hv.1, ?_⟩
  obtain ⟨v0, _, hx⟩ := hv.2
  exact hx
theorem ex_245 (hn : f.ntv = 0) (hr : (refN s f (opcN f)).1 = 0) (hq : opcN f = 245) (hp : s.phase = 1) (hap : s.applied ≤ 4) (hpar : Par low) (hpc : f.pc < 512) (htk : 4 ≤ f.stack.length) (hm : yReach (stF s f).stack 245 ≤ (stF s f).mem.length) (hil : argN f.stack 2 ≤ 512) (hpay : c' + eCost s (stF s f) 245 ≤ c) (hov : ¬ crFail { s with ret := [] } (stF s f) low.length → argN (stF s f).stack 0 ≠ 0 → (acctAt (takeB (entA1 (crS { s with ret := [] } (stF s f) 245).now (crChild { s with ret := [] } (stF s f) 245)) (stF s f).self (argN (stF s f).stack 0)) (crSelf { s with ret := [] } (stF s f) 245)).bal + argN (stF s f).stack 0 < W256) : ExS bc s f low sn sv c c' := by
  intro w H col cs V hE
  have hm2 : endN (argN (stF s f).stack 1) (argN (stF s f).stack 2) ≤ (stF s f).mem.length := hm
  have hp2 : c' + (32000 + 8 * wordsN (argN (stF s f).stack 2)) ≤ c := hpay
  have hil2 : (crCode (stF s f)).length ≤ 512 := by
    show (rdN _ _ (argN f.stack 2)).length ≤ 512
    unfold rdN
    split
    · exact Nat.zero_le _
    · rw [len_cut]; exact hil
  have key := m_opCre245 (s := { s with frames := low ++ [stF s f] }) (f := stF s f) (c' := c') hE rfl hp (by rw [List.map_append]; rfl) hap hpar hq hpc htk (end_in hm2) hil2 (by omega) hov
  have e : stepY s f low = creY { s with ret := [] } (stF s f) 245 low := by
    rw [st_en hn hr (by omega) (by omega) (by omega) (by omega) (by rw [hq]; rfl), hq]
    rfl
  have e2 : creY { ({ s with frames := low ++ [stF s f] } : YSt) with ret := [] } (stF s f) 245 low = creY { s with ret := [] } (stF s f) 245 low := creY_fr { s with ret := [] } (low ++ [stF s f]) (stF s f) 245 low
  rw [e2] at key
  rw [e, hq]
  refine (x_exec245 key (fun v w' hv => hv.2.chc.mono (fun _ _ _ => trivial))).mono fun v w' hv => ⟨hv.1, ?_⟩
  obtain ⟨v0, _, hx⟩ := hv.2
  exact hx
end
end Go.Proofs.YgvaawGreat
