import Derived.Test.YgvaawGreatW7
set_option maxRecDepth 100000
set_option linter.unusedSimpArgs false
set_option linter.unusedVariables false
namespace Go.Proofs.YgvaawGreat
open Go
theorem end_in {a n m : Nat} (h : endN a n ≤ m) : n ≠ 0 → a + n ≤ m := fun h0 => by rw [endN, if_neg h0] at h; exact h
section
variable {s : YSt} {f : YF} {low : List YF} {c c' bc : Nat} {sn : List Nat} {sv : List AW}
theorem ox_32 (h : OxH s f low 32 c c') : OxS bc 32 s f low sn sv c c' := by
  intro w H col cs V hE
  have htk : 2 ≤ f.stack.length := h.tk
  have hov := h.ov
  have hrch : (endN (argN f.stack 0) (argN f.stack 1)) ≤ f.mem.length := h.mr
  refine (x_exec32 (m_opKeccak hE h.hs h.hp rfl h.hpc htk (end_in hrch)) (fun v w' hv => by obtain ⟨_, H1, cs1, hX⟩ := hv; exact hX.any)).mono fun v w' hv => ⟨hv.1, ?_⟩
  obtain ⟨v0, _, H1, cs1, hX⟩ := hv.2
  rw [pls_32, plf_32]
  exact XO.of (hX.slack (show c' ≤ _ by first | exact Nat.le_refl _ | (have := h.pay; omega))) (by show _ = (low ++ [_]).map _; rw [List.map_append]; rfl)
theorem ox_81 (h : OxH s f low 81 c c') : OxS bc 81 s f low sn sv c c' := by
  intro w H col cs V hE
  have htk : 1 ≤ f.stack.length := h.tk
  have hov := h.ov
  have hrch : (endN (argN f.stack 0) 32) ≤ f.mem.length := h.mr
  refine (x_exec81 (m_opMload hE h.hs h.hp rfl h.hq h.hpc htk (end_in hrch (by decide))) (fun v w' hv => by obtain ⟨_, cs1, hX⟩ := hv; exact hX.any)).mono fun v w' hv => ⟨hv.1, ?_⟩
  obtain ⟨v0, _, cs1, hX⟩ := hv.2
  rw [pls_81, plf_81]
  exact XO.of (hX.slack (show c' ≤ _ by first | exact Nat.le_refl _ | (have := h.pay; omega))) (by show _ = (low ++ [_]).map _; rw [List.map_append]; rfl)
theorem ox_82 (h : OxH s f low 82 c c') : OxS bc 82 s f low sn sv c c' := by
  intro w H col cs V hE
  have htk : 2 ≤ f.stack.length := h.tk
  have hov := h.ov
  have hrch : (endN (argN f.stack 0) 32) ≤ f.mem.length := h.mr
  refine (x_exec82 (m_opMstore hE h.hs h.hp rfl h.hq h.hpc htk (end_in hrch (by decide))) (fun v w' hv => by obtain ⟨_, cs1, hX⟩ := hv; exact hX.any)).mono fun v w' hv => ⟨hv.1, ?_⟩
  obtain ⟨v0, _, cs1, hX⟩ := hv.2
  rw [pls_82, plf_82]
  have e9 := XO.mem (hX.slack (show c' ≤ _ by first | exact Nat.le_refl _ | (have := h.pay; omega)))
  rw [set0] at e9
  exact e9
theorem ox_83 (h : OxH s f low 83 c c') : OxS bc 83 s f low sn sv c c' := by
  intro w H col cs V hE
  have htk : 2 ≤ f.stack.length := h.tk
  have hov := h.ov
  have hrch : (endN (argN f.stack 0) 1) ≤ f.mem.length := h.mr
  refine (x_exec83 (m_opMstore8 hE h.hs h.hp rfl h.hq h.hpc htk (end_in hrch (by decide))) (fun v w' hv => by obtain ⟨_, cs1, hX⟩ := hv; exact hX.any)).mono fun v w' hv => ⟨hv.1, ?_⟩
  obtain ⟨v0, _, cs1, hX⟩ := hv.2
  rw [pls_83, plf_83]
  have e9 := XO.mem (hX.slack (show c' ≤ _ by first | exact Nat.le_refl _ | (have := h.pay; omega)))
  rw [set0] at e9
  exact e9
theorem ox_55 (h : OxH s f low 55 c c') : OxS bc 55 s f low sn sv c c' := by
  intro w H col cs V hE
  have htk : 3 ≤ f.stack.length := h.tk
  have hov := h.ov
  have hrch : (endN (argN f.stack 0) (argN f.stack 2)) ≤ f.mem.length := h.mr
  refine (x_exec55 (m_opCopy55 hE h.hs h.hp rfl h.hq h.hpc htk h.rl (end_in hrch)) (fun v w' hv => by obtain ⟨_, cs1, hX⟩ := hv; exact hX.any)).mono fun v w' hv => ⟨hv.1, ?_⟩
  obtain ⟨v0, _, cs1, hX⟩ := hv.2
  rw [pls_55, plf_55]
  have e9 := XO.mem (hX.slack (show c' ≤ _ by first | exact Nat.le_refl _ | (have := h.pay; omega)))
  rw [set0] at e9
  exact e9
theorem ox_57 (h : OxH s f low 57 c c') : OxS bc 57 s f low sn sv c c' := by
  intro w H col cs V hE
  have htk : 3 ≤ f.stack.length := h.tk
  have hov := h.ov
  have hrch : (endN (argN f.stack 0) (argN f.stack 2)) ≤ f.mem.length := h.mr
  refine (x_exec57 (m_opCopy57 hE h.hs h.hp rfl h.hq h.hpc htk h.rl (end_in hrch)) (fun v w' hv => by obtain ⟨_, cs1, hX⟩ := hv; exact hX.any)).mono fun v w' hv => ⟨hv.1, ?_⟩
  obtain ⟨v0, _, cs1, hX⟩ := hv.2
  rw [pls_57, plf_57]
  have e9 := XO.mem (hX.slack (show c' ≤ _ by first | exact Nat.le_refl _ | (have := h.pay; omega)))
  rw [set0] at e9
  exact e9
theorem ox_62 (h : OxH s f low 62 c c') : OxS bc 62 s f low sn sv c c' := by
  intro w H col cs V hE
  have htk : 3 ≤ f.stack.length := h.tk
  have hov := h.ov
  have hrch : (endN (argN f.stack 0) (argN f.stack 2)) ≤ f.mem.length := h.mr
  refine (x_exec62 (m_opCopy62 hE h.hs h.hp rfl h.hq h.hpc htk h.rl (end_in hrch)) (fun v w' hv => by obtain ⟨_, cs1, hX⟩ := hv; exact hX.any)).mono fun v w' hv => ⟨hv.1, ?_⟩
  obtain ⟨v0, _, cs1, hX⟩ := hv.2
  rw [pls_62, plf_62]
  have e9 := XO.mem (hX.slack (show c' ≤ _ by first | exact Nat.le_refl _ | (have := h.pay; omega)))
  rw [set0] at e9
  exact e9
theorem ox_49 (h : OxH s f low 49 c c') : OxS bc 49 s f low sn sv c c' := by
  intro w H col cs V hE
  have htk : 1 ≤ f.stack.length := h.tk
  have hov := h.ov
  have hrch : 0 ≤ f.mem.length := h.mr
  have hpay : c' + accessN s.now.warmA (argN f.stack 0 % A160) ≤ c := h.pay
  have hcd : argN f.stack 0 % A160 ∉ s.now.warmA → c' + 2600 ≤ c := fun hn => by rw [accessN, if_neg hn] at hpay; omega
  refine (x_exec49 (m_opBalance hE h.hs h.hp h.hq h.hpc htk h.hap (c' := c') (by omega) hcd) (fun v w' hv => by obtain ⟨_, H1, col1, cs1, V1, hX⟩ := hv; exact hX.any)).mono fun v w' hv => ⟨hv.1, ?_⟩
  obtain ⟨v0, _, H1, col1, cs1, V1, hX⟩ := hv.2
  rw [pls_49, plf_49]
  exact XO.of (hX.slack (show c' ≤ _ by first | exact Nat.le_refl _ | (have := h.pay; omega))) (by show _ = (low ++ [_]).map _; rw [List.map_append]; rfl)
theorem ox_59 (h : OxH s f low 59 c c') : OxS bc 59 s f low sn sv c c' := by
  intro w H col cs V hE
  have htk : 1 ≤ f.stack.length := h.tk
  have hov := h.ov
  have hrch : 0 ≤ f.mem.length := h.mr
  have hpay : c' + accessN s.now.warmA (argN f.stack 0 % A160) ≤ c := h.pay
  have hcd : argN f.stack 0 % A160 ∉ s.now.warmA → c' + 2600 ≤ c := fun hn => by rw [accessN, if_neg hn] at hpay; omega
  refine (x_exec59 (m_opCodeSize hE h.hs h.hp h.hq h.hpc htk h.hap (c' := c') (by omega) hcd) (fun v w' hv => by obtain ⟨_, H1, col1, cs1, V1, hX⟩ := hv; exact hX.any)).mono fun v w' hv => ⟨hv.1, ?_⟩
  obtain ⟨v0, _, H1, col1, cs1, V1, hX⟩ := hv.2
  rw [pls_59, plf_59]
  exact XO.of (hX.slack (show c' ≤ _ by first | exact Nat.le_refl _ | (have := h.pay; omega))) (by show _ = (low ++ [_]).map _; rw [List.map_append]; rfl)
theorem ox_63 (h : OxH s f low 63 c c') : OxS bc 63 s f low sn sv c c' := by
  intro w H col cs V hE
  have htk : 1 ≤ f.stack.length := h.tk
  have hov := h.ov
  have hrch : 0 ≤ f.mem.length := h.mr
  have hpay : c' + accessN s.now.warmA (argN f.stack 0 % A160) ≤ c := h.pay
  have hcd : argN f.stack 0 % A160 ∉ s.now.warmA → c' + 2600 ≤ c := fun hn => by rw [accessN, if_neg hn] at hpay; omega
  refine (x_exec63 (m_opCodeHash hE h.hs h.hp h.hq h.hpc htk h.hap (c' := c') (by omega) hcd) (fun v w' hv => by obtain ⟨_, H1, col1, cs1, V1, hX⟩ := hv; exact hX.any)).mono fun v w' hv => ⟨hv.1, ?_⟩
  obtain ⟨v0, _, H1, col1, cs1, V1, hX⟩ := hv.2
  rw [pls_63, plf_63]
  exact XO.of (hX.slack (show c' ≤ _ by first | exact Nat.le_refl _ | (have := h.pay; omega))) (by show _ = (low ++ [_]).map _; rw [List.map_append]; rfl)
theorem ox_60 (h : OxH s f low 60 c c') : OxS bc 60 s f low sn sv c c' := by
  intro w H col cs V hE
  have htk : 4 ≤ f.stack.length := h.tk
  have hov := h.ov
  have hrch : (endN (argN f.stack 1) (argN f.stack 3)) ≤ f.mem.length := h.mr
  have hpay : c' + (accessN s.now.warmA (argN f.stack 0 % A160) + copyN (argN f.stack 3)) ≤ c := h.pay
  have hcd : argN f.stack 0 % A160 ∉ s.now.warmA → c' + 2600 ≤ c := fun hn => by rw [accessN, if_neg hn] at hpay; omega
  refine (x_exec60 (m_opCopy60 hE h.hs h.hp rfl h.hq h.hpc htk (end_in hrch) h.hap (c' := c') (by omega) hcd) (fun v w' hv => by obtain ⟨_, H1, col1, cs1, V1, hX⟩ := hv; exact hX.any)).mono fun v w' hv => ⟨hv.1, ?_⟩
  obtain ⟨v0, _, H1, col1, cs1, V1, hX⟩ := hv.2
  rw [pls_60, plf_60]
  have e9 := XO.mem (s := { s with now := { s.now with warmA := withA s.now.warmA (argN f.stack 0 % A160) } }) (hX.slack (show c' ≤ _ by first | exact Nat.le_refl _ | (have := h.pay; omega)))
  rw [set0] at e9
  exact e9
theorem ox_84 (h : OxH s f low 84 c c') : OxS bc 84 s f low sn sv c c' := by
  intro w H col cs V hE
  have htk : 1 ≤ f.stack.length := h.tk
  have hov := h.ov
  have hrch : 0 ≤ f.mem.length := h.mr
  have hpay : c' + (if (f.self, argN f.stack 0) ∈ s.now.warmS then 100 else 2100) ≤ c := h.pay
  have hcd : (f.self, argN f.stack 0) ∉ s.now.warmS → c' + 2100 ≤ c := fun hn => by rw [if_neg hn] at hpay; exact hpay
  refine (x_exec84 (m_opSload hE h.hs h.hp h.hq h.hpc htk h.hap (c' := c') (by omega) hcd) (fun v w' hv => by obtain ⟨_, col1, cs1, V1, hX⟩ := hv; exact hX.any)).mono fun v w' hv => ⟨hv.1, ?_⟩
  obtain ⟨v0, _, col1, cs1, V1, hX⟩ := hv.2
  rw [pls_84, plf_84]
  exact XO.of (hX.slack (show c' ≤ _ by first | exact Nat.le_refl _ | (have := h.pay; omega))) (by show _ = (low ++ [_]).map _; rw [List.map_append]; rfl)
theorem setT2 (f : YF) : setF f 2 false 0 1 = { f with stack := f.stack.take (f.stack.length - 2), pc := f.pc + 1 } := set0 f 2
theorem ox_93 (h : OxH s f low 93 c c') : OxS bc 93 s f low sn sv c c' := by
  intro w H col cs V hE
  have htk : 2 ≤ f.stack.length := h.tk
  have hov := h.ov
  have hrch : 0 ≤ f.mem.length := h.mr
  have hpay : c' + 100 ≤ c := h.pay
  refine (x_exec93 (m_opTstore hE h.hs h.hp h.hq h.hpc htk h.hap (c' := c') hpay) (fun v w' hv => by obtain ⟨_, col1, cs1, V1, hX⟩ := hv; exact hX.any)).mono fun v w' hv => ⟨hv.1, ?_⟩
  obtain ⟨v0, _, col1, cs1, V1, hX⟩ := hv.2
  rw [pls_93, plf_93, ← setT2]
  exact XO.of (hX.slack (show c' ≤ _ by first | exact Nat.le_refl _ | (have := h.pay; omega))) (by show _ = (low ++ [_]).map _; rw [List.map_append]; rfl)
theorem ox_94 (h : OxH s f low 94 c c') : OxS bc 94 s f low sn sv c c' := by
  intro w H col cs V hE
  have htk : 3 ≤ f.stack.length := h.tk
  have hov := h.ov
  have hrch : (max (endN (argN f.stack 0) (argN f.stack 2)) (endN (argN f.stack 1) (argN f.stack 2))) ≤ f.mem.length := h.mr
  have hr1 := end_in (Nat.le_trans (Nat.le_max_left _ _) hrch)
  have hr2 := end_in (Nat.le_trans (Nat.le_max_right _ _) hrch)
  refine (x_exec94 (m_opCopy94 hE h.hs h.hp rfl h.hq h.hpc htk h.rl hr1 hr2) (fun v w' hv => by obtain ⟨_, cs1, hX⟩ := hv; exact hX.any)).mono fun v w' hv => ⟨hv.1, ?_⟩
  obtain ⟨v0, _, cs1, hX⟩ := hv.2
  rw [pls_94, plf_94]
  have e9 := XO.mem (hX.slack (show c' ≤ _ by first | exact Nat.le_refl _ | (have := h.pay; omega)))
  rw [set0] at e9
  exact e9
theorem plf_85 (s : YSt) (f : YF) : plF s f 85 = setF f 2 false 0 1 := by
  rw [plf4 s f 85 rfl, set0]
  rfl
theorem pls_85 {s : YSt} {f : YF} (h : stoOk s f = true) : plS s f 85 = stoN s f (argN f.stack 0) (argN f.stack 1) := by
  show effS s f 85 (argL f 85) = _
  unfold effS
  rw [if_neg (by decide), if_pos rfl, if_pos h]
  rfl
theorem sBase_ge (o v n : Nat) : 100 ≤ sBase o v n := by
  unfold sBase
  repeat' split
  all_goals omega
theorem sto_min {s : YSt} {f : YF} (h : stoOk s f = true) : sMinus (triAt s.start f.self (argN f.stack 0)) (slotAt (acctAt s.now.accts f.self).slots (argN f.stack 0)) (argN f.stack 1) ≤ s.now.refund := of_decide_eq_true h
theorem ox_85 (h : OxH s f low 85 c c') (hsto : stoOk s f = true) : OxS bc 85 s f low sn sv c c' := by
  intro w H col cs V hE
  have htk : 2 ≤ f.stack.length := h.tk
  have hov := h.ov
  have hrch : 0 ≤ f.mem.length := h.mr
  have hpay : c' + sCost (yOrig s f) (yVal s f) (argN f.stack 1) (yCold s f) ≤ c := h.pay
  have hb := sBase_ge (yOrig s f) (yVal s f) (argN f.stack 1)
  have hc0 : c' + 100 ≤ c := by unfold sCost at hpay; omega
  have hcd : (f.self, argN f.stack 0) ∉ s.now.warmS → c' + 100 + 2100 ≤ c := fun hn => by
    have e : yCold s f = true := by show (!decide ((f.self, argN f.stack 0) ∈ s.now.warmS)) = true; rw [decide_eq_false hn]; rfl
    unfold sCost at hpay
    rw [e, if_pos rfl] at hpay
    omega
  have hmn := sto_min hsto
  refine (x_exec85 (m_opSstore hE h.hs h.hp h.hq h.hpc htk h.hap (c' := c') (c1 := c' + 100) (by omega) hcd (Nat.le_refl _) hmn) (fun v w' hv => by obtain ⟨_, col1, cs1, V1, hX⟩ := hv; exact hX.any)).mono fun v w' hv => ⟨hv.1, ?_⟩
  obtain ⟨v0, _, col1, cs1, V1, hX⟩ := hv.2
  rw [pls_85 hsto, plf_85]
  exact XO.of (hX.slack (show c' ≤ _ by first | exact Nat.le_refl _ | (have := h.pay; omega))) (by show _ = (low ++ [_]).map _; rw [List.map_append]; rfl)
theorem plf_j (s : YSt) (f : YF) (q : Nat) (hq : q = 86 ∨ q = 87 ∨ q = 91) : plF s f q = jmpF f q := by
  unfold jmpF
  rcases hq with rfl | rfl | rfl
  · rw [if_neg (by decide), if_neg (fun h => by cases h.1), if_pos rfl, setF0]
    unfold plF plStk plPC plM
    rw [show plC f 86 = 0 from rfl]
    rfl
  · rw [if_neg (by decide)]
    by_cases h : argN f.stack 1 = 0
    · have hc : plC f 87 = 4 := by
        unfold plC
        rw [if_neg (by intro h9; rcases h9 with h9 | h9; cases h9; exact h9.2 h), if_neg (by decide), if_neg (by decide), if_neg (by decide)]
      rw [if_pos ⟨rfl, h⟩, plf4 s f 87 hc, set0]
      rfl
    · have hc : plC f 87 = 0 := if_pos (.inr ⟨rfl, h⟩)
      rw [if_neg (fun h9 => h h9.2), if_neg (by decide), setF0]
      unfold plF plStk plPC plM
      rw [hc]
      rfl
  · rw [if_pos rfl, plf4 s f 91 rfl, set0]
    rfl
theorem pls_j (s : YSt) (f : YF) (q : Nat) (hq : q = 86 ∨ q = 87 ∨ q = 91) : plS s f q = s := by
  rcases hq with rfl | rfl | rfl
  · rfl
  · unfold plS
    by_cases h : argN f.stack 1 = 0
    · have hc : plC f 87 = 4 := by
        unfold plC
        rw [if_neg (by intro h9; rcases h9 with h9 | h9; cases h9; exact h9.2 h), if_neg (by decide), if_neg (by decide), if_neg (by decide)]
      rw [hc]
      rfl
    · have hc : plC f 87 = 0 := if_pos (.inr ⟨rfl, h⟩)
      rw [hc]
      rfl
  · rfl
theorem jmp_mem (f : YF) (q : Nat) : (jmpF f q).mem = f.mem := by
  unfold jmpF
  repeat' split
  all_goals rfl
theorem ox_86 (h : OxH s f low 86 c c') (hgo : 86 = 86 ∨ (86 = 87 ∧ argN f.stack 1 ≠ 0) → argN f.stack 0 < 512) : OxS bc 86 s f low sn sv c c' := by
  intro w H col cs V hE
  have htk : 1 ≤ f.stack.length := h.tk
  have hov := h.ov
  have hrch : 0 ≤ f.mem.length := h.mr
  refine (x_exec86 (m_opJump hE h.hs h.hp h.hq h.hpc (by decide) htk hgo) (fun v w' hv => by obtain ⟨_, cs1, hX⟩ := hv; exact hX.any)).mono fun v w' hv => ⟨hv.1, ?_⟩
  obtain ⟨v0, _, cs1, hX⟩ := hv.2
  rw [pls_j s f 86 (by decide), plf_j s f 86 (by decide)]
  exact XO.of (hX.slack (by have := h.pay; omega)) (ms_top (jmp_mem f 86))
theorem ox_87 (h : OxH s f low 87 c c') (hgo : 87 = 86 ∨ (87 = 87 ∧ argN f.stack 1 ≠ 0) → argN f.stack 0 < 512) : OxS bc 87 s f low sn sv c c' := by
  intro w H col cs V hE
  have htk : 2 ≤ f.stack.length := h.tk
  have hov := h.ov
  have hrch : 0 ≤ f.mem.length := h.mr
  refine (x_exec87 (m_opJump hE h.hs h.hp h.hq h.hpc (by decide) htk hgo) (fun v w' hv => by obtain ⟨_, cs1, hX⟩ := hv; exact hX.any)).mono fun v w' hv => ⟨hv.1, ?_⟩
  obtain ⟨v0, _, cs1, hX⟩ := hv.2
  rw [pls_j s f 87 (by decide), plf_j s f 87 (by decide)]
  exact XO.of (hX.slack (by have := h.pay; omega)) (ms_top (jmp_mem f 87))
theorem ox_91 (h : OxH s f low 91 c c') (hgo : 91 = 86 ∨ (91 = 87 ∧ argN f.stack 1 ≠ 0) → argN f.stack 0 < 512) : OxS bc 91 s f low sn sv c c' := by
  intro w H col cs V hE
  have htk : 0 ≤ f.stack.length := h.tk
  have hov := h.ov
  have hrch : 0 ≤ f.mem.length := h.mr
  refine (x_exec91 (m_opJump hE h.hs h.hp h.hq h.hpc (by decide) htk hgo) (fun v w' hv => by obtain ⟨_, cs1, hX⟩ := hv; exact hX.any)).mono fun v w' hv => ⟨hv.1, ?_⟩
  obtain ⟨v0, _, cs1, hX⟩ := hv.2
  rw [pls_j s f 91 (by decide), plf_j s f 91 (by decide)]
  exact XO.of (hX.slack (by have := h.pay; omega)) (ms_top (jmp_mem f 91))
end
end Go.Proofs.YgvaawGreat
