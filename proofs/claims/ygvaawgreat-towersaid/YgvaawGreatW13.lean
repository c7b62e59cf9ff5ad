import Derived.Test.YgvaawGreatZ49
set_option maxRecDepth 100000
set_option linter.unusedSimpArgs false
set_option linter.unusedVariables false
namespace Go.Proofs.YgvaawGreat
open Go
/-! LOG, and the step without a premise on it. -/
section
variable {s : YSt} {f : YF} {low : List YF} {c c' bc : Nat} {sn : List Nat} {sv : List AW}
theorem plf_160 (s : YSt) (f : YF) : plF s f 160 = { f with stack := f.stack.take (f.stack.length - (2 + (160 - 160))), pc := f.pc + 1 } := by
  unfold plF plStk plPC plM
  rfl
theorem pls_160 (s : YSt) (f : YF) : plS s f 160 = { s with now := { s.now with logs := s.now.logs ++ [⟨f.self, (List.range (160 - 160)).map (fun i => argN f.stack (2 + i)), rdN f.mem (argN f.stack 0) (argN f.stack 1)⟩] } } := by
  unfold plS
  rfl
theorem ox_160 (h : OxH s f low 160 c c') : OxS bc 160 s f low sn sv c c' := by
  intro w H col cs V hE
  have htk : 2 + (160 - 160) ≤ f.stack.length := h.tk
  have hrch : (endN (argN f.stack 0) (argN f.stack 1)) ≤ f.mem.length := h.mr
  have hpay : c' + (375 + 375 * (160 - 160) + 8 * argN f.stack 1) ≤ c := h.pay
  refine (x_execR (by omega) (x_rowsLog (m_opLog hE h.hs h.hp rfl h.hq (by omega) h.hpc htk (end_in hrch) (c' := c') h.hap (by omega)) (fun v w' hv => by obtain ⟨_, H1, col1, cs1, V1, hX⟩ := hv; exact hX.any) (by omega)) (fun v w' hv => by obtain ⟨_, _, _, H1, col1, cs1, V1, hX⟩ := hv; exact hX.any)).mono fun v w' hv => ⟨hv.1, ?_⟩
  obtain ⟨_, _, v0, _, H1, col1, cs1, V1, hX⟩ := hv.2
  rw [pls_160, plf_160, ← set0]
  exact XO.of hX (ms_top rfl)
theorem plf_161 (s : YSt) (f : YF) : plF s f 161 = { f with stack := f.stack.take (f.stack.length - (2 + (161 - 160))), pc := f.pc + 1 } := by
  unfold plF plStk plPC plM
  rfl
theorem pls_161 (s : YSt) (f : YF) : plS s f 161 = { s with now := { s.now with logs := s.now.logs ++ [⟨f.self, (List.range (161 - 160)).map (fun i => argN f.stack (2 + i)), rdN f.mem (argN f.stack 0) (argN f.stack 1)⟩] } } := by
  unfold plS
  rfl
theorem ox_161 (h : OxH s f low 161 c c') : OxS bc 161 s f low sn sv c c' := by
  intro w H col cs V hE
  have htk : 2 + (161 - 160) ≤ f.stack.length := h.tk
  have hrch : (endN (argN f.stack 0) (argN f.stack 1)) ≤ f.mem.length := h.mr
  have hpay : c' + (375 + 375 * (161 - 160) + 8 * argN f.stack 1) ≤ c := h.pay
  refine (x_execR (by omega) (x_rowsLog (m_opLog hE h.hs h.hp rfl h.hq (by omega) h.hpc htk (end_in hrch) (c' := c') h.hap (by omega)) (fun v w' hv => by obtain ⟨_, H1, col1, cs1, V1, hX⟩ := hv; exact hX.any) (by omega)) (fun v w' hv => by obtain ⟨_, _, _, H1, col1, cs1, V1, hX⟩ := hv; exact hX.any)).mono fun v w' hv => ⟨hv.1, ?_⟩
  obtain ⟨_, _, v0, _, H1, col1, cs1, V1, hX⟩ := hv.2
  rw [pls_161, plf_161, ← set0]
  exact XO.of hX (ms_top rfl)
theorem plf_162 (s : YSt) (f : YF) : plF s f 162 = { f with stack := f.stack.take (f.stack.length - (2 + (162 - 160))), pc := f.pc + 1 } := by
  unfold plF plStk plPC plM
  rfl
theorem pls_162 (s : YSt) (f : YF) : plS s f 162 = { s with now := { s.now with logs := s.now.logs ++ [⟨f.self, (List.range (162 - 160)).map (fun i => argN f.stack (2 + i)), rdN f.mem (argN f.stack 0) (argN f.stack 1)⟩] } } := by
  unfold plS
  rfl
theorem ox_162 (h : OxH s f low 162 c c') : OxS bc 162 s f low sn sv c c' := by
  intro w H col cs V hE
  have htk : 2 + (162 - 160) ≤ f.stack.length := h.tk
  have hrch : (endN (argN f.stack 0) (argN f.stack 1)) ≤ f.mem.length := h.mr
  have hpay : c' + (375 + 375 * (162 - 160) + 8 * argN f.stack 1) ≤ c := h.pay
  refine (x_execR (by omega) (x_rowsLog (m_opLog hE h.hs h.hp rfl h.hq (by omega) h.hpc htk (end_in hrch) (c' := c') h.hap (by omega)) (fun v w' hv => by obtain ⟨_, H1, col1, cs1, V1, hX⟩ := hv; exact hX.any) (by omega)) (fun v w' hv => by obtain ⟨_, _, _, H1, col1, cs1, V1, hX⟩ := hv; exact hX.any)).mono fun v w' hv => ⟨hv.1, ?_⟩
  obtain ⟨_, _, v0, _, H1, col1, cs1, V1, hX⟩ := hv.2
  rw [pls_162, plf_162, ← set0]
  exact XO.of hX (ms_top rfl)
theorem plf_163 (s : YSt) (f : YF) : plF s f 163 = { f with stack := f.stack.take (f.stack.length - (2 + (163 - 160))), pc := f.pc + 1 } := by
  unfold plF plStk plPC plM
  rfl
theorem pls_163 (s : YSt) (f : YF) : plS s f 163 = { s with now := { s.now with logs := s.now.logs ++ [⟨f.self, (List.range (163 - 160)).map (fun i => argN f.stack (2 + i)), rdN f.mem (argN f.stack 0) (argN f.stack 1)⟩] } } := by
  unfold plS
  rfl
theorem ox_163 (h : OxH s f low 163 c c') : OxS bc 163 s f low sn sv c c' := by
  intro w H col cs V hE
  have htk : 2 + (163 - 160) ≤ f.stack.length := h.tk
  have hrch : (endN (argN f.stack 0) (argN f.stack 1)) ≤ f.mem.length := h.mr
  have hpay : c' + (375 + 375 * (163 - 160) + 8 * argN f.stack 1) ≤ c := h.pay
  refine (x_execR (by omega) (x_rowsLog (m_opLog hE h.hs h.hp rfl h.hq (by omega) h.hpc htk (end_in hrch) (c' := c') h.hap (by omega)) (fun v w' hv => by obtain ⟨_, H1, col1, cs1, V1, hX⟩ := hv; exact hX.any) (by omega)) (fun v w' hv => by obtain ⟨_, _, _, H1, col1, cs1, V1, hX⟩ := hv; exact hX.any)).mono fun v w' hv => ⟨hv.1, ?_⟩
  obtain ⟨_, _, v0, _, H1, col1, cs1, V1, hX⟩ := hv.2
  rw [pls_163, plf_163, ← set0]
  exact XO.of hX (ms_top rfl)
theorem plf_164 (s : YSt) (f : YF) : plF s f 164 = { f with stack := f.stack.take (f.stack.length - (2 + (164 - 160))), pc := f.pc + 1 } := by
  unfold plF plStk plPC plM
  rfl
theorem pls_164 (s : YSt) (f : YF) : plS s f 164 = { s with now := { s.now with logs := s.now.logs ++ [⟨f.self, (List.range (164 - 160)).map (fun i => argN f.stack (2 + i)), rdN f.mem (argN f.stack 0) (argN f.stack 1)⟩] } } := by
  unfold plS
  rfl
theorem ox_164 (h : OxH s f low 164 c c') : OxS bc 164 s f low sn sv c c' := by
  intro w H col cs V hE
  have htk : 2 + (164 - 160) ≤ f.stack.length := h.tk
  have hrch : (endN (argN f.stack 0) (argN f.stack 1)) ≤ f.mem.length := h.mr
  have hpay : c' + (375 + 375 * (164 - 160) + 8 * argN f.stack 1) ≤ c := h.pay
  refine (x_execR (by omega) (x_rowsLog (m_opLog hE h.hs h.hp rfl h.hq (by omega) h.hpc htk (end_in hrch) (c' := c') h.hap (by omega)) (fun v w' hv => by obtain ⟨_, H1, col1, cs1, V1, hX⟩ := hv; exact hX.any) (by omega)) (fun v w' hv => by obtain ⟨_, _, _, H1, col1, cs1, V1, hX⟩ := hv; exact hX.any)).mono fun v w' hv => ⟨hv.1, ?_⟩
  obtain ⟨_, _, v0, _, H1, col1, cs1, V1, hX⟩ := hv.2
  rw [pls_164, plf_164, ← set0]
  exact XO.of hX (ms_top rfl)
theorem ox_log {q : Nat} (hqq : 160 ≤ q ∧ q ≤ 164) (h : OxH s f low q c c') : OxS bc q s f low sn sv c c' := by
  rcases (show q = 160 ∨ q = 161 ∨ q = 162 ∨ q = 163 ∨ q = 164 by omega) with rfl | rfl | rfl | rfl | rfl
  · exact ox_160 h
  · exact ox_161 h
  · exact ox_162 h
  · exact ox_163 h
  · exact ox_164 h
theorem ex_full (h : StepE s f low) (hc : c' ≤ c) (hn : f.ntv = 0) (hr : (refN s f (opcN f)).1 = 0) : ExS bc s f low sn sv (c + (refN s f (opcN f)).2) c' := ex_all h hc hn hr (fun hq ho => ox_log hq ho)
end
end Go.Proofs.YgvaawGreat
