import Derived.Test.YgvaawGreatW8
set_option maxRecDepth 100000
set_option linter.unusedSimpArgs false
set_option linter.unusedVariables false
namespace Go.Proofs.YgvaawGreat
open Go
theorem row_push {q : Nat} (h : 95 ≤ q ∧ q ≤ 127) : tkN q = 0 ∧ gvN q = 1 := by
  have : ∀ x : Fin 256, 95 ≤ x.1 → x.1 ≤ 127 → tkN x.1 = 0 ∧ gvN x.1 = 1 := by decide
  exact this ⟨q, by omega⟩ h.1 h.2
theorem row_dup {q : Nat} (h : 128 ≤ q ∧ q ≤ 143) : tkN q = q - 127 ∧ gvN q = q - 126 := by
  have : ∀ x : Fin 256, 128 ≤ x.1 → x.1 ≤ 143 → tkN x.1 = x.1 - 127 ∧ gvN x.1 = x.1 - 126 := by decide
  exact this ⟨q, by omega⟩ h.1 h.2
theorem row_swap {q : Nat} (h : 144 ≤ q ∧ q ≤ 159) : tkN q = q - 142 ∧ gvN q = q - 142 := by
  have : ∀ x : Fin 256, 144 ≤ x.1 → x.1 ≤ 159 → tkN x.1 = x.1 - 142 ∧ gvN x.1 = x.1 - 142 := by decide
  exact this ⟨q, by omega⟩ h.1 h.2
theorem imm_big {q : Nat} (h : 127 < q) : immN q = 0 := if_neg (by omega)
theorem plC_push {f : YF} {q : Nat} (h : 95 ≤ q ∧ q ≤ 127) : plC f q = 3 := by
  unfold plC
  rw [if_neg (by omega), if_neg (by omega), if_neg (by omega), if_pos (row_push h).2]
theorem plC_dup {f : YF} {q : Nat} (h : 128 ≤ q ∧ q ≤ 143) : plC f q = 1 := by
  unfold plC
  rw [if_neg (by omega), if_pos h]
theorem plC_swap {f : YF} {q : Nat} (h : 144 ≤ q ∧ q ≤ 159) : plC f q = 2 := by
  unfold plC
  rw [if_neg (by omega), if_neg (by omega), if_pos h]
theorem argN_get {l : List Nat} {i : Nat} (h : i < l.length) : l[l.length - 1 - i]? = some (argN l i) := by
  unfold argN
  have hlt : l.length - 1 - i < l.length := by omega
  rw [List.getElem?_eq_getElem hlt]
  first
    | rw [if_pos h, List.getElem?_eq_getElem hlt]; rfl
    | (simp [h, hlt]; done)
    | (simp [h]; done)
section
variable {s : YSt} {f : YF} {low : List YF} {c c' bc q : Nat} {sn : List Nat} {sv : List AW}
theorem plf_push (hq : 95 ≤ q ∧ q ≤ 127) : plF s f q = setF f 0 true (ofBE (cutN f.code (f.pc + 1) (immN q))) (1 + immN q) ∧ plS s f q = s := by
  have e : valN s f q (argL f q) = ofBE (cutN f.code (f.pc + 1) (immN q)) := by
    unfold valN
    rw [if_neg (by omega), if_neg (fun h => by have := fam_arith.1 h; omega), if_pos hq]
  constructor
  · rw [plf3 s f q (plC_push hq), e]
    unfold setF plK
    rw [(row_push hq).1]
    rfl
  · unfold plS
    rw [plC_push hq]
    show valS s f q (argL f q) = s
    unfold valS
    rw [if_neg (by omega), if_neg (by omega)]
theorem plf_dup (hq : 128 ≤ q ∧ q ≤ 143) : plF s f q = ansN f 0 (argN f.stack (q - 128)) ∧ plS s f q = s := by
  constructor
  · unfold plF plStk plPC plM
    rw [plC_dup hq]
    show { f with stack := f.stack ++ [argN f.stack (tkN q - 1)], pc := f.pc + (1 + immN q), mem := f.mem } = _
    rw [(row_dup hq).1, imm_big (by omega), show q - 127 - 1 = q - 128 by omega]
    unfold ansN
    rw [Nat.sub_zero, List.take_length]
  · unfold plS
    rw [plC_dup hq]
    rfl
theorem swp_list {l : List Nat} {n : Nat} (hn : 0 < n) (hl : n + 1 ≤ l.length) : l.take (l.length - (n + 1)) ++ [argN l 0] ++ swpL (argN l) (n + 1) 0 ++ [argN l n] = (l.set (l.length - 1) (argN l n)).set (l.length - 1 - n) (argN l 0) := by
  have h1 : (l.take (l.length - (n + 1))).length = l.length - (n + 1) := by rw [List.length_take]; omega
  have h2 : (swpL (argN l) (n + 1) 0).length = n - 1 := by rw [swp_len]; omega
  apply List.ext_getElem?
  intro i
  rw [List.getElem?_set, List.getElem?_set, List.length_set]
  by_cases ha : i < l.length - (n + 1)
  · rw [if_neg (by omega), if_neg (by omega), List.append_assoc, List.append_assoc, List.getElem?_append_left (by omega), List.getElem?_take, if_pos ha]
  · by_cases hb : i = l.length - (n + 1)
    · rw [if_pos (by omega), if_pos (by omega), List.append_assoc, List.append_assoc, List.getElem?_append_right (by omega), h1, hb, Nat.sub_self]
      rfl
    · rw [if_neg (by omega)]
      by_cases hc : i < l.length - 1
      · rw [if_neg (by omega), List.getElem?_append_left (by simp only [List.length_append, List.length_cons, List.length_nil, h1, h2]; omega), List.getElem?_append_right (by simp only [List.length_append, List.length_cons, List.length_nil, h1]; omega)]
        simp only [List.length_append, List.length_cons, List.length_nil, h1]
        unfold swpL
        rw [List.getElem?_map, List.getElem?_range (by omega)]
        show some (argN l (n + 1 - 2 - (i - (l.length - (n + 1) + (0 + 1))))) = l[i]?
        rw [← argN_get (by omega)]
        congr 1
        omega
      · by_cases hd : i = l.length - 1
        · rw [if_pos hd.symm, if_pos (by omega), List.getElem?_append_right (by simp only [List.length_append, List.length_cons, List.length_nil, h1, h2]; omega)]
          simp only [List.length_append, List.length_cons, List.length_nil, h1, h2]
          rw [show i - (l.length - (n + 1) + (0 + 1) + (n - 1)) = 0 by omega]
          rfl
        · rw [if_neg (by omega), List.getElem?_eq_none (by simp only [List.length_append, List.length_cons, List.length_nil, h1, h2]; omega), List.getElem?_eq_none (by omega)]
theorem plf_swap (hq : 144 ≤ q ∧ q ≤ 159) (hl : tkN q ≤ f.stack.length) : plF s f q = swpF f (q - 143) ∧ plS s f q = s := by
  rw [(row_swap hq).1] at hl
  constructor
  · unfold plF plStk plPC plM swpF
    rw [plC_swap hq]
    show { f with stack := plK f q ++ [argN f.stack 0] ++ swpL (argN f.stack) (tkN q) 0 ++ [argN f.stack (tkN q - 1)], pc := f.pc + (1 + immN q), mem := f.mem } = _
    unfold plK
    rw [(row_swap hq).1, imm_big (by omega)]
    have h := swp_list (l := f.stack) (n := q - 143) (by omega) (by omega)
    rw [show q - 143 + 1 = q - 142 by omega] at h
    rw [show q - 142 - 1 = q - 143 by omega, h]
  · unfold plS
    rw [plC_swap hq]
    rfl
theorem ox_push (hqq : 95 ≤ q ∧ q ≤ 127) (h : OxH s f low q c c') : OxS bc q s f low sn sv c c' := by
  intro w H col cs V hE
  have hov := h.ov
  rw [(row_push hqq).1, (row_push hqq).2] at hov
  refine (x_execR (by omega) (x_rowsPush (m_opPush hE h.hs h.hp h.hq hqq h.hpc (by omega)) (fun v w' hv => by obtain ⟨_, cs1, hX⟩ := hv; exact hX.any) hqq) (fun v w' hv => by obtain ⟨_, _, _, cs1, hX⟩ := hv; exact hX.any)).mono fun v w' hv => ⟨hv.1, ?_⟩
  obtain ⟨_, _, v0, _, cs1, hX⟩ := hv.2
  rw [(plf_push hqq).1, (plf_push hqq).2]
  rw [h.hq] at hX
  exact XO.of (hX.slack (by have := h.pay; omega)) (ms_top rfl)
theorem ox_dup (hqq : 128 ≤ q ∧ q ≤ 143) (h : OxH s f low q c c') : OxS bc q s f low sn sv c c' := by
  intro w H col cs V hE
  have hov := h.ov
  have htk := h.tk
  rw [(row_dup hqq).1] at htk
  rw [(row_dup hqq).1, (row_dup hqq).2] at hov
  refine (x_execR (by omega) (x_rowsDup (m_opDup hE h.hs h.hp h.hq h.hpc hqq (by omega)) (fun v w' hv => by obtain ⟨_, cs1, hX⟩ := hv; exact hX.any) hqq) (fun v w' hv => by obtain ⟨_, _, _, cs1, hX⟩ := hv; exact hX.any)).mono fun v w' hv => ⟨hv.1, ?_⟩
  obtain ⟨_, _, v0, _, cs1, hX⟩ := hv.2
  rw [(plf_dup hqq).1, (plf_dup hqq).2]
  exact XO.of (hX.slack (by have := h.pay; omega)) (ms_top rfl)
theorem ox_swap (hqq : 144 ≤ q ∧ q ≤ 159) (h : OxH s f low q c c') : OxS bc q s f low sn sv c c' := by
  intro w H col cs V hE
  have htk := h.tk
  have htk2 := h.tk
  rw [(row_swap hqq).1] at htk
  refine (x_execR (by omega) (x_rowsSwap (m_opSwap hE h.hs h.hp h.hq h.hpc hqq htk) (fun v w' hv => by obtain ⟨_, cs1, hX⟩ := hv; exact hX.any) hqq) (fun v w' hv => by obtain ⟨_, _, _, cs1, hX⟩ := hv; exact hX.any)).mono fun v w' hv => ⟨hv.1, ?_⟩
  obtain ⟨_, _, v0, _, cs1, hX⟩ := hv.2
  rw [(plf_swap hqq htk2).1, (plf_swap hqq htk2).2]
  exact XO.of (hX.slack (by have := h.pay; omega)) (ms_top rfl)
end
end Go.Proofs.YgvaawGreat
