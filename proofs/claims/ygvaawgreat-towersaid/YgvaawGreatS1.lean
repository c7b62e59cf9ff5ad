import Derived.Test.YgvaawGreatX9
import Derived.Test.YgvaawGreatEV
set_option maxRecDepth 100000
set_option maxHeartbeats 4000000
set_option linter.unusedSimpArgs false
set_option linter.unusedVariables false
namespace Go.Proofs.YgvaawGreat
open Go
structure SK where
  rank : Nat
  word : Nat
  pl : Nat
def bfK (k l : SK) : Bool := decide (k.rank < l.rank) || (decide (k.rank = l.rank) && decide (k.word < l.word))
def leK (k l : SK) : Bool := !bfK l k
theorem leK_iff (k l : SK) : leK k l = true ↔ k.rank < l.rank ∨ (k.rank = l.rank ∧ k.word ≤ l.word) := by
  unfold leK bfK
  simp only [Bool.not_eq_true', Bool.or_eq_false_iff, Bool.and_eq_false_iff, decide_eq_false_iff_not]
  omega
theorem leK_tr (a b c : SK) : leK a b = true → leK b c = true → leK a c = true := by
  rw [leK_iff, leK_iff, leK_iff]
  omega
theorem leK_tot (a b : SK) : (leK a b || leK b a) = true := by
  rw [Bool.or_eq_true, leK_iff, leK_iff]
  omega
abbrev SrtK (l : List SK) : Prop := l.Pairwise (fun a b => leK a b = true)
def chk (w : Nat) (L : List SK) (m : Nat) : List SK := List.merge ((L.drop (m * (2 * w))).take w) ((L.drop (m * (2 * w) + w)).take w) leK
def passM (w : Nat) (L : List SK) : Nat → List SK
  | 0 => []
  | m + 1 => passM w L m ++ chk w L m
def RunS (w : Nat) (L : List SK) : Prop := ∀ i, SrtK ((L.drop (i * w)).take w)
theorem chk_perm (w : Nat) (L : List SK) (m : Nat) : (chk w L m).Perm ((L.drop (m * (2 * w))).take (2 * w)) := by
  unfold chk
  refine (List.merge_perm_append leK).trans ?_
  have e : (L.drop (m * (2 * w))).take (2 * w) = (L.drop (m * (2 * w))).take w ++ ((L.drop (m * (2 * w))).drop w).take w := by
    rw [show 2 * w = w + w by omega, List.take_add]
  rw [e, List.drop_drop]
theorem chk_len (w : Nat) (L : List SK) (m : Nat) : (chk w L m).length = min (2 * w) (L.length - m * (2 * w)) := by
  rw [(chk_perm w L m).length_eq, List.length_take, List.length_drop]
theorem chk_srt {w : Nat} {L : List SK} (h : RunS w L) (m : Nat) : SrtK (chk w L m) := by
  unfold chk
  refine List.pairwise_merge leK_tr leK_tot _ _ ?_ ?_
  · have := h (2 * m)
    rwa [show 2 * m * w = m * (2 * w) by rw [Nat.mul_comm 2 m, Nat.mul_assoc]] at this
  · have := h (2 * m + 1)
    rwa [show (2 * m + 1) * w = m * (2 * w) + w by rw [Nat.add_mul, Nat.one_mul, Nat.mul_comm 2 m, Nat.mul_assoc]] at this
theorem pass_perm (w : Nat) (L : List SK) : ∀ m, (passM w L m).Perm (L.take (m * (2 * w)))
  | 0 => by simp [passM]
  | m + 1 => by
    rw [passM, show (m + 1) * (2 * w) = m * (2 * w) + 2 * w by rw [Nat.add_mul, Nat.one_mul], List.take_add]
    exact (pass_perm w L m).append (chk_perm w L m)
theorem pass_len (w : Nat) (L : List SK) (m : Nat) : (passM w L m).length = min (m * (2 * w)) L.length := by
  rw [(pass_perm w L m).length_eq, List.length_take]
theorem srt_nil {l : List SK} (h : l.length = 0) : SrtK l := by
  rw [List.length_eq_zero_iff.1 h]
  exact .nil
theorem pass_run {w : Nat} {L : List SK} (h : RunS w L) (hw : 0 < w) : ∀ m, (m = 0 ∨ (m - 1) * (2 * w) ≤ L.length) → RunS (2 * w) (passM w L m)
  | 0, _ => fun i => srt_nil (by simp [passM])
  | m + 1, hm => fun i => by
    have hm : m * (2 * w) ≤ L.length := by
      rcases hm with h9 | h9
      · omega
      · exact h9
    have hl : (passM w L m).length = m * (2 * w) := by rw [pass_len]; omega
    have ih := pass_run h hw m (by
      rcases Nat.eq_zero_or_pos m with h9 | h9
      · exact .inl h9
      · right
        have : (m - 1) * (2 * w) ≤ m * (2 * w) := Nat.mul_le_mul_right _ (by omega)
        omega)
    rw [passM, List.drop_append, hl]
    by_cases e : i < m
    · have h1 : (i + 1) * (2 * w) ≤ m * (2 * w) := Nat.mul_le_mul_right _ (by omega)
      rw [Nat.add_mul, Nat.one_mul] at h1
      rw [show i * (2 * w) - m * (2 * w) = 0 by omega, List.drop_zero, List.take_append_of_le_length (by rw [List.length_drop, hl]; omega)]
      exact ih i
    · have h1 : m * (2 * w) ≤ i * (2 * w) := Nat.mul_le_mul_right _ (by omega)
      rw [List.drop_eq_nil_of_le (by rw [hl]; exact h1), List.nil_append]
      by_cases e2 : i = m
      · rw [e2, Nat.sub_self, List.drop_zero, List.take_of_length_le (by rw [chk_len]; omega)]
        exact chk_srt h m
      · refine srt_nil ?_
        have h2 : (m + 1) * (2 * w) ≤ i * (2 * w) := Nat.mul_le_mul_right _ (by omega)
        rw [Nat.add_mul, Nat.one_mul] at h2
        rw [List.length_take, List.length_drop, chk_len]
        omega
theorem run_one (L : List SK) : RunS 1 L := fun i => by
  have hl : ((L.drop (i * 1)).take 1).length ≤ 1 := by rw [List.length_take]; omega
  revert hl
  generalize (L.drop (i * 1)).take 1 = l
  intro hl
  match l with
  | [] => exact .nil
  | [x] => exact List.pairwise_singleton _ _
  | x :: y :: t => simp at hl
theorem run_all {w : Nat} {L : List SK} (h : RunS w L) (hw : L.length ≤ w) : SrtK L := by
  have := h 0
  rwa [Nat.zero_mul, List.drop_zero, List.take_of_length_le hw] at this
/-- what one step of a merge lays -/
theorem mrg_a {a b : List SK} (ha : a ≠ []) (h : b = [] ∨ ∃ x y t u, a = x :: t ∧ b = y :: u ∧ bfK y x = false) : ∃ x t, a = x :: t ∧ List.merge a b leK = x :: List.merge t b leK := by
  cases a with
  | nil => exact absurd rfl ha
  | cons x t =>
    refine ⟨x, t, rfl, ?_⟩
    rcases h with h | ⟨x', y, t', u, h1, h2, h3⟩
    · rw [h, List.merge_right, List.merge_right]
    · cases h1
      rw [h2, List.cons_merge_cons, if_pos (by unfold leK; rw [h3]; rfl)]
theorem mrg_b {a b : List SK} (hb : b ≠ []) (h : a = [] ∨ ∃ x y t u, a = x :: t ∧ b = y :: u ∧ bfK y x = true) : ∃ y u, b = y :: u ∧ List.merge a b leK = y :: List.merge a u leK := by
  cases b with
  | nil => exact absurd rfl hb
  | cons y u =>
    refine ⟨y, u, rfl, ?_⟩
    rcases h with h | ⟨x, y', t, u', h1, h2, h3⟩
    · rw [h, List.nil_merge, List.nil_merge]
    · cases h2
      rw [h1, List.cons_merge_cons, if_neg (by unfold leK; rw [h3]; decide)]
def skC (k : SK) : List Value := .int .i32 (k.rank : Nat) :: (wL k.word ++ [.int .i32 (k.pl : Nat)])
def kcs (l : List SK) : List Value := (l.map skC).flatten
structure SKOk (k : SK) : Prop where
  rank : k.rank < 4096
  word : k.word < W256
  pl : k.pl < 4096
theorem skC_len (k : SK) : (skC k).length = 6 := rfl
theorem skC_one (k : SK) : ∀ v ∈ skC k, v.one1 = true := by
  intro v hv
  rcases List.mem_cons.1 hv with h | h
  · rw [h]; rfl
  · rcases List.mem_append.1 h with h | h
    · exact one_uL _ v h
    · rw [List.mem_singleton.1 h]; rfl
theorem kcs_len (l : List SK) : (kcs l).length = 6 * l.length := by
  unfold kcs
  induction l with
  | nil => rfl
  | cons x l ih => rw [List.map_cons, List.flatten_cons, List.length_append, ih, skC_len, List.length_cons]; omega
theorem kcs_app (a b : List SK) : kcs (a ++ b) = kcs a ++ kcs b := by unfold kcs; rw [List.map_append, List.flatten_append]
theorem kcs_one (a : SK) : kcs [a] = skC a := by unfold kcs; simp
theorem kcs_at {l : List SK} {i : Nat} (h : i < l.length) (j : Nat) (hj : j < 6) : (kcs l)[6 * i + j]? = (skC l[i])[j]? := by
  have e : l = l.take i ++ ([l[i]] ++ l.drop (i + 1)) := by
    rw [← List.append_assoc, List.take_append_getElem, List.take_append_drop]
  have h1 : kcs l = kcs (l.take i) ++ (skC l[i] ++ kcs (l.drop (i + 1))) := by
    conv => lhs; rw [e]
    rw [kcs_app, kcs_app, kcs_one]
  have hl : (kcs (l.take i)).length = 6 * i := by rw [kcs_len, List.length_take]; omega
  rw [h1, List.getElem?_append_right (by omega), hl, show 6 * i + j - 6 * i = j by omega, List.getElem?_append_left (by rw [skC_len]; exact hj)]
/-- a record of a row of keys -/
theorem kcs_row {cs : Array Value} {o i : Nat} {l : List SK} (h : RowIn cs o (kcs l)) (hi : i < l.length) : RowIn cs (o + i * 6) (skC l[i]) := fun j v hv => by
  have hj : j < 6 := by have := (List.getElem?_eq_some_iff.1 hv).1; rw [skC_len] at this; exact this
  have := h (6 * i + j) v (by rw [kcs_at hi j hj]; exact hv)
  rw [show o + i * 6 + j = o + (6 * i + j) by omega]
  exact this
theorem spl_snoc {co : Array Value} {o k : Nat} {D : List SK} {x : SK} (hk : D.length = k) (hz : o + 6 * (k + 1) ≤ co.size) : spl (spl co o (kcs D)) (o + k * 6) (skC x) = spl co o (kcs (D ++ [x])) := by
  have hl : (kcs D).length = 6 * k := by rw [kcs_len, hk]
  have hl2 : (kcs (D ++ [x])).length = 6 * k + 6 := by rw [kcs_app, kcs_one, List.length_append, hl, skC_len]
  apply Array.ext_getElem?
  intro i
  by_cases h1 : i < o
  · rw [get_spl_out (by rw [size_spl, skC_len]; omega) (by omega), get_spl_out (by omega) (by omega), get_spl_out (by omega) (by omega)]
  · by_cases h2 : i < o + k * 6
    · rw [get_spl_out (by rw [size_spl, skC_len]; omega) (by omega)]
      have e1 : (kcs D)[i - o]? = some ((kcs D)[i - o]'(by omega)) := List.getElem?_eq_getElem _
      have e2 : (kcs (D ++ [x]))[i - o]? = some ((kcs D)[i - o]'(by omega)) := by rw [kcs_app, List.getElem?_append_left (by omega)]; exact e1
      have g1 := get_spl_in (cs := co) (o := o) (by omega) e1
      have g2 := get_spl_in (cs := co) (o := o) (by omega) e2
      rw [show o + (i - o) = i by omega] at g1 g2
      rw [g1, g2]
    · by_cases h3 : i < o + k * 6 + 6
      · have e1 : (skC x)[i - (o + k * 6)]? = some ((skC x)[i - (o + k * 6)]'(by rw [skC_len]; omega)) := List.getElem?_eq_getElem _
        have e2 : (kcs (D ++ [x]))[i - o]? = some ((skC x)[i - (o + k * 6)]'(by rw [skC_len]; omega)) := by rw [kcs_app, kcs_one, List.getElem?_append_right (by omega), hl, show i - o - 6 * k = i - (o + k * 6) by omega]; exact e1
        have g1 := get_spl_in (cs := spl co o (kcs D)) (o := o + k * 6) (by rw [size_spl, skC_len]; omega) e1
        have g2 := get_spl_in (cs := co) (o := o) (by omega) e2
        rw [show o + k * 6 + (i - (o + k * 6)) = i by omega] at g1
        rw [show o + (i - o) = i by omega] at g2
        rw [g1, g2]
      · rw [get_spl_out (by rw [size_spl, skC_len]; omega) (by rw [skC_len]; omega), get_spl_out (by omega) (by omega), get_spl_out (by omega) (by omega)]
theorem Row.sub1 {w : World} {b o : Nat} {x : Value} {l m : List Value} (h : Row w b o (x :: (l ++ m))) : Row w b (o + 1) l := fun i v hv => by
  have hi := (List.getElem?_eq_some_iff.1 hv).1
  have := h (i + 1) v (by rw [List.getElem?_cons_succ, List.getElem?_append_left hi]; exact hv)
  rw [show o + (i + 1) = o + 1 + i by omega] at this
  exact this
theorem v_before {w : World} {bk ok bl ol : Nat} {k l : SK} (hk : Row w bk ok (skC k)) (hl : Row w bl ol (skC l)) (hko : SKOk k) (hlo : SKOk l) :
    Ret 238 [.pointer (some ⟨bk, ok, none⟩), .pointer (some ⟨bl, ol, none⟩)] w (fun v w' => v = .bool (bfK k l) ∧ Up w w') := by
  refine enter (n := 36) Hvaa.func238 rfl rfl (Nat.le_of_ble_eq_true rfl) ?_
  have U := Up.refl w
  refine c_seq (fun K1 hK1 => ?_)
  exact (by
    refine c_region ?_
    refine l_step y_assignC ?_
    refine l_nil ?_
    refine hK1 _ _ ?_
    refine fg2 1 0 (gS rfl (gS rfl g0)) (gS rfl g0) (fun g => ?_)
    refine c_seq (fun K2 hK2 => ?_)
    exact (by
      refine c_draw Up 32 [(0, true), (1, true), (2, true), (3, true), (4, true), (5, true), (6, true), (7, true), (8, true), (9, true), (10, true), (11, true), (12, true), (13, true), (14, true), (15, true), (16, true), (17, true), (18, true), (19, true), (20, true), (21, true), (22, true), (23, true), (24, true), (25, true), (26, true), (27, true), (28, false), (29, true), (30, true), (31, true)] (by kernel_rfl) (fun w3 hu => ⟨Up.refl _, ?_⟩)
      replace hk := hk.up hu
      replace hl := hl.up hu
      replace U := U.tr hu
      have SU := Up.refl w3
      refine p_step (by exact rfl) (y_moveV (et g0 rfl)) ?_
      refine p_step (by exact rfl) (y_nil (et g0 rfl)) ?_
      refine p_step (by exact rfl) (y_fld fld_170_0 (et g0 rfl)) ?_
      refine p_step (by exact rfl) (y_load1 one_21 (et g0 rfl) (atS (hk 0 _ rfl))) ?_
      refine p_step (by exact rfl) (y_moveV (et (gS rfl (gS rfl (gS rfl (gS rfl (gS rfl g0))))) rfl)) ?_
      refine p_step (by exact rfl) (y_nil (et g0 rfl)) ?_
      refine p_step (by exact rfl) (y_fld fld_170_0 (et g0 rfl)) ?_
      refine p_step (by exact rfl) (y_load1 one_21 (et g0 rfl) (atS (hl 0 _ rfl))) ?_
      refine p_step (by exact rfl) (y_lss (et (gS rfl (gS rfl (gS rfl (gS rfl g0)))) rfl) (et g0 rfl)) ?_
      refine p_step (by exact rfl) (y_moveV (et g0 rfl)) ?_
      refine gsplitP (i := 14) g0 (fun q4 => ?_) (fun q4 => ?_)
      · skip
        have g1 : k.rank < l.rank := by have := of_decide_eq_true q4; omega
        refine p_gskip (j := 9) (t := 14) (by exact rfl) (by exact rfl) (by exact rfl) (et g0 rfl) rfl rfl ?_
        refine p_gskip (j := 9) (t := 14) (by exact rfl) (by exact rfl) (by exact rfl) (et (gS rfl g0) rfl) rfl rfl ?_
        refine p_gskip (j := 9) (t := 14) (by exact rfl) (by exact rfl) (by exact rfl) (et (gS rfl (gS rfl g0)) rfl) rfl rfl ?_
        refine p_gskip (j := 9) (t := 14) (by exact rfl) (by exact rfl) (by exact rfl) (et (gS rfl (gS rfl (gS rfl g0))) rfl) rfl rfl ?_
        refine p_gskip (j := 9) (t := 14) (by exact rfl) (by exact rfl) (by exact rfl) (et (gS rfl (gS rfl (gS rfl (gS rfl g0)))) rfl) rfl rfl ?_
        refine p_gskip (j := 9) (t := 14) (by exact rfl) (by exact rfl) (by exact rfl) (et (gS rfl (gS rfl (gS rfl (gS rfl (gS rfl g0))))) rfl) rfl rfl ?_
        refine p_gskip (j := 9) (t := 14) (by exact rfl) (by exact rfl) (by exact rfl) (et (gS rfl (gS rfl (gS rfl (gS rfl (gS rfl (gS rfl g0)))))) rfl) rfl rfl ?_
        refine p_gskip (j := 9) (t := 14) (by exact rfl) (by exact rfl) (by exact rfl) (et (gS rfl (gS rfl (gS rfl (gS rfl (gS rfl (gS rfl (gS rfl g0))))))) rfl) rfl rfl ?_
        refine p_gskip (j := 9) (t := 14) (by exact rfl) (by exact rfl) (by exact rfl) (et (gS rfl (gS rfl (gS rfl (gS rfl (gS rfl (gS rfl (gS rfl (gS rfl g0)))))))) rfl) rfl rfl ?_
        refine p_gskip (j := 9) (t := 14) (by exact rfl) (by exact rfl) (by exact rfl) (et (gS rfl (gS rfl (gS rfl (gS rfl (gS rfl (gS rfl (gS rfl (gS rfl (gS rfl g0))))))))) rfl) rfl rfl ?_
        refine p_uskip (j := 19) (t := 24) (by exact rfl) (by exact rfl) (by exact rfl) (et g0 rfl) rfl ?_
        refine p_uskip (j := 19) (t := 24) (by exact rfl) (by exact rfl) (by exact rfl) (et (gS rfl g0) rfl) rfl ?_
        refine p_uskip (j := 19) (t := 24) (by exact rfl) (by exact rfl) (by exact rfl) (et (gS rfl (gS rfl g0)) rfl) rfl ?_
        refine p_uskip (j := 19) (t := 24) (by exact rfl) (by exact rfl) (by exact rfl) (et (gS rfl (gS rfl (gS rfl g0))) rfl) rfl ?_
        refine p_uskip (j := 19) (t := 24) (by exact rfl) (by exact rfl) (by exact rfl) (et (gS rfl (gS rfl (gS rfl (gS rfl g0)))) rfl) rfl ?_
        refine p_uskip (j := 19) (t := 24) (by exact rfl) (by exact rfl) (by exact rfl) (et (gS rfl (gS rfl (gS rfl (gS rfl (gS rfl g0))))) rfl) rfl ?_
        refine p_uskip (j := 19) (t := 24) (by exact rfl) (by exact rfl) (by exact rfl) (et (gS rfl (gS rfl (gS rfl (gS rfl (gS rfl (gS rfl g0)))))) rfl) rfl ?_
        refine p_uskip (j := 19) (t := 24) (by exact rfl) (by exact rfl) (by exact rfl) (et (gS rfl (gS rfl (gS rfl (gS rfl (gS rfl (gS rfl (gS rfl g0))))))) rfl) rfl ?_
        refine p_ueskip (j := 19) (t := 24) (by exact rfl) (by exact rfl) (by exact rfl) (et (gS rfl (gS rfl (gS rfl (gS rfl (gS rfl (gS rfl (gS rfl (gS rfl g0)))))))) rfl) rfl ⟨.inr SU, ?_⟩
        refine p_gskip (j := 9) (t := 14) (by exact rfl) (by exact rfl) (by exact rfl) (et (gS rfl (gS rfl (gS rfl (gS rfl (gS rfl (gS rfl (gS rfl (gS rfl (gS rfl (gS rfl (gS rfl (gS rfl (gS rfl (gS rfl (gS rfl (gS rfl (gS rfl (gS rfl (gS rfl g0))))))))))))))))))) rfl) rfl rfl ?_
        refine p_step (by exact rfl) (y_pickT (et (gS rfl (gS rfl (gS rfl (gS rfl (gS rfl (gS rfl (gS rfl (gS rfl (gS rfl (gS rfl (gS rfl (gS rfl (gS rfl (gS rfl (gS rfl (gS rfl (gS rfl (gS rfl (gS rfl (gS rfl g0)))))))))))))))))))) rfl) rfl) ?_
        refine p_step (by exact rfl) (y_assignV (et g0 rfl)) ?_
        refine p_nil ?_
        refine hK2 _ _ ?_
        refine fg1 4 g0 (fun g => ?_)
        refine c_ret ?_
        repeat with_reducible refine then_ret ?_
        refine ret1 rfl (res_tmp (et g0 rfl)) ?_
        exact ⟨by unfold bfK; rw [decide_eq_true g1]; rfl, U⟩
      · skip
        have g1 : ¬ k.rank < l.rank := by have := of_decide_eq_false q4; omega
        refine p_gstep (j := 9) (t := 14) (by exact rfl) (by exact rfl) (by exact rfl) (et g0 rfl) rfl (y_moveV (et (gS rfl (gS rfl (gS rfl (gS rfl (gS rfl (gS rfl (gS rfl (gS rfl (gS rfl (gS rfl (gS rfl g0))))))))))) rfl)) ?_
        refine p_gstep (j := 9) (t := 14) (by exact rfl) (by exact rfl) (by exact rfl) (et (gS rfl g0) rfl) rfl (y_nil (et g0 rfl)) ?_
        refine p_gstep (j := 9) (t := 14) (by exact rfl) (by exact rfl) (by exact rfl) (et (gS rfl (gS rfl g0)) rfl) rfl (y_fld fld_170_0 (et g0 rfl)) ?_
        refine p_gstep (j := 9) (t := 14) (by exact rfl) (by exact rfl) (by exact rfl) (et (gS rfl (gS rfl (gS rfl g0))) rfl) rfl (y_load1 one_21 (et g0 rfl) (atS (hk 0 _ rfl))) ?_
        refine p_gstep (j := 9) (t := 14) (by exact rfl) (by exact rfl) (by exact rfl) (et (gS rfl (gS rfl (gS rfl (gS rfl g0)))) rfl) rfl (y_moveV (et (gS rfl (gS rfl (gS rfl (gS rfl (gS rfl (gS rfl (gS rfl (gS rfl (gS rfl (gS rfl (gS rfl (gS rfl (gS rfl (gS rfl (gS rfl (gS rfl g0)))))))))))))))) rfl)) ?_
        refine p_gstep (j := 9) (t := 14) (by exact rfl) (by exact rfl) (by exact rfl) (et (gS rfl (gS rfl (gS rfl (gS rfl (gS rfl g0))))) rfl) rfl (y_nil (et g0 rfl)) ?_
        refine p_gstep (j := 9) (t := 14) (by exact rfl) (by exact rfl) (by exact rfl) (et (gS rfl (gS rfl (gS rfl (gS rfl (gS rfl (gS rfl g0)))))) rfl) rfl (y_fld fld_170_0 (et g0 rfl)) ?_
        refine p_gstep (j := 9) (t := 14) (by exact rfl) (by exact rfl) (by exact rfl) (et (gS rfl (gS rfl (gS rfl (gS rfl (gS rfl (gS rfl (gS rfl g0))))))) rfl) rfl (y_load1 one_21 (et g0 rfl) (atS (hl 0 _ rfl))) ?_
        refine p_gstep (j := 9) (t := 14) (by exact rfl) (by exact rfl) (by exact rfl) (et (gS rfl (gS rfl (gS rfl (gS rfl (gS rfl (gS rfl (gS rfl (gS rfl g0)))))))) rfl) rfl (y_eql (et (gS rfl (gS rfl (gS rfl (gS rfl g0)))) rfl) (et g0 rfl)) ?_
        refine p_gstep (j := 9) (t := 14) (by exact rfl) (by exact rfl) (by exact rfl) (et (gS rfl (gS rfl (gS rfl (gS rfl (gS rfl (gS rfl (gS rfl (gS rfl (gS rfl g0))))))))) rfl) rfl (y_moveV (et g0 rfl)) ?_
        refine gsplitP (i := 24) g0 (fun q5 => ?_) (fun q5 => ?_)
        · skip
          have g2 : k.rank = l.rank := by have := of_decide_eq_true q5; omega
          refine p_gstep (j := 19) (t := 24) (by exact rfl) (by exact rfl) (by exact rfl) (et g0 rfl) rfl (y_moveV (et (gS rfl (gS rfl (gS rfl (gS rfl (gS rfl (gS rfl (gS rfl (gS rfl (gS rfl (gS rfl (gS rfl (gS rfl (gS rfl (gS rfl (gS rfl (gS rfl (gS rfl (gS rfl (gS rfl (gS rfl (gS rfl (gS rfl g0)))))))))))))))))))))) rfl)) ?_
          refine p_gstep (j := 19) (t := 24) (by exact rfl) (by exact rfl) (by exact rfl) (et (gS rfl g0) rfl) rfl (y_nil (et g0 rfl)) ?_
          refine p_gstep (j := 19) (t := 24) (by exact rfl) (by exact rfl) (by exact rfl) (et (gS rfl (gS rfl g0)) rfl) rfl (y_fld fld_170_1 (et g0 rfl)) ?_
          refine p_gstep (j := 19) (t := 24) (by exact rfl) (by exact rfl) (by exact rfl) (et (gS rfl (gS rfl (gS rfl g0))) rfl) rfl (y_loadR agg_65 sz_65 (et g0 rfl) rfl (atSR (Row.sub1 hk))) ?_
          refine p_gstep (j := 19) (t := 24) (by exact rfl) (by exact rfl) (by exact rfl) (et (gS rfl (gS rfl (gS rfl (gS rfl g0)))) rfl) rfl (y_moveV (et (gS rfl (gS rfl (gS rfl (gS rfl (gS rfl (gS rfl (gS rfl (gS rfl (gS rfl (gS rfl (gS rfl (gS rfl (gS rfl (gS rfl (gS rfl (gS rfl (gS rfl (gS rfl (gS rfl (gS rfl (gS rfl (gS rfl (gS rfl (gS rfl (gS rfl (gS rfl (gS rfl g0))))))))))))))))))))))))))) rfl)) ?_
          refine p_gstep (j := 19) (t := 24) (by exact rfl) (by exact rfl) (by exact rfl) (et (gS rfl (gS rfl (gS rfl (gS rfl (gS rfl g0))))) rfl) rfl (y_nil (et g0 rfl)) ?_
          refine p_gstep (j := 19) (t := 24) (by exact rfl) (by exact rfl) (by exact rfl) (et (gS rfl (gS rfl (gS rfl (gS rfl (gS rfl (gS rfl g0)))))) rfl) rfl (y_fld fld_170_1 (et g0 rfl)) ?_
          refine p_gstep (j := 19) (t := 24) (by exact rfl) (by exact rfl) (by exact rfl) (et (gS rfl (gS rfl (gS rfl (gS rfl (gS rfl (gS rfl (gS rfl g0))))))) rfl) rfl (y_loadR agg_65 sz_65 (et g0 rfl) rfl (atSR (Row.sub1 hl))) ?_
          refine p_geff (j := 19) (t := 24) (by exact rfl) (by exact rfl) (by exact rfl) (et (gS rfl (gS rfl (gS rfl (gS rfl (gS rfl (gS rfl (gS rfl (gS rfl g0)))))))) rfl) rfl (e_callV cal_112 (aC (et (gS rfl (gS rfl (gS rfl (gS rfl g0)))) rfl) (aC (et g0 rfl) aN)) (lt_spec _ _ _ hko.word hlo.word)) (fun v6 w6 h6 => ?_)
          obtain ⟨rfl, u6⟩ := h6
          replace hk := hk.up u6
          replace hl := hl.up u6
          replace U := U.tr u6
          refine ⟨.inr (SU.tr u6), ?_⟩
          replace SU := SU.tr u6
          refine p_gstep (j := 9) (t := 14) (by exact rfl) (by exact rfl) (by exact rfl) (et (gS rfl (gS rfl (gS rfl (gS rfl (gS rfl (gS rfl (gS rfl (gS rfl (gS rfl (gS rfl (gS rfl (gS rfl (gS rfl (gS rfl (gS rfl (gS rfl (gS rfl (gS rfl (gS rfl (gS rfl g0)))))))))))))))))))) rfl) rfl (y_pickT (et (gS rfl (gS rfl (gS rfl (gS rfl (gS rfl (gS rfl (gS rfl (gS rfl (gS rfl g0))))))))) rfl) (et g0 rfl)) ?_
          refine p_step (by exact rfl) (y_pickF (et (gS rfl (gS rfl (gS rfl (gS rfl (gS rfl (gS rfl (gS rfl (gS rfl (gS rfl (gS rfl (gS rfl (gS rfl (gS rfl (gS rfl (gS rfl (gS rfl (gS rfl (gS rfl (gS rfl (gS rfl (gS rfl g0))))))))))))))))))))) rfl) (et g0 rfl)) ?_
          refine p_step (by exact rfl) (y_assignV (et g0 rfl)) ?_
          refine p_nil ?_
          refine hK2 _ _ ?_
          refine fg1 4 g0 (fun g => ?_)
          refine c_ret ?_
          repeat with_reducible refine then_ret ?_
          refine ret1 rfl (res_tmp (et g0 rfl)) ?_
          exact ⟨by unfold bfK; rw [decide_eq_false g1, decide_eq_true g2, Bool.false_or, Bool.true_and], U⟩
        · skip
          have g2 : ¬ k.rank = l.rank := by have := of_decide_eq_false q5; omega
          refine p_gskip (j := 19) (t := 24) (by exact rfl) (by exact rfl) (by exact rfl) (et g0 rfl) rfl rfl ?_
          refine p_gskip (j := 19) (t := 24) (by exact rfl) (by exact rfl) (by exact rfl) (et (gS rfl g0) rfl) rfl rfl ?_
          refine p_gskip (j := 19) (t := 24) (by exact rfl) (by exact rfl) (by exact rfl) (et (gS rfl (gS rfl g0)) rfl) rfl rfl ?_
          refine p_gskip (j := 19) (t := 24) (by exact rfl) (by exact rfl) (by exact rfl) (et (gS rfl (gS rfl (gS rfl g0))) rfl) rfl rfl ?_
          refine p_gskip (j := 19) (t := 24) (by exact rfl) (by exact rfl) (by exact rfl) (et (gS rfl (gS rfl (gS rfl (gS rfl g0)))) rfl) rfl rfl ?_
          refine p_gskip (j := 19) (t := 24) (by exact rfl) (by exact rfl) (by exact rfl) (et (gS rfl (gS rfl (gS rfl (gS rfl (gS rfl g0))))) rfl) rfl rfl ?_
          refine p_gskip (j := 19) (t := 24) (by exact rfl) (by exact rfl) (by exact rfl) (et (gS rfl (gS rfl (gS rfl (gS rfl (gS rfl (gS rfl g0)))))) rfl) rfl rfl ?_
          refine p_gskip (j := 19) (t := 24) (by exact rfl) (by exact rfl) (by exact rfl) (et (gS rfl (gS rfl (gS rfl (gS rfl (gS rfl (gS rfl (gS rfl g0))))))) rfl) rfl rfl ?_
          refine p_geskip (j := 19) (t := 24) (by exact rfl) (by exact rfl) (by exact rfl) (et (gS rfl (gS rfl (gS rfl (gS rfl (gS rfl (gS rfl (gS rfl (gS rfl g0)))))))) rfl) rfl rfl ⟨.inr SU, ?_⟩
          refine p_gstep (j := 9) (t := 14) (by exact rfl) (by exact rfl) (by exact rfl) (et (gS rfl (gS rfl (gS rfl (gS rfl (gS rfl (gS rfl (gS rfl (gS rfl (gS rfl (gS rfl (gS rfl (gS rfl (gS rfl (gS rfl (gS rfl (gS rfl (gS rfl (gS rfl (gS rfl (gS rfl g0)))))))))))))))))))) rfl) rfl (y_pickF (et (gS rfl (gS rfl (gS rfl (gS rfl (gS rfl (gS rfl (gS rfl (gS rfl (gS rfl g0))))))))) rfl) rfl) ?_
          refine p_step (by exact rfl) (y_pickF (et (gS rfl (gS rfl (gS rfl (gS rfl (gS rfl (gS rfl (gS rfl (gS rfl (gS rfl (gS rfl (gS rfl (gS rfl (gS rfl (gS rfl (gS rfl (gS rfl (gS rfl (gS rfl (gS rfl (gS rfl (gS rfl g0))))))))))))))))))))) rfl) (et g0 rfl)) ?_
          refine p_step (by exact rfl) (y_assignV (et g0 rfl)) ?_
          refine p_nil ?_
          refine hK2 _ _ ?_
          refine fg1 4 g0 (fun g => ?_)
          refine c_ret ?_
          repeat with_reducible refine then_ret ?_
          refine ret1 rfl (res_tmp (et g0 rfl)) ?_
          exact ⟨by unfold bfK; rw [decide_eq_false g1, decide_eq_false g2]; rfl, U⟩))
theorem v_merge {w : World} {bo bf oo oa ob : Nat} {co cf : Array Value} {aa ab : Option Addr} {ca cb cm : Nat} {xs ys : List SK} (kO : Blk w bo co) (kF : Blk w bf cf) (dOF : bo ≠ bf) (hx : RowIn cf oa (kcs xs)) (hy : RowIn cf ob (kcs ys)) (hax : xs ≠ [] → aa = some ⟨bf, oa, none⟩) (hay : ys ≠ [] → ab = some ⟨bf, ob, none⟩) (hz : oo + 6 * (xs.length + ys.length) ≤ co.size) (hxo : ∀ x ∈ xs, SKOk x) (hyo : ∀ x ∈ ys, SKOk x) (hln : xs.length + ys.length < 1000000) :
    Ret 157 [.slice (some ⟨bo, oo, none⟩) (xs.length + ys.length) cm, .slice aa xs.length ca, .slice ab ys.length cb] w (fun v w' => v = .tuple #[] ∧ Ch (fun b => b = bo) w w' ∧ Blk w' bo (spl co oo (kcs (List.merge xs ys leK)))) := by
  refine enter (n := 53) Hvaa.func157 rfl rfl (Nat.le_of_ble_eq_true rfl) ?_
  have U : Ch (fun b => b = bo) w w := Ch.refl _ w
  refine c_seq (fun K1 hK1 => ?_)
  exact (by
    refine c_region ?_
    refine l_step y_assignC ?_
    refine l_nil ?_
    refine hK1 _ _ ?_
    refine c_seq (fun K2 hK2 => ?_)
    exact (by
      refine c_region ?_
      refine l_step y_assignC ?_
      refine l_nil ?_
      refine hK2 _ _ ?_
      refine c_seq (fun K3 hK3 => ?_)
      exact (by
        refine c_region ?_
        refine l_step (y_moveV (et (gS rfl (gS rfl g0)) rfl)) ?_
        refine l_step (y_len Hvaa.underlying165 (et g0 rfl)) ?_
        refine l_step y_moveC ?_
        refine l_nil ?_
        refine hK3 _ _ ?_
        refine fg7 2 1 0 6 7 10 11 (gS rfl (gS rfl (gS rfl (gS rfl (gS rfl (gS rfl (gS rfl g0))))))) (gS rfl (gS rfl (gS rfl (gS rfl (gS rfl (gS rfl g0)))))) (gS rfl (gS rfl (gS rfl (gS rfl (gS rfl g0))))) (gS rfl (gS rfl (gS rfl (gS rfl g0)))) (gS rfl (gS rfl (gS rfl g0))) (gS rfl g0) g0 (fun g => ?_)
        refine c_block (fun Q4 hQ4 => ?_)
        refine fg7 0 1 2 6 7 10 11 (gS rfl (gS rfl (gS rfl (gS rfl g0)))) (gS rfl (gS rfl (gS rfl (gS rfl (gS rfl g0))))) (gS rfl (gS rfl (gS rfl (gS rfl (gS rfl (gS rfl g0)))))) (gS rfl (gS rfl (gS rfl g0))) (gS rfl (gS rfl g0)) (gS rfl g0) g0 (fun g => ?_)
        refine c_loop (fun k_ s_ W5 => ∃ (g : Nat → Value) (k i j : Nat) (D : List SK), s_ = (upd (upd (upd (upd (upd (upd (upd g 0 (.slice (some ⟨bo, oo, none⟩) (xs.length + ys.length) cm)) 1 (.slice aa xs.length ca)) 2 (.slice ab ys.length cb)) 6 (.int .i64 (i : Nat))) 7 (.int .i64 (j : Nat))) 10 (.int .i64 ((xs.length + ys.length : Nat) : Nat))) 11 (.int .i64 (k : Nat))) ∧ xs.length + ys.length - k = k_ ∧ (i ≤ xs.length) ∧ (j ≤ ys.length) ∧ (k = i + j) ∧ (D.length = k) ∧ (D ++ List.merge (xs.drop i) (ys.drop j) leK = List.merge xs ys leK) ∧ Blk W5 bo ((spl co oo (kcs D))) ∧ Ch (fun k => k = bo) w W5) (xs.length + ys.length - (0)) ?_ ?_
        · exact ⟨g, 0, 0, 0, [], rfl, rfl, Nat.zero_le _, Nat.zero_le _, rfl, rfl, rfl, kO, Ch.refl _ _⟩
        · skip
          intro k_ s_ W5 hI K5 hK5
          obtain ⟨g, k, i, j, D, rfl, rfl, hi, hj, hk, hD, hM, nkO, V5⟩ := hI
          replace kF := kF.ch V5 (by exact fun e => dOF e.symm)
          replace kO := nkO
          replace U := U.cc V5 (by intro b hb; first | exact hb.elim | omega | (simp at hb ⊢; omega))
          refine c_seq (fun K6 hK6 => ?_)
          exact (by
            refine c_region ?_
            refine l_step (y_lss (et g0 rfl) (et (gS rfl g0) rfl)) ?_
            refine l_nil ?_
            refine hK6 _ _ ?_
            refine c_seq (fun K7 hK7 => ?_)
            refine c_cond (et g0 rfl) (fun cB1 => ?_) (fun cB1 => ?_)
            · skip
              
              have hlt : k < xs.length + ys.length := by have := of_decide_eq_true cB1; omega
              refine c_skip ?_
              refine hK7 _ _ ?_
              refine fg7 0 1 2 6 7 10 11 (gS rfl (gS rfl (gS rfl (gS rfl (gS rfl (gS rfl (gS rfl g0))))))) (gS rfl (gS rfl (gS rfl (gS rfl (gS rfl (gS rfl g0)))))) (gS rfl (gS rfl (gS rfl (gS rfl (gS rfl g0))))) (gS rfl (gS rfl (gS rfl (gS rfl g0)))) (gS rfl (gS rfl (gS rfl g0))) (gS rfl (gS rfl g0)) (gS rfl g0) (fun g => ?_)
              refine c_seq (fun K9 hK9 => ?_)
              refine c_block (fun Q10 hQ10 => ?_)
              refine c_seq (fun K11 hK11 => ?_)
              exact (by
                refine c_region ?_
                refine l_step (y_moveV (et g0 rfl)) ?_
                refine l_step (y_assignV (et g0 rfl)) ?_
                refine l_nil ?_
                refine hK11 _ _ ?_
                refine fg8 0 1 2 6 7 10 11 8 (gS rfl (gS rfl (gS rfl (gS rfl (gS rfl (gS rfl (gS rfl (gS rfl g0)))))))) (gS rfl (gS rfl (gS rfl (gS rfl (gS rfl (gS rfl (gS rfl g0))))))) (gS rfl (gS rfl (gS rfl (gS rfl (gS rfl (gS rfl g0)))))) (gS rfl (gS rfl (gS rfl (gS rfl (gS rfl g0))))) (gS rfl (gS rfl (gS rfl (gS rfl g0)))) (gS rfl (gS rfl (gS rfl g0))) (gS rfl (gS rfl g0)) g0 (fun g => ?_)
                refine c_seq (fun K12 hK12 => ?_)
                exact (by
                  refine c_draw Up 20 [(0, true), (1, true), (2, true), (3, true), (4, true), (5, true), (6, true), (7, true), (8, true), (9, true), (10, true), (11, true), (12, true), (13, true), (14, true), (15, true), (16, false), (17, true), (18, true), (19, true)] (by kernel_rfl) (fun w13 hu => ⟨Up.refl _, ?_⟩)
                  replace kF := kF.up hu
                  replace kO := kO.up hu
                  replace U := U.tr hu
                  replace V5 := V5.tr hu
                  have SU := Up.refl w13
                  refine p_step (by exact rfl) (y_moveV (et (gS rfl (gS rfl (gS rfl g0))) rfl)) ?_
                  refine p_step (by exact rfl) (y_moveV (et (gS rfl (gS rfl (gS rfl (gS rfl (gS rfl (gS rfl g0)))))) rfl)) ?_
                  refine p_step (by exact rfl) (y_len Hvaa.underlying165 (et g0 rfl)) ?_
                  refine p_step (by exact rfl) (y_geq (et (gS rfl (gS rfl g0)) rfl) (et g0 rfl)) ?_
                  refine p_step (by exact rfl) (y_moveV (et g0 rfl)) ?_
                  refine gsplitP (i := 18) g0 (fun q14 => ?_) (fun q14 => ?_)
                  · skip
                    have g1 : ys.length ≤ j := by have := of_decide_eq_true q14; omega
                    refine p_gskip (j := 4) (t := 18) (by exact rfl) (by exact rfl) (by exact rfl) (et g0 rfl) rfl rfl ?_
                    refine p_gskip (j := 4) (t := 18) (by exact rfl) (by exact rfl) (by exact rfl) (et (gS rfl g0) rfl) rfl rfl ?_
                    refine p_gskip (j := 4) (t := 18) (by exact rfl) (by exact rfl) (by exact rfl) (et (gS rfl (gS rfl g0)) rfl) rfl rfl ?_
                    refine p_gskip (j := 4) (t := 18) (by exact rfl) (by exact rfl) (by exact rfl) (et (gS rfl (gS rfl (gS rfl g0))) rfl) rfl rfl ?_
                    refine p_gskip (j := 4) (t := 18) (by exact rfl) (by exact rfl) (by exact rfl) (et (gS rfl (gS rfl (gS rfl (gS rfl g0)))) rfl) rfl rfl ?_
                    refine p_uskip (j := 9) (t := 23) (by exact rfl) (by exact rfl) (by exact rfl) (et g0 rfl) rfl ?_
                    refine p_uskip (j := 9) (t := 23) (by exact rfl) (by exact rfl) (by exact rfl) (et (gS rfl g0) rfl) rfl ?_
                    refine p_uskip (j := 9) (t := 23) (by exact rfl) (by exact rfl) (by exact rfl) (et (gS rfl (gS rfl g0)) rfl) rfl ?_
                    refine p_uskip (j := 9) (t := 23) (by exact rfl) (by exact rfl) (by exact rfl) (et (gS rfl (gS rfl (gS rfl g0))) rfl) rfl ?_
                    refine p_uskip (j := 9) (t := 23) (by exact rfl) (by exact rfl) (by exact rfl) (et (gS rfl (gS rfl (gS rfl (gS rfl g0)))) rfl) rfl ?_
                    refine p_uskip (j := 9) (t := 23) (by exact rfl) (by exact rfl) (by exact rfl) (et (gS rfl (gS rfl (gS rfl (gS rfl (gS rfl g0))))) rfl) rfl ?_
                    refine p_ueskip (j := 9) (t := 23) (by exact rfl) (by exact rfl) (by exact rfl) (et (gS rfl (gS rfl (gS rfl (gS rfl (gS rfl (gS rfl g0)))))) rfl) rfl ⟨.inr SU, ?_⟩
                    refine p_uskip (j := 9) (t := 23) (by exact rfl) (by exact rfl) (by exact rfl) (et (gS rfl (gS rfl (gS rfl (gS rfl (gS rfl (gS rfl (gS rfl g0))))))) rfl) rfl ?_
                    refine p_gskip (j := 4) (t := 18) (by exact rfl) (by exact rfl) (by exact rfl) (et (gS rfl (gS rfl (gS rfl (gS rfl (gS rfl (gS rfl (gS rfl (gS rfl (gS rfl (gS rfl (gS rfl (gS rfl (gS rfl g0))))))))))))) rfl) rfl rfl ?_
                    refine p_step (by exact rfl) (y_pickT (et (gS rfl (gS rfl (gS rfl (gS rfl (gS rfl (gS rfl (gS rfl (gS rfl (gS rfl (gS rfl (gS rfl (gS rfl (gS rfl (gS rfl g0)))))))))))))) rfl) rfl) ?_
                    refine p_nil ?_
                    refine hK12 _ _ ?_
                    refine fg9 0 1 2 6 7 10 11 8 33 (gS rfl (gS rfl (gS rfl (gS rfl (gS rfl (gS rfl (gS rfl (gS rfl (gS rfl (gS rfl (gS rfl (gS rfl (gS rfl (gS rfl (gS rfl (gS rfl (gS rfl (gS rfl (gS rfl (gS rfl (gS rfl (gS rfl (gS rfl (gS rfl (gS rfl (gS rfl (gS rfl (gS rfl g0)))))))))))))))))))))))))))) (gS rfl (gS rfl (gS rfl (gS rfl (gS rfl (gS rfl (gS rfl (gS rfl (gS rfl (gS rfl (gS rfl (gS rfl (gS rfl (gS rfl (gS rfl (gS rfl (gS rfl (gS rfl (gS rfl (gS rfl (gS rfl (gS rfl (gS rfl (gS rfl (gS rfl (gS rfl (gS rfl g0))))))))))))))))))))))))))) (gS rfl (gS rfl (gS rfl (gS rfl (gS rfl (gS rfl (gS rfl (gS rfl (gS rfl (gS rfl (gS rfl (gS rfl (gS rfl (gS rfl (gS rfl (gS rfl (gS rfl (gS rfl (gS rfl (gS rfl (gS rfl (gS rfl (gS rfl (gS rfl (gS rfl (gS rfl g0)))))))))))))))))))))))))) (gS rfl (gS rfl (gS rfl (gS rfl (gS rfl (gS rfl (gS rfl (gS rfl (gS rfl (gS rfl (gS rfl (gS rfl (gS rfl (gS rfl (gS rfl (gS rfl (gS rfl (gS rfl (gS rfl (gS rfl (gS rfl (gS rfl (gS rfl (gS rfl (gS rfl g0))))))))))))))))))))))))) (gS rfl (gS rfl (gS rfl (gS rfl (gS rfl (gS rfl (gS rfl (gS rfl (gS rfl (gS rfl (gS rfl (gS rfl (gS rfl (gS rfl (gS rfl (gS rfl (gS rfl (gS rfl (gS rfl (gS rfl (gS rfl (gS rfl (gS rfl (gS rfl g0)))))))))))))))))))))))) (gS rfl (gS rfl (gS rfl (gS rfl (gS rfl (gS rfl (gS rfl (gS rfl (gS rfl (gS rfl (gS rfl (gS rfl (gS rfl (gS rfl (gS rfl (gS rfl (gS rfl (gS rfl (gS rfl (gS rfl (gS rfl (gS rfl (gS rfl g0))))))))))))))))))))))) (gS rfl (gS rfl (gS rfl (gS rfl (gS rfl (gS rfl (gS rfl (gS rfl (gS rfl (gS rfl (gS rfl (gS rfl (gS rfl (gS rfl (gS rfl (gS rfl (gS rfl (gS rfl (gS rfl (gS rfl (gS rfl (gS rfl g0)))))))))))))))))))))) (gS rfl (gS rfl (gS rfl (gS rfl (gS rfl (gS rfl (gS rfl (gS rfl (gS rfl (gS rfl (gS rfl (gS rfl (gS rfl (gS rfl (gS rfl (gS rfl (gS rfl (gS rfl (gS rfl (gS rfl (gS rfl g0))))))))))))))))))))) g0 (fun g => ?_)
                    refine c_true (et g0 rfl) rfl ?_
                    refine c_seq (fun K16 hK16 => ?_)
                    exact (by
                      refine c_region ?_
                      refine l_step (y_moveV (et (gS rfl (gS rfl (gS rfl (gS rfl (gS rfl (gS rfl (gS rfl (gS rfl g0)))))))) rfl)) ?_
                      refine l_step (y_moveV (et (gS rfl (gS rfl g0)) rfl)) ?_
                      refine l_step (y_moveV (et (gS rfl (gS rfl (gS rfl (gS rfl (gS rfl (gS rfl (gS rfl (gS rfl (gS rfl g0))))))))) rfl)) ?_
                      refine l_step (y_moveV (et (gS rfl (gS rfl (gS rfl (gS rfl (gS rfl (gS rfl (gS rfl (gS rfl g0)))))))) rfl)) ?_
                      have g2 : i < xs.length := by omega
                      have ex := hax (by intro h9; rw [h9] at g2; exact absurd g2 (Nat.not_lt_zero _))
                      have hM2 : (D ++ [xs[i]]) ++ List.merge (xs.drop (i + 1)) (ys.drop j) leK = List.merge xs ys leK := by
                        rw [← hM, List.drop_eq_getElem_cons g2]
                        rw [List.drop_of_length_le g1, List.merge_right, List.merge_right, List.append_assoc]
                        rfl
                      refine l_step (y_idxSa ex Hvaa.underlying165 sz_170 (et (gS rfl g0) rfl) (et g0 rfl) ?_) ?_
                      omega
                      refine l_step (y_loadR agg_170 sz_170 (et g0 rfl) rfl (at1R (kF.row (kcs_row hx g2)))) ?_
                      refine l_step (y_idxS Hvaa.underlying165 sz_170 (et (gS rfl (gS rfl (gS rfl (gS rfl (gS rfl g0))))) rfl) (et (gS rfl (gS rfl (gS rfl (gS rfl g0)))) rfl) ?_ ?_) ?_
                      omega
                      omega
                      refine l_effN (e_store sz_170 (et g0 rfl) (cellsV (et (gS rfl g0) rfl) rfl) rfl (by exact skC_one _) kO (by (rw [size_spl]; simp only [Int.toNat_natCast]; omega))) (fun v17 w17 h17 => ?_)
                      obtain ⟨rfl, x17⟩ := h17
                      replace kF := kF.ch x17.ch (by exact fun e => dOF e.symm)
                      replace kO := x17.blk
                      replace U := U.st x17 (.inl (by first | rfl | (simp; done)))
                      replace V5 := V5.st x17 (by omega)
                      replace kO : Blk w17 bo (spl co oo (kcs (D ++ [xs[i]]))) := by rw [← spl_snoc (x := xs[i]) hD (by omega)]; exact kO
                      refine l_nil ?_
                      refine hK16 _ _ ?_
                      refine fg7 0 1 2 6 7 10 11 (gS rfl (gS rfl (gS rfl (gS rfl (gS rfl (gS rfl (gS rfl (gS rfl (gS rfl (gS rfl (gS rfl (gS rfl (gS rfl (gS rfl (gS rfl g0))))))))))))))) (gS rfl (gS rfl (gS rfl (gS rfl (gS rfl (gS rfl (gS rfl (gS rfl (gS rfl (gS rfl (gS rfl (gS rfl (gS rfl (gS rfl g0)))))))))))))) (gS rfl (gS rfl (gS rfl (gS rfl (gS rfl (gS rfl (gS rfl (gS rfl (gS rfl (gS rfl (gS rfl (gS rfl (gS rfl g0))))))))))))) (gS rfl (gS rfl (gS rfl (gS rfl (gS rfl (gS rfl (gS rfl (gS rfl (gS rfl (gS rfl (gS rfl (gS rfl g0)))))))))))) (gS rfl (gS rfl (gS rfl (gS rfl (gS rfl (gS rfl (gS rfl (gS rfl (gS rfl (gS rfl (gS rfl g0))))))))))) (gS rfl (gS rfl (gS rfl (gS rfl (gS rfl (gS rfl (gS rfl (gS rfl (gS rfl (gS rfl g0)))))))))) (gS rfl (gS rfl (gS rfl (gS rfl (gS rfl (gS rfl (gS rfl (gS rfl (gS rfl g0))))))))) (fun g => ?_)
                      refine c_region ?_
                      refine l_step (y_moveV (et (gS rfl (gS rfl (gS rfl g0))) rfl)) ?_
                      refine l_step (y_add (et g0 rfl) rfl (addIN (y := 1) ?_)) ?_
                      omega
                      exact (by
                        refine l_step (y_assignV (et g0 rfl)) ?_
                        refine l_nil ?_
                        refine hQ10 _ _ _ (in_normal ?_)
                        refine hK9 _ _ ?_
                        refine fg7 0 1 2 6 7 10 11 (gS rfl (gS rfl (gS rfl (gS rfl (gS rfl (gS rfl (gS rfl (gS rfl (gS rfl g0))))))))) (gS rfl (gS rfl (gS rfl (gS rfl (gS rfl (gS rfl (gS rfl (gS rfl g0)))))))) (gS rfl (gS rfl (gS rfl (gS rfl (gS rfl (gS rfl (gS rfl g0))))))) g0 (gS rfl (gS rfl (gS rfl (gS rfl (gS rfl g0))))) (gS rfl (gS rfl (gS rfl (gS rfl g0)))) (gS rfl (gS rfl (gS rfl g0))) (fun g => ?_)
                        refine c_region ?_
                        refine l_step (y_add (et g0 rfl) rfl (addIN (y := 1) ?_)) ?_
                        omega
                        refine l_step (y_moveV (et g0 rfl)) ?_
                        refine l_nil ?_
                        refine fK7 0 1 2 6 7 10 11 (gS rfl (gS rfl (gS rfl (gS rfl (gS rfl (gS rfl (gS rfl (gS rfl g0)))))))) (gS rfl (gS rfl (gS rfl (gS rfl (gS rfl (gS rfl (gS rfl g0))))))) (gS rfl (gS rfl (gS rfl (gS rfl (gS rfl (gS rfl g0)))))) (gS rfl (gS rfl (gS rfl (gS rfl (gS rfl g0))))) (gS rfl (gS rfl (gS rfl (gS rfl g0)))) (gS rfl (gS rfl (gS rfl g0))) g0 (fun g => ?_)
                        exact hK5 (xs.length + ys.length - ((k + 1))) _ _ (by omega) ⟨g, (k + 1), (i + 1), j, (D ++ [xs[i]]), rfl, rfl, by omega, by omega, by omega, by rw [List.length_append, hD]; rfl, hM2, kO, V5⟩))
                  · skip
                    have g1 : ¬ ys.length ≤ j := by have := of_decide_eq_false q14; omega
                    refine p_gstep (j := 4) (t := 18) (by exact rfl) (by exact rfl) (by exact rfl) (et g0 rfl) rfl (y_moveV (et (gS rfl (gS rfl (gS rfl (gS rfl (gS rfl (gS rfl (gS rfl (gS rfl (gS rfl (gS rfl g0)))))))))) rfl)) ?_
                    refine p_gstep (j := 4) (t := 18) (by exact rfl) (by exact rfl) (by exact rfl) (et (gS rfl g0) rfl) rfl (y_moveV (et (gS rfl (gS rfl (gS rfl (gS rfl (gS rfl (gS rfl (gS rfl (gS rfl (gS rfl (gS rfl (gS rfl (gS rfl (gS rfl g0))))))))))))) rfl)) ?_
                    refine p_gstep (j := 4) (t := 18) (by exact rfl) (by exact rfl) (by exact rfl) (et (gS rfl (gS rfl g0)) rfl) rfl (y_len Hvaa.underlying165 (et g0 rfl)) ?_
                    refine p_gstep (j := 4) (t := 18) (by exact rfl) (by exact rfl) (by exact rfl) (et (gS rfl (gS rfl (gS rfl g0))) rfl) rfl (y_lss (et (gS rfl (gS rfl g0)) rfl) (et g0 rfl)) ?_
                    refine p_gstep (j := 4) (t := 18) (by exact rfl) (by exact rfl) (by exact rfl) (et (gS rfl (gS rfl (gS rfl (gS rfl g0)))) rfl) rfl (y_moveV (et g0 rfl)) ?_
                    refine gsplitP (i := 23) g0 (fun q18 => ?_) (fun q18 => ?_)
                    · skip
                      have g2 : i < xs.length := by have := of_decide_eq_true q18; omega
                      refine p_gstep (j := 9) (t := 23) (by exact rfl) (by exact rfl) (by exact rfl) (et g0 rfl) rfl (y_moveV (et (gS rfl (gS rfl (gS rfl (gS rfl (gS rfl (gS rfl (gS rfl (gS rfl (gS rfl (gS rfl (gS rfl (gS rfl (gS rfl (gS rfl (gS rfl (gS rfl (gS rfl g0))))))))))))))))) rfl)) ?_
                      refine p_gstep (j := 9) (t := 23) (by exact rfl) (by exact rfl) (by exact rfl) (et (gS rfl g0) rfl) rfl (y_moveV (et (gS rfl (gS rfl (gS rfl (gS rfl (gS rfl (gS rfl (gS rfl (gS rfl (gS rfl (gS rfl (gS rfl (gS rfl (gS rfl (gS rfl (gS rfl (gS rfl g0)))))))))))))))) rfl)) ?_
                      have hjl : j < ys.length := by omega
                      have ey := hay (by intro h9; rw [h9] at hjl; exact absurd hjl (Nat.not_lt_zero _))
                      refine p_gstep (j := 9) (t := 23) (by exact rfl) (by exact rfl) (by exact rfl) (et (gS rfl (gS rfl g0)) rfl) rfl (y_idxSa ey Hvaa.underlying165 sz_170 (et (gS rfl g0) rfl) (et g0 rfl) ?_) ?_
                      omega
                      refine p_gstep (j := 9) (t := 23) (by exact rfl) (by exact rfl) (by exact rfl) (et (gS rfl (gS rfl (gS rfl g0))) rfl) rfl (y_moveV (et (gS rfl (gS rfl (gS rfl (gS rfl (gS rfl (gS rfl (gS rfl (gS rfl (gS rfl (gS rfl (gS rfl (gS rfl (gS rfl (gS rfl (gS rfl (gS rfl (gS rfl (gS rfl (gS rfl (gS rfl (gS rfl g0))))))))))))))))))))) rfl)) ?_
                      refine p_gstep (j := 9) (t := 23) (by exact rfl) (by exact rfl) (by exact rfl) (et (gS rfl (gS rfl (gS rfl (gS rfl g0)))) rfl) rfl (y_moveV (et (gS rfl (gS rfl (gS rfl (gS rfl (gS rfl (gS rfl (gS rfl (gS rfl (gS rfl (gS rfl (gS rfl (gS rfl (gS rfl (gS rfl (gS rfl (gS rfl (gS rfl (gS rfl (gS rfl (gS rfl g0)))))))))))))))))))) rfl)) ?_
                      have ex := hax (by intro h9; rw [h9] at g2; exact absurd g2 (Nat.not_lt_zero _))
                      refine p_gstep (j := 9) (t := 23) (by exact rfl) (by exact rfl) (by exact rfl) (et (gS rfl (gS rfl (gS rfl (gS rfl (gS rfl g0))))) rfl) rfl (y_idxSa ex Hvaa.underlying165 sz_170 (et (gS rfl g0) rfl) (et g0 rfl) ?_) ?_
                      omega
                      refine p_geff (j := 9) (t := 23) (by exact rfl) (by exact rfl) (by exact rfl) (et (gS rfl (gS rfl (gS rfl (gS rfl (gS rfl (gS rfl g0)))))) rfl) rfl (e_callV cal_238 (aC (et (gS rfl (gS rfl (gS rfl g0))) rfl) (aC (et g0 rfl) aN)) (v_before (kF.row (kcs_row hy hjl)) (kF.row (kcs_row hx g2)) (hyo _ (List.getElem_mem _)) (hxo _ (List.getElem_mem _)))) (fun v19 w19 h19 => ?_)
                      obtain ⟨rfl, u19⟩ := h19
                      replace kF := kF.up u19
                      replace kO := kO.up u19
                      replace U := U.tr u19
                      replace V5 := V5.tr u19
                      refine ⟨.inr (SU.tr u19), ?_⟩
                      replace SU := SU.tr u19
                      refine p_gstep (j := 9) (t := 23) (by exact rfl) (by exact rfl) (by exact rfl) (et (gS rfl (gS rfl (gS rfl (gS rfl (gS rfl (gS rfl (gS rfl g0))))))) rfl) rfl (y_not (et g0 rfl)) ?_
                      refine p_gstep (j := 4) (t := 18) (by exact rfl) (by exact rfl) (by exact rfl) (et (gS rfl (gS rfl (gS rfl (gS rfl (gS rfl (gS rfl (gS rfl (gS rfl (gS rfl (gS rfl (gS rfl (gS rfl (gS rfl (gS rfl g0)))))))))))))) rfl) rfl (y_pickT (et (gS rfl (gS rfl (gS rfl (gS rfl (gS rfl (gS rfl (gS rfl (gS rfl g0)))))))) rfl) (et g0 rfl)) ?_
                      refine p_step (by exact rfl) (y_pickF (et (gS rfl (gS rfl (gS rfl (gS rfl (gS rfl (gS rfl (gS rfl (gS rfl (gS rfl (gS rfl (gS rfl (gS rfl (gS rfl (gS rfl (gS rfl g0))))))))))))))) rfl) (et g0 rfl)) ?_
                      refine p_nil ?_
                      refine hK12 _ _ ?_
                      refine fg9 0 1 2 6 7 10 11 8 33 (gS rfl (gS rfl (gS rfl (gS rfl (gS rfl (gS rfl (gS rfl (gS rfl (gS rfl (gS rfl (gS rfl (gS rfl (gS rfl (gS rfl (gS rfl (gS rfl (gS rfl (gS rfl (gS rfl (gS rfl (gS rfl (gS rfl (gS rfl (gS rfl (gS rfl (gS rfl (gS rfl (gS rfl (gS rfl g0))))))))))))))))))))))))))))) (gS rfl (gS rfl (gS rfl (gS rfl (gS rfl (gS rfl (gS rfl (gS rfl (gS rfl (gS rfl (gS rfl (gS rfl (gS rfl (gS rfl (gS rfl (gS rfl (gS rfl (gS rfl (gS rfl (gS rfl (gS rfl (gS rfl (gS rfl (gS rfl (gS rfl (gS rfl (gS rfl (gS rfl g0)))))))))))))))))))))))))))) (gS rfl (gS rfl (gS rfl (gS rfl (gS rfl (gS rfl (gS rfl (gS rfl (gS rfl (gS rfl (gS rfl (gS rfl (gS rfl (gS rfl (gS rfl (gS rfl (gS rfl (gS rfl (gS rfl (gS rfl (gS rfl (gS rfl (gS rfl (gS rfl (gS rfl (gS rfl (gS rfl g0))))))))))))))))))))))))))) (gS rfl (gS rfl (gS rfl (gS rfl (gS rfl (gS rfl (gS rfl (gS rfl (gS rfl (gS rfl (gS rfl (gS rfl (gS rfl (gS rfl (gS rfl (gS rfl (gS rfl (gS rfl (gS rfl (gS rfl (gS rfl (gS rfl (gS rfl (gS rfl (gS rfl (gS rfl g0)))))))))))))))))))))))))) (gS rfl (gS rfl (gS rfl (gS rfl (gS rfl (gS rfl (gS rfl (gS rfl (gS rfl (gS rfl (gS rfl (gS rfl (gS rfl (gS rfl (gS rfl (gS rfl (gS rfl (gS rfl (gS rfl (gS rfl (gS rfl (gS rfl (gS rfl (gS rfl (gS rfl g0))))))))))))))))))))))))) (gS rfl (gS rfl (gS rfl (gS rfl (gS rfl (gS rfl (gS rfl (gS rfl (gS rfl (gS rfl (gS rfl (gS rfl (gS rfl (gS rfl (gS rfl (gS rfl (gS rfl (gS rfl (gS rfl (gS rfl (gS rfl (gS rfl (gS rfl (gS rfl g0)))))))))))))))))))))))) (gS rfl (gS rfl (gS rfl (gS rfl (gS rfl (gS rfl (gS rfl (gS rfl (gS rfl (gS rfl (gS rfl (gS rfl (gS rfl (gS rfl (gS rfl (gS rfl (gS rfl (gS rfl (gS rfl (gS rfl (gS rfl (gS rfl (gS rfl g0))))))))))))))))))))))) (gS rfl (gS rfl (gS rfl (gS rfl (gS rfl (gS rfl (gS rfl (gS rfl (gS rfl (gS rfl (gS rfl (gS rfl (gS rfl (gS rfl (gS rfl (gS rfl (gS rfl (gS rfl (gS rfl (gS rfl (gS rfl (gS rfl g0)))))))))))))))))))))) g0 (fun g => ?_)
                      refine c_cond (et g0 rfl) (fun cB2 => ?_) (fun cB2 => ?_)
                      · skip
                        
                        have hbf : bfK ys[j] xs[i] = false := by simpa using cB2
                        refine c_seq (fun K21 hK21 => ?_)
                        exact (by
                          refine c_region ?_
                          refine l_step (y_moveV (et (gS rfl (gS rfl (gS rfl (gS rfl (gS rfl (gS rfl (gS rfl (gS rfl g0)))))))) rfl)) ?_
                          refine l_step (y_moveV (et (gS rfl (gS rfl g0)) rfl)) ?_
                          refine l_step (y_moveV (et (gS rfl (gS rfl (gS rfl (gS rfl (gS rfl (gS rfl (gS rfl (gS rfl (gS rfl g0))))))))) rfl)) ?_
                          refine l_step (y_moveV (et (gS rfl (gS rfl (gS rfl (gS rfl (gS rfl (gS rfl (gS rfl (gS rfl g0)))))))) rfl)) ?_
                          have hM2 : (D ++ [xs[i]]) ++ List.merge (xs.drop (i + 1)) (ys.drop j) leK = List.merge xs ys leK := by
                            rw [← hM, List.drop_eq_getElem_cons g2]
                            rw [List.drop_eq_getElem_cons hjl, List.cons_merge_cons, if_pos (by unfold leK; rw [hbf]; rfl), List.append_assoc]
                            rfl
                          refine l_step (y_idxSa ex Hvaa.underlying165 sz_170 (et (gS rfl g0) rfl) (et g0 rfl) ?_) ?_
                          omega
                          refine l_step (y_loadR agg_170 sz_170 (et g0 rfl) rfl (at1R (kF.row (kcs_row hx g2)))) ?_
                          refine l_step (y_idxS Hvaa.underlying165 sz_170 (et (gS rfl (gS rfl (gS rfl (gS rfl (gS rfl g0))))) rfl) (et (gS rfl (gS rfl (gS rfl (gS rfl g0)))) rfl) ?_ ?_) ?_
                          omega
                          omega
                          refine l_effN (e_store sz_170 (et g0 rfl) (cellsV (et (gS rfl g0) rfl) rfl) rfl (by exact skC_one _) kO (by (rw [size_spl]; simp only [Int.toNat_natCast]; omega))) (fun v22 w22 h22 => ?_)
                          obtain ⟨rfl, x22⟩ := h22
                          replace kF := kF.ch x22.ch (by exact fun e => dOF e.symm)
                          replace kO := x22.blk
                          replace U := U.st x22 (.inl (by first | rfl | (simp; done)))
                          replace V5 := V5.st x22 (by omega)
                          replace kO : Blk w22 bo (spl co oo (kcs (D ++ [xs[i]]))) := by rw [← spl_snoc (x := xs[i]) hD (by omega)]; exact kO
                          refine l_nil ?_
                          refine hK21 _ _ ?_
                          refine fg7 0 1 2 6 7 10 11 (gS rfl (gS rfl (gS rfl (gS rfl (gS rfl (gS rfl (gS rfl (gS rfl (gS rfl (gS rfl (gS rfl (gS rfl (gS rfl (gS rfl (gS rfl g0))))))))))))))) (gS rfl (gS rfl (gS rfl (gS rfl (gS rfl (gS rfl (gS rfl (gS rfl (gS rfl (gS rfl (gS rfl (gS rfl (gS rfl (gS rfl g0)))))))))))))) (gS rfl (gS rfl (gS rfl (gS rfl (gS rfl (gS rfl (gS rfl (gS rfl (gS rfl (gS rfl (gS rfl (gS rfl (gS rfl g0))))))))))))) (gS rfl (gS rfl (gS rfl (gS rfl (gS rfl (gS rfl (gS rfl (gS rfl (gS rfl (gS rfl (gS rfl (gS rfl g0)))))))))))) (gS rfl (gS rfl (gS rfl (gS rfl (gS rfl (gS rfl (gS rfl (gS rfl (gS rfl (gS rfl (gS rfl g0))))))))))) (gS rfl (gS rfl (gS rfl (gS rfl (gS rfl (gS rfl (gS rfl (gS rfl (gS rfl (gS rfl g0)))))))))) (gS rfl (gS rfl (gS rfl (gS rfl (gS rfl (gS rfl (gS rfl (gS rfl (gS rfl g0))))))))) (fun g => ?_)
                          refine c_region ?_
                          refine l_step (y_moveV (et (gS rfl (gS rfl (gS rfl g0))) rfl)) ?_
                          refine l_step (y_add (et g0 rfl) rfl (addIN (y := 1) ?_)) ?_
                          omega
                          refine l_step (y_assignV (et g0 rfl)) ?_
                          refine l_nil ?_
                          refine hQ10 _ _ _ (in_normal ?_)
                          refine hK9 _ _ ?_
                          refine fg7 0 1 2 6 7 10 11 (gS rfl (gS rfl (gS rfl (gS rfl (gS rfl (gS rfl (gS rfl (gS rfl (gS rfl g0))))))))) (gS rfl (gS rfl (gS rfl (gS rfl (gS rfl (gS rfl (gS rfl (gS rfl g0)))))))) (gS rfl (gS rfl (gS rfl (gS rfl (gS rfl (gS rfl (gS rfl g0))))))) g0 (gS rfl (gS rfl (gS rfl (gS rfl (gS rfl g0))))) (gS rfl (gS rfl (gS rfl (gS rfl g0)))) (gS rfl (gS rfl (gS rfl g0))) (fun g => ?_)
                          refine c_region ?_
                          exact (by
                            refine l_step (y_add (et g0 rfl) rfl (addIN (y := 1) ?_)) ?_
                            omega
                            refine l_step (y_moveV (et g0 rfl)) ?_
                            refine l_nil ?_
                            refine fK7 0 1 2 6 7 10 11 (gS rfl (gS rfl (gS rfl (gS rfl (gS rfl (gS rfl (gS rfl (gS rfl g0)))))))) (gS rfl (gS rfl (gS rfl (gS rfl (gS rfl (gS rfl (gS rfl g0))))))) (gS rfl (gS rfl (gS rfl (gS rfl (gS rfl (gS rfl g0)))))) (gS rfl (gS rfl (gS rfl (gS rfl (gS rfl g0))))) (gS rfl (gS rfl (gS rfl (gS rfl g0)))) (gS rfl (gS rfl (gS rfl g0))) g0 (fun g => ?_)
                            exact hK5 (xs.length + ys.length - ((k + 1))) _ _ (by omega) ⟨g, (k + 1), (i + 1), j, (D ++ [xs[i]]), rfl, rfl, by omega, by omega, by omega, by rw [List.length_append, hD]; rfl, hM2, kO, V5⟩))
                      · skip
                        
                        have hbf : bfK ys[j] xs[i] = true := by simpa using cB2
                        refine c_seq (fun K23 hK23 => ?_)
                        exact (by
                          refine c_region ?_
                          refine l_step (y_moveV (et (gS rfl (gS rfl (gS rfl (gS rfl (gS rfl (gS rfl (gS rfl (gS rfl g0)))))))) rfl)) ?_
                          refine l_step (y_moveV (et (gS rfl (gS rfl g0)) rfl)) ?_
                          refine l_step (y_moveV (et (gS rfl (gS rfl (gS rfl (gS rfl (gS rfl (gS rfl (gS rfl (gS rfl g0)))))))) rfl)) ?_
                          refine l_step (y_moveV (et (gS rfl (gS rfl (gS rfl (gS rfl (gS rfl (gS rfl (gS rfl g0))))))) rfl)) ?_
                          have hM2 : (D ++ [ys[j]]) ++ List.merge (xs.drop i) (ys.drop (j + 1)) leK = List.merge xs ys leK := by
                            rw [← hM, List.drop_eq_getElem_cons hjl]
                            rw [List.drop_eq_getElem_cons g2, List.cons_merge_cons, if_neg (by unfold leK; rw [hbf]; decide), List.append_assoc]
                            rfl
                          refine l_step (y_idxSa ey Hvaa.underlying165 sz_170 (et (gS rfl g0) rfl) (et g0 rfl) ?_) ?_
                          omega
                          refine l_step (y_loadR agg_170 sz_170 (et g0 rfl) rfl (at1R (kF.row (kcs_row hy hjl)))) ?_
                          refine l_step (y_idxS Hvaa.underlying165 sz_170 (et (gS rfl (gS rfl (gS rfl (gS rfl (gS rfl g0))))) rfl) (et (gS rfl (gS rfl (gS rfl (gS rfl g0)))) rfl) ?_ ?_) ?_
                          omega
                          omega
                          refine l_effN (e_store sz_170 (et g0 rfl) (cellsV (et (gS rfl g0) rfl) rfl) rfl (by exact skC_one _) kO (by (rw [size_spl]; simp only [Int.toNat_natCast]; omega))) (fun v24 w24 h24 => ?_)
                          obtain ⟨rfl, x24⟩ := h24
                          replace kF := kF.ch x24.ch (by exact fun e => dOF e.symm)
                          replace kO := x24.blk
                          replace U := U.st x24 (.inl (by first | rfl | (simp; done)))
                          replace V5 := V5.st x24 (by omega)
                          replace kO : Blk w24 bo (spl co oo (kcs (D ++ [ys[j]]))) := by rw [← spl_snoc (x := ys[j]) hD (by omega)]; exact kO
                          refine l_nil ?_
                          refine hK23 _ _ ?_
                          refine fg7 0 1 2 6 7 10 11 (gS rfl (gS rfl (gS rfl (gS rfl (gS rfl (gS rfl (gS rfl (gS rfl (gS rfl (gS rfl (gS rfl (gS rfl (gS rfl (gS rfl (gS rfl g0))))))))))))))) (gS rfl (gS rfl (gS rfl (gS rfl (gS rfl (gS rfl (gS rfl (gS rfl (gS rfl (gS rfl (gS rfl (gS rfl (gS rfl (gS rfl g0)))))))))))))) (gS rfl (gS rfl (gS rfl (gS rfl (gS rfl (gS rfl (gS rfl (gS rfl (gS rfl (gS rfl (gS rfl (gS rfl (gS rfl g0))))))))))))) (gS rfl (gS rfl (gS rfl (gS rfl (gS rfl (gS rfl (gS rfl (gS rfl (gS rfl (gS rfl (gS rfl (gS rfl g0)))))))))))) (gS rfl (gS rfl (gS rfl (gS rfl (gS rfl (gS rfl (gS rfl (gS rfl (gS rfl (gS rfl (gS rfl g0))))))))))) (gS rfl (gS rfl (gS rfl (gS rfl (gS rfl (gS rfl (gS rfl (gS rfl (gS rfl (gS rfl g0)))))))))) (gS rfl (gS rfl (gS rfl (gS rfl (gS rfl (gS rfl (gS rfl (gS rfl (gS rfl g0))))))))) (fun g => ?_)
                          refine c_region ?_
                          refine l_step (y_moveV (et (gS rfl (gS rfl g0)) rfl)) ?_
                          refine l_step (y_add (et g0 rfl) rfl (addIN (y := 1) ?_)) ?_
                          omega
                          refine l_step (y_assignV (et g0 rfl)) ?_
                          refine l_nil ?_
                          refine hQ10 _ _ _ (in_normal ?_)
                          refine hK9 _ _ ?_
                          refine fg7 0 1 2 6 7 10 11 (gS rfl (gS rfl (gS rfl (gS rfl (gS rfl (gS rfl (gS rfl (gS rfl (gS rfl g0))))))))) (gS rfl (gS rfl (gS rfl (gS rfl (gS rfl (gS rfl (gS rfl (gS rfl g0)))))))) (gS rfl (gS rfl (gS rfl (gS rfl (gS rfl (gS rfl (gS rfl g0))))))) (gS rfl (gS rfl (gS rfl (gS rfl (gS rfl (gS rfl g0)))))) g0 (gS rfl (gS rfl (gS rfl (gS rfl g0)))) (gS rfl (gS rfl (gS rfl g0))) (fun g => ?_)
                          refine c_region ?_
                          exact (by
                            refine l_step (y_add (et g0 rfl) rfl (addIN (y := 1) ?_)) ?_
                            omega
                            refine l_step (y_moveV (et g0 rfl)) ?_
                            refine l_nil ?_
                            refine fK7 0 1 2 6 7 10 11 (gS rfl (gS rfl (gS rfl (gS rfl (gS rfl (gS rfl (gS rfl (gS rfl g0)))))))) (gS rfl (gS rfl (gS rfl (gS rfl (gS rfl (gS rfl (gS rfl g0))))))) (gS rfl (gS rfl (gS rfl (gS rfl (gS rfl (gS rfl g0)))))) (gS rfl (gS rfl (gS rfl (gS rfl (gS rfl g0))))) (gS rfl (gS rfl (gS rfl (gS rfl g0)))) (gS rfl (gS rfl (gS rfl g0))) g0 (fun g => ?_)
                            exact hK5 (xs.length + ys.length - ((k + 1))) _ _ (by omega) ⟨g, (k + 1), i, (j + 1), (D ++ [ys[j]]), rfl, rfl, by omega, by omega, by omega, by rw [List.length_append, hD]; rfl, hM2, kO, V5⟩))
                    · skip
                      have g2 : ¬ i < xs.length := by have := of_decide_eq_false q18; omega
                      refine p_gskip (j := 9) (t := 23) (by exact rfl) (by exact rfl) (by exact rfl) (et g0 rfl) rfl rfl ?_
                      refine p_gskip (j := 9) (t := 23) (by exact rfl) (by exact rfl) (by exact rfl) (et (gS rfl g0) rfl) rfl rfl ?_
                      refine p_gskip (j := 9) (t := 23) (by exact rfl) (by exact rfl) (by exact rfl) (et (gS rfl (gS rfl g0)) rfl) rfl rfl ?_
                      refine p_gskip (j := 9) (t := 23) (by exact rfl) (by exact rfl) (by exact rfl) (et (gS rfl (gS rfl (gS rfl g0))) rfl) rfl rfl ?_
                      refine p_gskip (j := 9) (t := 23) (by exact rfl) (by exact rfl) (by exact rfl) (et (gS rfl (gS rfl (gS rfl (gS rfl g0)))) rfl) rfl rfl ?_
                      refine p_gskip (j := 9) (t := 23) (by exact rfl) (by exact rfl) (by exact rfl) (et (gS rfl (gS rfl (gS rfl (gS rfl (gS rfl g0))))) rfl) rfl rfl ?_
                      refine p_geskip (j := 9) (t := 23) (by exact rfl) (by exact rfl) (by exact rfl) (et (gS rfl (gS rfl (gS rfl (gS rfl (gS rfl (gS rfl g0)))))) rfl) rfl rfl ⟨.inr SU, ?_⟩
                      refine p_gskip (j := 9) (t := 23) (by exact rfl) (by exact rfl) (by exact rfl) (et (gS rfl (gS rfl (gS rfl (gS rfl (gS rfl (gS rfl (gS rfl g0))))))) rfl) rfl rfl ?_
                      refine p_gstep (j := 4) (t := 18) (by exact rfl) (by exact rfl) (by exact rfl) (et (gS rfl (gS rfl (gS rfl (gS rfl (gS rfl (gS rfl (gS rfl (gS rfl (gS rfl (gS rfl (gS rfl (gS rfl (gS rfl (gS rfl g0)))))))))))))) rfl) rfl (y_pickF (et (gS rfl (gS rfl (gS rfl (gS rfl (gS rfl (gS rfl (gS rfl (gS rfl g0)))))))) rfl) rfl) ?_
                      refine p_step (by exact rfl) (y_pickF (et (gS rfl (gS rfl (gS rfl (gS rfl (gS rfl (gS rfl (gS rfl (gS rfl (gS rfl (gS rfl (gS rfl (gS rfl (gS rfl (gS rfl (gS rfl g0))))))))))))))) rfl) (et g0 rfl)) ?_
                      refine p_nil ?_
                      refine hK12 _ _ ?_
                      refine fg9 0 1 2 6 7 10 11 8 33 (gS rfl (gS rfl (gS rfl (gS rfl (gS rfl (gS rfl (gS rfl (gS rfl (gS rfl (gS rfl (gS rfl (gS rfl (gS rfl (gS rfl (gS rfl (gS rfl (gS rfl (gS rfl (gS rfl (gS rfl (gS rfl (gS rfl (gS rfl (gS rfl (gS rfl (gS rfl (gS rfl (gS rfl (gS rfl g0))))))))))))))))))))))))))))) (gS rfl (gS rfl (gS rfl (gS rfl (gS rfl (gS rfl (gS rfl (gS rfl (gS rfl (gS rfl (gS rfl (gS rfl (gS rfl (gS rfl (gS rfl (gS rfl (gS rfl (gS rfl (gS rfl (gS rfl (gS rfl (gS rfl (gS rfl (gS rfl (gS rfl (gS rfl (gS rfl (gS rfl g0)))))))))))))))))))))))))))) (gS rfl (gS rfl (gS rfl (gS rfl (gS rfl (gS rfl (gS rfl (gS rfl (gS rfl (gS rfl (gS rfl (gS rfl (gS rfl (gS rfl (gS rfl (gS rfl (gS rfl (gS rfl (gS rfl (gS rfl (gS rfl (gS rfl (gS rfl (gS rfl (gS rfl (gS rfl (gS rfl g0))))))))))))))))))))))))))) (gS rfl (gS rfl (gS rfl (gS rfl (gS rfl (gS rfl (gS rfl (gS rfl (gS rfl (gS rfl (gS rfl (gS rfl (gS rfl (gS rfl (gS rfl (gS rfl (gS rfl (gS rfl (gS rfl (gS rfl (gS rfl (gS rfl (gS rfl (gS rfl (gS rfl (gS rfl g0)))))))))))))))))))))))))) (gS rfl (gS rfl (gS rfl (gS rfl (gS rfl (gS rfl (gS rfl (gS rfl (gS rfl (gS rfl (gS rfl (gS rfl (gS rfl (gS rfl (gS rfl (gS rfl (gS rfl (gS rfl (gS rfl (gS rfl (gS rfl (gS rfl (gS rfl (gS rfl (gS rfl g0))))))))))))))))))))))))) (gS rfl (gS rfl (gS rfl (gS rfl (gS rfl (gS rfl (gS rfl (gS rfl (gS rfl (gS rfl (gS rfl (gS rfl (gS rfl (gS rfl (gS rfl (gS rfl (gS rfl (gS rfl (gS rfl (gS rfl (gS rfl (gS rfl (gS rfl (gS rfl g0)))))))))))))))))))))))) (gS rfl (gS rfl (gS rfl (gS rfl (gS rfl (gS rfl (gS rfl (gS rfl (gS rfl (gS rfl (gS rfl (gS rfl (gS rfl (gS rfl (gS rfl (gS rfl (gS rfl (gS rfl (gS rfl (gS rfl (gS rfl (gS rfl (gS rfl g0))))))))))))))))))))))) (gS rfl (gS rfl (gS rfl (gS rfl (gS rfl (gS rfl (gS rfl (gS rfl (gS rfl (gS rfl (gS rfl (gS rfl (gS rfl (gS rfl (gS rfl (gS rfl (gS rfl (gS rfl (gS rfl (gS rfl (gS rfl (gS rfl g0)))))))))))))))))))))) g0 (fun g => ?_)
                      refine c_false (et g0 rfl) rfl ?_
                      refine c_seq (fun K26 hK26 => ?_)
                      exact (by
                        refine c_region ?_
                        refine l_step (y_moveV (et (gS rfl (gS rfl (gS rfl (gS rfl (gS rfl (gS rfl (gS rfl (gS rfl g0)))))))) rfl)) ?_
                        refine l_step (y_moveV (et (gS rfl (gS rfl g0)) rfl)) ?_
                        refine l_step (y_moveV (et (gS rfl (gS rfl (gS rfl (gS rfl (gS rfl (gS rfl (gS rfl (gS rfl g0)))))))) rfl)) ?_
                        refine l_step (y_moveV (et (gS rfl (gS rfl (gS rfl (gS rfl (gS rfl (gS rfl (gS rfl g0))))))) rfl)) ?_
                        have hjl : j < ys.length := by omega
                        have ey := hay (by intro h9; rw [h9] at hjl; exact absurd hjl (Nat.not_lt_zero _))
                        have hM2 : (D ++ [ys[j]]) ++ List.merge (xs.drop i) (ys.drop (j + 1)) leK = List.merge xs ys leK := by
                          rw [← hM, List.drop_eq_getElem_cons hjl]
                          rw [List.drop_of_length_le (by omega), List.nil_merge, List.nil_merge, List.append_assoc]
                          rfl
                        refine l_step (y_idxSa ey Hvaa.underlying165 sz_170 (et (gS rfl g0) rfl) (et g0 rfl) ?_) ?_
                        omega
                        refine l_step (y_loadR agg_170 sz_170 (et g0 rfl) rfl (at1R (kF.row (kcs_row hy hjl)))) ?_
                        refine l_step (y_idxS Hvaa.underlying165 sz_170 (et (gS rfl (gS rfl (gS rfl (gS rfl (gS rfl g0))))) rfl) (et (gS rfl (gS rfl (gS rfl (gS rfl g0)))) rfl) ?_ ?_) ?_
                        omega
                        omega
                        refine l_effN (e_store sz_170 (et g0 rfl) (cellsV (et (gS rfl g0) rfl) rfl) rfl (by exact skC_one _) kO (by (rw [size_spl]; simp only [Int.toNat_natCast]; omega))) (fun v27 w27 h27 => ?_)
                        obtain ⟨rfl, x27⟩ := h27
                        replace kF := kF.ch x27.ch (by exact fun e => dOF e.symm)
                        replace kO := x27.blk
                        replace U := U.st x27 (.inl (by first | rfl | (simp; done)))
                        replace V5 := V5.st x27 (by omega)
                        replace kO : Blk w27 bo (spl co oo (kcs (D ++ [ys[j]]))) := by rw [← spl_snoc (x := ys[j]) hD (by omega)]; exact kO
                        refine l_nil ?_
                        refine hK26 _ _ ?_
                        refine fg7 0 1 2 6 7 10 11 (gS rfl (gS rfl (gS rfl (gS rfl (gS rfl (gS rfl (gS rfl (gS rfl (gS rfl (gS rfl (gS rfl (gS rfl (gS rfl (gS rfl (gS rfl g0))))))))))))))) (gS rfl (gS rfl (gS rfl (gS rfl (gS rfl (gS rfl (gS rfl (gS rfl (gS rfl (gS rfl (gS rfl (gS rfl (gS rfl (gS rfl g0)))))))))))))) (gS rfl (gS rfl (gS rfl (gS rfl (gS rfl (gS rfl (gS rfl (gS rfl (gS rfl (gS rfl (gS rfl (gS rfl (gS rfl g0))))))))))))) (gS rfl (gS rfl (gS rfl (gS rfl (gS rfl (gS rfl (gS rfl (gS rfl (gS rfl (gS rfl (gS rfl (gS rfl g0)))))))))))) (gS rfl (gS rfl (gS rfl (gS rfl (gS rfl (gS rfl (gS rfl (gS rfl (gS rfl (gS rfl (gS rfl g0))))))))))) (gS rfl (gS rfl (gS rfl (gS rfl (gS rfl (gS rfl (gS rfl (gS rfl (gS rfl (gS rfl g0)))))))))) (gS rfl (gS rfl (gS rfl (gS rfl (gS rfl (gS rfl (gS rfl (gS rfl (gS rfl g0))))))))) (fun g => ?_)
                        refine c_region ?_
                        refine l_step (y_moveV (et (gS rfl (gS rfl g0)) rfl)) ?_
                        refine l_step (y_add (et g0 rfl) rfl (addIN (y := 1) ?_)) ?_
                        omega
                        exact (by
                          refine l_step (y_assignV (et g0 rfl)) ?_
                          refine l_nil ?_
                          refine hQ10 _ _ _ (in_normal ?_)
                          refine hK9 _ _ ?_
                          refine fg7 0 1 2 6 7 10 11 (gS rfl (gS rfl (gS rfl (gS rfl (gS rfl (gS rfl (gS rfl (gS rfl (gS rfl g0))))))))) (gS rfl (gS rfl (gS rfl (gS rfl (gS rfl (gS rfl (gS rfl (gS rfl g0)))))))) (gS rfl (gS rfl (gS rfl (gS rfl (gS rfl (gS rfl (gS rfl g0))))))) (gS rfl (gS rfl (gS rfl (gS rfl (gS rfl (gS rfl g0)))))) g0 (gS rfl (gS rfl (gS rfl (gS rfl g0)))) (gS rfl (gS rfl (gS rfl g0))) (fun g => ?_)
                          refine c_region ?_
                          refine l_step (y_add (et g0 rfl) rfl (addIN (y := 1) ?_)) ?_
                          omega
                          refine l_step (y_moveV (et g0 rfl)) ?_
                          refine l_nil ?_
                          refine fK7 0 1 2 6 7 10 11 (gS rfl (gS rfl (gS rfl (gS rfl (gS rfl (gS rfl (gS rfl (gS rfl g0)))))))) (gS rfl (gS rfl (gS rfl (gS rfl (gS rfl (gS rfl (gS rfl g0))))))) (gS rfl (gS rfl (gS rfl (gS rfl (gS rfl (gS rfl g0)))))) (gS rfl (gS rfl (gS rfl (gS rfl (gS rfl g0))))) (gS rfl (gS rfl (gS rfl (gS rfl g0)))) (gS rfl (gS rfl (gS rfl g0))) g0 (fun g => ?_)
                          exact hK5 (xs.length + ys.length - ((k + 1))) _ _ (by omega) ⟨g, (k + 1), i, (j + 1), (D ++ [ys[j]]), rfl, rfl, by omega, by omega, by omega, by rw [List.length_append, hD]; rfl, hM2, kO, V5⟩))))
            · skip
              
              have hlt : ¬ k < xs.length + ys.length := by have := of_decide_eq_false cB1; omega
              refine c_exit ?_
              refine hQ4 _ _ _ (in_exit ?_)
              refine end0 rfl ?_
              have e9 : D = List.merge xs ys leK := by rw [← hM, List.drop_of_length_le (by omega), List.drop_of_length_le (by omega), List.nil_merge, List.append_nil]
              exact ⟨rfl, U, by rw [← e9]; exact kO⟩))))
end Go.Proofs.YgvaawGreat
