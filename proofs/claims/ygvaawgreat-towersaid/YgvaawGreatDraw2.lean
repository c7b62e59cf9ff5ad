import Derived.Test.YgvaawGreatNH
set_option linter.unusedSimpArgs false
set_option linter.unusedVariables false
namespace Go.Proofs.YgvaawGreat
open Go
/-! Regions in which more than one effect may come next: a tree of plans. -/
structure PT where
  sem : (ops : Array Oper) → (Q : Exit → Act → World → Prop) → (S : World → Prop) → (fin : Nat) → Act → World → Prop
  ok : (ops : Array Oper) → (fin : Nat) → Nat → Array Bool → Bool
  sound : ∀ (ops : Array Oper) (Q : Exit → Act → World → Prop) (S : World → Prop) (fin : Nat), Region.noSelect ops = true → lastOk ops fin = true → ∀ (n : Nat) (listed : Array Bool) (a : Act) (w : World), ok ops fin n listed = true → Clo ops listed → (n = 0 ∨ S w) → sem ops Q S fin a w → anyS ops Q S fin n listed a w
/-- number of operations on each way -/
abbrev PT.fin : PT where
  sem := fun _ Q _ _ a w => Q .normal a w
  ok := fun ops _ n listed => (n == 0) && (Region.ready .any ops listed).isEmpty
  sound := by
    intro ops Q S fin hs hlast n listed a w hok _ _ h
    simp only [Bool.and_eq_true, beq_iff_eq] at hok
    obtain ⟨rfl, hok⟩ := hok
    exact ⟨by simpa using hok, h⟩
abbrev PT.pure (i : Nat) (t : PT) : PT where
  sem := fun ops Q S fin a w => ∃ v, YS S ops (ops.getD i default) v a ∧ t.sem ops Q S fin (a.put (ops.getD i default).dst v) w
  ok := fun ops fin n listed => match n with
    | 0 => false
    | n + 1 => decide (i < ops.size) && (i != fin) && (Region.ready .any ops listed).contains i && Region.free .any ops listed i && t.ok ops fin n (listed.setIfInBounds i true)
  sound := by
    intro ops Q S fin hs hlast n listed a w hok hclo hS h
    obtain ⟨v, hy, h⟩ := h
    cases n with
    | zero => cases hok
    | succ n =>
      simp only [Bool.and_eq_true, decide_eq_true_eq, bne_iff_ne] at hok
      obtain ⟨⟨⟨⟨hlt, hne⟩, hr⟩, hf⟩, hrest⟩ := hok
      have hi : ops[i]? = some (ops.getD i default) := by
        simp [hlt]
      have hS := hS.resolve_left (by simp)
      have hr' : i ∈ Region.ready .any ops listed := by simpa using hr
      exact first_S hi hne hlast (Region.noSelect_spec hs) n listed a w (Region.free_spec hi hf) hclo hr' hy hS (t.sound _ _ _ _ hs hlast n _ _ _ hrest (hclo.step hr') (.inr hS) h)
abbrev PT.eff (i : Nat) (t : PT) : PT where
  sem := fun ops Q S fin a w => wpOp Hvaa.prog ops (anyS.NoP Q) i (fun a' w' => (i = fin ∨ S w') ∧ t.sem ops Q S fin a' w') a w
  ok := fun ops fin n listed => match n with
    | 0 => false
    | n + 1 => (Region.ready .any ops listed == [i]) && (i != fin || n == 0) && t.ok ops fin n (listed.setIfInBounds i true)
  sound := by
    intro ops Q S fin hs hlast n listed a w hok hclo hS h
    cases n with
    | zero => cases hok
    | succ n =>
      simp only [Bool.and_eq_true, beq_iff_eq, Bool.or_eq_true, bne_iff_ne] at hok
      obtain ⟨⟨hr, hfr⟩, hrest⟩ := hok
      refine ⟨fun h0 => (by rw [h0] at hr; cases hr), fun j hj => ?_⟩
      have hj0 := hj
      rw [hr] at hj
      simp at hj
      subst hj
      refine wpOp_mono (fun a' w' h' => ⟨h'.1, t.sound _ _ _ _ hs hlast n _ a' w' hrest (hclo.step hj0) ?_ h'.2⟩) h
      rcases h'.1 with h1 | h1
      · rcases hfr with h2 | h2
        · exact absurd h1 h2
        · exact .inl h2
      · exact .inr h1
abbrev PT.two (i : Nat) (t : PT) (j : Nat) (u : PT) : PT where
  sem := fun ops Q S fin a w => wpOp Hvaa.prog ops (anyS.NoP Q) i (fun a' w' => (i = fin ∨ S w') ∧ t.sem ops Q S fin a' w') a w ∧ wpOp Hvaa.prog ops (anyS.NoP Q) j (fun a' w' => (j = fin ∨ S w') ∧ u.sem ops Q S fin a' w') a w
  ok := fun ops fin n listed => match n with
    | 0 => false
    | n + 1 => (Region.ready .any ops listed == [i, j]) && (i != fin) && (j != fin) && t.ok ops fin n (listed.setIfInBounds i true) && u.ok ops fin n (listed.setIfInBounds j true)
  sound := by
    intro ops Q S fin hs hlast n listed a w hok hclo hS h
    cases n with
    | zero => cases hok
    | succ n =>
      simp only [Bool.and_eq_true, beq_iff_eq, bne_iff_ne] at hok
      obtain ⟨⟨⟨⟨hr, hi⟩, hj⟩, ht⟩, hu⟩ := hok
      refine ⟨fun h0 => (by rw [h0] at hr; cases hr), fun q hq => ?_⟩
      have hq0 := hq
      rw [hr] at hq
      simp at hq
      rcases hq with rfl | rfl
      · exact wpOp_mono (fun a' w' h' => ⟨h'.1, t.sound _ _ _ _ hs hlast n _ a' w' ht (hclo.step hq0) (.inr (h'.1.resolve_left hi)) h'.2⟩) h.1
      · exact wpOp_mono (fun a' w' h' => ⟨h'.1, u.sound _ _ _ _ hs hlast n _ a' w' hu (hclo.step hq0) (.inr (h'.1.resolve_left hj)) h'.2⟩) h.2
abbrev PT.three (i : Nat) (t : PT) (j : Nat) (u : PT) (k : Nat) (r : PT) : PT where
  sem := fun ops Q S fin a w => wpOp Hvaa.prog ops (anyS.NoP Q) i (fun a' w' => (i = fin ∨ S w') ∧ t.sem ops Q S fin a' w') a w ∧ wpOp Hvaa.prog ops (anyS.NoP Q) j (fun a' w' => (j = fin ∨ S w') ∧ u.sem ops Q S fin a' w') a w ∧ wpOp Hvaa.prog ops (anyS.NoP Q) k (fun a' w' => (k = fin ∨ S w') ∧ r.sem ops Q S fin a' w') a w
  ok := fun ops fin n listed => match n with
    | 0 => false
    | n + 1 => (Region.ready .any ops listed == [i, j, k]) && (i != fin) && (j != fin) && (k != fin) && t.ok ops fin n (listed.setIfInBounds i true) && u.ok ops fin n (listed.setIfInBounds j true) && r.ok ops fin n (listed.setIfInBounds k true)
  sound := by
    intro ops Q S fin hs hlast n listed a w hok hclo hS h
    cases n with
    | zero => cases hok
    | succ n =>
      simp only [Bool.and_eq_true, beq_iff_eq, bne_iff_ne] at hok
      obtain ⟨⟨⟨⟨⟨⟨hr, hi⟩, hj⟩, hk⟩, ht⟩, hu⟩, hv⟩ := hok
      refine ⟨fun h0 => (by rw [h0] at hr; cases hr), fun q hq => ?_⟩
      have hq0 := hq
      rw [hr] at hq
      simp at hq
      rcases hq with rfl | rfl | rfl
      · exact wpOp_mono (fun a' w' h' => ⟨h'.1, t.sound _ _ _ _ hs hlast n _ a' w' ht (hclo.step hq0) (.inr (h'.1.resolve_left hi)) h'.2⟩) h.1
      · exact wpOp_mono (fun a' w' h' => ⟨h'.1, u.sound _ _ _ _ hs hlast n _ a' w' hu (hclo.step hq0) (.inr (h'.1.resolve_left hj)) h'.2⟩) h.2.1
      · exact wpOp_mono (fun a' w' h' => ⟨h'.1, r.sound _ _ _ _ hs hlast n _ a' w' hv (hclo.step hq0) (.inr (h'.1.resolve_left hk)) h'.2⟩) h.2.2
structure WT (ops : Array Oper) (Q : Exit → Act → World → Prop) (S : World → Prop) (fin : Nat) (t : PT) (n : Nat) (s : Nat → Value) (w : World) : Prop where
  out : t.sem ops Q S fin (mk n s) w
/-- such a region; J: what is known behind it -/
theorem c_drawJ {Q : Exit → Act → World → Prop} {n : Nat} {s : Nat → Value} {w : World} {id : Nat} {l : List Oper} (J : (Nat → Value) → World → Prop) (S : World → World → Prop) (fin : Nat) (t : PT)
    (hok : (Region.noSelect l.toArray && (lastOk l.toArray fin && (t.ok l.toArray fin l.toArray.size (Array.replicate l.toArray.size false)))) = true)
    (h : ∀ w0, Up w w0 → S w0 w0 ∧ WT l.toArray (fun _ a w' => ∃ s', a = mk n s' ∧ J s' w') (S w0) fin t n s w0) (hJ : ∀ s' w', J s' w' → Q .normal (mk n s') w') : (Code.region id l.toArray true).wp Hvaa.prog Q (mk n s) w := by
  simp only [Bool.and_eq_true] at hok
  obtain ⟨h1, h4, h2⟩ := hok
  obtain ⟨hS, hp⟩ := h _ (Up.drew w)
  have := t.sound _ _ _ _ h1 h4 _ _ _ _ h2 (clo_start _) (.inr hS) hp.out
  refine Code.wp_mono (Q := anyS.NoP (fun _ a w' => ∃ s', a = mk n s' ∧ J s' w')) (fun e a w hq => ?_) (wp_region_any follows_mixed (any_of_anyS _ _ _ _ this))
  obtain ⟨rfl, s', rfl, hq⟩ := hq
  exact hJ s' w hq
section
variable {Q : Exit → Act → World → Prop} {S : World → Prop} {n fin : Nat} {s : Nat → Value} {w : World} {ops : Array Oper} {t u r : PT} {op : Op} {ty : TypeId} {pos : String} {af : Array Edge} {v : Value} {i j k : Nat} {R : Value → World → Prop} {J : (Nat → Value) → World → Prop}
theorem t_leaf (h : J s w) : WT ops (fun _ a w' => ∃ s', a = mk n s' ∧ J s' w') S fin .fin n s w := ⟨⟨s, rfl, h⟩⟩
theorem t_step {d : Nat} (hi : ops.getD i default = ⟨some d, op, ty, pos, af, none⟩) (hy : Yv S n s ⟨some d, op, ty, pos, af, none⟩ v) (h : WT ops Q S fin t n (upd s d v) w) : WT ops Q S fin (.pure i t) n s w := by
  refine ⟨⟨v, ?_, ?_⟩⟩
  · rw [hi]; exact .inl ⟨rfl, fun w hw => by rw [mk_eval']; exact hy w hw⟩
  · rw [hi, mk_put]; exact h.out
/-- one effect -/
structure W1 (ops : Array Oper) (Q : Exit → Act → World → Prop) (S : World → Prop) (fin i : Nat) (t : PT) (n : Nat) (s : Nat → Value) (w : World) : Prop where
  out : wpOp Hvaa.prog ops (anyS.NoP Q) i (fun a' w' => (i = fin ∨ S w') ∧ t.sem ops Q S fin a' w') (mk n s) w
theorem t_one (h : W1 ops Q S fin i t n s w) : WT ops Q S fin (.eff i t) n s w := ⟨h.out⟩
theorem t_two (h : W1 ops Q S fin i t n s w) (h2 : W1 ops Q S fin j u n s w) : WT ops Q S fin (.two i t j u) n s w := ⟨⟨h.out, h2.out⟩⟩
theorem t_three (h : W1 ops Q S fin i t n s w) (h2 : W1 ops Q S fin j u n s w) (h3 : W1 ops Q S fin k r n s w) : WT ops Q S fin (.three i t j u k r) n s w := ⟨⟨h.out, h2.out, h3.out⟩⟩
theorem t_eff {d : Nat} (hi : ops[i]? = some ⟨some d, op, ty, pos, af, none⟩) (he : Eff n s w ⟨some d, op, ty, pos, af, none⟩ R) (h : ∀ v w', R v w' → (i = fin ∨ S w') ∧ WT ops Q S fin t n (upd s d v) w') : W1 ops Q S fin i t n s w := by
  refine ⟨?_⟩
  unfold wpOp
  simp only [hi]
  rw [if_pos (show Region.wanted ⟨some d, op, ty, pos, af, none⟩ (yielded ops (mk n s).tmps) = true from rfl)]
  exact .inl (he.out _ _ fun v w' hv => by rw [mk_put]; exact ⟨(h v w' hv).1, (h v w' hv).2.out⟩)
theorem t_effN (hi : ops[i]? = some ⟨none, op, ty, pos, af, none⟩) (he : Eff n s w ⟨none, op, ty, pos, af, none⟩ R) (h : ∀ v w', R v w' → (i = fin ∨ S w') ∧ WT ops Q S fin t n s w') : W1 ops Q S fin i t n s w := by
  refine ⟨?_⟩
  unfold wpOp
  simp only [hi]
  rw [if_pos (show Region.wanted ⟨none, op, ty, pos, af, none⟩ (yielded ops (mk n s).tmps) = true from rfl)]
  exact .inl (he.out _ _ fun v w' hv => by rw [mk_put]; exact ⟨(h v w' hv).1, (h v w' hv).2.out⟩)
end
/-! The values of the slots as variables. -/
section
variable {Q : Exit → Act → World → Prop} {n : Nat} {s : Nat → Value} {w : World} {c : Code}
theorem fgv1 (i1 : Nat) {v1 : Value} (h1 : s i1 = v1) (h : ∀ (g : Nat → Value) (z1 : Value), z1 = v1 → c.wp Hvaa.prog Q (mk n (upd g i1 z1)) w) : c.wp Hvaa.prog Q (mk n s) w := by
  have e := h s v1 rfl
  rw [upd_self (s := s) (i := i1) h1] at e
  exact e
theorem fgv2 (i1 i2 : Nat) {v1 v2 : Value} (h1 : s i1 = v1) (h2 : s i2 = v2) (h : ∀ (g : Nat → Value) (z1 z2 : Value), z1 = v1 → z2 = v2 → c.wp Hvaa.prog Q (mk n (upd (upd g i1 z1) i2 z2)) w) : c.wp Hvaa.prog Q (mk n s) w := by
  have e := h s v1 v2 rfl rfl
  rw [upd_self (s := s) (i := i1) h1] at e
  rw [upd_self (s := s) (i := i2) h2] at e
  exact e
theorem fgv3 (i1 i2 i3 : Nat) {v1 v2 v3 : Value} (h1 : s i1 = v1) (h2 : s i2 = v2) (h3 : s i3 = v3) (h : ∀ (g : Nat → Value) (z1 z2 z3 : Value), z1 = v1 → z2 = v2 → z3 = v3 → c.wp Hvaa.prog Q (mk n (upd (upd (upd g i1 z1) i2 z2) i3 z3)) w) : c.wp Hvaa.prog Q (mk n s) w := by
  have e := h s v1 v2 v3 rfl rfl rfl
  rw [upd_self (s := s) (i := i1) h1] at e
  rw [upd_self (s := s) (i := i2) h2] at e
  rw [upd_self (s := s) (i := i3) h3] at e
  exact e
theorem fgv4 (i1 i2 i3 i4 : Nat) {v1 v2 v3 v4 : Value} (h1 : s i1 = v1) (h2 : s i2 = v2) (h3 : s i3 = v3) (h4 : s i4 = v4) (h : ∀ (g : Nat → Value) (z1 z2 z3 z4 : Value), z1 = v1 → z2 = v2 → z3 = v3 → z4 = v4 → c.wp Hvaa.prog Q (mk n (upd (upd (upd (upd g i1 z1) i2 z2) i3 z3) i4 z4)) w) : c.wp Hvaa.prog Q (mk n s) w := by
  have e := h s v1 v2 v3 v4 rfl rfl rfl rfl
  rw [upd_self (s := s) (i := i1) h1] at e
  rw [upd_self (s := s) (i := i2) h2] at e
  rw [upd_self (s := s) (i := i3) h3] at e
  rw [upd_self (s := s) (i := i4) h4] at e
  exact e
theorem fgv5 (i1 i2 i3 i4 i5 : Nat) {v1 v2 v3 v4 v5 : Value} (h1 : s i1 = v1) (h2 : s i2 = v2) (h3 : s i3 = v3) (h4 : s i4 = v4) (h5 : s i5 = v5) (h : ∀ (g : Nat → Value) (z1 z2 z3 z4 z5 : Value), z1 = v1 → z2 = v2 → z3 = v3 → z4 = v4 → z5 = v5 → c.wp Hvaa.prog Q (mk n (upd (upd (upd (upd (upd g i1 z1) i2 z2) i3 z3) i4 z4) i5 z5)) w) : c.wp Hvaa.prog Q (mk n s) w := by
  have e := h s v1 v2 v3 v4 v5 rfl rfl rfl rfl rfl
  rw [upd_self (s := s) (i := i1) h1] at e
  rw [upd_self (s := s) (i := i2) h2] at e
  rw [upd_self (s := s) (i := i3) h3] at e
  rw [upd_self (s := s) (i := i4) h4] at e
  rw [upd_self (s := s) (i := i5) h5] at e
  exact e
theorem fgv6 (i1 i2 i3 i4 i5 i6 : Nat) {v1 v2 v3 v4 v5 v6 : Value} (h1 : s i1 = v1) (h2 : s i2 = v2) (h3 : s i3 = v3) (h4 : s i4 = v4) (h5 : s i5 = v5) (h6 : s i6 = v6) (h : ∀ (g : Nat → Value) (z1 z2 z3 z4 z5 z6 : Value), z1 = v1 → z2 = v2 → z3 = v3 → z4 = v4 → z5 = v5 → z6 = v6 → c.wp Hvaa.prog Q (mk n (upd (upd (upd (upd (upd (upd g i1 z1) i2 z2) i3 z3) i4 z4) i5 z5) i6 z6)) w) : c.wp Hvaa.prog Q (mk n s) w := by
  have e := h s v1 v2 v3 v4 v5 v6 rfl rfl rfl rfl rfl rfl
  rw [upd_self (s := s) (i := i1) h1] at e
  rw [upd_self (s := s) (i := i2) h2] at e
  rw [upd_self (s := s) (i := i3) h3] at e
  rw [upd_self (s := s) (i := i4) h4] at e
  rw [upd_self (s := s) (i := i5) h5] at e
  rw [upd_self (s := s) (i := i6) h6] at e
  exact e
theorem fgv7 (i1 i2 i3 i4 i5 i6 i7 : Nat) {v1 v2 v3 v4 v5 v6 v7 : Value} (h1 : s i1 = v1) (h2 : s i2 = v2) (h3 : s i3 = v3) (h4 : s i4 = v4) (h5 : s i5 = v5) (h6 : s i6 = v6) (h7 : s i7 = v7) (h : ∀ (g : Nat → Value) (z1 z2 z3 z4 z5 z6 z7 : Value), z1 = v1 → z2 = v2 → z3 = v3 → z4 = v4 → z5 = v5 → z6 = v6 → z7 = v7 → c.wp Hvaa.prog Q (mk n (upd (upd (upd (upd (upd (upd (upd g i1 z1) i2 z2) i3 z3) i4 z4) i5 z5) i6 z6) i7 z7)) w) : c.wp Hvaa.prog Q (mk n s) w := by
  have e := h s v1 v2 v3 v4 v5 v6 v7 rfl rfl rfl rfl rfl rfl rfl
  rw [upd_self (s := s) (i := i1) h1] at e
  rw [upd_self (s := s) (i := i2) h2] at e
  rw [upd_self (s := s) (i := i3) h3] at e
  rw [upd_self (s := s) (i := i4) h4] at e
  rw [upd_self (s := s) (i := i5) h5] at e
  rw [upd_self (s := s) (i := i6) h6] at e
  rw [upd_self (s := s) (i := i7) h7] at e
  exact e
theorem fgv8 (i1 i2 i3 i4 i5 i6 i7 i8 : Nat) {v1 v2 v3 v4 v5 v6 v7 v8 : Value} (h1 : s i1 = v1) (h2 : s i2 = v2) (h3 : s i3 = v3) (h4 : s i4 = v4) (h5 : s i5 = v5) (h6 : s i6 = v6) (h7 : s i7 = v7) (h8 : s i8 = v8) (h : ∀ (g : Nat → Value) (z1 z2 z3 z4 z5 z6 z7 z8 : Value), z1 = v1 → z2 = v2 → z3 = v3 → z4 = v4 → z5 = v5 → z6 = v6 → z7 = v7 → z8 = v8 → c.wp Hvaa.prog Q (mk n (upd (upd (upd (upd (upd (upd (upd (upd g i1 z1) i2 z2) i3 z3) i4 z4) i5 z5) i6 z6) i7 z7) i8 z8)) w) : c.wp Hvaa.prog Q (mk n s) w := by
  have e := h s v1 v2 v3 v4 v5 v6 v7 v8 rfl rfl rfl rfl rfl rfl rfl rfl
  rw [upd_self (s := s) (i := i1) h1] at e
  rw [upd_self (s := s) (i := i2) h2] at e
  rw [upd_self (s := s) (i := i3) h3] at e
  rw [upd_self (s := s) (i := i4) h4] at e
  rw [upd_self (s := s) (i := i5) h5] at e
  rw [upd_self (s := s) (i := i6) h6] at e
  rw [upd_self (s := s) (i := i7) h7] at e
  rw [upd_self (s := s) (i := i8) h8] at e
  exact e
theorem fgv9 (i1 i2 i3 i4 i5 i6 i7 i8 i9 : Nat) {v1 v2 v3 v4 v5 v6 v7 v8 v9 : Value} (h1 : s i1 = v1) (h2 : s i2 = v2) (h3 : s i3 = v3) (h4 : s i4 = v4) (h5 : s i5 = v5) (h6 : s i6 = v6) (h7 : s i7 = v7) (h8 : s i8 = v8) (h9 : s i9 = v9) (h : ∀ (g : Nat → Value) (z1 z2 z3 z4 z5 z6 z7 z8 z9 : Value), z1 = v1 → z2 = v2 → z3 = v3 → z4 = v4 → z5 = v5 → z6 = v6 → z7 = v7 → z8 = v8 → z9 = v9 → c.wp Hvaa.prog Q (mk n (upd (upd (upd (upd (upd (upd (upd (upd (upd g i1 z1) i2 z2) i3 z3) i4 z4) i5 z5) i6 z6) i7 z7) i8 z8) i9 z9)) w) : c.wp Hvaa.prog Q (mk n s) w := by
  have e := h s v1 v2 v3 v4 v5 v6 v7 v8 v9 rfl rfl rfl rfl rfl rfl rfl rfl rfl
  rw [upd_self (s := s) (i := i1) h1] at e
  rw [upd_self (s := s) (i := i2) h2] at e
  rw [upd_self (s := s) (i := i3) h3] at e
  rw [upd_self (s := s) (i := i4) h4] at e
  rw [upd_self (s := s) (i := i5) h5] at e
  rw [upd_self (s := s) (i := i6) h6] at e
  rw [upd_self (s := s) (i := i7) h7] at e
  rw [upd_self (s := s) (i := i8) h8] at e
  rw [upd_self (s := s) (i := i9) h9] at e
  exact e
theorem fgv10 (i1 i2 i3 i4 i5 i6 i7 i8 i9 i10 : Nat) {v1 v2 v3 v4 v5 v6 v7 v8 v9 v10 : Value} (h1 : s i1 = v1) (h2 : s i2 = v2) (h3 : s i3 = v3) (h4 : s i4 = v4) (h5 : s i5 = v5) (h6 : s i6 = v6) (h7 : s i7 = v7) (h8 : s i8 = v8) (h9 : s i9 = v9) (h10 : s i10 = v10) (h : ∀ (g : Nat → Value) (z1 z2 z3 z4 z5 z6 z7 z8 z9 z10 : Value), z1 = v1 → z2 = v2 → z3 = v3 → z4 = v4 → z5 = v5 → z6 = v6 → z7 = v7 → z8 = v8 → z9 = v9 → z10 = v10 → c.wp Hvaa.prog Q (mk n (upd (upd (upd (upd (upd (upd (upd (upd (upd (upd g i1 z1) i2 z2) i3 z3) i4 z4) i5 z5) i6 z6) i7 z7) i8 z8) i9 z9) i10 z10)) w) : c.wp Hvaa.prog Q (mk n s) w := by
  have e := h s v1 v2 v3 v4 v5 v6 v7 v8 v9 v10 rfl rfl rfl rfl rfl rfl rfl rfl rfl rfl
  rw [upd_self (s := s) (i := i1) h1] at e
  rw [upd_self (s := s) (i := i2) h2] at e
  rw [upd_self (s := s) (i := i3) h3] at e
  rw [upd_self (s := s) (i := i4) h4] at e
  rw [upd_self (s := s) (i := i5) h5] at e
  rw [upd_self (s := s) (i := i6) h6] at e
  rw [upd_self (s := s) (i := i7) h7] at e
  rw [upd_self (s := s) (i := i8) h8] at e
  rw [upd_self (s := s) (i := i9) h9] at e
  rw [upd_self (s := s) (i := i10) h10] at e
  exact e
theorem fgv11 (i1 i2 i3 i4 i5 i6 i7 i8 i9 i10 i11 : Nat) {v1 v2 v3 v4 v5 v6 v7 v8 v9 v10 v11 : Value} (h1 : s i1 = v1) (h2 : s i2 = v2) (h3 : s i3 = v3) (h4 : s i4 = v4) (h5 : s i5 = v5) (h6 : s i6 = v6) (h7 : s i7 = v7) (h8 : s i8 = v8) (h9 : s i9 = v9) (h10 : s i10 = v10) (h11 : s i11 = v11) (h : ∀ (g : Nat → Value) (z1 z2 z3 z4 z5 z6 z7 z8 z9 z10 z11 : Value), z1 = v1 → z2 = v2 → z3 = v3 → z4 = v4 → z5 = v5 → z6 = v6 → z7 = v7 → z8 = v8 → z9 = v9 → z10 = v10 → z11 = v11 → c.wp Hvaa.prog Q (mk n (upd (upd (upd (upd (upd (upd (upd (upd (upd (upd (upd g i1 z1) i2 z2) i3 z3) i4 z4) i5 z5) i6 z6) i7 z7) i8 z8) i9 z9) i10 z10) i11 z11)) w) : c.wp Hvaa.prog Q (mk n s) w := by
  have e := h s v1 v2 v3 v4 v5 v6 v7 v8 v9 v10 v11 rfl rfl rfl rfl rfl rfl rfl rfl rfl rfl rfl
  rw [upd_self (s := s) (i := i1) h1] at e
  rw [upd_self (s := s) (i := i2) h2] at e
  rw [upd_self (s := s) (i := i3) h3] at e
  rw [upd_self (s := s) (i := i4) h4] at e
  rw [upd_self (s := s) (i := i5) h5] at e
  rw [upd_self (s := s) (i := i6) h6] at e
  rw [upd_self (s := s) (i := i7) h7] at e
  rw [upd_self (s := s) (i := i8) h8] at e
  rw [upd_self (s := s) (i := i9) h9] at e
  rw [upd_self (s := s) (i := i10) h10] at e
  rw [upd_self (s := s) (i := i11) h11] at e
  exact e
theorem fgv12 (i1 i2 i3 i4 i5 i6 i7 i8 i9 i10 i11 i12 : Nat) {v1 v2 v3 v4 v5 v6 v7 v8 v9 v10 v11 v12 : Value} (h1 : s i1 = v1) (h2 : s i2 = v2) (h3 : s i3 = v3) (h4 : s i4 = v4) (h5 : s i5 = v5) (h6 : s i6 = v6) (h7 : s i7 = v7) (h8 : s i8 = v8) (h9 : s i9 = v9) (h10 : s i10 = v10) (h11 : s i11 = v11) (h12 : s i12 = v12) (h : ∀ (g : Nat → Value) (z1 z2 z3 z4 z5 z6 z7 z8 z9 z10 z11 z12 : Value), z1 = v1 → z2 = v2 → z3 = v3 → z4 = v4 → z5 = v5 → z6 = v6 → z7 = v7 → z8 = v8 → z9 = v9 → z10 = v10 → z11 = v11 → z12 = v12 → c.wp Hvaa.prog Q (mk n (upd (upd (upd (upd (upd (upd (upd (upd (upd (upd (upd (upd g i1 z1) i2 z2) i3 z3) i4 z4) i5 z5) i6 z6) i7 z7) i8 z8) i9 z9) i10 z10) i11 z11) i12 z12)) w) : c.wp Hvaa.prog Q (mk n s) w := by
  have e := h s v1 v2 v3 v4 v5 v6 v7 v8 v9 v10 v11 v12 rfl rfl rfl rfl rfl rfl rfl rfl rfl rfl rfl rfl
  rw [upd_self (s := s) (i := i1) h1] at e
  rw [upd_self (s := s) (i := i2) h2] at e
  rw [upd_self (s := s) (i := i3) h3] at e
  rw [upd_self (s := s) (i := i4) h4] at e
  rw [upd_self (s := s) (i := i5) h5] at e
  rw [upd_self (s := s) (i := i6) h6] at e
  rw [upd_self (s := s) (i := i7) h7] at e
  rw [upd_self (s := s) (i := i8) h8] at e
  rw [upd_self (s := s) (i := i9) h9] at e
  rw [upd_self (s := s) (i := i10) h10] at e
  rw [upd_self (s := s) (i := i11) h11] at e
  rw [upd_self (s := s) (i := i12) h12] at e
  exact e
theorem fgv13 (i1 i2 i3 i4 i5 i6 i7 i8 i9 i10 i11 i12 i13 : Nat) {v1 v2 v3 v4 v5 v6 v7 v8 v9 v10 v11 v12 v13 : Value} (h1 : s i1 = v1) (h2 : s i2 = v2) (h3 : s i3 = v3) (h4 : s i4 = v4) (h5 : s i5 = v5) (h6 : s i6 = v6) (h7 : s i7 = v7) (h8 : s i8 = v8) (h9 : s i9 = v9) (h10 : s i10 = v10) (h11 : s i11 = v11) (h12 : s i12 = v12) (h13 : s i13 = v13) (h : ∀ (g : Nat → Value) (z1 z2 z3 z4 z5 z6 z7 z8 z9 z10 z11 z12 z13 : Value), z1 = v1 → z2 = v2 → z3 = v3 → z4 = v4 → z5 = v5 → z6 = v6 → z7 = v7 → z8 = v8 → z9 = v9 → z10 = v10 → z11 = v11 → z12 = v12 → z13 = v13 → c.wp Hvaa.prog Q (mk n (upd (upd (upd (upd (upd (upd (upd (upd (upd (upd (upd (upd (upd g i1 z1) i2 z2) i3 z3) i4 z4) i5 z5) i6 z6) i7 z7) i8 z8) i9 z9) i10 z10) i11 z11) i12 z12) i13 z13)) w) : c.wp Hvaa.prog Q (mk n s) w := by
  have e := h s v1 v2 v3 v4 v5 v6 v7 v8 v9 v10 v11 v12 v13 rfl rfl rfl rfl rfl rfl rfl rfl rfl rfl rfl rfl rfl
  rw [upd_self (s := s) (i := i1) h1] at e
  rw [upd_self (s := s) (i := i2) h2] at e
  rw [upd_self (s := s) (i := i3) h3] at e
  rw [upd_self (s := s) (i := i4) h4] at e
  rw [upd_self (s := s) (i := i5) h5] at e
  rw [upd_self (s := s) (i := i6) h6] at e
  rw [upd_self (s := s) (i := i7) h7] at e
  rw [upd_self (s := s) (i := i8) h8] at e
  rw [upd_self (s := s) (i := i9) h9] at e
  rw [upd_self (s := s) (i := i10) h10] at e
  rw [upd_self (s := s) (i := i11) h11] at e
  rw [upd_self (s := s) (i := i12) h12] at e
  rw [upd_self (s := s) (i := i13) h13] at e
  exact e
theorem fgv14 (i1 i2 i3 i4 i5 i6 i7 i8 i9 i10 i11 i12 i13 i14 : Nat) {v1 v2 v3 v4 v5 v6 v7 v8 v9 v10 v11 v12 v13 v14 : Value} (h1 : s i1 = v1) (h2 : s i2 = v2) (h3 : s i3 = v3) (h4 : s i4 = v4) (h5 : s i5 = v5) (h6 : s i6 = v6) (h7 : s i7 = v7) (h8 : s i8 = v8) (h9 : s i9 = v9) (h10 : s i10 = v10) (h11 : s i11 = v11) (h12 : s i12 = v12) (h13 : s i13 = v13) (h14 : s i14 = v14) (h : ∀ (g : Nat → Value) (z1 z2 z3 z4 z5 z6 z7 z8 z9 z10 z11 z12 z13 z14 : Value), z1 = v1 → z2 = v2 → z3 = v3 → z4 = v4 → z5 = v5 → z6 = v6 → z7 = v7 → z8 = v8 → z9 = v9 → z10 = v10 → z11 = v11 → z12 = v12 → z13 = v13 → z14 = v14 → c.wp Hvaa.prog Q (mk n (upd (upd (upd (upd (upd (upd (upd (upd (upd (upd (upd (upd (upd (upd g i1 z1) i2 z2) i3 z3) i4 z4) i5 z5) i6 z6) i7 z7) i8 z8) i9 z9) i10 z10) i11 z11) i12 z12) i13 z13) i14 z14)) w) : c.wp Hvaa.prog Q (mk n s) w := by
  have e := h s v1 v2 v3 v4 v5 v6 v7 v8 v9 v10 v11 v12 v13 v14 rfl rfl rfl rfl rfl rfl rfl rfl rfl rfl rfl rfl rfl rfl
  rw [upd_self (s := s) (i := i1) h1] at e
  rw [upd_self (s := s) (i := i2) h2] at e
  rw [upd_self (s := s) (i := i3) h3] at e
  rw [upd_self (s := s) (i := i4) h4] at e
  rw [upd_self (s := s) (i := i5) h5] at e
  rw [upd_self (s := s) (i := i6) h6] at e
  rw [upd_self (s := s) (i := i7) h7] at e
  rw [upd_self (s := s) (i := i8) h8] at e
  rw [upd_self (s := s) (i := i9) h9] at e
  rw [upd_self (s := s) (i := i10) h10] at e
  rw [upd_self (s := s) (i := i11) h11] at e
  rw [upd_self (s := s) (i := i12) h12] at e
  rw [upd_self (s := s) (i := i13) h13] at e
  rw [upd_self (s := s) (i := i14) h14] at e
  exact e
theorem fgv15 (i1 i2 i3 i4 i5 i6 i7 i8 i9 i10 i11 i12 i13 i14 i15 : Nat) {v1 v2 v3 v4 v5 v6 v7 v8 v9 v10 v11 v12 v13 v14 v15 : Value} (h1 : s i1 = v1) (h2 : s i2 = v2) (h3 : s i3 = v3) (h4 : s i4 = v4) (h5 : s i5 = v5) (h6 : s i6 = v6) (h7 : s i7 = v7) (h8 : s i8 = v8) (h9 : s i9 = v9) (h10 : s i10 = v10) (h11 : s i11 = v11) (h12 : s i12 = v12) (h13 : s i13 = v13) (h14 : s i14 = v14) (h15 : s i15 = v15) (h : ∀ (g : Nat → Value) (z1 z2 z3 z4 z5 z6 z7 z8 z9 z10 z11 z12 z13 z14 z15 : Value), z1 = v1 → z2 = v2 → z3 = v3 → z4 = v4 → z5 = v5 → z6 = v6 → z7 = v7 → z8 = v8 → z9 = v9 → z10 = v10 → z11 = v11 → z12 = v12 → z13 = v13 → z14 = v14 → z15 = v15 → c.wp Hvaa.prog Q (mk n (upd (upd (upd (upd (upd (upd (upd (upd (upd (upd (upd (upd (upd (upd (upd g i1 z1) i2 z2) i3 z3) i4 z4) i5 z5) i6 z6) i7 z7) i8 z8) i9 z9) i10 z10) i11 z11) i12 z12) i13 z13) i14 z14) i15 z15)) w) : c.wp Hvaa.prog Q (mk n s) w := by
  have e := h s v1 v2 v3 v4 v5 v6 v7 v8 v9 v10 v11 v12 v13 v14 v15 rfl rfl rfl rfl rfl rfl rfl rfl rfl rfl rfl rfl rfl rfl rfl
  rw [upd_self (s := s) (i := i1) h1] at e
  rw [upd_self (s := s) (i := i2) h2] at e
  rw [upd_self (s := s) (i := i3) h3] at e
  rw [upd_self (s := s) (i := i4) h4] at e
  rw [upd_self (s := s) (i := i5) h5] at e
  rw [upd_self (s := s) (i := i6) h6] at e
  rw [upd_self (s := s) (i := i7) h7] at e
  rw [upd_self (s := s) (i := i8) h8] at e
  rw [upd_self (s := s) (i := i9) h9] at e
  rw [upd_self (s := s) (i := i10) h10] at e
  rw [upd_self (s := s) (i := i11) h11] at e
  rw [upd_self (s := s) (i := i12) h12] at e
  rw [upd_self (s := s) (i := i13) h13] at e
  rw [upd_self (s := s) (i := i14) h14] at e
  rw [upd_self (s := s) (i := i15) h15] at e
  exact e
theorem fgv16 (i1 i2 i3 i4 i5 i6 i7 i8 i9 i10 i11 i12 i13 i14 i15 i16 : Nat) {v1 v2 v3 v4 v5 v6 v7 v8 v9 v10 v11 v12 v13 v14 v15 v16 : Value} (h1 : s i1 = v1) (h2 : s i2 = v2) (h3 : s i3 = v3) (h4 : s i4 = v4) (h5 : s i5 = v5) (h6 : s i6 = v6) (h7 : s i7 = v7) (h8 : s i8 = v8) (h9 : s i9 = v9) (h10 : s i10 = v10) (h11 : s i11 = v11) (h12 : s i12 = v12) (h13 : s i13 = v13) (h14 : s i14 = v14) (h15 : s i15 = v15) (h16 : s i16 = v16) (h : ∀ (g : Nat → Value) (z1 z2 z3 z4 z5 z6 z7 z8 z9 z10 z11 z12 z13 z14 z15 z16 : Value), z1 = v1 → z2 = v2 → z3 = v3 → z4 = v4 → z5 = v5 → z6 = v6 → z7 = v7 → z8 = v8 → z9 = v9 → z10 = v10 → z11 = v11 → z12 = v12 → z13 = v13 → z14 = v14 → z15 = v15 → z16 = v16 → c.wp Hvaa.prog Q (mk n (upd (upd (upd (upd (upd (upd (upd (upd (upd (upd (upd (upd (upd (upd (upd (upd g i1 z1) i2 z2) i3 z3) i4 z4) i5 z5) i6 z6) i7 z7) i8 z8) i9 z9) i10 z10) i11 z11) i12 z12) i13 z13) i14 z14) i15 z15) i16 z16)) w) : c.wp Hvaa.prog Q (mk n s) w := by
  have e := h s v1 v2 v3 v4 v5 v6 v7 v8 v9 v10 v11 v12 v13 v14 v15 v16 rfl rfl rfl rfl rfl rfl rfl rfl rfl rfl rfl rfl rfl rfl rfl rfl
  rw [upd_self (s := s) (i := i1) h1] at e
  rw [upd_self (s := s) (i := i2) h2] at e
  rw [upd_self (s := s) (i := i3) h3] at e
  rw [upd_self (s := s) (i := i4) h4] at e
  rw [upd_self (s := s) (i := i5) h5] at e
  rw [upd_self (s := s) (i := i6) h6] at e
  rw [upd_self (s := s) (i := i7) h7] at e
  rw [upd_self (s := s) (i := i8) h8] at e
  rw [upd_self (s := s) (i := i9) h9] at e
  rw [upd_self (s := s) (i := i10) h10] at e
  rw [upd_self (s := s) (i := i11) h11] at e
  rw [upd_self (s := s) (i := i12) h12] at e
  rw [upd_self (s := s) (i := i13) h13] at e
  rw [upd_self (s := s) (i := i14) h14] at e
  rw [upd_self (s := s) (i := i15) h15] at e
  rw [upd_self (s := s) (i := i16) h16] at e
  exact e
theorem fgv17 (i1 i2 i3 i4 i5 i6 i7 i8 i9 i10 i11 i12 i13 i14 i15 i16 i17 : Nat) {v1 v2 v3 v4 v5 v6 v7 v8 v9 v10 v11 v12 v13 v14 v15 v16 v17 : Value} (h1 : s i1 = v1) (h2 : s i2 = v2) (h3 : s i3 = v3) (h4 : s i4 = v4) (h5 : s i5 = v5) (h6 : s i6 = v6) (h7 : s i7 = v7) (h8 : s i8 = v8) (h9 : s i9 = v9) (h10 : s i10 = v10) (h11 : s i11 = v11) (h12 : s i12 = v12) (h13 : s i13 = v13) (h14 : s i14 = v14) (h15 : s i15 = v15) (h16 : s i16 = v16) (h17 : s i17 = v17) (h : ∀ (g : Nat → Value) (z1 z2 z3 z4 z5 z6 z7 z8 z9 z10 z11 z12 z13 z14 z15 z16 z17 : Value), z1 = v1 → z2 = v2 → z3 = v3 → z4 = v4 → z5 = v5 → z6 = v6 → z7 = v7 → z8 = v8 → z9 = v9 → z10 = v10 → z11 = v11 → z12 = v12 → z13 = v13 → z14 = v14 → z15 = v15 → z16 = v16 → z17 = v17 → c.wp Hvaa.prog Q (mk n (upd (upd (upd (upd (upd (upd (upd (upd (upd (upd (upd (upd (upd (upd (upd (upd (upd g i1 z1) i2 z2) i3 z3) i4 z4) i5 z5) i6 z6) i7 z7) i8 z8) i9 z9) i10 z10) i11 z11) i12 z12) i13 z13) i14 z14) i15 z15) i16 z16) i17 z17)) w) : c.wp Hvaa.prog Q (mk n s) w := by
  have e := h s v1 v2 v3 v4 v5 v6 v7 v8 v9 v10 v11 v12 v13 v14 v15 v16 v17 rfl rfl rfl rfl rfl rfl rfl rfl rfl rfl rfl rfl rfl rfl rfl rfl rfl
  rw [upd_self (s := s) (i := i1) h1] at e
  rw [upd_self (s := s) (i := i2) h2] at e
  rw [upd_self (s := s) (i := i3) h3] at e
  rw [upd_self (s := s) (i := i4) h4] at e
  rw [upd_self (s := s) (i := i5) h5] at e
  rw [upd_self (s := s) (i := i6) h6] at e
  rw [upd_self (s := s) (i := i7) h7] at e
  rw [upd_self (s := s) (i := i8) h8] at e
  rw [upd_self (s := s) (i := i9) h9] at e
  rw [upd_self (s := s) (i := i10) h10] at e
  rw [upd_self (s := s) (i := i11) h11] at e
  rw [upd_self (s := s) (i := i12) h12] at e
  rw [upd_self (s := s) (i := i13) h13] at e
  rw [upd_self (s := s) (i := i14) h14] at e
  rw [upd_self (s := s) (i := i15) h15] at e
  rw [upd_self (s := s) (i := i16) h16] at e
  rw [upd_self (s := s) (i := i17) h17] at e
  exact e
theorem fgv18 (i1 i2 i3 i4 i5 i6 i7 i8 i9 i10 i11 i12 i13 i14 i15 i16 i17 i18 : Nat) {v1 v2 v3 v4 v5 v6 v7 v8 v9 v10 v11 v12 v13 v14 v15 v16 v17 v18 : Value} (h1 : s i1 = v1) (h2 : s i2 = v2) (h3 : s i3 = v3) (h4 : s i4 = v4) (h5 : s i5 = v5) (h6 : s i6 = v6) (h7 : s i7 = v7) (h8 : s i8 = v8) (h9 : s i9 = v9) (h10 : s i10 = v10) (h11 : s i11 = v11) (h12 : s i12 = v12) (h13 : s i13 = v13) (h14 : s i14 = v14) (h15 : s i15 = v15) (h16 : s i16 = v16) (h17 : s i17 = v17) (h18 : s i18 = v18) (h : ∀ (g : Nat → Value) (z1 z2 z3 z4 z5 z6 z7 z8 z9 z10 z11 z12 z13 z14 z15 z16 z17 z18 : Value), z1 = v1 → z2 = v2 → z3 = v3 → z4 = v4 → z5 = v5 → z6 = v6 → z7 = v7 → z8 = v8 → z9 = v9 → z10 = v10 → z11 = v11 → z12 = v12 → z13 = v13 → z14 = v14 → z15 = v15 → z16 = v16 → z17 = v17 → z18 = v18 → c.wp Hvaa.prog Q (mk n (upd (upd (upd (upd (upd (upd (upd (upd (upd (upd (upd (upd (upd (upd (upd (upd (upd (upd g i1 z1) i2 z2) i3 z3) i4 z4) i5 z5) i6 z6) i7 z7) i8 z8) i9 z9) i10 z10) i11 z11) i12 z12) i13 z13) i14 z14) i15 z15) i16 z16) i17 z17) i18 z18)) w) : c.wp Hvaa.prog Q (mk n s) w := by
  have e := h s v1 v2 v3 v4 v5 v6 v7 v8 v9 v10 v11 v12 v13 v14 v15 v16 v17 v18 rfl rfl rfl rfl rfl rfl rfl rfl rfl rfl rfl rfl rfl rfl rfl rfl rfl rfl
  rw [upd_self (s := s) (i := i1) h1] at e
  rw [upd_self (s := s) (i := i2) h2] at e
  rw [upd_self (s := s) (i := i3) h3] at e
  rw [upd_self (s := s) (i := i4) h4] at e
  rw [upd_self (s := s) (i := i5) h5] at e
  rw [upd_self (s := s) (i := i6) h6] at e
  rw [upd_self (s := s) (i := i7) h7] at e
  rw [upd_self (s := s) (i := i8) h8] at e
  rw [upd_self (s := s) (i := i9) h9] at e
  rw [upd_self (s := s) (i := i10) h10] at e
  rw [upd_self (s := s) (i := i11) h11] at e
  rw [upd_self (s := s) (i := i12) h12] at e
  rw [upd_self (s := s) (i := i13) h13] at e
  rw [upd_self (s := s) (i := i14) h14] at e
  rw [upd_self (s := s) (i := i15) h15] at e
  rw [upd_self (s := s) (i := i16) h16] at e
  rw [upd_self (s := s) (i := i17) h17] at e
  rw [upd_self (s := s) (i := i18) h18] at e
  exact e
theorem fgv19 (i1 i2 i3 i4 i5 i6 i7 i8 i9 i10 i11 i12 i13 i14 i15 i16 i17 i18 i19 : Nat) {v1 v2 v3 v4 v5 v6 v7 v8 v9 v10 v11 v12 v13 v14 v15 v16 v17 v18 v19 : Value} (h1 : s i1 = v1) (h2 : s i2 = v2) (h3 : s i3 = v3) (h4 : s i4 = v4) (h5 : s i5 = v5) (h6 : s i6 = v6) (h7 : s i7 = v7) (h8 : s i8 = v8) (h9 : s i9 = v9) (h10 : s i10 = v10) (h11 : s i11 = v11) (h12 : s i12 = v12) (h13 : s i13 = v13) (h14 : s i14 = v14) (h15 : s i15 = v15) (h16 : s i16 = v16) (h17 : s i17 = v17) (h18 : s i18 = v18) (h19 : s i19 = v19) (h : ∀ (g : Nat → Value) (z1 z2 z3 z4 z5 z6 z7 z8 z9 z10 z11 z12 z13 z14 z15 z16 z17 z18 z19 : Value), z1 = v1 → z2 = v2 → z3 = v3 → z4 = v4 → z5 = v5 → z6 = v6 → z7 = v7 → z8 = v8 → z9 = v9 → z10 = v10 → z11 = v11 → z12 = v12 → z13 = v13 → z14 = v14 → z15 = v15 → z16 = v16 → z17 = v17 → z18 = v18 → z19 = v19 → c.wp Hvaa.prog Q (mk n (upd (upd (upd (upd (upd (upd (upd (upd (upd (upd (upd (upd (upd (upd (upd (upd (upd (upd (upd g i1 z1) i2 z2) i3 z3) i4 z4) i5 z5) i6 z6) i7 z7) i8 z8) i9 z9) i10 z10) i11 z11) i12 z12) i13 z13) i14 z14) i15 z15) i16 z16) i17 z17) i18 z18) i19 z19)) w) : c.wp Hvaa.prog Q (mk n s) w := by
  have e := h s v1 v2 v3 v4 v5 v6 v7 v8 v9 v10 v11 v12 v13 v14 v15 v16 v17 v18 v19 rfl rfl rfl rfl rfl rfl rfl rfl rfl rfl rfl rfl rfl rfl rfl rfl rfl rfl rfl
  rw [upd_self (s := s) (i := i1) h1] at e
  rw [upd_self (s := s) (i := i2) h2] at e
  rw [upd_self (s := s) (i := i3) h3] at e
  rw [upd_self (s := s) (i := i4) h4] at e
  rw [upd_self (s := s) (i := i5) h5] at e
  rw [upd_self (s := s) (i := i6) h6] at e
  rw [upd_self (s := s) (i := i7) h7] at e
  rw [upd_self (s := s) (i := i8) h8] at e
  rw [upd_self (s := s) (i := i9) h9] at e
  rw [upd_self (s := s) (i := i10) h10] at e
  rw [upd_self (s := s) (i := i11) h11] at e
  rw [upd_self (s := s) (i := i12) h12] at e
  rw [upd_self (s := s) (i := i13) h13] at e
  rw [upd_self (s := s) (i := i14) h14] at e
  rw [upd_self (s := s) (i := i15) h15] at e
  rw [upd_self (s := s) (i := i16) h16] at e
  rw [upd_self (s := s) (i := i17) h17] at e
  rw [upd_self (s := s) (i := i18) h18] at e
  rw [upd_self (s := s) (i := i19) h19] at e
  exact e
theorem fgv20 (i1 i2 i3 i4 i5 i6 i7 i8 i9 i10 i11 i12 i13 i14 i15 i16 i17 i18 i19 i20 : Nat) {v1 v2 v3 v4 v5 v6 v7 v8 v9 v10 v11 v12 v13 v14 v15 v16 v17 v18 v19 v20 : Value} (h1 : s i1 = v1) (h2 : s i2 = v2) (h3 : s i3 = v3) (h4 : s i4 = v4) (h5 : s i5 = v5) (h6 : s i6 = v6) (h7 : s i7 = v7) (h8 : s i8 = v8) (h9 : s i9 = v9) (h10 : s i10 = v10) (h11 : s i11 = v11) (h12 : s i12 = v12) (h13 : s i13 = v13) (h14 : s i14 = v14) (h15 : s i15 = v15) (h16 : s i16 = v16) (h17 : s i17 = v17) (h18 : s i18 = v18) (h19 : s i19 = v19) (h20 : s i20 = v20) (h : ∀ (g : Nat → Value) (z1 z2 z3 z4 z5 z6 z7 z8 z9 z10 z11 z12 z13 z14 z15 z16 z17 z18 z19 z20 : Value), z1 = v1 → z2 = v2 → z3 = v3 → z4 = v4 → z5 = v5 → z6 = v6 → z7 = v7 → z8 = v8 → z9 = v9 → z10 = v10 → z11 = v11 → z12 = v12 → z13 = v13 → z14 = v14 → z15 = v15 → z16 = v16 → z17 = v17 → z18 = v18 → z19 = v19 → z20 = v20 → c.wp Hvaa.prog Q (mk n (upd (upd (upd (upd (upd (upd (upd (upd (upd (upd (upd (upd (upd (upd (upd (upd (upd (upd (upd (upd g i1 z1) i2 z2) i3 z3) i4 z4) i5 z5) i6 z6) i7 z7) i8 z8) i9 z9) i10 z10) i11 z11) i12 z12) i13 z13) i14 z14) i15 z15) i16 z16) i17 z17) i18 z18) i19 z19) i20 z20)) w) : c.wp Hvaa.prog Q (mk n s) w := by
  have e := h s v1 v2 v3 v4 v5 v6 v7 v8 v9 v10 v11 v12 v13 v14 v15 v16 v17 v18 v19 v20 rfl rfl rfl rfl rfl rfl rfl rfl rfl rfl rfl rfl rfl rfl rfl rfl rfl rfl rfl rfl
  rw [upd_self (s := s) (i := i1) h1] at e
  rw [upd_self (s := s) (i := i2) h2] at e
  rw [upd_self (s := s) (i := i3) h3] at e
  rw [upd_self (s := s) (i := i4) h4] at e
  rw [upd_self (s := s) (i := i5) h5] at e
  rw [upd_self (s := s) (i := i6) h6] at e
  rw [upd_self (s := s) (i := i7) h7] at e
  rw [upd_self (s := s) (i := i8) h8] at e
  rw [upd_self (s := s) (i := i9) h9] at e
  rw [upd_self (s := s) (i := i10) h10] at e
  rw [upd_self (s := s) (i := i11) h11] at e
  rw [upd_self (s := s) (i := i12) h12] at e
  rw [upd_self (s := s) (i := i13) h13] at e
  rw [upd_self (s := s) (i := i14) h14] at e
  rw [upd_self (s := s) (i := i15) h15] at e
  rw [upd_self (s := s) (i := i16) h16] at e
  rw [upd_self (s := s) (i := i17) h17] at e
  rw [upd_self (s := s) (i := i18) h18] at e
  rw [upd_self (s := s) (i := i19) h19] at e
  rw [upd_self (s := s) (i := i20) h20] at e
  exact e
theorem fgv21 (i1 i2 i3 i4 i5 i6 i7 i8 i9 i10 i11 i12 i13 i14 i15 i16 i17 i18 i19 i20 i21 : Nat) {v1 v2 v3 v4 v5 v6 v7 v8 v9 v10 v11 v12 v13 v14 v15 v16 v17 v18 v19 v20 v21 : Value} (h1 : s i1 = v1) (h2 : s i2 = v2) (h3 : s i3 = v3) (h4 : s i4 = v4) (h5 : s i5 = v5) (h6 : s i6 = v6) (h7 : s i7 = v7) (h8 : s i8 = v8) (h9 : s i9 = v9) (h10 : s i10 = v10) (h11 : s i11 = v11) (h12 : s i12 = v12) (h13 : s i13 = v13) (h14 : s i14 = v14) (h15 : s i15 = v15) (h16 : s i16 = v16) (h17 : s i17 = v17) (h18 : s i18 = v18) (h19 : s i19 = v19) (h20 : s i20 = v20) (h21 : s i21 = v21) (h : ∀ (g : Nat → Value) (z1 z2 z3 z4 z5 z6 z7 z8 z9 z10 z11 z12 z13 z14 z15 z16 z17 z18 z19 z20 z21 : Value), z1 = v1 → z2 = v2 → z3 = v3 → z4 = v4 → z5 = v5 → z6 = v6 → z7 = v7 → z8 = v8 → z9 = v9 → z10 = v10 → z11 = v11 → z12 = v12 → z13 = v13 → z14 = v14 → z15 = v15 → z16 = v16 → z17 = v17 → z18 = v18 → z19 = v19 → z20 = v20 → z21 = v21 → c.wp Hvaa.prog Q (mk n (upd (upd (upd (upd (upd (upd (upd (upd (upd (upd (upd (upd (upd (upd (upd (upd (upd (upd (upd (upd (upd g i1 z1) i2 z2) i3 z3) i4 z4) i5 z5) i6 z6) i7 z7) i8 z8) i9 z9) i10 z10) i11 z11) i12 z12) i13 z13) i14 z14) i15 z15) i16 z16) i17 z17) i18 z18) i19 z19) i20 z20) i21 z21)) w) : c.wp Hvaa.prog Q (mk n s) w := by
  have e := h s v1 v2 v3 v4 v5 v6 v7 v8 v9 v10 v11 v12 v13 v14 v15 v16 v17 v18 v19 v20 v21 rfl rfl rfl rfl rfl rfl rfl rfl rfl rfl rfl rfl rfl rfl rfl rfl rfl rfl rfl rfl rfl
  rw [upd_self (s := s) (i := i1) h1] at e
  rw [upd_self (s := s) (i := i2) h2] at e
  rw [upd_self (s := s) (i := i3) h3] at e
  rw [upd_self (s := s) (i := i4) h4] at e
  rw [upd_self (s := s) (i := i5) h5] at e
  rw [upd_self (s := s) (i := i6) h6] at e
  rw [upd_self (s := s) (i := i7) h7] at e
  rw [upd_self (s := s) (i := i8) h8] at e
  rw [upd_self (s := s) (i := i9) h9] at e
  rw [upd_self (s := s) (i := i10) h10] at e
  rw [upd_self (s := s) (i := i11) h11] at e
  rw [upd_self (s := s) (i := i12) h12] at e
  rw [upd_self (s := s) (i := i13) h13] at e
  rw [upd_self (s := s) (i := i14) h14] at e
  rw [upd_self (s := s) (i := i15) h15] at e
  rw [upd_self (s := s) (i := i16) h16] at e
  rw [upd_self (s := s) (i := i17) h17] at e
  rw [upd_self (s := s) (i := i18) h18] at e
  rw [upd_self (s := s) (i := i19) h19] at e
  rw [upd_self (s := s) (i := i20) h20] at e
  rw [upd_self (s := s) (i := i21) h21] at e
  exact e
theorem fgv22 (i1 i2 i3 i4 i5 i6 i7 i8 i9 i10 i11 i12 i13 i14 i15 i16 i17 i18 i19 i20 i21 i22 : Nat) {v1 v2 v3 v4 v5 v6 v7 v8 v9 v10 v11 v12 v13 v14 v15 v16 v17 v18 v19 v20 v21 v22 : Value} (h1 : s i1 = v1) (h2 : s i2 = v2) (h3 : s i3 = v3) (h4 : s i4 = v4) (h5 : s i5 = v5) (h6 : s i6 = v6) (h7 : s i7 = v7) (h8 : s i8 = v8) (h9 : s i9 = v9) (h10 : s i10 = v10) (h11 : s i11 = v11) (h12 : s i12 = v12) (h13 : s i13 = v13) (h14 : s i14 = v14) (h15 : s i15 = v15) (h16 : s i16 = v16) (h17 : s i17 = v17) (h18 : s i18 = v18) (h19 : s i19 = v19) (h20 : s i20 = v20) (h21 : s i21 = v21) (h22 : s i22 = v22) (h : ∀ (g : Nat → Value) (z1 z2 z3 z4 z5 z6 z7 z8 z9 z10 z11 z12 z13 z14 z15 z16 z17 z18 z19 z20 z21 z22 : Value), z1 = v1 → z2 = v2 → z3 = v3 → z4 = v4 → z5 = v5 → z6 = v6 → z7 = v7 → z8 = v8 → z9 = v9 → z10 = v10 → z11 = v11 → z12 = v12 → z13 = v13 → z14 = v14 → z15 = v15 → z16 = v16 → z17 = v17 → z18 = v18 → z19 = v19 → z20 = v20 → z21 = v21 → z22 = v22 → c.wp Hvaa.prog Q (mk n (upd (upd (upd (upd (upd (upd (upd (upd (upd (upd (upd (upd (upd (upd (upd (upd (upd (upd (upd (upd (upd (upd g i1 z1) i2 z2) i3 z3) i4 z4) i5 z5) i6 z6) i7 z7) i8 z8) i9 z9) i10 z10) i11 z11) i12 z12) i13 z13) i14 z14) i15 z15) i16 z16) i17 z17) i18 z18) i19 z19) i20 z20) i21 z21) i22 z22)) w) : c.wp Hvaa.prog Q (mk n s) w := by
  have e := h s v1 v2 v3 v4 v5 v6 v7 v8 v9 v10 v11 v12 v13 v14 v15 v16 v17 v18 v19 v20 v21 v22 rfl rfl rfl rfl rfl rfl rfl rfl rfl rfl rfl rfl rfl rfl rfl rfl rfl rfl rfl rfl rfl rfl
  rw [upd_self (s := s) (i := i1) h1] at e
  rw [upd_self (s := s) (i := i2) h2] at e
  rw [upd_self (s := s) (i := i3) h3] at e
  rw [upd_self (s := s) (i := i4) h4] at e
  rw [upd_self (s := s) (i := i5) h5] at e
  rw [upd_self (s := s) (i := i6) h6] at e
  rw [upd_self (s := s) (i := i7) h7] at e
  rw [upd_self (s := s) (i := i8) h8] at e
  rw [upd_self (s := s) (i := i9) h9] at e
  rw [upd_self (s := s) (i := i10) h10] at e
  rw [upd_self (s := s) (i := i11) h11] at e
  rw [upd_self (s := s) (i := i12) h12] at e
  rw [upd_self (s := s) (i := i13) h13] at e
  rw [upd_self (s := s) (i := i14) h14] at e
  rw [upd_self (s := s) (i := i15) h15] at e
  rw [upd_self (s := s) (i := i16) h16] at e
  rw [upd_self (s := s) (i := i17) h17] at e
  rw [upd_self (s := s) (i := i18) h18] at e
  rw [upd_self (s := s) (i := i19) h19] at e
  rw [upd_self (s := s) (i := i20) h20] at e
  rw [upd_self (s := s) (i := i21) h21] at e
  rw [upd_self (s := s) (i := i22) h22] at e
  exact e
theorem fgv23 (i1 i2 i3 i4 i5 i6 i7 i8 i9 i10 i11 i12 i13 i14 i15 i16 i17 i18 i19 i20 i21 i22 i23 : Nat) {v1 v2 v3 v4 v5 v6 v7 v8 v9 v10 v11 v12 v13 v14 v15 v16 v17 v18 v19 v20 v21 v22 v23 : Value} (h1 : s i1 = v1) (h2 : s i2 = v2) (h3 : s i3 = v3) (h4 : s i4 = v4) (h5 : s i5 = v5) (h6 : s i6 = v6) (h7 : s i7 = v7) (h8 : s i8 = v8) (h9 : s i9 = v9) (h10 : s i10 = v10) (h11 : s i11 = v11) (h12 : s i12 = v12) (h13 : s i13 = v13) (h14 : s i14 = v14) (h15 : s i15 = v15) (h16 : s i16 = v16) (h17 : s i17 = v17) (h18 : s i18 = v18) (h19 : s i19 = v19) (h20 : s i20 = v20) (h21 : s i21 = v21) (h22 : s i22 = v22) (h23 : s i23 = v23) (h : ∀ (g : Nat → Value) (z1 z2 z3 z4 z5 z6 z7 z8 z9 z10 z11 z12 z13 z14 z15 z16 z17 z18 z19 z20 z21 z22 z23 : Value), z1 = v1 → z2 = v2 → z3 = v3 → z4 = v4 → z5 = v5 → z6 = v6 → z7 = v7 → z8 = v8 → z9 = v9 → z10 = v10 → z11 = v11 → z12 = v12 → z13 = v13 → z14 = v14 → z15 = v15 → z16 = v16 → z17 = v17 → z18 = v18 → z19 = v19 → z20 = v20 → z21 = v21 → z22 = v22 → z23 = v23 → c.wp Hvaa.prog Q (mk n (upd (upd (upd (upd (upd (upd (upd (upd (upd (upd (upd (upd (upd (upd (upd (upd (upd (upd (upd (upd (upd (upd (upd g i1 z1) i2 z2) i3 z3) i4 z4) i5 z5) i6 z6) i7 z7) i8 z8) i9 z9) i10 z10) i11 z11) i12 z12) i13 z13) i14 z14) i15 z15) i16 z16) i17 z17) i18 z18) i19 z19) i20 z20) i21 z21) i22 z22) i23 z23)) w) : c.wp Hvaa.prog Q (mk n s) w := by
  have e := h s v1 v2 v3 v4 v5 v6 v7 v8 v9 v10 v11 v12 v13 v14 v15 v16 v17 v18 v19 v20 v21 v22 v23 rfl rfl rfl rfl rfl rfl rfl rfl rfl rfl rfl rfl rfl rfl rfl rfl rfl rfl rfl rfl rfl rfl rfl
  rw [upd_self (s := s) (i := i1) h1] at e
  rw [upd_self (s := s) (i := i2) h2] at e
  rw [upd_self (s := s) (i := i3) h3] at e
  rw [upd_self (s := s) (i := i4) h4] at e
  rw [upd_self (s := s) (i := i5) h5] at e
  rw [upd_self (s := s) (i := i6) h6] at e
  rw [upd_self (s := s) (i := i7) h7] at e
  rw [upd_self (s := s) (i := i8) h8] at e
  rw [upd_self (s := s) (i := i9) h9] at e
  rw [upd_self (s := s) (i := i10) h10] at e
  rw [upd_self (s := s) (i := i11) h11] at e
  rw [upd_self (s := s) (i := i12) h12] at e
  rw [upd_self (s := s) (i := i13) h13] at e
  rw [upd_self (s := s) (i := i14) h14] at e
  rw [upd_self (s := s) (i := i15) h15] at e
  rw [upd_self (s := s) (i := i16) h16] at e
  rw [upd_self (s := s) (i := i17) h17] at e
  rw [upd_self (s := s) (i := i18) h18] at e
  rw [upd_self (s := s) (i := i19) h19] at e
  rw [upd_self (s := s) (i := i20) h20] at e
  rw [upd_self (s := s) (i := i21) h21] at e
  rw [upd_self (s := s) (i := i22) h22] at e
  rw [upd_self (s := s) (i := i23) h23] at e
  exact e
theorem fgv24 (i1 i2 i3 i4 i5 i6 i7 i8 i9 i10 i11 i12 i13 i14 i15 i16 i17 i18 i19 i20 i21 i22 i23 i24 : Nat) {v1 v2 v3 v4 v5 v6 v7 v8 v9 v10 v11 v12 v13 v14 v15 v16 v17 v18 v19 v20 v21 v22 v23 v24 : Value} (h1 : s i1 = v1) (h2 : s i2 = v2) (h3 : s i3 = v3) (h4 : s i4 = v4) (h5 : s i5 = v5) (h6 : s i6 = v6) (h7 : s i7 = v7) (h8 : s i8 = v8) (h9 : s i9 = v9) (h10 : s i10 = v10) (h11 : s i11 = v11) (h12 : s i12 = v12) (h13 : s i13 = v13) (h14 : s i14 = v14) (h15 : s i15 = v15) (h16 : s i16 = v16) (h17 : s i17 = v17) (h18 : s i18 = v18) (h19 : s i19 = v19) (h20 : s i20 = v20) (h21 : s i21 = v21) (h22 : s i22 = v22) (h23 : s i23 = v23) (h24 : s i24 = v24) (h : ∀ (g : Nat → Value) (z1 z2 z3 z4 z5 z6 z7 z8 z9 z10 z11 z12 z13 z14 z15 z16 z17 z18 z19 z20 z21 z22 z23 z24 : Value), z1 = v1 → z2 = v2 → z3 = v3 → z4 = v4 → z5 = v5 → z6 = v6 → z7 = v7 → z8 = v8 → z9 = v9 → z10 = v10 → z11 = v11 → z12 = v12 → z13 = v13 → z14 = v14 → z15 = v15 → z16 = v16 → z17 = v17 → z18 = v18 → z19 = v19 → z20 = v20 → z21 = v21 → z22 = v22 → z23 = v23 → z24 = v24 → c.wp Hvaa.prog Q (mk n (upd (upd (upd (upd (upd (upd (upd (upd (upd (upd (upd (upd (upd (upd (upd (upd (upd (upd (upd (upd (upd (upd (upd (upd g i1 z1) i2 z2) i3 z3) i4 z4) i5 z5) i6 z6) i7 z7) i8 z8) i9 z9) i10 z10) i11 z11) i12 z12) i13 z13) i14 z14) i15 z15) i16 z16) i17 z17) i18 z18) i19 z19) i20 z20) i21 z21) i22 z22) i23 z23) i24 z24)) w) : c.wp Hvaa.prog Q (mk n s) w := by
  have e := h s v1 v2 v3 v4 v5 v6 v7 v8 v9 v10 v11 v12 v13 v14 v15 v16 v17 v18 v19 v20 v21 v22 v23 v24 rfl rfl rfl rfl rfl rfl rfl rfl rfl rfl rfl rfl rfl rfl rfl rfl rfl rfl rfl rfl rfl rfl rfl rfl
  rw [upd_self (s := s) (i := i1) h1] at e
  rw [upd_self (s := s) (i := i2) h2] at e
  rw [upd_self (s := s) (i := i3) h3] at e
  rw [upd_self (s := s) (i := i4) h4] at e
  rw [upd_self (s := s) (i := i5) h5] at e
  rw [upd_self (s := s) (i := i6) h6] at e
  rw [upd_self (s := s) (i := i7) h7] at e
  rw [upd_self (s := s) (i := i8) h8] at e
  rw [upd_self (s := s) (i := i9) h9] at e
  rw [upd_self (s := s) (i := i10) h10] at e
  rw [upd_self (s := s) (i := i11) h11] at e
  rw [upd_self (s := s) (i := i12) h12] at e
  rw [upd_self (s := s) (i := i13) h13] at e
  rw [upd_self (s := s) (i := i14) h14] at e
  rw [upd_self (s := s) (i := i15) h15] at e
  rw [upd_self (s := s) (i := i16) h16] at e
  rw [upd_self (s := s) (i := i17) h17] at e
  rw [upd_self (s := s) (i := i18) h18] at e
  rw [upd_self (s := s) (i := i19) h19] at e
  rw [upd_self (s := s) (i := i20) h20] at e
  rw [upd_self (s := s) (i := i21) h21] at e
  rw [upd_self (s := s) (i := i22) h22] at e
  rw [upd_self (s := s) (i := i23) h23] at e
  rw [upd_self (s := s) (i := i24) h24] at e
  exact e
theorem fgv25 (i1 i2 i3 i4 i5 i6 i7 i8 i9 i10 i11 i12 i13 i14 i15 i16 i17 i18 i19 i20 i21 i22 i23 i24 i25 : Nat) {v1 v2 v3 v4 v5 v6 v7 v8 v9 v10 v11 v12 v13 v14 v15 v16 v17 v18 v19 v20 v21 v22 v23 v24 v25 : Value} (h1 : s i1 = v1) (h2 : s i2 = v2) (h3 : s i3 = v3) (h4 : s i4 = v4) (h5 : s i5 = v5) (h6 : s i6 = v6) (h7 : s i7 = v7) (h8 : s i8 = v8) (h9 : s i9 = v9) (h10 : s i10 = v10) (h11 : s i11 = v11) (h12 : s i12 = v12) (h13 : s i13 = v13) (h14 : s i14 = v14) (h15 : s i15 = v15) (h16 : s i16 = v16) (h17 : s i17 = v17) (h18 : s i18 = v18) (h19 : s i19 = v19) (h20 : s i20 = v20) (h21 : s i21 = v21) (h22 : s i22 = v22) (h23 : s i23 = v23) (h24 : s i24 = v24) (h25 : s i25 = v25) (h : ∀ (g : Nat → Value) (z1 z2 z3 z4 z5 z6 z7 z8 z9 z10 z11 z12 z13 z14 z15 z16 z17 z18 z19 z20 z21 z22 z23 z24 z25 : Value), z1 = v1 → z2 = v2 → z3 = v3 → z4 = v4 → z5 = v5 → z6 = v6 → z7 = v7 → z8 = v8 → z9 = v9 → z10 = v10 → z11 = v11 → z12 = v12 → z13 = v13 → z14 = v14 → z15 = v15 → z16 = v16 → z17 = v17 → z18 = v18 → z19 = v19 → z20 = v20 → z21 = v21 → z22 = v22 → z23 = v23 → z24 = v24 → z25 = v25 → c.wp Hvaa.prog Q (mk n (upd (upd (upd (upd (upd (upd (upd (upd (upd (upd (upd (upd (upd (upd (upd (upd (upd (upd (upd (upd (upd (upd (upd (upd (upd g i1 z1) i2 z2) i3 z3) i4 z4) i5 z5) i6 z6) i7 z7) i8 z8) i9 z9) i10 z10) i11 z11) i12 z12) i13 z13) i14 z14) i15 z15) i16 z16) i17 z17) i18 z18) i19 z19) i20 z20) i21 z21) i22 z22) i23 z23) i24 z24) i25 z25)) w) : c.wp Hvaa.prog Q (mk n s) w := by
  have e := h s v1 v2 v3 v4 v5 v6 v7 v8 v9 v10 v11 v12 v13 v14 v15 v16 v17 v18 v19 v20 v21 v22 v23 v24 v25 rfl rfl rfl rfl rfl rfl rfl rfl rfl rfl rfl rfl rfl rfl rfl rfl rfl rfl rfl rfl rfl rfl rfl rfl rfl
  rw [upd_self (s := s) (i := i1) h1] at e
  rw [upd_self (s := s) (i := i2) h2] at e
  rw [upd_self (s := s) (i := i3) h3] at e
  rw [upd_self (s := s) (i := i4) h4] at e
  rw [upd_self (s := s) (i := i5) h5] at e
  rw [upd_self (s := s) (i := i6) h6] at e
  rw [upd_self (s := s) (i := i7) h7] at e
  rw [upd_self (s := s) (i := i8) h8] at e
  rw [upd_self (s := s) (i := i9) h9] at e
  rw [upd_self (s := s) (i := i10) h10] at e
  rw [upd_self (s := s) (i := i11) h11] at e
  rw [upd_self (s := s) (i := i12) h12] at e
  rw [upd_self (s := s) (i := i13) h13] at e
  rw [upd_self (s := s) (i := i14) h14] at e
  rw [upd_self (s := s) (i := i15) h15] at e
  rw [upd_self (s := s) (i := i16) h16] at e
  rw [upd_self (s := s) (i := i17) h17] at e
  rw [upd_self (s := s) (i := i18) h18] at e
  rw [upd_self (s := s) (i := i19) h19] at e
  rw [upd_self (s := s) (i := i20) h20] at e
  rw [upd_self (s := s) (i := i21) h21] at e
  rw [upd_self (s := s) (i := i22) h22] at e
  rw [upd_self (s := s) (i := i23) h23] at e
  rw [upd_self (s := s) (i := i24) h24] at e
  rw [upd_self (s := s) (i := i25) h25] at e
  exact e
theorem fJ1 {J : (Nat → Value) → World → Prop} (i1 : Nat) {v1 : Value} (h1 : s i1 = v1) (h : ∀ g, J (upd g i1 v1) w) : J s w := by
  have e := h s
  rw [upd_self (s := s) (i := i1) h1] at e
  exact e
theorem fJ2 {J : (Nat → Value) → World → Prop} (i1 i2 : Nat) {v1 v2 : Value} (h1 : s i1 = v1) (h2 : s i2 = v2) (h : ∀ g, J (upd (upd g i1 v1) i2 v2) w) : J s w := by
  have e := h s
  rw [upd_self (s := s) (i := i1) h1] at e
  rw [upd_self (s := s) (i := i2) h2] at e
  exact e
theorem fJ3 {J : (Nat → Value) → World → Prop} (i1 i2 i3 : Nat) {v1 v2 v3 : Value} (h1 : s i1 = v1) (h2 : s i2 = v2) (h3 : s i3 = v3) (h : ∀ g, J (upd (upd (upd g i1 v1) i2 v2) i3 v3) w) : J s w := by
  have e := h s
  rw [upd_self (s := s) (i := i1) h1] at e
  rw [upd_self (s := s) (i := i2) h2] at e
  rw [upd_self (s := s) (i := i3) h3] at e
  exact e
theorem fJ4 {J : (Nat → Value) → World → Prop} (i1 i2 i3 i4 : Nat) {v1 v2 v3 v4 : Value} (h1 : s i1 = v1) (h2 : s i2 = v2) (h3 : s i3 = v3) (h4 : s i4 = v4) (h : ∀ g, J (upd (upd (upd (upd g i1 v1) i2 v2) i3 v3) i4 v4) w) : J s w := by
  have e := h s
  rw [upd_self (s := s) (i := i1) h1] at e
  rw [upd_self (s := s) (i := i2) h2] at e
  rw [upd_self (s := s) (i := i3) h3] at e
  rw [upd_self (s := s) (i := i4) h4] at e
  exact e
theorem fJ5 {J : (Nat → Value) → World → Prop} (i1 i2 i3 i4 i5 : Nat) {v1 v2 v3 v4 v5 : Value} (h1 : s i1 = v1) (h2 : s i2 = v2) (h3 : s i3 = v3) (h4 : s i4 = v4) (h5 : s i5 = v5) (h : ∀ g, J (upd (upd (upd (upd (upd g i1 v1) i2 v2) i3 v3) i4 v4) i5 v5) w) : J s w := by
  have e := h s
  rw [upd_self (s := s) (i := i1) h1] at e
  rw [upd_self (s := s) (i := i2) h2] at e
  rw [upd_self (s := s) (i := i3) h3] at e
  rw [upd_self (s := s) (i := i4) h4] at e
  rw [upd_self (s := s) (i := i5) h5] at e
  exact e
theorem fJ6 {J : (Nat → Value) → World → Prop} (i1 i2 i3 i4 i5 i6 : Nat) {v1 v2 v3 v4 v5 v6 : Value} (h1 : s i1 = v1) (h2 : s i2 = v2) (h3 : s i3 = v3) (h4 : s i4 = v4) (h5 : s i5 = v5) (h6 : s i6 = v6) (h : ∀ g, J (upd (upd (upd (upd (upd (upd g i1 v1) i2 v2) i3 v3) i4 v4) i5 v5) i6 v6) w) : J s w := by
  have e := h s
  rw [upd_self (s := s) (i := i1) h1] at e
  rw [upd_self (s := s) (i := i2) h2] at e
  rw [upd_self (s := s) (i := i3) h3] at e
  rw [upd_self (s := s) (i := i4) h4] at e
  rw [upd_self (s := s) (i := i5) h5] at e
  rw [upd_self (s := s) (i := i6) h6] at e
  exact e
theorem fJ7 {J : (Nat → Value) → World → Prop} (i1 i2 i3 i4 i5 i6 i7 : Nat) {v1 v2 v3 v4 v5 v6 v7 : Value} (h1 : s i1 = v1) (h2 : s i2 = v2) (h3 : s i3 = v3) (h4 : s i4 = v4) (h5 : s i5 = v5) (h6 : s i6 = v6) (h7 : s i7 = v7) (h : ∀ g, J (upd (upd (upd (upd (upd (upd (upd g i1 v1) i2 v2) i3 v3) i4 v4) i5 v5) i6 v6) i7 v7) w) : J s w := by
  have e := h s
  rw [upd_self (s := s) (i := i1) h1] at e
  rw [upd_self (s := s) (i := i2) h2] at e
  rw [upd_self (s := s) (i := i3) h3] at e
  rw [upd_self (s := s) (i := i4) h4] at e
  rw [upd_self (s := s) (i := i5) h5] at e
  rw [upd_self (s := s) (i := i6) h6] at e
  rw [upd_self (s := s) (i := i7) h7] at e
  exact e
theorem fJ8 {J : (Nat → Value) → World → Prop} (i1 i2 i3 i4 i5 i6 i7 i8 : Nat) {v1 v2 v3 v4 v5 v6 v7 v8 : Value} (h1 : s i1 = v1) (h2 : s i2 = v2) (h3 : s i3 = v3) (h4 : s i4 = v4) (h5 : s i5 = v5) (h6 : s i6 = v6) (h7 : s i7 = v7) (h8 : s i8 = v8) (h : ∀ g, J (upd (upd (upd (upd (upd (upd (upd (upd g i1 v1) i2 v2) i3 v3) i4 v4) i5 v5) i6 v6) i7 v7) i8 v8) w) : J s w := by
  have e := h s
  rw [upd_self (s := s) (i := i1) h1] at e
  rw [upd_self (s := s) (i := i2) h2] at e
  rw [upd_self (s := s) (i := i3) h3] at e
  rw [upd_self (s := s) (i := i4) h4] at e
  rw [upd_self (s := s) (i := i5) h5] at e
  rw [upd_self (s := s) (i := i6) h6] at e
  rw [upd_self (s := s) (i := i7) h7] at e
  rw [upd_self (s := s) (i := i8) h8] at e
  exact e
theorem fJ9 {J : (Nat → Value) → World → Prop} (i1 i2 i3 i4 i5 i6 i7 i8 i9 : Nat) {v1 v2 v3 v4 v5 v6 v7 v8 v9 : Value} (h1 : s i1 = v1) (h2 : s i2 = v2) (h3 : s i3 = v3) (h4 : s i4 = v4) (h5 : s i5 = v5) (h6 : s i6 = v6) (h7 : s i7 = v7) (h8 : s i8 = v8) (h9 : s i9 = v9) (h : ∀ g, J (upd (upd (upd (upd (upd (upd (upd (upd (upd g i1 v1) i2 v2) i3 v3) i4 v4) i5 v5) i6 v6) i7 v7) i8 v8) i9 v9) w) : J s w := by
  have e := h s
  rw [upd_self (s := s) (i := i1) h1] at e
  rw [upd_self (s := s) (i := i2) h2] at e
  rw [upd_self (s := s) (i := i3) h3] at e
  rw [upd_self (s := s) (i := i4) h4] at e
  rw [upd_self (s := s) (i := i5) h5] at e
  rw [upd_self (s := s) (i := i6) h6] at e
  rw [upd_self (s := s) (i := i7) h7] at e
  rw [upd_self (s := s) (i := i8) h8] at e
  rw [upd_self (s := s) (i := i9) h9] at e
  exact e
theorem fJ10 {J : (Nat → Value) → World → Prop} (i1 i2 i3 i4 i5 i6 i7 i8 i9 i10 : Nat) {v1 v2 v3 v4 v5 v6 v7 v8 v9 v10 : Value} (h1 : s i1 = v1) (h2 : s i2 = v2) (h3 : s i3 = v3) (h4 : s i4 = v4) (h5 : s i5 = v5) (h6 : s i6 = v6) (h7 : s i7 = v7) (h8 : s i8 = v8) (h9 : s i9 = v9) (h10 : s i10 = v10) (h : ∀ g, J (upd (upd (upd (upd (upd (upd (upd (upd (upd (upd g i1 v1) i2 v2) i3 v3) i4 v4) i5 v5) i6 v6) i7 v7) i8 v8) i9 v9) i10 v10) w) : J s w := by
  have e := h s
  rw [upd_self (s := s) (i := i1) h1] at e
  rw [upd_self (s := s) (i := i2) h2] at e
  rw [upd_self (s := s) (i := i3) h3] at e
  rw [upd_self (s := s) (i := i4) h4] at e
  rw [upd_self (s := s) (i := i5) h5] at e
  rw [upd_self (s := s) (i := i6) h6] at e
  rw [upd_self (s := s) (i := i7) h7] at e
  rw [upd_self (s := s) (i := i8) h8] at e
  rw [upd_self (s := s) (i := i9) h9] at e
  rw [upd_self (s := s) (i := i10) h10] at e
  exact e
theorem fJ11 {J : (Nat → Value) → World → Prop} (i1 i2 i3 i4 i5 i6 i7 i8 i9 i10 i11 : Nat) {v1 v2 v3 v4 v5 v6 v7 v8 v9 v10 v11 : Value} (h1 : s i1 = v1) (h2 : s i2 = v2) (h3 : s i3 = v3) (h4 : s i4 = v4) (h5 : s i5 = v5) (h6 : s i6 = v6) (h7 : s i7 = v7) (h8 : s i8 = v8) (h9 : s i9 = v9) (h10 : s i10 = v10) (h11 : s i11 = v11) (h : ∀ g, J (upd (upd (upd (upd (upd (upd (upd (upd (upd (upd (upd g i1 v1) i2 v2) i3 v3) i4 v4) i5 v5) i6 v6) i7 v7) i8 v8) i9 v9) i10 v10) i11 v11) w) : J s w := by
  have e := h s
  rw [upd_self (s := s) (i := i1) h1] at e
  rw [upd_self (s := s) (i := i2) h2] at e
  rw [upd_self (s := s) (i := i3) h3] at e
  rw [upd_self (s := s) (i := i4) h4] at e
  rw [upd_self (s := s) (i := i5) h5] at e
  rw [upd_self (s := s) (i := i6) h6] at e
  rw [upd_self (s := s) (i := i7) h7] at e
  rw [upd_self (s := s) (i := i8) h8] at e
  rw [upd_self (s := s) (i := i9) h9] at e
  rw [upd_self (s := s) (i := i10) h10] at e
  rw [upd_self (s := s) (i := i11) h11] at e
  exact e
theorem fJ12 {J : (Nat → Value) → World → Prop} (i1 i2 i3 i4 i5 i6 i7 i8 i9 i10 i11 i12 : Nat) {v1 v2 v3 v4 v5 v6 v7 v8 v9 v10 v11 v12 : Value} (h1 : s i1 = v1) (h2 : s i2 = v2) (h3 : s i3 = v3) (h4 : s i4 = v4) (h5 : s i5 = v5) (h6 : s i6 = v6) (h7 : s i7 = v7) (h8 : s i8 = v8) (h9 : s i9 = v9) (h10 : s i10 = v10) (h11 : s i11 = v11) (h12 : s i12 = v12) (h : ∀ g, J (upd (upd (upd (upd (upd (upd (upd (upd (upd (upd (upd (upd g i1 v1) i2 v2) i3 v3) i4 v4) i5 v5) i6 v6) i7 v7) i8 v8) i9 v9) i10 v10) i11 v11) i12 v12) w) : J s w := by
  have e := h s
  rw [upd_self (s := s) (i := i1) h1] at e
  rw [upd_self (s := s) (i := i2) h2] at e
  rw [upd_self (s := s) (i := i3) h3] at e
  rw [upd_self (s := s) (i := i4) h4] at e
  rw [upd_self (s := s) (i := i5) h5] at e
  rw [upd_self (s := s) (i := i6) h6] at e
  rw [upd_self (s := s) (i := i7) h7] at e
  rw [upd_self (s := s) (i := i8) h8] at e
  rw [upd_self (s := s) (i := i9) h9] at e
  rw [upd_self (s := s) (i := i10) h10] at e
  rw [upd_self (s := s) (i := i11) h11] at e
  rw [upd_self (s := s) (i := i12) h12] at e
  exact e
theorem fJ13 {J : (Nat → Value) → World → Prop} (i1 i2 i3 i4 i5 i6 i7 i8 i9 i10 i11 i12 i13 : Nat) {v1 v2 v3 v4 v5 v6 v7 v8 v9 v10 v11 v12 v13 : Value} (h1 : s i1 = v1) (h2 : s i2 = v2) (h3 : s i3 = v3) (h4 : s i4 = v4) (h5 : s i5 = v5) (h6 : s i6 = v6) (h7 : s i7 = v7) (h8 : s i8 = v8) (h9 : s i9 = v9) (h10 : s i10 = v10) (h11 : s i11 = v11) (h12 : s i12 = v12) (h13 : s i13 = v13) (h : ∀ g, J (upd (upd (upd (upd (upd (upd (upd (upd (upd (upd (upd (upd (upd g i1 v1) i2 v2) i3 v3) i4 v4) i5 v5) i6 v6) i7 v7) i8 v8) i9 v9) i10 v10) i11 v11) i12 v12) i13 v13) w) : J s w := by
  have e := h s
  rw [upd_self (s := s) (i := i1) h1] at e
  rw [upd_self (s := s) (i := i2) h2] at e
  rw [upd_self (s := s) (i := i3) h3] at e
  rw [upd_self (s := s) (i := i4) h4] at e
  rw [upd_self (s := s) (i := i5) h5] at e
  rw [upd_self (s := s) (i := i6) h6] at e
  rw [upd_self (s := s) (i := i7) h7] at e
  rw [upd_self (s := s) (i := i8) h8] at e
  rw [upd_self (s := s) (i := i9) h9] at e
  rw [upd_self (s := s) (i := i10) h10] at e
  rw [upd_self (s := s) (i := i11) h11] at e
  rw [upd_self (s := s) (i := i12) h12] at e
  rw [upd_self (s := s) (i := i13) h13] at e
  exact e
theorem fJ14 {J : (Nat → Value) → World → Prop} (i1 i2 i3 i4 i5 i6 i7 i8 i9 i10 i11 i12 i13 i14 : Nat) {v1 v2 v3 v4 v5 v6 v7 v8 v9 v10 v11 v12 v13 v14 : Value} (h1 : s i1 = v1) (h2 : s i2 = v2) (h3 : s i3 = v3) (h4 : s i4 = v4) (h5 : s i5 = v5) (h6 : s i6 = v6) (h7 : s i7 = v7) (h8 : s i8 = v8) (h9 : s i9 = v9) (h10 : s i10 = v10) (h11 : s i11 = v11) (h12 : s i12 = v12) (h13 : s i13 = v13) (h14 : s i14 = v14) (h : ∀ g, J (upd (upd (upd (upd (upd (upd (upd (upd (upd (upd (upd (upd (upd (upd g i1 v1) i2 v2) i3 v3) i4 v4) i5 v5) i6 v6) i7 v7) i8 v8) i9 v9) i10 v10) i11 v11) i12 v12) i13 v13) i14 v14) w) : J s w := by
  have e := h s
  rw [upd_self (s := s) (i := i1) h1] at e
  rw [upd_self (s := s) (i := i2) h2] at e
  rw [upd_self (s := s) (i := i3) h3] at e
  rw [upd_self (s := s) (i := i4) h4] at e
  rw [upd_self (s := s) (i := i5) h5] at e
  rw [upd_self (s := s) (i := i6) h6] at e
  rw [upd_self (s := s) (i := i7) h7] at e
  rw [upd_self (s := s) (i := i8) h8] at e
  rw [upd_self (s := s) (i := i9) h9] at e
  rw [upd_self (s := s) (i := i10) h10] at e
  rw [upd_self (s := s) (i := i11) h11] at e
  rw [upd_self (s := s) (i := i12) h12] at e
  rw [upd_self (s := s) (i := i13) h13] at e
  rw [upd_self (s := s) (i := i14) h14] at e
  exact e
theorem fJ15 {J : (Nat → Value) → World → Prop} (i1 i2 i3 i4 i5 i6 i7 i8 i9 i10 i11 i12 i13 i14 i15 : Nat) {v1 v2 v3 v4 v5 v6 v7 v8 v9 v10 v11 v12 v13 v14 v15 : Value} (h1 : s i1 = v1) (h2 : s i2 = v2) (h3 : s i3 = v3) (h4 : s i4 = v4) (h5 : s i5 = v5) (h6 : s i6 = v6) (h7 : s i7 = v7) (h8 : s i8 = v8) (h9 : s i9 = v9) (h10 : s i10 = v10) (h11 : s i11 = v11) (h12 : s i12 = v12) (h13 : s i13 = v13) (h14 : s i14 = v14) (h15 : s i15 = v15) (h : ∀ g, J (upd (upd (upd (upd (upd (upd (upd (upd (upd (upd (upd (upd (upd (upd (upd g i1 v1) i2 v2) i3 v3) i4 v4) i5 v5) i6 v6) i7 v7) i8 v8) i9 v9) i10 v10) i11 v11) i12 v12) i13 v13) i14 v14) i15 v15) w) : J s w := by
  have e := h s
  rw [upd_self (s := s) (i := i1) h1] at e
  rw [upd_self (s := s) (i := i2) h2] at e
  rw [upd_self (s := s) (i := i3) h3] at e
  rw [upd_self (s := s) (i := i4) h4] at e
  rw [upd_self (s := s) (i := i5) h5] at e
  rw [upd_self (s := s) (i := i6) h6] at e
  rw [upd_self (s := s) (i := i7) h7] at e
  rw [upd_self (s := s) (i := i8) h8] at e
  rw [upd_self (s := s) (i := i9) h9] at e
  rw [upd_self (s := s) (i := i10) h10] at e
  rw [upd_self (s := s) (i := i11) h11] at e
  rw [upd_self (s := s) (i := i12) h12] at e
  rw [upd_self (s := s) (i := i13) h13] at e
  rw [upd_self (s := s) (i := i14) h14] at e
  rw [upd_self (s := s) (i := i15) h15] at e
  exact e
theorem fJ16 {J : (Nat → Value) → World → Prop} (i1 i2 i3 i4 i5 i6 i7 i8 i9 i10 i11 i12 i13 i14 i15 i16 : Nat) {v1 v2 v3 v4 v5 v6 v7 v8 v9 v10 v11 v12 v13 v14 v15 v16 : Value} (h1 : s i1 = v1) (h2 : s i2 = v2) (h3 : s i3 = v3) (h4 : s i4 = v4) (h5 : s i5 = v5) (h6 : s i6 = v6) (h7 : s i7 = v7) (h8 : s i8 = v8) (h9 : s i9 = v9) (h10 : s i10 = v10) (h11 : s i11 = v11) (h12 : s i12 = v12) (h13 : s i13 = v13) (h14 : s i14 = v14) (h15 : s i15 = v15) (h16 : s i16 = v16) (h : ∀ g, J (upd (upd (upd (upd (upd (upd (upd (upd (upd (upd (upd (upd (upd (upd (upd (upd g i1 v1) i2 v2) i3 v3) i4 v4) i5 v5) i6 v6) i7 v7) i8 v8) i9 v9) i10 v10) i11 v11) i12 v12) i13 v13) i14 v14) i15 v15) i16 v16) w) : J s w := by
  have e := h s
  rw [upd_self (s := s) (i := i1) h1] at e
  rw [upd_self (s := s) (i := i2) h2] at e
  rw [upd_self (s := s) (i := i3) h3] at e
  rw [upd_self (s := s) (i := i4) h4] at e
  rw [upd_self (s := s) (i := i5) h5] at e
  rw [upd_self (s := s) (i := i6) h6] at e
  rw [upd_self (s := s) (i := i7) h7] at e
  rw [upd_self (s := s) (i := i8) h8] at e
  rw [upd_self (s := s) (i := i9) h9] at e
  rw [upd_self (s := s) (i := i10) h10] at e
  rw [upd_self (s := s) (i := i11) h11] at e
  rw [upd_self (s := s) (i := i12) h12] at e
  rw [upd_self (s := s) (i := i13) h13] at e
  rw [upd_self (s := s) (i := i14) h14] at e
  rw [upd_self (s := s) (i := i15) h15] at e
  rw [upd_self (s := s) (i := i16) h16] at e
  exact e
theorem fJ17 {J : (Nat → Value) → World → Prop} (i1 i2 i3 i4 i5 i6 i7 i8 i9 i10 i11 i12 i13 i14 i15 i16 i17 : Nat) {v1 v2 v3 v4 v5 v6 v7 v8 v9 v10 v11 v12 v13 v14 v15 v16 v17 : Value} (h1 : s i1 = v1) (h2 : s i2 = v2) (h3 : s i3 = v3) (h4 : s i4 = v4) (h5 : s i5 = v5) (h6 : s i6 = v6) (h7 : s i7 = v7) (h8 : s i8 = v8) (h9 : s i9 = v9) (h10 : s i10 = v10) (h11 : s i11 = v11) (h12 : s i12 = v12) (h13 : s i13 = v13) (h14 : s i14 = v14) (h15 : s i15 = v15) (h16 : s i16 = v16) (h17 : s i17 = v17) (h : ∀ g, J (upd (upd (upd (upd (upd (upd (upd (upd (upd (upd (upd (upd (upd (upd (upd (upd (upd g i1 v1) i2 v2) i3 v3) i4 v4) i5 v5) i6 v6) i7 v7) i8 v8) i9 v9) i10 v10) i11 v11) i12 v12) i13 v13) i14 v14) i15 v15) i16 v16) i17 v17) w) : J s w := by
  have e := h s
  rw [upd_self (s := s) (i := i1) h1] at e
  rw [upd_self (s := s) (i := i2) h2] at e
  rw [upd_self (s := s) (i := i3) h3] at e
  rw [upd_self (s := s) (i := i4) h4] at e
  rw [upd_self (s := s) (i := i5) h5] at e
  rw [upd_self (s := s) (i := i6) h6] at e
  rw [upd_self (s := s) (i := i7) h7] at e
  rw [upd_self (s := s) (i := i8) h8] at e
  rw [upd_self (s := s) (i := i9) h9] at e
  rw [upd_self (s := s) (i := i10) h10] at e
  rw [upd_self (s := s) (i := i11) h11] at e
  rw [upd_self (s := s) (i := i12) h12] at e
  rw [upd_self (s := s) (i := i13) h13] at e
  rw [upd_self (s := s) (i := i14) h14] at e
  rw [upd_self (s := s) (i := i15) h15] at e
  rw [upd_self (s := s) (i := i16) h16] at e
  rw [upd_self (s := s) (i := i17) h17] at e
  exact e
theorem fJ18 {J : (Nat → Value) → World → Prop} (i1 i2 i3 i4 i5 i6 i7 i8 i9 i10 i11 i12 i13 i14 i15 i16 i17 i18 : Nat) {v1 v2 v3 v4 v5 v6 v7 v8 v9 v10 v11 v12 v13 v14 v15 v16 v17 v18 : Value} (h1 : s i1 = v1) (h2 : s i2 = v2) (h3 : s i3 = v3) (h4 : s i4 = v4) (h5 : s i5 = v5) (h6 : s i6 = v6) (h7 : s i7 = v7) (h8 : s i8 = v8) (h9 : s i9 = v9) (h10 : s i10 = v10) (h11 : s i11 = v11) (h12 : s i12 = v12) (h13 : s i13 = v13) (h14 : s i14 = v14) (h15 : s i15 = v15) (h16 : s i16 = v16) (h17 : s i17 = v17) (h18 : s i18 = v18) (h : ∀ g, J (upd (upd (upd (upd (upd (upd (upd (upd (upd (upd (upd (upd (upd (upd (upd (upd (upd (upd g i1 v1) i2 v2) i3 v3) i4 v4) i5 v5) i6 v6) i7 v7) i8 v8) i9 v9) i10 v10) i11 v11) i12 v12) i13 v13) i14 v14) i15 v15) i16 v16) i17 v17) i18 v18) w) : J s w := by
  have e := h s
  rw [upd_self (s := s) (i := i1) h1] at e
  rw [upd_self (s := s) (i := i2) h2] at e
  rw [upd_self (s := s) (i := i3) h3] at e
  rw [upd_self (s := s) (i := i4) h4] at e
  rw [upd_self (s := s) (i := i5) h5] at e
  rw [upd_self (s := s) (i := i6) h6] at e
  rw [upd_self (s := s) (i := i7) h7] at e
  rw [upd_self (s := s) (i := i8) h8] at e
  rw [upd_self (s := s) (i := i9) h9] at e
  rw [upd_self (s := s) (i := i10) h10] at e
  rw [upd_self (s := s) (i := i11) h11] at e
  rw [upd_self (s := s) (i := i12) h12] at e
  rw [upd_self (s := s) (i := i13) h13] at e
  rw [upd_self (s := s) (i := i14) h14] at e
  rw [upd_self (s := s) (i := i15) h15] at e
  rw [upd_self (s := s) (i := i16) h16] at e
  rw [upd_self (s := s) (i := i17) h17] at e
  rw [upd_self (s := s) (i := i18) h18] at e
  exact e
theorem fJ19 {J : (Nat → Value) → World → Prop} (i1 i2 i3 i4 i5 i6 i7 i8 i9 i10 i11 i12 i13 i14 i15 i16 i17 i18 i19 : Nat) {v1 v2 v3 v4 v5 v6 v7 v8 v9 v10 v11 v12 v13 v14 v15 v16 v17 v18 v19 : Value} (h1 : s i1 = v1) (h2 : s i2 = v2) (h3 : s i3 = v3) (h4 : s i4 = v4) (h5 : s i5 = v5) (h6 : s i6 = v6) (h7 : s i7 = v7) (h8 : s i8 = v8) (h9 : s i9 = v9) (h10 : s i10 = v10) (h11 : s i11 = v11) (h12 : s i12 = v12) (h13 : s i13 = v13) (h14 : s i14 = v14) (h15 : s i15 = v15) (h16 : s i16 = v16) (h17 : s i17 = v17) (h18 : s i18 = v18) (h19 : s i19 = v19) (h : ∀ g, J (upd (upd (upd (upd (upd (upd (upd (upd (upd (upd (upd (upd (upd (upd (upd (upd (upd (upd (upd g i1 v1) i2 v2) i3 v3) i4 v4) i5 v5) i6 v6) i7 v7) i8 v8) i9 v9) i10 v10) i11 v11) i12 v12) i13 v13) i14 v14) i15 v15) i16 v16) i17 v17) i18 v18) i19 v19) w) : J s w := by
  have e := h s
  rw [upd_self (s := s) (i := i1) h1] at e
  rw [upd_self (s := s) (i := i2) h2] at e
  rw [upd_self (s := s) (i := i3) h3] at e
  rw [upd_self (s := s) (i := i4) h4] at e
  rw [upd_self (s := s) (i := i5) h5] at e
  rw [upd_self (s := s) (i := i6) h6] at e
  rw [upd_self (s := s) (i := i7) h7] at e
  rw [upd_self (s := s) (i := i8) h8] at e
  rw [upd_self (s := s) (i := i9) h9] at e
  rw [upd_self (s := s) (i := i10) h10] at e
  rw [upd_self (s := s) (i := i11) h11] at e
  rw [upd_self (s := s) (i := i12) h12] at e
  rw [upd_self (s := s) (i := i13) h13] at e
  rw [upd_self (s := s) (i := i14) h14] at e
  rw [upd_self (s := s) (i := i15) h15] at e
  rw [upd_self (s := s) (i := i16) h16] at e
  rw [upd_self (s := s) (i := i17) h17] at e
  rw [upd_self (s := s) (i := i18) h18] at e
  rw [upd_self (s := s) (i := i19) h19] at e
  exact e
theorem fJ20 {J : (Nat → Value) → World → Prop} (i1 i2 i3 i4 i5 i6 i7 i8 i9 i10 i11 i12 i13 i14 i15 i16 i17 i18 i19 i20 : Nat) {v1 v2 v3 v4 v5 v6 v7 v8 v9 v10 v11 v12 v13 v14 v15 v16 v17 v18 v19 v20 : Value} (h1 : s i1 = v1) (h2 : s i2 = v2) (h3 : s i3 = v3) (h4 : s i4 = v4) (h5 : s i5 = v5) (h6 : s i6 = v6) (h7 : s i7 = v7) (h8 : s i8 = v8) (h9 : s i9 = v9) (h10 : s i10 = v10) (h11 : s i11 = v11) (h12 : s i12 = v12) (h13 : s i13 = v13) (h14 : s i14 = v14) (h15 : s i15 = v15) (h16 : s i16 = v16) (h17 : s i17 = v17) (h18 : s i18 = v18) (h19 : s i19 = v19) (h20 : s i20 = v20) (h : ∀ g, J (upd (upd (upd (upd (upd (upd (upd (upd (upd (upd (upd (upd (upd (upd (upd (upd (upd (upd (upd (upd g i1 v1) i2 v2) i3 v3) i4 v4) i5 v5) i6 v6) i7 v7) i8 v8) i9 v9) i10 v10) i11 v11) i12 v12) i13 v13) i14 v14) i15 v15) i16 v16) i17 v17) i18 v18) i19 v19) i20 v20) w) : J s w := by
  have e := h s
  rw [upd_self (s := s) (i := i1) h1] at e
  rw [upd_self (s := s) (i := i2) h2] at e
  rw [upd_self (s := s) (i := i3) h3] at e
  rw [upd_self (s := s) (i := i4) h4] at e
  rw [upd_self (s := s) (i := i5) h5] at e
  rw [upd_self (s := s) (i := i6) h6] at e
  rw [upd_self (s := s) (i := i7) h7] at e
  rw [upd_self (s := s) (i := i8) h8] at e
  rw [upd_self (s := s) (i := i9) h9] at e
  rw [upd_self (s := s) (i := i10) h10] at e
  rw [upd_self (s := s) (i := i11) h11] at e
  rw [upd_self (s := s) (i := i12) h12] at e
  rw [upd_self (s := s) (i := i13) h13] at e
  rw [upd_self (s := s) (i := i14) h14] at e
  rw [upd_self (s := s) (i := i15) h15] at e
  rw [upd_self (s := s) (i := i16) h16] at e
  rw [upd_self (s := s) (i := i17) h17] at e
  rw [upd_self (s := s) (i := i18) h18] at e
  rw [upd_self (s := s) (i := i19) h19] at e
  rw [upd_self (s := s) (i := i20) h20] at e
  exact e
theorem fJ21 {J : (Nat → Value) → World → Prop} (i1 i2 i3 i4 i5 i6 i7 i8 i9 i10 i11 i12 i13 i14 i15 i16 i17 i18 i19 i20 i21 : Nat) {v1 v2 v3 v4 v5 v6 v7 v8 v9 v10 v11 v12 v13 v14 v15 v16 v17 v18 v19 v20 v21 : Value} (h1 : s i1 = v1) (h2 : s i2 = v2) (h3 : s i3 = v3) (h4 : s i4 = v4) (h5 : s i5 = v5) (h6 : s i6 = v6) (h7 : s i7 = v7) (h8 : s i8 = v8) (h9 : s i9 = v9) (h10 : s i10 = v10) (h11 : s i11 = v11) (h12 : s i12 = v12) (h13 : s i13 = v13) (h14 : s i14 = v14) (h15 : s i15 = v15) (h16 : s i16 = v16) (h17 : s i17 = v17) (h18 : s i18 = v18) (h19 : s i19 = v19) (h20 : s i20 = v20) (h21 : s i21 = v21) (h : ∀ g, J (upd (upd (upd (upd (upd (upd (upd (upd (upd (upd (upd (upd (upd (upd (upd (upd (upd (upd (upd (upd (upd g i1 v1) i2 v2) i3 v3) i4 v4) i5 v5) i6 v6) i7 v7) i8 v8) i9 v9) i10 v10) i11 v11) i12 v12) i13 v13) i14 v14) i15 v15) i16 v16) i17 v17) i18 v18) i19 v19) i20 v20) i21 v21) w) : J s w := by
  have e := h s
  rw [upd_self (s := s) (i := i1) h1] at e
  rw [upd_self (s := s) (i := i2) h2] at e
  rw [upd_self (s := s) (i := i3) h3] at e
  rw [upd_self (s := s) (i := i4) h4] at e
  rw [upd_self (s := s) (i := i5) h5] at e
  rw [upd_self (s := s) (i := i6) h6] at e
  rw [upd_self (s := s) (i := i7) h7] at e
  rw [upd_self (s := s) (i := i8) h8] at e
  rw [upd_self (s := s) (i := i9) h9] at e
  rw [upd_self (s := s) (i := i10) h10] at e
  rw [upd_self (s := s) (i := i11) h11] at e
  rw [upd_self (s := s) (i := i12) h12] at e
  rw [upd_self (s := s) (i := i13) h13] at e
  rw [upd_self (s := s) (i := i14) h14] at e
  rw [upd_self (s := s) (i := i15) h15] at e
  rw [upd_self (s := s) (i := i16) h16] at e
  rw [upd_self (s := s) (i := i17) h17] at e
  rw [upd_self (s := s) (i := i18) h18] at e
  rw [upd_self (s := s) (i := i19) h19] at e
  rw [upd_self (s := s) (i := i20) h20] at e
  rw [upd_self (s := s) (i := i21) h21] at e
  exact e
theorem fJ22 {J : (Nat → Value) → World → Prop} (i1 i2 i3 i4 i5 i6 i7 i8 i9 i10 i11 i12 i13 i14 i15 i16 i17 i18 i19 i20 i21 i22 : Nat) {v1 v2 v3 v4 v5 v6 v7 v8 v9 v10 v11 v12 v13 v14 v15 v16 v17 v18 v19 v20 v21 v22 : Value} (h1 : s i1 = v1) (h2 : s i2 = v2) (h3 : s i3 = v3) (h4 : s i4 = v4) (h5 : s i5 = v5) (h6 : s i6 = v6) (h7 : s i7 = v7) (h8 : s i8 = v8) (h9 : s i9 = v9) (h10 : s i10 = v10) (h11 : s i11 = v11) (h12 : s i12 = v12) (h13 : s i13 = v13) (h14 : s i14 = v14) (h15 : s i15 = v15) (h16 : s i16 = v16) (h17 : s i17 = v17) (h18 : s i18 = v18) (h19 : s i19 = v19) (h20 : s i20 = v20) (h21 : s i21 = v21) (h22 : s i22 = v22) (h : ∀ g, J (upd (upd (upd (upd (upd (upd (upd (upd (upd (upd (upd (upd (upd (upd (upd (upd (upd (upd (upd (upd (upd (upd g i1 v1) i2 v2) i3 v3) i4 v4) i5 v5) i6 v6) i7 v7) i8 v8) i9 v9) i10 v10) i11 v11) i12 v12) i13 v13) i14 v14) i15 v15) i16 v16) i17 v17) i18 v18) i19 v19) i20 v20) i21 v21) i22 v22) w) : J s w := by
  have e := h s
  rw [upd_self (s := s) (i := i1) h1] at e
  rw [upd_self (s := s) (i := i2) h2] at e
  rw [upd_self (s := s) (i := i3) h3] at e
  rw [upd_self (s := s) (i := i4) h4] at e
  rw [upd_self (s := s) (i := i5) h5] at e
  rw [upd_self (s := s) (i := i6) h6] at e
  rw [upd_self (s := s) (i := i7) h7] at e
  rw [upd_self (s := s) (i := i8) h8] at e
  rw [upd_self (s := s) (i := i9) h9] at e
  rw [upd_self (s := s) (i := i10) h10] at e
  rw [upd_self (s := s) (i := i11) h11] at e
  rw [upd_self (s := s) (i := i12) h12] at e
  rw [upd_self (s := s) (i := i13) h13] at e
  rw [upd_self (s := s) (i := i14) h14] at e
  rw [upd_self (s := s) (i := i15) h15] at e
  rw [upd_self (s := s) (i := i16) h16] at e
  rw [upd_self (s := s) (i := i17) h17] at e
  rw [upd_self (s := s) (i := i18) h18] at e
  rw [upd_self (s := s) (i := i19) h19] at e
  rw [upd_self (s := s) (i := i20) h20] at e
  rw [upd_self (s := s) (i := i21) h21] at e
  rw [upd_self (s := s) (i := i22) h22] at e
  exact e
theorem fJ23 {J : (Nat → Value) → World → Prop} (i1 i2 i3 i4 i5 i6 i7 i8 i9 i10 i11 i12 i13 i14 i15 i16 i17 i18 i19 i20 i21 i22 i23 : Nat) {v1 v2 v3 v4 v5 v6 v7 v8 v9 v10 v11 v12 v13 v14 v15 v16 v17 v18 v19 v20 v21 v22 v23 : Value} (h1 : s i1 = v1) (h2 : s i2 = v2) (h3 : s i3 = v3) (h4 : s i4 = v4) (h5 : s i5 = v5) (h6 : s i6 = v6) (h7 : s i7 = v7) (h8 : s i8 = v8) (h9 : s i9 = v9) (h10 : s i10 = v10) (h11 : s i11 = v11) (h12 : s i12 = v12) (h13 : s i13 = v13) (h14 : s i14 = v14) (h15 : s i15 = v15) (h16 : s i16 = v16) (h17 : s i17 = v17) (h18 : s i18 = v18) (h19 : s i19 = v19) (h20 : s i20 = v20) (h21 : s i21 = v21) (h22 : s i22 = v22) (h23 : s i23 = v23) (h : ∀ g, J (upd (upd (upd (upd (upd (upd (upd (upd (upd (upd (upd (upd (upd (upd (upd (upd (upd (upd (upd (upd (upd (upd (upd g i1 v1) i2 v2) i3 v3) i4 v4) i5 v5) i6 v6) i7 v7) i8 v8) i9 v9) i10 v10) i11 v11) i12 v12) i13 v13) i14 v14) i15 v15) i16 v16) i17 v17) i18 v18) i19 v19) i20 v20) i21 v21) i22 v22) i23 v23) w) : J s w := by
  have e := h s
  rw [upd_self (s := s) (i := i1) h1] at e
  rw [upd_self (s := s) (i := i2) h2] at e
  rw [upd_self (s := s) (i := i3) h3] at e
  rw [upd_self (s := s) (i := i4) h4] at e
  rw [upd_self (s := s) (i := i5) h5] at e
  rw [upd_self (s := s) (i := i6) h6] at e
  rw [upd_self (s := s) (i := i7) h7] at e
  rw [upd_self (s := s) (i := i8) h8] at e
  rw [upd_self (s := s) (i := i9) h9] at e
  rw [upd_self (s := s) (i := i10) h10] at e
  rw [upd_self (s := s) (i := i11) h11] at e
  rw [upd_self (s := s) (i := i12) h12] at e
  rw [upd_self (s := s) (i := i13) h13] at e
  rw [upd_self (s := s) (i := i14) h14] at e
  rw [upd_self (s := s) (i := i15) h15] at e
  rw [upd_self (s := s) (i := i16) h16] at e
  rw [upd_self (s := s) (i := i17) h17] at e
  rw [upd_self (s := s) (i := i18) h18] at e
  rw [upd_self (s := s) (i := i19) h19] at e
  rw [upd_self (s := s) (i := i20) h20] at e
  rw [upd_self (s := s) (i := i21) h21] at e
  rw [upd_self (s := s) (i := i22) h22] at e
  rw [upd_self (s := s) (i := i23) h23] at e
  exact e
theorem fJ24 {J : (Nat → Value) → World → Prop} (i1 i2 i3 i4 i5 i6 i7 i8 i9 i10 i11 i12 i13 i14 i15 i16 i17 i18 i19 i20 i21 i22 i23 i24 : Nat) {v1 v2 v3 v4 v5 v6 v7 v8 v9 v10 v11 v12 v13 v14 v15 v16 v17 v18 v19 v20 v21 v22 v23 v24 : Value} (h1 : s i1 = v1) (h2 : s i2 = v2) (h3 : s i3 = v3) (h4 : s i4 = v4) (h5 : s i5 = v5) (h6 : s i6 = v6) (h7 : s i7 = v7) (h8 : s i8 = v8) (h9 : s i9 = v9) (h10 : s i10 = v10) (h11 : s i11 = v11) (h12 : s i12 = v12) (h13 : s i13 = v13) (h14 : s i14 = v14) (h15 : s i15 = v15) (h16 : s i16 = v16) (h17 : s i17 = v17) (h18 : s i18 = v18) (h19 : s i19 = v19) (h20 : s i20 = v20) (h21 : s i21 = v21) (h22 : s i22 = v22) (h23 : s i23 = v23) (h24 : s i24 = v24) (h : ∀ g, J (upd (upd (upd (upd (upd (upd (upd (upd (upd (upd (upd (upd (upd (upd (upd (upd (upd (upd (upd (upd (upd (upd (upd (upd g i1 v1) i2 v2) i3 v3) i4 v4) i5 v5) i6 v6) i7 v7) i8 v8) i9 v9) i10 v10) i11 v11) i12 v12) i13 v13) i14 v14) i15 v15) i16 v16) i17 v17) i18 v18) i19 v19) i20 v20) i21 v21) i22 v22) i23 v23) i24 v24) w) : J s w := by
  have e := h s
  rw [upd_self (s := s) (i := i1) h1] at e
  rw [upd_self (s := s) (i := i2) h2] at e
  rw [upd_self (s := s) (i := i3) h3] at e
  rw [upd_self (s := s) (i := i4) h4] at e
  rw [upd_self (s := s) (i := i5) h5] at e
  rw [upd_self (s := s) (i := i6) h6] at e
  rw [upd_self (s := s) (i := i7) h7] at e
  rw [upd_self (s := s) (i := i8) h8] at e
  rw [upd_self (s := s) (i := i9) h9] at e
  rw [upd_self (s := s) (i := i10) h10] at e
  rw [upd_self (s := s) (i := i11) h11] at e
  rw [upd_self (s := s) (i := i12) h12] at e
  rw [upd_self (s := s) (i := i13) h13] at e
  rw [upd_self (s := s) (i := i14) h14] at e
  rw [upd_self (s := s) (i := i15) h15] at e
  rw [upd_self (s := s) (i := i16) h16] at e
  rw [upd_self (s := s) (i := i17) h17] at e
  rw [upd_self (s := s) (i := i18) h18] at e
  rw [upd_self (s := s) (i := i19) h19] at e
  rw [upd_self (s := s) (i := i20) h20] at e
  rw [upd_self (s := s) (i := i21) h21] at e
  rw [upd_self (s := s) (i := i22) h22] at e
  rw [upd_self (s := s) (i := i23) h23] at e
  rw [upd_self (s := s) (i := i24) h24] at e
  exact e
theorem fJ25 {J : (Nat → Value) → World → Prop} (i1 i2 i3 i4 i5 i6 i7 i8 i9 i10 i11 i12 i13 i14 i15 i16 i17 i18 i19 i20 i21 i22 i23 i24 i25 : Nat) {v1 v2 v3 v4 v5 v6 v7 v8 v9 v10 v11 v12 v13 v14 v15 v16 v17 v18 v19 v20 v21 v22 v23 v24 v25 : Value} (h1 : s i1 = v1) (h2 : s i2 = v2) (h3 : s i3 = v3) (h4 : s i4 = v4) (h5 : s i5 = v5) (h6 : s i6 = v6) (h7 : s i7 = v7) (h8 : s i8 = v8) (h9 : s i9 = v9) (h10 : s i10 = v10) (h11 : s i11 = v11) (h12 : s i12 = v12) (h13 : s i13 = v13) (h14 : s i14 = v14) (h15 : s i15 = v15) (h16 : s i16 = v16) (h17 : s i17 = v17) (h18 : s i18 = v18) (h19 : s i19 = v19) (h20 : s i20 = v20) (h21 : s i21 = v21) (h22 : s i22 = v22) (h23 : s i23 = v23) (h24 : s i24 = v24) (h25 : s i25 = v25) (h : ∀ g, J (upd (upd (upd (upd (upd (upd (upd (upd (upd (upd (upd (upd (upd (upd (upd (upd (upd (upd (upd (upd (upd (upd (upd (upd (upd g i1 v1) i2 v2) i3 v3) i4 v4) i5 v5) i6 v6) i7 v7) i8 v8) i9 v9) i10 v10) i11 v11) i12 v12) i13 v13) i14 v14) i15 v15) i16 v16) i17 v17) i18 v18) i19 v19) i20 v20) i21 v21) i22 v22) i23 v23) i24 v24) i25 v25) w) : J s w := by
  have e := h s
  rw [upd_self (s := s) (i := i1) h1] at e
  rw [upd_self (s := s) (i := i2) h2] at e
  rw [upd_self (s := s) (i := i3) h3] at e
  rw [upd_self (s := s) (i := i4) h4] at e
  rw [upd_self (s := s) (i := i5) h5] at e
  rw [upd_self (s := s) (i := i6) h6] at e
  rw [upd_self (s := s) (i := i7) h7] at e
  rw [upd_self (s := s) (i := i8) h8] at e
  rw [upd_self (s := s) (i := i9) h9] at e
  rw [upd_self (s := s) (i := i10) h10] at e
  rw [upd_self (s := s) (i := i11) h11] at e
  rw [upd_self (s := s) (i := i12) h12] at e
  rw [upd_self (s := s) (i := i13) h13] at e
  rw [upd_self (s := s) (i := i14) h14] at e
  rw [upd_self (s := s) (i := i15) h15] at e
  rw [upd_self (s := s) (i := i16) h16] at e
  rw [upd_self (s := s) (i := i17) h17] at e
  rw [upd_self (s := s) (i := i18) h18] at e
  rw [upd_self (s := s) (i := i19) h19] at e
  rw [upd_self (s := s) (i := i20) h20] at e
  rw [upd_self (s := s) (i := i21) h21] at e
  rw [upd_self (s := s) (i := i22) h22] at e
  rw [upd_self (s := s) (i := i23) h23] at e
  rw [upd_self (s := s) (i := i24) h24] at e
  rw [upd_self (s := s) (i := i25) h25] at e
  exact e
theorem tl1 {ops : Array Oper} {S : World → Prop} {fin : Nat} {J : (Nat → Value) → World → Prop} (i1 : Nat) {v1 : Value} (h1 : s i1 = v1) (h : ∀ g, J (upd g i1 v1) w) : WT ops (fun _ a w' => ∃ s', a = mk n s' ∧ J s' w') S fin .fin n s w := t_leaf (fJ1 i1 h1 h)
theorem tl2 {ops : Array Oper} {S : World → Prop} {fin : Nat} {J : (Nat → Value) → World → Prop} (i1 i2 : Nat) {v1 v2 : Value} (h1 : s i1 = v1) (h2 : s i2 = v2) (h : ∀ g, J (upd (upd g i1 v1) i2 v2) w) : WT ops (fun _ a w' => ∃ s', a = mk n s' ∧ J s' w') S fin .fin n s w := t_leaf (fJ2 i1 i2 h1 h2 h)
theorem tl3 {ops : Array Oper} {S : World → Prop} {fin : Nat} {J : (Nat → Value) → World → Prop} (i1 i2 i3 : Nat) {v1 v2 v3 : Value} (h1 : s i1 = v1) (h2 : s i2 = v2) (h3 : s i3 = v3) (h : ∀ g, J (upd (upd (upd g i1 v1) i2 v2) i3 v3) w) : WT ops (fun _ a w' => ∃ s', a = mk n s' ∧ J s' w') S fin .fin n s w := t_leaf (fJ3 i1 i2 i3 h1 h2 h3 h)
theorem tl4 {ops : Array Oper} {S : World → Prop} {fin : Nat} {J : (Nat → Value) → World → Prop} (i1 i2 i3 i4 : Nat) {v1 v2 v3 v4 : Value} (h1 : s i1 = v1) (h2 : s i2 = v2) (h3 : s i3 = v3) (h4 : s i4 = v4) (h : ∀ g, J (upd (upd (upd (upd g i1 v1) i2 v2) i3 v3) i4 v4) w) : WT ops (fun _ a w' => ∃ s', a = mk n s' ∧ J s' w') S fin .fin n s w := t_leaf (fJ4 i1 i2 i3 i4 h1 h2 h3 h4 h)
theorem tl5 {ops : Array Oper} {S : World → Prop} {fin : Nat} {J : (Nat → Value) → World → Prop} (i1 i2 i3 i4 i5 : Nat) {v1 v2 v3 v4 v5 : Value} (h1 : s i1 = v1) (h2 : s i2 = v2) (h3 : s i3 = v3) (h4 : s i4 = v4) (h5 : s i5 = v5) (h : ∀ g, J (upd (upd (upd (upd (upd g i1 v1) i2 v2) i3 v3) i4 v4) i5 v5) w) : WT ops (fun _ a w' => ∃ s', a = mk n s' ∧ J s' w') S fin .fin n s w := t_leaf (fJ5 i1 i2 i3 i4 i5 h1 h2 h3 h4 h5 h)
theorem tl6 {ops : Array Oper} {S : World → Prop} {fin : Nat} {J : (Nat → Value) → World → Prop} (i1 i2 i3 i4 i5 i6 : Nat) {v1 v2 v3 v4 v5 v6 : Value} (h1 : s i1 = v1) (h2 : s i2 = v2) (h3 : s i3 = v3) (h4 : s i4 = v4) (h5 : s i5 = v5) (h6 : s i6 = v6) (h : ∀ g, J (upd (upd (upd (upd (upd (upd g i1 v1) i2 v2) i3 v3) i4 v4) i5 v5) i6 v6) w) : WT ops (fun _ a w' => ∃ s', a = mk n s' ∧ J s' w') S fin .fin n s w := t_leaf (fJ6 i1 i2 i3 i4 i5 i6 h1 h2 h3 h4 h5 h6 h)
theorem tl7 {ops : Array Oper} {S : World → Prop} {fin : Nat} {J : (Nat → Value) → World → Prop} (i1 i2 i3 i4 i5 i6 i7 : Nat) {v1 v2 v3 v4 v5 v6 v7 : Value} (h1 : s i1 = v1) (h2 : s i2 = v2) (h3 : s i3 = v3) (h4 : s i4 = v4) (h5 : s i5 = v5) (h6 : s i6 = v6) (h7 : s i7 = v7) (h : ∀ g, J (upd (upd (upd (upd (upd (upd (upd g i1 v1) i2 v2) i3 v3) i4 v4) i5 v5) i6 v6) i7 v7) w) : WT ops (fun _ a w' => ∃ s', a = mk n s' ∧ J s' w') S fin .fin n s w := t_leaf (fJ7 i1 i2 i3 i4 i5 i6 i7 h1 h2 h3 h4 h5 h6 h7 h)
theorem tl8 {ops : Array Oper} {S : World → Prop} {fin : Nat} {J : (Nat → Value) → World → Prop} (i1 i2 i3 i4 i5 i6 i7 i8 : Nat) {v1 v2 v3 v4 v5 v6 v7 v8 : Value} (h1 : s i1 = v1) (h2 : s i2 = v2) (h3 : s i3 = v3) (h4 : s i4 = v4) (h5 : s i5 = v5) (h6 : s i6 = v6) (h7 : s i7 = v7) (h8 : s i8 = v8) (h : ∀ g, J (upd (upd (upd (upd (upd (upd (upd (upd g i1 v1) i2 v2) i3 v3) i4 v4) i5 v5) i6 v6) i7 v7) i8 v8) w) : WT ops (fun _ a w' => ∃ s', a = mk n s' ∧ J s' w') S fin .fin n s w := t_leaf (fJ8 i1 i2 i3 i4 i5 i6 i7 i8 h1 h2 h3 h4 h5 h6 h7 h8 h)
theorem tl9 {ops : Array Oper} {S : World → Prop} {fin : Nat} {J : (Nat → Value) → World → Prop} (i1 i2 i3 i4 i5 i6 i7 i8 i9 : Nat) {v1 v2 v3 v4 v5 v6 v7 v8 v9 : Value} (h1 : s i1 = v1) (h2 : s i2 = v2) (h3 : s i3 = v3) (h4 : s i4 = v4) (h5 : s i5 = v5) (h6 : s i6 = v6) (h7 : s i7 = v7) (h8 : s i8 = v8) (h9 : s i9 = v9) (h : ∀ g, J (upd (upd (upd (upd (upd (upd (upd (upd (upd g i1 v1) i2 v2) i3 v3) i4 v4) i5 v5) i6 v6) i7 v7) i8 v8) i9 v9) w) : WT ops (fun _ a w' => ∃ s', a = mk n s' ∧ J s' w') S fin .fin n s w := t_leaf (fJ9 i1 i2 i3 i4 i5 i6 i7 i8 i9 h1 h2 h3 h4 h5 h6 h7 h8 h9 h)
theorem tl10 {ops : Array Oper} {S : World → Prop} {fin : Nat} {J : (Nat → Value) → World → Prop} (i1 i2 i3 i4 i5 i6 i7 i8 i9 i10 : Nat) {v1 v2 v3 v4 v5 v6 v7 v8 v9 v10 : Value} (h1 : s i1 = v1) (h2 : s i2 = v2) (h3 : s i3 = v3) (h4 : s i4 = v4) (h5 : s i5 = v5) (h6 : s i6 = v6) (h7 : s i7 = v7) (h8 : s i8 = v8) (h9 : s i9 = v9) (h10 : s i10 = v10) (h : ∀ g, J (upd (upd (upd (upd (upd (upd (upd (upd (upd (upd g i1 v1) i2 v2) i3 v3) i4 v4) i5 v5) i6 v6) i7 v7) i8 v8) i9 v9) i10 v10) w) : WT ops (fun _ a w' => ∃ s', a = mk n s' ∧ J s' w') S fin .fin n s w := t_leaf (fJ10 i1 i2 i3 i4 i5 i6 i7 i8 i9 i10 h1 h2 h3 h4 h5 h6 h7 h8 h9 h10 h)
theorem tl11 {ops : Array Oper} {S : World → Prop} {fin : Nat} {J : (Nat → Value) → World → Prop} (i1 i2 i3 i4 i5 i6 i7 i8 i9 i10 i11 : Nat) {v1 v2 v3 v4 v5 v6 v7 v8 v9 v10 v11 : Value} (h1 : s i1 = v1) (h2 : s i2 = v2) (h3 : s i3 = v3) (h4 : s i4 = v4) (h5 : s i5 = v5) (h6 : s i6 = v6) (h7 : s i7 = v7) (h8 : s i8 = v8) (h9 : s i9 = v9) (h10 : s i10 = v10) (h11 : s i11 = v11) (h : ∀ g, J (upd (upd (upd (upd (upd (upd (upd (upd (upd (upd (upd g i1 v1) i2 v2) i3 v3) i4 v4) i5 v5) i6 v6) i7 v7) i8 v8) i9 v9) i10 v10) i11 v11) w) : WT ops (fun _ a w' => ∃ s', a = mk n s' ∧ J s' w') S fin .fin n s w := t_leaf (fJ11 i1 i2 i3 i4 i5 i6 i7 i8 i9 i10 i11 h1 h2 h3 h4 h5 h6 h7 h8 h9 h10 h11 h)
theorem tl12 {ops : Array Oper} {S : World → Prop} {fin : Nat} {J : (Nat → Value) → World → Prop} (i1 i2 i3 i4 i5 i6 i7 i8 i9 i10 i11 i12 : Nat) {v1 v2 v3 v4 v5 v6 v7 v8 v9 v10 v11 v12 : Value} (h1 : s i1 = v1) (h2 : s i2 = v2) (h3 : s i3 = v3) (h4 : s i4 = v4) (h5 : s i5 = v5) (h6 : s i6 = v6) (h7 : s i7 = v7) (h8 : s i8 = v8) (h9 : s i9 = v9) (h10 : s i10 = v10) (h11 : s i11 = v11) (h12 : s i12 = v12) (h : ∀ g, J (upd (upd (upd (upd (upd (upd (upd (upd (upd (upd (upd (upd g i1 v1) i2 v2) i3 v3) i4 v4) i5 v5) i6 v6) i7 v7) i8 v8) i9 v9) i10 v10) i11 v11) i12 v12) w) : WT ops (fun _ a w' => ∃ s', a = mk n s' ∧ J s' w') S fin .fin n s w := t_leaf (fJ12 i1 i2 i3 i4 i5 i6 i7 i8 i9 i10 i11 i12 h1 h2 h3 h4 h5 h6 h7 h8 h9 h10 h11 h12 h)
theorem tl13 {ops : Array Oper} {S : World → Prop} {fin : Nat} {J : (Nat → Value) → World → Prop} (i1 i2 i3 i4 i5 i6 i7 i8 i9 i10 i11 i12 i13 : Nat) {v1 v2 v3 v4 v5 v6 v7 v8 v9 v10 v11 v12 v13 : Value} (h1 : s i1 = v1) (h2 : s i2 = v2) (h3 : s i3 = v3) (h4 : s i4 = v4) (h5 : s i5 = v5) (h6 : s i6 = v6) (h7 : s i7 = v7) (h8 : s i8 = v8) (h9 : s i9 = v9) (h10 : s i10 = v10) (h11 : s i11 = v11) (h12 : s i12 = v12) (h13 : s i13 = v13) (h : ∀ g, J (upd (upd (upd (upd (upd (upd (upd (upd (upd (upd (upd (upd (upd g i1 v1) i2 v2) i3 v3) i4 v4) i5 v5) i6 v6) i7 v7) i8 v8) i9 v9) i10 v10) i11 v11) i12 v12) i13 v13) w) : WT ops (fun _ a w' => ∃ s', a = mk n s' ∧ J s' w') S fin .fin n s w := t_leaf (fJ13 i1 i2 i3 i4 i5 i6 i7 i8 i9 i10 i11 i12 i13 h1 h2 h3 h4 h5 h6 h7 h8 h9 h10 h11 h12 h13 h)
theorem tl14 {ops : Array Oper} {S : World → Prop} {fin : Nat} {J : (Nat → Value) → World → Prop} (i1 i2 i3 i4 i5 i6 i7 i8 i9 i10 i11 i12 i13 i14 : Nat) {v1 v2 v3 v4 v5 v6 v7 v8 v9 v10 v11 v12 v13 v14 : Value} (h1 : s i1 = v1) (h2 : s i2 = v2) (h3 : s i3 = v3) (h4 : s i4 = v4) (h5 : s i5 = v5) (h6 : s i6 = v6) (h7 : s i7 = v7) (h8 : s i8 = v8) (h9 : s i9 = v9) (h10 : s i10 = v10) (h11 : s i11 = v11) (h12 : s i12 = v12) (h13 : s i13 = v13) (h14 : s i14 = v14) (h : ∀ g, J (upd (upd (upd (upd (upd (upd (upd (upd (upd (upd (upd (upd (upd (upd g i1 v1) i2 v2) i3 v3) i4 v4) i5 v5) i6 v6) i7 v7) i8 v8) i9 v9) i10 v10) i11 v11) i12 v12) i13 v13) i14 v14) w) : WT ops (fun _ a w' => ∃ s', a = mk n s' ∧ J s' w') S fin .fin n s w := t_leaf (fJ14 i1 i2 i3 i4 i5 i6 i7 i8 i9 i10 i11 i12 i13 i14 h1 h2 h3 h4 h5 h6 h7 h8 h9 h10 h11 h12 h13 h14 h)
theorem tl15 {ops : Array Oper} {S : World → Prop} {fin : Nat} {J : (Nat → Value) → World → Prop} (i1 i2 i3 i4 i5 i6 i7 i8 i9 i10 i11 i12 i13 i14 i15 : Nat) {v1 v2 v3 v4 v5 v6 v7 v8 v9 v10 v11 v12 v13 v14 v15 : Value} (h1 : s i1 = v1) (h2 : s i2 = v2) (h3 : s i3 = v3) (h4 : s i4 = v4) (h5 : s i5 = v5) (h6 : s i6 = v6) (h7 : s i7 = v7) (h8 : s i8 = v8) (h9 : s i9 = v9) (h10 : s i10 = v10) (h11 : s i11 = v11) (h12 : s i12 = v12) (h13 : s i13 = v13) (h14 : s i14 = v14) (h15 : s i15 = v15) (h : ∀ g, J (upd (upd (upd (upd (upd (upd (upd (upd (upd (upd (upd (upd (upd (upd (upd g i1 v1) i2 v2) i3 v3) i4 v4) i5 v5) i6 v6) i7 v7) i8 v8) i9 v9) i10 v10) i11 v11) i12 v12) i13 v13) i14 v14) i15 v15) w) : WT ops (fun _ a w' => ∃ s', a = mk n s' ∧ J s' w') S fin .fin n s w := t_leaf (fJ15 i1 i2 i3 i4 i5 i6 i7 i8 i9 i10 i11 i12 i13 i14 i15 h1 h2 h3 h4 h5 h6 h7 h8 h9 h10 h11 h12 h13 h14 h15 h)
theorem tl16 {ops : Array Oper} {S : World → Prop} {fin : Nat} {J : (Nat → Value) → World → Prop} (i1 i2 i3 i4 i5 i6 i7 i8 i9 i10 i11 i12 i13 i14 i15 i16 : Nat) {v1 v2 v3 v4 v5 v6 v7 v8 v9 v10 v11 v12 v13 v14 v15 v16 : Value} (h1 : s i1 = v1) (h2 : s i2 = v2) (h3 : s i3 = v3) (h4 : s i4 = v4) (h5 : s i5 = v5) (h6 : s i6 = v6) (h7 : s i7 = v7) (h8 : s i8 = v8) (h9 : s i9 = v9) (h10 : s i10 = v10) (h11 : s i11 = v11) (h12 : s i12 = v12) (h13 : s i13 = v13) (h14 : s i14 = v14) (h15 : s i15 = v15) (h16 : s i16 = v16) (h : ∀ g, J (upd (upd (upd (upd (upd (upd (upd (upd (upd (upd (upd (upd (upd (upd (upd (upd g i1 v1) i2 v2) i3 v3) i4 v4) i5 v5) i6 v6) i7 v7) i8 v8) i9 v9) i10 v10) i11 v11) i12 v12) i13 v13) i14 v14) i15 v15) i16 v16) w) : WT ops (fun _ a w' => ∃ s', a = mk n s' ∧ J s' w') S fin .fin n s w := t_leaf (fJ16 i1 i2 i3 i4 i5 i6 i7 i8 i9 i10 i11 i12 i13 i14 i15 i16 h1 h2 h3 h4 h5 h6 h7 h8 h9 h10 h11 h12 h13 h14 h15 h16 h)
theorem tl17 {ops : Array Oper} {S : World → Prop} {fin : Nat} {J : (Nat → Value) → World → Prop} (i1 i2 i3 i4 i5 i6 i7 i8 i9 i10 i11 i12 i13 i14 i15 i16 i17 : Nat) {v1 v2 v3 v4 v5 v6 v7 v8 v9 v10 v11 v12 v13 v14 v15 v16 v17 : Value} (h1 : s i1 = v1) (h2 : s i2 = v2) (h3 : s i3 = v3) (h4 : s i4 = v4) (h5 : s i5 = v5) (h6 : s i6 = v6) (h7 : s i7 = v7) (h8 : s i8 = v8) (h9 : s i9 = v9) (h10 : s i10 = v10) (h11 : s i11 = v11) (h12 : s i12 = v12) (h13 : s i13 = v13) (h14 : s i14 = v14) (h15 : s i15 = v15) (h16 : s i16 = v16) (h17 : s i17 = v17) (h : ∀ g, J (upd (upd (upd (upd (upd (upd (upd (upd (upd (upd (upd (upd (upd (upd (upd (upd (upd g i1 v1) i2 v2) i3 v3) i4 v4) i5 v5) i6 v6) i7 v7) i8 v8) i9 v9) i10 v10) i11 v11) i12 v12) i13 v13) i14 v14) i15 v15) i16 v16) i17 v17) w) : WT ops (fun _ a w' => ∃ s', a = mk n s' ∧ J s' w') S fin .fin n s w := t_leaf (fJ17 i1 i2 i3 i4 i5 i6 i7 i8 i9 i10 i11 i12 i13 i14 i15 i16 i17 h1 h2 h3 h4 h5 h6 h7 h8 h9 h10 h11 h12 h13 h14 h15 h16 h17 h)
theorem tl18 {ops : Array Oper} {S : World → Prop} {fin : Nat} {J : (Nat → Value) → World → Prop} (i1 i2 i3 i4 i5 i6 i7 i8 i9 i10 i11 i12 i13 i14 i15 i16 i17 i18 : Nat) {v1 v2 v3 v4 v5 v6 v7 v8 v9 v10 v11 v12 v13 v14 v15 v16 v17 v18 : Value} (h1 : s i1 = v1) (h2 : s i2 = v2) (h3 : s i3 = v3) (h4 : s i4 = v4) (h5 : s i5 = v5) (h6 : s i6 = v6) (h7 : s i7 = v7) (h8 : s i8 = v8) (h9 : s i9 = v9) (h10 : s i10 = v10) (h11 : s i11 = v11) (h12 : s i12 = v12) (h13 : s i13 = v13) (h14 : s i14 = v14) (h15 : s i15 = v15) (h16 : s i16 = v16) (h17 : s i17 = v17) (h18 : s i18 = v18) (h : ∀ g, J (upd (upd (upd (upd (upd (upd (upd (upd (upd (upd (upd (upd (upd (upd (upd (upd (upd (upd g i1 v1) i2 v2) i3 v3) i4 v4) i5 v5) i6 v6) i7 v7) i8 v8) i9 v9) i10 v10) i11 v11) i12 v12) i13 v13) i14 v14) i15 v15) i16 v16) i17 v17) i18 v18) w) : WT ops (fun _ a w' => ∃ s', a = mk n s' ∧ J s' w') S fin .fin n s w := t_leaf (fJ18 i1 i2 i3 i4 i5 i6 i7 i8 i9 i10 i11 i12 i13 i14 i15 i16 i17 i18 h1 h2 h3 h4 h5 h6 h7 h8 h9 h10 h11 h12 h13 h14 h15 h16 h17 h18 h)
theorem tl19 {ops : Array Oper} {S : World → Prop} {fin : Nat} {J : (Nat → Value) → World → Prop} (i1 i2 i3 i4 i5 i6 i7 i8 i9 i10 i11 i12 i13 i14 i15 i16 i17 i18 i19 : Nat) {v1 v2 v3 v4 v5 v6 v7 v8 v9 v10 v11 v12 v13 v14 v15 v16 v17 v18 v19 : Value} (h1 : s i1 = v1) (h2 : s i2 = v2) (h3 : s i3 = v3) (h4 : s i4 = v4) (h5 : s i5 = v5) (h6 : s i6 = v6) (h7 : s i7 = v7) (h8 : s i8 = v8) (h9 : s i9 = v9) (h10 : s i10 = v10) (h11 : s i11 = v11) (h12 : s i12 = v12) (h13 : s i13 = v13) (h14 : s i14 = v14) (h15 : s i15 = v15) (h16 : s i16 = v16) (h17 : s i17 = v17) (h18 : s i18 = v18) (h19 : s i19 = v19) (h : ∀ g, J (upd (upd (upd (upd (upd (upd (upd (upd (upd (upd (upd (upd (upd (upd (upd (upd (upd (upd (upd g i1 v1) i2 v2) i3 v3) i4 v4) i5 v5) i6 v6) i7 v7) i8 v8) i9 v9) i10 v10) i11 v11) i12 v12) i13 v13) i14 v14) i15 v15) i16 v16) i17 v17) i18 v18) i19 v19) w) : WT ops (fun _ a w' => ∃ s', a = mk n s' ∧ J s' w') S fin .fin n s w := t_leaf (fJ19 i1 i2 i3 i4 i5 i6 i7 i8 i9 i10 i11 i12 i13 i14 i15 i16 i17 i18 i19 h1 h2 h3 h4 h5 h6 h7 h8 h9 h10 h11 h12 h13 h14 h15 h16 h17 h18 h19 h)
theorem tl20 {ops : Array Oper} {S : World → Prop} {fin : Nat} {J : (Nat → Value) → World → Prop} (i1 i2 i3 i4 i5 i6 i7 i8 i9 i10 i11 i12 i13 i14 i15 i16 i17 i18 i19 i20 : Nat) {v1 v2 v3 v4 v5 v6 v7 v8 v9 v10 v11 v12 v13 v14 v15 v16 v17 v18 v19 v20 : Value} (h1 : s i1 = v1) (h2 : s i2 = v2) (h3 : s i3 = v3) (h4 : s i4 = v4) (h5 : s i5 = v5) (h6 : s i6 = v6) (h7 : s i7 = v7) (h8 : s i8 = v8) (h9 : s i9 = v9) (h10 : s i10 = v10) (h11 : s i11 = v11) (h12 : s i12 = v12) (h13 : s i13 = v13) (h14 : s i14 = v14) (h15 : s i15 = v15) (h16 : s i16 = v16) (h17 : s i17 = v17) (h18 : s i18 = v18) (h19 : s i19 = v19) (h20 : s i20 = v20) (h : ∀ g, J (upd (upd (upd (upd (upd (upd (upd (upd (upd (upd (upd (upd (upd (upd (upd (upd (upd (upd (upd (upd g i1 v1) i2 v2) i3 v3) i4 v4) i5 v5) i6 v6) i7 v7) i8 v8) i9 v9) i10 v10) i11 v11) i12 v12) i13 v13) i14 v14) i15 v15) i16 v16) i17 v17) i18 v18) i19 v19) i20 v20) w) : WT ops (fun _ a w' => ∃ s', a = mk n s' ∧ J s' w') S fin .fin n s w := t_leaf (fJ20 i1 i2 i3 i4 i5 i6 i7 i8 i9 i10 i11 i12 i13 i14 i15 i16 i17 i18 i19 i20 h1 h2 h3 h4 h5 h6 h7 h8 h9 h10 h11 h12 h13 h14 h15 h16 h17 h18 h19 h20 h)
theorem tl21 {ops : Array Oper} {S : World → Prop} {fin : Nat} {J : (Nat → Value) → World → Prop} (i1 i2 i3 i4 i5 i6 i7 i8 i9 i10 i11 i12 i13 i14 i15 i16 i17 i18 i19 i20 i21 : Nat) {v1 v2 v3 v4 v5 v6 v7 v8 v9 v10 v11 v12 v13 v14 v15 v16 v17 v18 v19 v20 v21 : Value} (h1 : s i1 = v1) (h2 : s i2 = v2) (h3 : s i3 = v3) (h4 : s i4 = v4) (h5 : s i5 = v5) (h6 : s i6 = v6) (h7 : s i7 = v7) (h8 : s i8 = v8) (h9 : s i9 = v9) (h10 : s i10 = v10) (h11 : s i11 = v11) (h12 : s i12 = v12) (h13 : s i13 = v13) (h14 : s i14 = v14) (h15 : s i15 = v15) (h16 : s i16 = v16) (h17 : s i17 = v17) (h18 : s i18 = v18) (h19 : s i19 = v19) (h20 : s i20 = v20) (h21 : s i21 = v21) (h : ∀ g, J (upd (upd (upd (upd (upd (upd (upd (upd (upd (upd (upd (upd (upd (upd (upd (upd (upd (upd (upd (upd (upd g i1 v1) i2 v2) i3 v3) i4 v4) i5 v5) i6 v6) i7 v7) i8 v8) i9 v9) i10 v10) i11 v11) i12 v12) i13 v13) i14 v14) i15 v15) i16 v16) i17 v17) i18 v18) i19 v19) i20 v20) i21 v21) w) : WT ops (fun _ a w' => ∃ s', a = mk n s' ∧ J s' w') S fin .fin n s w := t_leaf (fJ21 i1 i2 i3 i4 i5 i6 i7 i8 i9 i10 i11 i12 i13 i14 i15 i16 i17 i18 i19 i20 i21 h1 h2 h3 h4 h5 h6 h7 h8 h9 h10 h11 h12 h13 h14 h15 h16 h17 h18 h19 h20 h21 h)
theorem tl22 {ops : Array Oper} {S : World → Prop} {fin : Nat} {J : (Nat → Value) → World → Prop} (i1 i2 i3 i4 i5 i6 i7 i8 i9 i10 i11 i12 i13 i14 i15 i16 i17 i18 i19 i20 i21 i22 : Nat) {v1 v2 v3 v4 v5 v6 v7 v8 v9 v10 v11 v12 v13 v14 v15 v16 v17 v18 v19 v20 v21 v22 : Value} (h1 : s i1 = v1) (h2 : s i2 = v2) (h3 : s i3 = v3) (h4 : s i4 = v4) (h5 : s i5 = v5) (h6 : s i6 = v6) (h7 : s i7 = v7) (h8 : s i8 = v8) (h9 : s i9 = v9) (h10 : s i10 = v10) (h11 : s i11 = v11) (h12 : s i12 = v12) (h13 : s i13 = v13) (h14 : s i14 = v14) (h15 : s i15 = v15) (h16 : s i16 = v16) (h17 : s i17 = v17) (h18 : s i18 = v18) (h19 : s i19 = v19) (h20 : s i20 = v20) (h21 : s i21 = v21) (h22 : s i22 = v22) (h : ∀ g, J (upd (upd (upd (upd (upd (upd (upd (upd (upd (upd (upd (upd (upd (upd (upd (upd (upd (upd (upd (upd (upd (upd g i1 v1) i2 v2) i3 v3) i4 v4) i5 v5) i6 v6) i7 v7) i8 v8) i9 v9) i10 v10) i11 v11) i12 v12) i13 v13) i14 v14) i15 v15) i16 v16) i17 v17) i18 v18) i19 v19) i20 v20) i21 v21) i22 v22) w) : WT ops (fun _ a w' => ∃ s', a = mk n s' ∧ J s' w') S fin .fin n s w := t_leaf (fJ22 i1 i2 i3 i4 i5 i6 i7 i8 i9 i10 i11 i12 i13 i14 i15 i16 i17 i18 i19 i20 i21 i22 h1 h2 h3 h4 h5 h6 h7 h8 h9 h10 h11 h12 h13 h14 h15 h16 h17 h18 h19 h20 h21 h22 h)
theorem tl23 {ops : Array Oper} {S : World → Prop} {fin : Nat} {J : (Nat → Value) → World → Prop} (i1 i2 i3 i4 i5 i6 i7 i8 i9 i10 i11 i12 i13 i14 i15 i16 i17 i18 i19 i20 i21 i22 i23 : Nat) {v1 v2 v3 v4 v5 v6 v7 v8 v9 v10 v11 v12 v13 v14 v15 v16 v17 v18 v19 v20 v21 v22 v23 : Value} (h1 : s i1 = v1) (h2 : s i2 = v2) (h3 : s i3 = v3) (h4 : s i4 = v4) (h5 : s i5 = v5) (h6 : s i6 = v6) (h7 : s i7 = v7) (h8 : s i8 = v8) (h9 : s i9 = v9) (h10 : s i10 = v10) (h11 : s i11 = v11) (h12 : s i12 = v12) (h13 : s i13 = v13) (h14 : s i14 = v14) (h15 : s i15 = v15) (h16 : s i16 = v16) (h17 : s i17 = v17) (h18 : s i18 = v18) (h19 : s i19 = v19) (h20 : s i20 = v20) (h21 : s i21 = v21) (h22 : s i22 = v22) (h23 : s i23 = v23) (h : ∀ g, J (upd (upd (upd (upd (upd (upd (upd (upd (upd (upd (upd (upd (upd (upd (upd (upd (upd (upd (upd (upd (upd (upd (upd g i1 v1) i2 v2) i3 v3) i4 v4) i5 v5) i6 v6) i7 v7) i8 v8) i9 v9) i10 v10) i11 v11) i12 v12) i13 v13) i14 v14) i15 v15) i16 v16) i17 v17) i18 v18) i19 v19) i20 v20) i21 v21) i22 v22) i23 v23) w) : WT ops (fun _ a w' => ∃ s', a = mk n s' ∧ J s' w') S fin .fin n s w := t_leaf (fJ23 i1 i2 i3 i4 i5 i6 i7 i8 i9 i10 i11 i12 i13 i14 i15 i16 i17 i18 i19 i20 i21 i22 i23 h1 h2 h3 h4 h5 h6 h7 h8 h9 h10 h11 h12 h13 h14 h15 h16 h17 h18 h19 h20 h21 h22 h23 h)
theorem tl24 {ops : Array Oper} {S : World → Prop} {fin : Nat} {J : (Nat → Value) → World → Prop} (i1 i2 i3 i4 i5 i6 i7 i8 i9 i10 i11 i12 i13 i14 i15 i16 i17 i18 i19 i20 i21 i22 i23 i24 : Nat) {v1 v2 v3 v4 v5 v6 v7 v8 v9 v10 v11 v12 v13 v14 v15 v16 v17 v18 v19 v20 v21 v22 v23 v24 : Value} (h1 : s i1 = v1) (h2 : s i2 = v2) (h3 : s i3 = v3) (h4 : s i4 = v4) (h5 : s i5 = v5) (h6 : s i6 = v6) (h7 : s i7 = v7) (h8 : s i8 = v8) (h9 : s i9 = v9) (h10 : s i10 = v10) (h11 : s i11 = v11) (h12 : s i12 = v12) (h13 : s i13 = v13) (h14 : s i14 = v14) (h15 : s i15 = v15) (h16 : s i16 = v16) (h17 : s i17 = v17) (h18 : s i18 = v18) (h19 : s i19 = v19) (h20 : s i20 = v20) (h21 : s i21 = v21) (h22 : s i22 = v22) (h23 : s i23 = v23) (h24 : s i24 = v24) (h : ∀ g, J (upd (upd (upd (upd (upd (upd (upd (upd (upd (upd (upd (upd (upd (upd (upd (upd (upd (upd (upd (upd (upd (upd (upd (upd g i1 v1) i2 v2) i3 v3) i4 v4) i5 v5) i6 v6) i7 v7) i8 v8) i9 v9) i10 v10) i11 v11) i12 v12) i13 v13) i14 v14) i15 v15) i16 v16) i17 v17) i18 v18) i19 v19) i20 v20) i21 v21) i22 v22) i23 v23) i24 v24) w) : WT ops (fun _ a w' => ∃ s', a = mk n s' ∧ J s' w') S fin .fin n s w := t_leaf (fJ24 i1 i2 i3 i4 i5 i6 i7 i8 i9 i10 i11 i12 i13 i14 i15 i16 i17 i18 i19 i20 i21 i22 i23 i24 h1 h2 h3 h4 h5 h6 h7 h8 h9 h10 h11 h12 h13 h14 h15 h16 h17 h18 h19 h20 h21 h22 h23 h24 h)
theorem tl25 {ops : Array Oper} {S : World → Prop} {fin : Nat} {J : (Nat → Value) → World → Prop} (i1 i2 i3 i4 i5 i6 i7 i8 i9 i10 i11 i12 i13 i14 i15 i16 i17 i18 i19 i20 i21 i22 i23 i24 i25 : Nat) {v1 v2 v3 v4 v5 v6 v7 v8 v9 v10 v11 v12 v13 v14 v15 v16 v17 v18 v19 v20 v21 v22 v23 v24 v25 : Value} (h1 : s i1 = v1) (h2 : s i2 = v2) (h3 : s i3 = v3) (h4 : s i4 = v4) (h5 : s i5 = v5) (h6 : s i6 = v6) (h7 : s i7 = v7) (h8 : s i8 = v8) (h9 : s i9 = v9) (h10 : s i10 = v10) (h11 : s i11 = v11) (h12 : s i12 = v12) (h13 : s i13 = v13) (h14 : s i14 = v14) (h15 : s i15 = v15) (h16 : s i16 = v16) (h17 : s i17 = v17) (h18 : s i18 = v18) (h19 : s i19 = v19) (h20 : s i20 = v20) (h21 : s i21 = v21) (h22 : s i22 = v22) (h23 : s i23 = v23) (h24 : s i24 = v24) (h25 : s i25 = v25) (h : ∀ g, J (upd (upd (upd (upd (upd (upd (upd (upd (upd (upd (upd (upd (upd (upd (upd (upd (upd (upd (upd (upd (upd (upd (upd (upd (upd g i1 v1) i2 v2) i3 v3) i4 v4) i5 v5) i6 v6) i7 v7) i8 v8) i9 v9) i10 v10) i11 v11) i12 v12) i13 v13) i14 v14) i15 v15) i16 v16) i17 v17) i18 v18) i19 v19) i20 v20) i21 v21) i22 v22) i23 v23) i24 v24) i25 v25) w) : WT ops (fun _ a w' => ∃ s', a = mk n s' ∧ J s' w') S fin .fin n s w := t_leaf (fJ25 i1 i2 i3 i4 i5 i6 i7 i8 i9 i10 i11 i12 i13 i14 i15 i16 i17 i18 i19 i20 i21 i22 i23 i24 i25 h1 h2 h3 h4 h5 h6 h7 h8 h9 h10 h11 h12 h13 h14 h15 h16 h17 h18 h19 h20 h21 h22 h23 h24 h25 h)
end
end Go.Proofs.YgvaawGreat
