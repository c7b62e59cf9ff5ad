import Derived.Test.YgvaawGreatMem
set_option linter.unusedSimpArgs false
set_option linter.unusedVariables false
namespace Go.Proofs.YgvaawGreat
open Go
/-! Regions that draw their order: operations that yield one value in every world of S are taken first; the others come one by one. -/
section
variable {ops : Array Oper} {Q : Exit → Act → World → Prop} {S : World → Prop}
def YS (S : World → Prop) (ops : Array Oper) (o : Oper) (v : Value) (a : Act) : Prop :=
  (Region.wanted o (yielded ops a.tmps) = true ∧ ∀ w, S w → (execOp a.eval o).run Hvaa.prog w = .ok (.value v) w) ∨ (Region.wanted o (yielded ops a.tmps) = false ∧ v = undef)
theorem YS.keep {o oj : Oper} {v u : Value} {a : Act} (hs : ∀ cs b, o.op ≠ .select cs b) (h3 : ∀ d, oj.dst = some d → d ∉ o.looksAt ops) (h : YS S ops o v a) : YS S ops o v (a.put oj.dst u) := by
  unfold YS at *
  rw [wanted_put o a oj.dst u h3, execOp_put o hs a oj.dst u h3]
  exact h
/-- all orders, S behind each operation but 'fin'; no panic -/
def anyS (ops : Array Oper) (Q : Exit → Act → World → Prop) (S : World → Prop) (fin : Nat) : Nat → Array Bool → Act → World → Prop
  | 0, listed, a, w => Region.ready .any ops listed = [] ∧ Q .normal a w
  | fuel + 1, listed, a, w =>
    (Region.ready .any ops listed = [] → Q .normal a w) ∧
    ∀ i ∈ Region.ready .any ops listed, wpOp Hvaa.prog ops (anyS.NoP Q) i (fun a' w' => (i = fin ∨ S w') ∧ anyS ops Q S fin fuel (listed.setIfInBounds i true) a' w') a w
where NoP (Q : Exit → Act → World → Prop) : Exit → Act → World → Prop := fun e a w => e = .normal ∧ Q e a w
theorem any_of_anyS {fin : Nat} : ∀ (fuel : Nat) (listed : Array Bool) (a : Act) (w : World), anyS ops Q S fin fuel listed a w → wpAny Hvaa.prog .any ops (anyS.NoP Q) fuel listed a w
  | 0, _, _, _, h => ⟨h.1, rfl, h.2⟩
  | fuel + 1, _, _, _, h => ⟨fun h0 => ⟨rfl, h.1 h0⟩, fun i hi => wpOp_mono (fun a' w' h' => any_of_anyS fuel _ a' w' h'.2) (h.2 i hi)⟩
/-- what has come up came up behind what it waits for -/
def Clo (ops : Array Oper) (listed : Array Bool) : Prop := ∀ j oj, ops[j]? = some oj → listed.getD j false = true → ∀ e ∈ oj.after, Region.binds .any e = true → listed.getD e.on false = true
theorem getD_false_true {listed : Array Bool} {i : Nat} (h1 : listed.getD i false = true) (h2 : listed.getD i true = false) : False := by
  rw [Array.getD_eq_getD_getElem?] at h1 h2
  cases hl : listed[i]? with
  | none => simp [hl] at h1
  | some q => rw [hl] at h1 h2; simp at h1 h2; rw [h1] at h2; cases h2
theorem Clo.step {listed : Array Bool} {i : Nat} (hc : Clo ops listed) (hr : i ∈ Region.ready .any ops listed) : Clo ops (listed.setIfInBounds i true) := by
  intro j oj hj hl e he hb
  by_cases hji : j = i
  · subst hji
    obtain ⟨_, o, ho, hall⟩ := mem_ready.1 hr
    rw [hj] at ho; cases ho
    exact getD_set_true (hall e he hb)
  · rw [getD_set_ne false (Ne.symm hji)] at hl
    exact getD_set_true (hc j oj hj hl e he hb)
theorem clo_start (k : Nat) : Clo ops (Array.replicate k false) := by
  intro j oj _ hl
  rw [Array.getD_eq_getD_getElem?] at hl
  by_cases h : j < k <;> simp [h] at hl
/-- all that a list of numbers waits for, in so many rounds -/
def preds (ops : Array Oper) : Nat → List Nat → List Nat
  | 0, l => l
  | k + 1, l => preds ops k (l ++ (l.flatMap fun j => match ops[j]? with | some oj => (oj.after.toList.filter (Region.binds .any ·)).map (·.on) | none => [])).eraseDups
theorem preds_listed {listed : Array Bool} (hc : Clo ops listed) : ∀ (k : Nat) (l : List Nat), (∀ j ∈ l, listed.getD j false = true) → ∀ j ∈ preds ops k l, listed.getD j false = true
  | 0, l, hl, j, hj => hl j hj
  | k + 1, l, hl, j, hj => by
    refine preds_listed hc k _ ?_ j hj
    intro q hq
    rw [List.mem_eraseDups, List.mem_append] at hq
    rcases hq with hq | hq
    · exact hl q hq
    · rw [List.mem_flatMap] at hq
      obtain ⟨x, hx, hq⟩ := hq
      cases ho : ops[x]? with
      | none => rw [ho] at hq; cases hq
      | some oj =>
        rw [ho] at hq
        simp only [List.mem_map, List.mem_filter] at hq
        obtain ⟨e, ⟨he, hb⟩, rfl⟩ := hq
        exact hc x oj ho (hl x hx) e (by simpa using he) hb
/-- the last one waits for all others -/
def lastOk (ops : Array Oper) (fin : Nat) : Bool :=
  decide (ops.size ≤ fin) || match ops[fin]? with
  | none => true
  | some o => (List.range ops.size).all fun i => i == fin || (preds ops ops.size ((o.after.toList.filter (Region.binds .any ·)).map (·.on))).contains i
theorem lastOk_spec {fin i : Nat} {listed : Array Bool} (h : lastOk ops fin = true) (hc : Clo ops listed) (hr : fin ∈ Region.ready .any ops listed) (hi : i < ops.size) (hne : i ≠ fin) : listed.getD i false = true := by
  obtain ⟨_, o, ho, hall⟩ := mem_ready.1 hr
  have hlt : fin < ops.size := (Array.getElem?_eq_some_iff.1 ho).1
  simp only [lastOk, ho, Bool.or_eq_true, decide_eq_true_eq, List.all_eq_true, List.mem_range, beq_iff_eq, List.contains_iff_mem] at h
  rcases h with h | h
  · omega
  · rcases h i hi with h | h
    · exact absurd h hne
    · refine preds_listed hc _ _ ?_ i h
      intro j hj
      simp only [List.mem_map, List.mem_filter] at hj
      obtain ⟨e, ⟨he, hb⟩, rfl⟩ := hj
      exact hall e (by simpa using he) hb
theorem move_op {j : Nat} {oi oj : Oper} {v : Value} (hj : ops[j]? = some oj) (hap : oi.apart ops oj = true) (hsi : ∀ cs b, oi.op ≠ .select cs b) (hsj : ∀ cs b, oj.op ≠ .select cs b)
    {K : Act → World → Prop} {a : Act} {w : World} (hy : YS S ops oi v a) (h : wpOp Hvaa.prog ops (anyS.NoP Q) j K (a.put oi.dst v) w) :
    wpOp Hvaa.prog ops (anyS.NoP Q) j (fun a' w' => YS S ops oi v a' ∧ K (a'.put oi.dst v) w') a w := by
  obtain ⟨h1, h2, h3⟩ := Oper.apart_spec hap
  have kp : ∀ u, YS S ops oi v (a.put oj.dst u) := fun u => hy.keep hsi h3
  have cm : ∀ u, (a.put oj.dst u).put oi.dst v = (a.put oi.dst v).put oj.dst u := fun u => (Act.put_comm a v u h2).symm
  unfold wpOp at *
  simp only [hj] at *
  rw [wanted_put oj a oi.dst v h1] at h
  by_cases hw : Region.wanted oj (yielded ops a.tmps) = true
  · rw [if_pos hw] at *
    rcases h with h | ⟨_, a', w', hn, _⟩
    · left
      unfold Oper.wp at *
      rw [execOp_put oj hsj a oi.dst v h1] at h
      revert h
      generalize (execOp a.eval oj).run Hvaa.prog w = r
      intro h
      cases r with
      | halt x w' => cases x <;> first | exact h | exact absurd h.1 (by simp)
      | ok nx w' =>
        cases nx with
        | value u => exact ⟨kp u, by rw [cm]; exact h⟩
        | skip => exact ⟨kp undef, by rw [cm]; exact h⟩
        | enter f args =>
          refine Calls.mono h fun e w'' he => ?_
          cases e with
          | returned u => exact ⟨kp u, by rw [cm]; exact he⟩
          | panicked c => exact absurd he.1 (by simp)
          | outgrown => exact he
        | row row args => exact Rows.mono h fun u w'' he => ⟨kp u, by rw [cm]; exact he⟩
        | defer dd =>
          refine ⟨?_, ?_⟩
          · have : YS S ops oi v { a with defers := dd :: a.defers } := hy
            exact this.keep hsi h3
          · have e1 := Act.put_comm { a with defers := dd :: a.defers } v undef h2
            have e2 : ({ a.put oi.dst v with defers := dd :: (a.put oi.dst v).defers } : Act) = ({ a with defers := dd :: a.defers } : Act).put oi.dst v := Act.put_defers a oi.dst v dd
            show K (({ a with defers := dd :: a.defers } : Act).put oj.dst undef |>.put oi.dst v) w'
            rw [← e1, ← e2]; exact h
        | _ => exact h
    · exact absurd hn (by simp)
  · rw [if_neg hw] at *
    exact ⟨kp undef, by rw [cm]; exact h⟩
theorem first_S {fin i : Nat} {oi : Oper} {v : Value} (hi : ops[i]? = some oi) (hfin : i ≠ fin) (hlast : lastOk ops fin = true) (hsel : ∀ (j : Nat) (o : Oper) cs b, ops[j]? = some o → o.op ≠ .select cs b) :
    ∀ (fuel : Nat) (listed : Array Bool) (a : Act) (w : World),
      (∀ j oj, ops[j]? = some oj → j ≠ i → listed.getD j true = false → (∀ e ∈ oj.after, Region.binds .any e = true → e.on ≠ i) → oi.apart ops oj = true) →
      Clo ops listed → i ∈ Region.ready .any ops listed → YS S ops oi v a → S w → anyS ops Q S fin fuel (listed.setIfInBounds i true) (a.put oi.dst v) w → anyS ops Q S fin (fuel + 1) listed a w := by
  have here : ∀ (K : Act → World → Prop) (a : Act) (w : World), YS S ops oi v a → S w → K (a.put oi.dst v) w → wpOp Hvaa.prog ops (anyS.NoP Q) i K a w := by
    intro K a w hy hS hK
    unfold wpOp
    simp only [hi]
    rcases hy with ⟨hw, hv⟩ | ⟨hw, hv⟩
    · rw [if_pos hw]; left; unfold Oper.wp; rw [hv w hS]; exact hK
    · rw [if_neg (by simp [hw])]; rw [← hv]; exact hK
  intro fuel
  induction fuel with
  | zero =>
    intro listed a w _ _ hr hy hS H
    refine ⟨fun h0 => (by rw [h0] at hr; cases hr), fun j hj => ?_⟩
    by_cases hji : j = i
    · subst hji; exact here _ a w hy hS ⟨.inr hS, H⟩
    · have := ready_mono hj hji; rw [H.1] at this; cases this
  | succ fuel ih =>
    intro listed a w hfree hclo hr hy hS H
    refine ⟨fun h0 => (by rw [h0] at hr; cases hr), fun j hj => ?_⟩
    by_cases hji : j = i
    · subst hji; exact here _ a w hy hS ⟨.inr hS, H⟩
    · obtain ⟨hjun, oj, hoj, hall⟩ := mem_ready.1 hj
      have hiun := (mem_ready.1 hr).1
      have hjf : j ≠ fin := fun e => by
        subst e
        exact getD_false_true (lastOk_spec hlast hclo hj (Array.getElem?_eq_some_iff.1 hi).1 (Ne.symm hji)) hiun
      have hno : ∀ e ∈ oj.after, Region.binds .any e = true → e.on ≠ i := fun e he hb heq => by
        have h1 := hall e he hb
        rw [heq] at h1
        exact getD_false_true h1 hiun
      have h2 := move_op hoj (hfree j oj hoj hji hjun hno) (fun cs b => hsel i oi cs b hi) (fun cs b => hsel j oj cs b hoj) hy (H.2 j (ready_mono hj hji))
      refine wpOp_mono (fun a' w' h3 => ?_) h2
      have hS' : S w' := h3.2.1.resolve_left hjf
      refine ⟨.inr hS', ih (listed.setIfInBounds j true) a' w' ?_ (hclo.step hj) (ready_mono hr (Ne.symm hji)) h3.1 hS' ?_⟩
      · intro k ok hk hki hun hn
        refine hfree k ok hk hki ?_ hn
        by_cases hjk : j = k
        · subst hjk; exact hjun
        · rw [getD_set_ne true hjk] at hun; exact hun
      · rw [Array.setIfInBounds_comm _ _ hji]; exact h3.2.2
/-! A plan: which number comes next; is it one that yields in every world of S? -/
def planS (ops : Array Oper) (Q : Exit → Act → World → Prop) (S : World → Prop) (fin : Nat) : List (Nat × Bool) → Act → World → Prop
  | [], a, w => Q .normal a w
  | (i, true) :: rest, a, w => ∃ v, YS S ops (ops.getD i default) v a ∧ planS ops Q S fin rest (a.put (ops.getD i default).dst v) w
  | (i, false) :: rest, a, w => wpOp Hvaa.prog ops (anyS.NoP Q) i (fun a' w' => (i = fin ∨ S w') ∧ planS ops Q S fin rest a' w') a w
def planOk (ops : Array Oper) (fin : Nat) : List (Nat × Bool) → Array Bool → Bool
  | [], listed => (Region.ready .any ops listed).isEmpty
  | (i, true) :: rest, listed => decide (i < ops.size) && (i != fin) && (Region.ready .any ops listed).contains i && Region.free .any ops listed i && planOk ops fin rest (listed.setIfInBounds i true)
  | (i, false) :: rest, listed => (Region.ready .any ops listed == [i]) && (i != fin || rest.isEmpty) && planOk ops fin rest (listed.setIfInBounds i true)
theorem plan_sound {fin : Nat} (hs : Region.noSelect ops = true) (hlast : lastOk ops fin = true) : ∀ (plan : List (Nat × Bool)) (listed : Array Bool) (a : Act) (w : World), planOk ops fin plan listed = true → Clo ops listed → (plan = [] ∨ S w) → planS ops Q S fin plan a w → anyS ops Q S fin plan.length listed a w
  | [], listed, a, w, hok, _, _, h => ⟨by simpa [planOk] using hok, h⟩
  | (i, true) :: rest, listed, a, w, hok, hclo, hS, ⟨v, hy, h⟩ => by
    simp only [planOk, Bool.and_eq_true, decide_eq_true_eq, bne_iff_ne] at hok
    obtain ⟨⟨⟨⟨hlt, hne⟩, hr⟩, hf⟩, hrest⟩ := hok
    have hi : ops[i]? = some (ops.getD i default) := by
      simp [hlt]
    have hS := hS.resolve_left (by simp)
    have hr' : i ∈ Region.ready .any ops listed := by simpa using hr
    exact first_S hi hne hlast (Region.noSelect_spec hs) rest.length listed a w (Region.free_spec hi hf) hclo hr' hy hS (plan_sound hs hlast rest _ _ _ hrest (hclo.step hr') (.inr hS) h)
  | (i, false) :: rest, listed, a, w, hok, hclo, hS, h => by
    simp only [planOk, Bool.and_eq_true, beq_iff_eq, Bool.or_eq_true, bne_iff_ne] at hok
    obtain ⟨⟨hr, hfr⟩, hrest⟩ := hok
    refine ⟨fun h0 => (by rw [h0] at hr; cases hr), fun j hj => ?_⟩
    have hj0 := hj
    rw [hr] at hj
    simp at hj
    subst hj
    refine wpOp_mono (fun a' w' h' => ⟨h'.1, plan_sound hs hlast rest _ a' w' hrest (hclo.step hj0) ?_ h'.2⟩) h
    rcases h'.1 with h1 | h1
    · rcases hfr with h2 | h2
      · exact absurd h1 h2
      · left; simpa using h2
    · exact .inr h1
end
theorem follows_mixed : Hvaa.prog.follows .mixedOrders = true := by kernel_rfl
structure WP (ops : Array Oper) (Q : Exit → Act → World → Prop) (S : World → Prop) (fin : Nat) (plan : List (Nat × Bool)) (n : Nat) (s : Nat → Value) (w : World) : Prop where
  out : planS ops Q S fin plan (mk n s) w
/-- a region that draws: a plan, checked; its walk -/
theorem c_draw {Q : Exit → Act → World → Prop} {n : Nat} {s : Nat → Value} {w : World} {id : Nat} {l : List Oper} (S : World → World → Prop) (fin : Nat) (plan : List (Nat × Bool))
    (hok : (Region.noSelect l.toArray && (lastOk l.toArray fin && (planOk l.toArray fin plan (Array.replicate l.toArray.size false) && (plan.length == l.toArray.size)))) = true)
    (h : ∀ w0, Up w w0 → S w0 w0 ∧ WP l.toArray Q (S w0) fin plan n s w0) : (Code.region id l.toArray true).wp Hvaa.prog Q (mk n s) w := by
  simp only [Bool.and_eq_true, beq_iff_eq] at hok
  obtain ⟨h1, h4, h2, h3⟩ := hok
  obtain ⟨hS, hp⟩ := h _ (Up.drew w)
  have := plan_sound h1 h4 plan _ _ _ h2 (clo_start _) (.inr hS) hp.out
  rw [h3] at this
  refine Code.wp_mono (Q := anyS.NoP Q) (fun e a w hq => ?_) (wp_region_any follows_mixed (any_of_anyS _ _ _ _ this))
  obtain ⟨rfl, hq⟩ := hq
  exact hq
/-! Steps of a plan. -/
section
variable {Q : Exit → Act → World → Prop} {S : World → Prop} {n fin : Nat} {s : Nat → Value} {w : World} {ops : Array Oper} {rest : List (Nat × Bool)} {op : Op} {ty : TypeId} {pos : String} {af : Array Edge} {v : Value} {i : Nat} {R : Value → World → Prop} {gd : Option (Nat × Bool)}
theorem p_nil (h : Q .normal (mk n s) w) : WP ops Q S fin [] n s w := ⟨h⟩
theorem p_step {d : Nat} (hi : ops.getD i default = ⟨some d, op, ty, pos, af, none⟩) (hy : Yv S n s ⟨some d, op, ty, pos, af, none⟩ v) (h : WP ops Q S fin rest n (upd s d v) w) : WP ops Q S fin ((i, true) :: rest) n s w := by
  refine ⟨⟨v, ?_, ?_⟩⟩
  · rw [hi]; exact .inl ⟨rfl, fun w hw => by rw [mk_eval']; exact hy w hw⟩
  · rw [hi, mk_put]; exact h.out
theorem wanted_mk {j t : Nat} {b c : Bool} {o oj : Oper} (hg : o.guard = some (j, b)) (hj : ops[j]? = some oj) (ht : oj.dst = some t) (hb : ev n s (.tmp t) = .bool c) (hn : Nat.blt t n = true) : Region.wanted o (yielded ops (mk n s).tmps) = (c == b) := by
  have hn' : t < n := by rw [Nat.blt_eq] at hn; exact hn
  have h2 : (mk n s).tmps[t]? = some (.bool c) := by
    simp only [ev, hn, cond_true] at hb
    simp [mk, hn', hb]
  cases b <;> cases c <;> simp [Region.wanted, hg, yielded, hj, ht, h2]
theorem p_gstep {d j t : Nat} {b : Bool} {oj : Oper} (hi : ops.getD i default = ⟨some d, op, ty, pos, af, some (j, b)⟩) (hj : ops[j]? = some oj) (ht : oj.dst = some t) (hb : ev n s (.tmp t) = .bool b) (hn : Nat.blt t n = true)
    (hy : Yv S n s ⟨some d, op, ty, pos, af, some (j, b)⟩ v) (h : WP ops Q S fin rest n (upd s d v) w) : WP ops Q S fin ((i, true) :: rest) n s w := by
  refine ⟨⟨v, ?_, ?_⟩⟩
  · rw [hi]; exact .inl ⟨by rw [wanted_mk rfl hj ht hb hn]; simp, fun w hw => by rw [mk_eval']; exact hy w hw⟩
  · rw [hi, mk_put]; exact h.out
theorem p_gskip {d j t : Nat} {b c : Bool} {oj : Oper} (hi : ops.getD i default = ⟨some d, op, ty, pos, af, some (j, b)⟩) (hj : ops[j]? = some oj) (ht : oj.dst = some t) (hb : ev n s (.tmp t) = .bool c) (hn : Nat.blt t n = true) (hne : (c == b) = false)
    (h : WP ops Q S fin rest n (upd s d undef) w) : WP ops Q S fin ((i, true) :: rest) n s w := by
  refine ⟨⟨undef, ?_, ?_⟩⟩
  · rw [hi]; exact .inr ⟨by rw [wanted_mk rfl hj ht hb hn]; exact hne, rfl⟩
  · rw [hi, mk_put]; exact h.out
theorem p_eff {d : Nat} (hi : ops[i]? = some ⟨some d, op, ty, pos, af, none⟩) (he : Eff n s w ⟨some d, op, ty, pos, af, none⟩ R) (h : ∀ v w', R v w' → (i = fin ∨ S w') ∧ WP ops Q S fin rest n (upd s d v) w') : WP ops Q S fin ((i, false) :: rest) n s w := by
  refine ⟨?_⟩
  show wpOp _ _ _ _ _ _ _
  unfold wpOp
  simp only [hi]
  rw [if_pos (show Region.wanted ⟨some d, op, ty, pos, af, none⟩ (yielded ops (mk n s).tmps) = true from rfl)]
  exact .inl (he.out _ _ fun v w' hv => by rw [mk_put]; exact ⟨(h v w' hv).1, (h v w' hv).2.out⟩)
theorem p_effN (hi : ops[i]? = some ⟨none, op, ty, pos, af, none⟩) (he : Eff n s w ⟨none, op, ty, pos, af, none⟩ R) (h : ∀ v w', R v w' → (i = fin ∨ S w') ∧ WP ops Q S fin rest n s w') : WP ops Q S fin ((i, false) :: rest) n s w := by
  refine ⟨?_⟩
  show wpOp _ _ _ _ _ _ _
  unfold wpOp
  simp only [hi]
  rw [if_pos (show Region.wanted ⟨none, op, ty, pos, af, none⟩ (yielded ops (mk n s).tmps) = true from rfl)]
  exact .inl (he.out _ _ fun v w' hv => by rw [mk_put]; exact ⟨(h v w' hv).1, (h v w' hv).2.out⟩)
theorem p_geff {d j t : Nat} {b : Bool} {oj : Oper} (hi : ops[i]? = some ⟨some d, op, ty, pos, af, some (j, b)⟩) (hj : ops[j]? = some oj) (ht : oj.dst = some t) (hb : ev n s (.tmp t) = .bool b) (hn : Nat.blt t n = true) (he : Eff n s w ⟨some d, op, ty, pos, af, some (j, b)⟩ R) (h : ∀ v w', R v w' → (i = fin ∨ S w') ∧ WP ops Q S fin rest n (upd s d v) w') : WP ops Q S fin ((i, false) :: rest) n s w := by
  refine ⟨?_⟩
  show wpOp _ _ _ _ _ _ _
  unfold wpOp
  simp only [hi]
  rw [if_pos (by rw [wanted_mk rfl hj ht hb hn]; simp)]
  exact .inl (he.out _ _ fun v w' hv => by rw [mk_put]; exact ⟨(h v w' hv).1, (h v w' hv).2.out⟩)
theorem p_geskip {d j t : Nat} {b c : Bool} {oj : Oper} (hi : ops[i]? = some ⟨some d, op, ty, pos, af, some (j, b)⟩) (hj : ops[j]? = some oj) (ht : oj.dst = some t) (hb : ev n s (.tmp t) = .bool c) (hn : Nat.blt t n = true) (hne : (c == b) = false) (h : (i = fin ∨ S w) ∧ WP ops Q S fin rest n (upd s d undef) w) : WP ops Q S fin ((i, false) :: rest) n s w := by
  refine ⟨?_⟩
  show wpOp _ _ _ _ _ _ _
  unfold wpOp
  simp only [hi]
  rw [if_neg (by rw [wanted_mk rfl hj ht hb hn, hne]; simp)]
  rw [mk_put]; exact ⟨h.1, h.2.out⟩
end
/-! Guarded effects in the text's order. -/
section
variable {Q : Exit → Act → World → Prop} {n : Nat} {s : Nat → Value} {w : World} {ops : Array Oper} {rest : List Oper} {op : Op} {ty : TypeId} {pos : String} {af : Array Edge} {R : Value → World → Prop}
theorem l_geff {d j t : Nat} {b : Bool} {oj : Oper} (hj : ops[j]? = some oj) (ht : oj.dst = some t) (hb : ev n s (.tmp t) = .bool b) (hn : Nat.blt t n = true) (he : Eff n s w ⟨some d, op, ty, pos, af, some (j, b)⟩ R) (h : ∀ v w', R v w' → WL ops Q rest n (upd s d v) w') : WL ops Q (⟨some d, op, ty, pos, af, some (j, b)⟩ :: rest) n s w :=
  ⟨wpList_step fun K hK => by
    rw [if_pos (by rw [wanted_mk rfl hj ht hb hn]; simp)]
    exact he.out K Q fun v w' hv => by rw [mk_put]; exact hK _ _ (h v w' hv).out⟩
end
end Go.Proofs.YgvaawGreat
