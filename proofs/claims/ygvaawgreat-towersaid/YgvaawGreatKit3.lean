import Derived.Test.YgvaawGreatLst
set_option linter.unusedSimpArgs false
set_option linter.unusedVariables false
namespace Go.Proofs.YgvaawGreat
open Go
/-! A guard whose own operation was passed over. -/
section
variable {ops : Array Oper} {Q : Exit → Act → World → Prop} {S : World → Prop} {fin i n : Nat} {s : Nat → Value} {w : World} {ty : TypeId} {pos : String} {af : Array Edge} {op : Op}
theorem wanted_un {j t : Nat} {b : Bool} {o oj : Oper} (hg : o.guard = some (j, b)) (hj : ops[j]? = some oj) (ht : oj.dst = some t) (hb : ev n s (.tmp t) = undef) (hn : Nat.blt t n = true) : Region.wanted o (yielded ops (mk n s).tmps) = false := by
  have hn' : t < n := by rw [Nat.blt_eq] at hn; exact hn
  have h2 : (mk n s).tmps[t]? = some undef := by
    simp only [ev, hn, cond_true] at hb
    simp [mk, hn', hb]
  simp [Region.wanted, hg, yielded, hj, ht, h2, undef]
theorem l_uskip {d j t : Nat} {b : Bool} {oj : Oper} {rest : List Oper} (hj : ops[j]? = some oj) (ht : oj.dst = some t) (hb : ev n s (.tmp t) = undef) (hn : Nat.blt t n = true)
    (h : WL ops Q rest n (upd s d undef) w) : WL ops Q (⟨some d, op, ty, pos, af, some (j, b)⟩ :: rest) n s w := by
  refine ⟨wpList_step fun K hK => ?_⟩
  rw [if_neg (by rw [wanted_un rfl hj ht hb hn]; simp)]
  rw [mk_put]
  exact hK _ _ h.out
theorem p_uskip {d j t : Nat} {b : Bool} {oj : Oper} {rest : List (Nat × Bool)} (hi : ops.getD i default = ⟨some d, op, ty, pos, af, some (j, b)⟩) (hj : ops[j]? = some oj) (ht : oj.dst = some t) (hb : ev n s (.tmp t) = undef) (hn : Nat.blt t n = true)
    (h : WP ops Q S fin rest n (upd s d undef) w) : WP ops Q S fin ((i, true) :: rest) n s w := by
  refine ⟨⟨undef, ?_, ?_⟩⟩
  · rw [hi]; exact .inr ⟨wanted_un rfl hj ht hb hn, rfl⟩
  · rw [hi, mk_put]; exact h.out
theorem p_ueskip {d j t : Nat} {b : Bool} {oj : Oper} {rest : List (Nat × Bool)} (hi : ops[i]? = some ⟨some d, op, ty, pos, af, some (j, b)⟩) (hj : ops[j]? = some oj) (ht : oj.dst = some t) (hb : ev n s (.tmp t) = undef) (hn : Nat.blt t n = true) (h : (i = fin ∨ S w) ∧ WP ops Q S fin rest n (upd s d undef) w) : WP ops Q S fin ((i, false) :: rest) n s w := by
  refine ⟨?_⟩
  show wpOp _ _ _ _ _ _ _
  unfold wpOp
  simp only [hi]
  rw [if_neg (by rw [wanted_un rfl hj ht hb hn]; simp)]
  rw [mk_put]; exact ⟨h.1, h.2.out⟩
end
end Go.Proofs.YgvaawGreat
