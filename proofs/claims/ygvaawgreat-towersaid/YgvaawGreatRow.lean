import Derived.Test.YgvaawGreatJn
import Derived.Test.YgvaawGreatOp2
import Derived.ProofKit
import Derived.Carry
namespace Go.Proofs.YgvaawGreat
open Go.ChangeShapes Go.WideShapes Go.ChangeAt Go.RowKit
/-! The row: for every input the law returns true, and the input reads as it did. -/
theorem Hvaa.own : ownKnob Hvaa.prog.godebug = none := by kernel_rfl
/-- an environment of zeros, without hashes -/
def envZ : Array Value := (List.replicate 20 (Value.int .u8 0) ++ (List.replicate 3 (Value.int .u64 0) ++ (List.replicate 96 (Value.int .u8 0) ++ [Value.slice none 0 0]))).toArray
theorem up_below {W W' : World} (u : Up W W') : Below W.heap.size W W' :=
  ⟨u.os, u.tape, u.output, u.size, fun k hk => u.block k hk (fun h => h)⟩
theorem up_kept {W W' : World} (u : Up W W') (may : MemPlace → Prop) : W.keptBut W' may := by
  refine ⟨u.os, u.output, fun i hi => ?_⟩
  rw [u.block i hi (fun h => h)]
  cases W.heap[i]? with
  | none => rfl
  | some o => cases o <;> first | rfl | exact ⟨rfl, rfl, rfl, fun _ _ => rfl⟩ | exact .inr ⟨rfl, rfl⟩
theorem app_env {W : World} {wa ta : Option Addr} {wl wc tl tc : Nat} {cs : Array Value} {H : Type} {enc : TypeId × Value → H} {d0 d1 d2 : DataW H} {p0 p1 p2 : List MemPlace}
    (h0 : DataW.Trod enc Hvaa.prog W 0 (fun _ => true) true 23 (.slice wa wl wc) d0 p0) (h1 : DataW.Trod enc Hvaa.prog W 0 (fun _ => true) true 31 (.agg cs) d1 p1) (h2 : DataW.Trod enc Hvaa.prog W 0 (fun _ => true) true 32 (.slice ta tl tc) d2 p2) :
    Ret 3 [.slice wa wl wc, .agg cs, .slice ta tl tc] W (fun v w' => v = .bool true ∧ Up W w') := by
  obtain ⟨_, h0⟩ := h0
  obtain ⟨_, h1⟩ := h1
  obtain ⟨_, h2⟩ := h2
  obtain ⟨v0, l, e0, g0⟩ := op_world h0
  obtain ⟨e, vh, hb, e1, g1⟩ := op_env h1
  obtain ⟨v2, Ts, e2, g2⟩ := op_txs h2
  cases e0
  cases e2
  have e1 : cs.toList = envC e vh := e1
  obtain rfl : cs = (envC e vh).toArray := by rw [← e1]
  obtain ⟨_, _, ew, hw1, hw2⟩ := g0.val
  obtain ⟨ha, hc, rfl, _, _⟩ := g1.val
  obtain ⟨_, _, et, ht1, ht2⟩ := g2.val
  cases ew
  cases et
  exact law_tower (st0_fz W) g0 (by omega) hb g1 g2 ht1 ht2
set_option maxRecDepth 100000 in
theorem tower_lifted (os : Os) (started : os.Started) (H : Type) (enc : TypeId × Value → H) :
    ReturnsInHanded {} Hvaa.checked os 3 .any (Rows.towerSpec.pre6 enc Hvaa.prog Hvaa.f3 Rows.towerRow.domain false) (Rows.towerSpec.post enc Hvaa.prog Hvaa.f3 false true false false) := by
  refine returnsInHanded_of_change (C := Hvaa.checked) Hvaa.own started (by kernel_rfl) Hvaa.func3
    (ChangeSpec.witness6 (enc := enc) (C := Hvaa.checked) false ⟨#[], #[.slice none 0 0, .agg envZ, .slice none 0 0], []⟩ 8 (by kernel_rfl) (by kernel_rfl) (by kernel_rfl) (by kernel_rfl)) ?_
  intro W base args ds gs before hval0 hW hcnd _
  have hval : ∀ (j : Nat) t v, Hvaa.f3.params[j]? = some t → args[j]? = some v → Value.okWide Hvaa.prog W .any base t v := hval0
  have hW' := hW
  obtain ⟨p, q, hA0, hV, rfl, hfz, hnd⟩ := hW
  have hA : DataW.TrodAll enc Hvaa.prog W 0 (fun _ => true) true Hvaa.f3.params.toList args.toList ds p := hA0
  rw [Hvaa.params3] at hA hval
  obtain ⟨v0, v1, v2, d0, d1, d2, p0, p1, p2, rfl, rfl, rfl, h0, h1, h2⟩ := trodAll_three hA
  obtain ⟨rfl, rfl⟩ := trodVars_none hV
  clear hA0 hval0
  obtain ⟨wa, wl, wc, rfl⟩ := okWide_slice Hvaa.underlying23 (hval 0 23 v0 rfl rfl)
  obtain ⟨cs, rfl, _⟩ := okWide_struct Hvaa.underlying31 (hval 1 31 v1 rfl rfl)
  obtain ⟨ta, tl, tc, rfl⟩ := okWide_slice Hvaa.underlying32 (hval 2 32 v2 rfl rfl)
  have hlt := hW'.lt
  refine Calls.mono (app_env h0 h1 h2).out fun e W' ⟨v, he, hv, u⟩ => ?_
  subst he
  subst hv
  refine ⟨_, rfl, _, _, _, [], p0 ++ (p1 ++ p2), [], hW', trodAll_mk1 (shut_bool Hvaa.underlying4 true), ?_, rfl, up_kept u _, fun h => by cases h⟩
  have hb := up_below u
  show DataW.TrodAll enc Hvaa.prog W' 0 _ true Hvaa.f3.params.toList [_, _, _] [d0, d1, d2] _
  rw [Hvaa.params3]
  exact trodAll_mk3 (hb.trod j2 (by kernel_rfl) (of_decide_eq_true (by kernel_rfl)) h0 (fun x hx => hlt x (by simp [hx])))
    (hb.trod j2 (by kernel_rfl) (of_decide_eq_true (by kernel_rfl)) h1 (fun x hx => hlt x (by simp [hx])))
    (hb.trod j2 (by kernel_rfl) (of_decide_eq_true (by kernel_rfl)) h2 (fun x hx => hlt x (by simp [hx])))
theorem tower_holds : Rows.TowerSaid :=
  OpenClaim.holds_of_wide 3 Hvaa.f3 rfl rfl rfl rfl rfl rfl rfl ⟨rfl, rfl, rfl, rfl, rfl⟩ rfl rfl rfl rfl rfl jfn Hvaa.func3 tower_closed jin jwr
    (fun os started H enc _ => tower_lifted os started H enc)
end Go.Proofs.YgvaawGreat
