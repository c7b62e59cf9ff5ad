import Derived.Test.YgvaawGreatTypes2
set_option maxRecDepth 100000
set_option linter.unusedSimpArgs false
set_option linter.unusedVariables false
namespace Go.Proofs.YgvaawGreat
open Go
theorem get_len {l : List Nat} {i : Nat} (h : i < l.length) : l[i]? = some l[i] := by simp [h]
theorem take_snoc {l : List Nat} {k : Nat} (h : k < l.length) : l.take (k + 1) = l.take k ++ [l[k]] := by
  rw [List.take_add_one, get_len h]; rfl
theorem tr_take {l : List Nat} {k : Nat} (h : k < l.length) (hx : l[k] ≠ 0) : Tr (l.take (k + 1)) := by
  intro d hd
  rw [take_snoc h] at hd
  rw [List.getLast?_concat] at hd
  cases hd; exact hx
theorem val_take_zero {l : List Nat} {k : Nat} (h : k < l.length) (hx : l[k] = 0) (hv : val 256 (l.take (k + 1)) = val 256 l) : val 256 (l.take k) = val 256 l := by
  rw [take_snoc h, hx, val_snoc] at hv; omega
theorem trim_spec (s0 c : Nat) (a : Option Addr) (l : List Nat) (w : World) (hW : WV s0 w (.slice a l.length c) l) (hc : l.length ≤ c) (h63 : l.length < 9223372036854775808) :
    Ret 88 [.slice a l.length c] w (fun v w' => ∃ k, k ≤ l.length ∧ v = .slice a k k ∧ Tr (l.take k) ∧ val 256 (l.take k) = val 256 l ∧ Up w w') := by
  refine enter (n := 22) Hvaa.func88 rfl rfl (Nat.le_of_ble_eq_true rfl) ?_
  have U := Up.refl w
  refine c_seq (fun K1 hK1 => ?_)
  refine c_region ?_
  refine l_step y_assignC ?_
  refine l_nil ?_
  refine hK1 _ _ ?_
  refine fg1 0 (gS rfl g0) (fun g => ?_)
  refine c_seq (fun K2 hK2 => ?_)
  refine c_region ?_
  refine l_step (y_moveV (et g0 rfl)) ?_
  refine l_step (y_len Hvaa.underlying95 (et g0 rfl)) ?_
  refine l_step (y_assignV (et g0 rfl)) ?_
  refine l_nil ?_
  refine hK2 _ _ ?_
  refine fg2 0 3 (gS rfl (gS rfl (gS rfl g0))) g0 (fun g => ?_)
  refine c_seq (fun K3 hK3 => ?_)
  refine c_block (fun Q4 hQ4 => ?_)
  refine fg2 0 3 (gS rfl g0) g0 (fun g => ?_)
  refine c_loop (fun k_ s_ W5 => ∃ (g : Nat → Value) (k : Nat), s_ = (upd (upd g 0 (.slice a l.length c)) 3 (.int .i64 (k : Nat))) ∧ k = k_ ∧ (k ≤ l.length) ∧ (val 256 (l.take k) = val 256 l) ∧ Ch (fun k => False) w W5) ((l.length)) ?_ ?_
  · exact ⟨g, l.length, rfl, rfl, Nat.le_refl _, by rw [List.take_length], Ch.refl _ _⟩
  · skip
    intro k_ s_ W5 hI K5 hK5
    obtain ⟨g, k, rfl, rfl, hk, hz, V5⟩ := hI
    replace hW := hW.ch V5 (by first | exact fun h => h | exact fun _ h => h.elim)
    replace U := U.cc V5 (by intro b hb; first | exact hb.elim | omega | (simp at hb ⊢; omega))
    refine c_seq (fun K6 hK6 => ?_)
    refine c_seq (fun K7 hK7 => ?_)
    refine c_region ?_
    refine l_step (y_moveV (et g0 rfl)) ?_
    refine l_step (y_gtr (et g0 rfl) rfl) ?_
    refine l_step (y_moveV (et g0 rfl)) ?_
    refine gsplitL (i := 8) g0 (fun q8 => ?_) (fun q8 => ?_)
    · skip
      obtain ⟨k', rfl⟩ : ∃ k', k = k' + 1 := ⟨k - 1, by have := of_decide_eq_true q8; omega⟩
      obtain ⟨b, o, ha, hb0, hr⟩ := hW.at (by omega)
      refine l_gstep (j := 2) (t := 8) (by exact rfl) (by exact rfl) (et g0 rfl) (by decide) (y_moveV (et (gS rfl (gS rfl (gS rfl (gS rfl (gS rfl g0))))) rfl)) ?_
      refine l_gstep (j := 2) (t := 8) (by exact rfl) (by exact rfl) (et (gS rfl g0) rfl) (by decide) (y_moveV (et (gS rfl (gS rfl (gS rfl (gS rfl (gS rfl g0))))) rfl)) ?_
      refine l_gstep (j := 2) (t := 8) (by exact rfl) (by exact rfl) (et (gS rfl (gS rfl g0)) rfl) (by decide) (y_sub (et g0 rfl) rfl ((subIN (y := 1) ?_ ?_).trans (castE (show k' + 1 - 1 = k' by omega)))) ?_
      omega
      omega
      refine l_gstep (j := 2) (t := 8) (by exact rfl) (by exact rfl) (et (gS rfl (gS rfl (gS rfl g0))) rfl) (by decide) (y_idxSa ha Hvaa.underlying95 sz_5 (et (gS rfl (gS rfl g0)) rfl) (et g0 rfl) ?_) ?_
      omega
      refine l_gstep (j := 2) (t := 8) (by exact rfl) (by exact rfl) (et (gS rfl (gS rfl (gS rfl (gS rfl g0)))) rfl) (by decide) (y_load1 one_5 (et g0 rfl) (at1 (row_byte hr (by omega)))) ?_
      refine l_gstep (j := 2) (t := 8) (by exact rfl) (by exact rfl) (et (gS rfl (gS rfl (gS rfl (gS rfl (gS rfl g0))))) rfl) (by decide) (y_eql (et g0 rfl) rfl) ?_
      refine l_step (y_pickT (et (gS rfl (gS rfl (gS rfl (gS rfl (gS rfl (gS rfl g0)))))) rfl) (et g0 rfl)) ?_
      refine l_nil ?_
      refine hK7 _ _ ?_
      refine fg3 0 3 15 (gS rfl (gS rfl (gS rfl (gS rfl (gS rfl (gS rfl (gS rfl (gS rfl (gS rfl (gS rfl (gS rfl (gS rfl g0)))))))))))) (gS rfl (gS rfl (gS rfl (gS rfl (gS rfl (gS rfl (gS rfl (gS rfl (gS rfl (gS rfl (gS rfl g0))))))))))) g0 (fun g => ?_)
      refine c_cond (et g0 rfl) (fun cB1 => ?_) (fun cB1 => ?_)
      · skip
        
        have hx0 : l[k'] = 0 := by have := of_decide_eq_true cB1; omega
        refine c_skip ?_
        refine hK6 _ _ ?_
        refine fg2 0 3 (gS rfl (gS rfl g0)) (gS rfl g0) (fun g => ?_)
        refine c_block (fun Q10 hQ10 => ?_)
        refine c_region ?_
        refine l_step (y_moveV (et g0 rfl)) ?_
        refine l_step (y_sub (et g0 rfl) rfl ((subIN (y := 1) ?_ ?_).trans (castE (show k' + 1 - 1 = k' by omega)))) ?_
        omega
        omega
        refine l_step (y_assignV (et g0 rfl)) ?_
        refine l_nil ?_
        refine hQ10 _ _ _ (in_normal ?_)
        refine fK2 0 3 (gS rfl (gS rfl (gS rfl (gS rfl g0)))) g0 (fun g => ?_)
        exact hK5 ((k')) _ _ (by omega) ⟨g, k', rfl, rfl, by omega, val_take_zero (by omega) hx0 hz, V5⟩
      · skip
        
        have hx0 : l[k'] ≠ 0 := by have := of_decide_eq_false cB1; omega
        have hT := tr_take (by omega) hx0
        refine c_exit ?_
        refine hQ4 _ _ _ (in_exit ?_)
        refine hK3 _ _ ?_
        refine fg2 0 3 (gS rfl (gS rfl g0)) (gS rfl g0) (fun g => ?_)
        refine c_seq (fun K11 hK11 => ?_)
        refine c_region ?_
        refine l_step (y_moveV (et (gS rfl g0) rfl)) ?_
        refine l_step (y_moveV (et (gS rfl g0) rfl)) ?_
        refine l_step (y_moveV (et (gS rfl (gS rfl g0)) rfl)) ?_
        refine l_step (y_slS011n Hvaa.underlying95 sz_5 (et (gS rfl (gS rfl g0)) rfl) (et (gS rfl g0) rfl) (et g0 rfl) ?_ ?_) ?_
        omega
        omega
        refine l_step (y_assignV (et g0 rfl)) ?_
        refine l_nil ?_
        refine hK11 _ _ ?_
        refine fg1 2 g0 (fun g => ?_)
        refine c_ret ?_
        refine ret1 rfl (res_tmp (et g0 rfl)) ?_
        exact ⟨_, by omega, rfl, hT, hz, U⟩
    · skip
      have hk0 : k = 0 := by have := of_decide_eq_false q8; omega
      refine l_gskip (j := 2) (t := 8) (by exact rfl) (by exact rfl) (et g0 rfl) (by decide) (by decide) ?_
      refine l_gskip (j := 2) (t := 8) (by exact rfl) (by exact rfl) (et (gS rfl g0) rfl) (by decide) (by decide) ?_
      refine l_gskip (j := 2) (t := 8) (by exact rfl) (by exact rfl) (et (gS rfl (gS rfl g0)) rfl) (by decide) (by decide) ?_
      refine l_gskip (j := 2) (t := 8) (by exact rfl) (by exact rfl) (et (gS rfl (gS rfl (gS rfl g0))) rfl) (by decide) (by decide) ?_
      refine l_gskip (j := 2) (t := 8) (by exact rfl) (by exact rfl) (et (gS rfl (gS rfl (gS rfl (gS rfl g0)))) rfl) (by decide) (by decide) ?_
      refine l_gskip (j := 2) (t := 8) (by exact rfl) (by exact rfl) (et (gS rfl (gS rfl (gS rfl (gS rfl (gS rfl g0))))) rfl) (by decide) (by decide) ?_
      refine l_step (y_pickF (et (gS rfl (gS rfl (gS rfl (gS rfl (gS rfl (gS rfl g0)))))) rfl) rfl) ?_
      refine l_nil ?_
      refine hK7 _ _ ?_
      refine fg3 0 3 15 (gS rfl (gS rfl (gS rfl (gS rfl (gS rfl (gS rfl (gS rfl (gS rfl (gS rfl (gS rfl (gS rfl (gS rfl g0)))))))))))) (gS rfl (gS rfl (gS rfl (gS rfl (gS rfl (gS rfl (gS rfl (gS rfl (gS rfl (gS rfl (gS rfl g0))))))))))) g0 (fun g => ?_)
      refine c_false (et g0 rfl) rfl ?_
      refine c_exit ?_
      refine hQ4 _ _ _ (in_exit ?_)
      refine hK3 _ _ ?_
      refine fg2 0 3 (gS rfl (gS rfl g0)) (gS rfl g0) (fun g => ?_)
      refine c_seq (fun K13 hK13 => ?_)
      refine c_region ?_
      refine l_step (y_moveV (et (gS rfl g0) rfl)) ?_
      refine l_step (y_moveV (et (gS rfl g0) rfl)) ?_
      refine l_step (y_moveV (et (gS rfl (gS rfl g0)) rfl)) ?_
      refine l_step (y_slS011n Hvaa.underlying95 sz_5 (et (gS rfl (gS rfl g0)) rfl) (et (gS rfl g0) rfl) (et g0 rfl) ?_ ?_) ?_
      omega
      omega
      refine l_step (y_assignV (et g0 rfl)) ?_
      refine l_nil ?_
      refine hK13 _ _ ?_
      refine fg1 2 g0 (fun g => ?_)
      refine c_ret ?_
      refine ret1 rfl (res_tmp (et g0 rfl)) ?_
      exact ⟨_, by omega, rfl, by rw [hk0]; intro d hd; simp at hd, hz, U⟩
end Go.Proofs.YgvaawGreat
