import Derived.Test.YgvaawGreatX2
set_option maxRecDepth 100000
set_option maxHeartbeats 4000000
set_option linter.unusedSimpArgs false
set_option linter.unusedVariables false
namespace Go.Proofs.YgvaawGreat
open Go
theorem vault_copied (s0 c : Nat) (a : Option Addr) (l : List Nat) (w : World) (H : Store) (hF : Fz w H) (hW : WV s0 w (.slice a l.length c) l) (hs0 : s0 ≤ w.heap.size) (h48 : l.length ≤ 1099511627776) :
    Ret 77 [.slice a l.length c] w (fun v w' => ∃ H', Go No w H w' H' ∧ BV H' v l) := by
  have hF0 := hF
  refine enter (n := 14) Hvaa.func77 rfl rfl (Nat.le_of_ble_eq_true rfl) ?_
  have U := Up.refl w
  have G : Go (No) w H w H := Go.refl hF
  refine c_seq (fun K1 hK1 => ?_)
  exact (by
    refine c_region ?_
    refine l_step y_assignC ?_
    refine l_nil ?_
    refine hK1 _ _ ?_
    refine fg1 0 (gS rfl g0) (fun g => ?_)
    refine c_seq (fun K2 hK2 => ?_)
    refine c_seq (fun K3 hK3 => ?_)
    exact (by
      refine c_region ?_
      refine l_step (y_moveV (et g0 rfl)) ?_
      refine l_step (y_len Hvaa.underlying38 (et g0 rfl)) ?_
      refine l_step (y_eql (et g0 rfl) rfl) ?_
      refine l_nil ?_
      refine hK3 _ _ ?_
      refine fg2 0 6 (gS rfl (gS rfl (gS rfl g0))) g0 (fun g => ?_)
      refine c_cond (et g0 rfl) (fun cB1 => ?_) (fun cB1 => ?_)
      · skip
        
        have h0 : l = [] := List.length_eq_zero_iff.1 (by have := of_decide_eq_true cB1; omega)
        refine c_seq (fun K5 hK5 => ?_)
        exact (by
          refine c_region ?_
          refine l_step y_assignC ?_
          refine l_nil ?_
          refine hK5 _ _ ?_
          refine fg1 2 g0 (fun g => ?_)
          refine c_ret ?_
          repeat with_reducible refine then_ret ?_
          refine ret1 rfl (res_tmp (et g0 rfl)) ?_
          exact ⟨_, G, by rw [h0]; exact BV.nil _⟩)
      · skip
        
        refine c_skip ?_
        refine hK2 _ _ ?_
        refine fg1 0 (gS rfl g0) (fun g => ?_)
        refine c_seq (fun K6 hK6 => ?_)
        exact (by
          refine c_region ?_
          refine l_step (y_moveV (et g0 rfl)) ?_
          refine l_step (y_len Hvaa.underlying38 (et g0 rfl)) ?_
          refine l_eff (e_make Hvaa.underlying38 sz_5 zr_5 by_5 (et g0 rfl) (et g0 rfl) (by omega) (by omega)) (fun v7 w7 h7 => ?_)
          obtain ⟨b7, rfl, n7⟩ := h7
          have f7 : w.heap.size ≤ b7 := Nat.le_trans U.size n7.fresh
          have nb7 := hF.nb n7.fresh
          replace G := G.tr (Go.ofUp hF n7.up)
          replace hF := hF.up n7.up
          replace hW := hW.up n7.up
          replace U := U.tr n7.up
          have k7 := mzB n7.blk
          refine l_step (y_assignV (et g0 rfl)) ?_
          refine l_nil ?_
          refine hK6 _ _ ?_
          refine fg2 0 3 (gS rfl (gS rfl (gS rfl (gS rfl g0)))) g0 (fun g => ?_)
          refine c_seq (fun K8 hK8 => ?_)
          exact (by
            refine c_region ?_
            refine l_step (y_moveV (et g0 rfl)) ?_
            refine l_step (y_moveV (et (gS rfl (gS rfl g0)) rfl)) ?_
            refine l_eff (e_copyW Hvaa.underlying38 (et (gS rfl g0) rfl) (et g0 rfl) hW k7 (by simp only [List.size_toArray, length_bL, List.length_replicate]; omega)) (fun v9 w9 h9 => ?_)
            obtain ⟨rfl, x9⟩ := h9
            replace G := G.chs x9.ch (by intro b hb; first | omega | exact .inl hb | (simp at hb ⊢; omega)) (by intro q hq; first | (subst hq; assumption) | (simp only at hq; first | (subst hq; assumption) | (rcases hq with rfl | rfl <;> assumption)))
            replace hF := G.fz
            replace hW := hW.ch x9.ch (by first | omega | (intro q hq; omega))
            replace k7 := x9.blk
            replace U := U.cc x9.ch (by intro b hb; first | exact hb ▸ f7 | omega)
            rw [bL_full] at k7
            refine l_nil ?_
            refine hK8 _ _ ?_
            refine fg1 3 (gS rfl (gS rfl (gS rfl g0))) (fun g => ?_)
            refine c_seq (fun K10 hK10 => ?_)
            exact (by
              refine c_region ?_
              refine l_step (y_moveV (et g0 rfl)) ?_
              refine l_step (y_assignV (et g0 rfl)) ?_
              refine l_nil ?_
              refine hK10 _ _ ?_
              refine fg1 2 g0 (fun g => ?_)
              refine c_ret ?_
              repeat with_reducible refine then_ret ?_
              refine ret1 rfl (res_tmp (et g0 rfl)) ?_
              exact OB.bv ⟨hW.dig, .inr ⟨_, rfl, f7, k7.lt, by omega, k7⟩⟩ G hF0)))))
theorem engine_copied (s0 c : Nat) (a : Option Addr) (l : List Nat) (w : World) (H : Store) (hF : Fz w H) (hW : WV s0 w (.slice a l.length c) l) (hs0 : s0 ≤ w.heap.size) (h48 : l.length ≤ 1099511627776) :
    Ret 104 [.slice a l.length c] w (fun v w' => ∃ H', Go No w H w' H' ∧ BV H' v l) := by
  have hF0 := hF
  refine enter (n := 14) Hvaa.func104 rfl rfl (Nat.le_of_ble_eq_true rfl) ?_
  have U := Up.refl w
  have G : Go (No) w H w H := Go.refl hF
  refine c_seq (fun K1 hK1 => ?_)
  exact (by
    refine c_region ?_
    refine l_step y_assignC ?_
    refine l_nil ?_
    refine hK1 _ _ ?_
    refine fg1 0 (gS rfl g0) (fun g => ?_)
    refine c_seq (fun K2 hK2 => ?_)
    refine c_seq (fun K3 hK3 => ?_)
    exact (by
      refine c_region ?_
      refine l_step (y_moveV (et g0 rfl)) ?_
      refine l_step (y_len Hvaa.underlying38 (et g0 rfl)) ?_
      refine l_step (y_eql (et g0 rfl) rfl) ?_
      refine l_nil ?_
      refine hK3 _ _ ?_
      refine fg2 0 6 (gS rfl (gS rfl (gS rfl g0))) g0 (fun g => ?_)
      refine c_cond (et g0 rfl) (fun cB1 => ?_) (fun cB1 => ?_)
      · skip
        
        have h0 : l = [] := List.length_eq_zero_iff.1 (by have := of_decide_eq_true cB1; omega)
        refine c_seq (fun K5 hK5 => ?_)
        exact (by
          refine c_region ?_
          refine l_step y_assignC ?_
          refine l_nil ?_
          refine hK5 _ _ ?_
          refine fg1 2 g0 (fun g => ?_)
          refine c_ret ?_
          repeat with_reducible refine then_ret ?_
          refine ret1 rfl (res_tmp (et g0 rfl)) ?_
          exact ⟨_, G, by rw [h0]; exact BV.nil _⟩)
      · skip
        
        refine c_skip ?_
        refine hK2 _ _ ?_
        refine fg1 0 (gS rfl g0) (fun g => ?_)
        refine c_seq (fun K6 hK6 => ?_)
        exact (by
          refine c_region ?_
          refine l_step (y_moveV (et g0 rfl)) ?_
          refine l_step (y_len Hvaa.underlying38 (et g0 rfl)) ?_
          refine l_eff (e_make Hvaa.underlying38 sz_5 zr_5 by_5 (et g0 rfl) (et g0 rfl) (by omega) (by omega)) (fun v7 w7 h7 => ?_)
          obtain ⟨b7, rfl, n7⟩ := h7
          have f7 : w.heap.size ≤ b7 := Nat.le_trans U.size n7.fresh
          have nb7 := hF.nb n7.fresh
          replace G := G.tr (Go.ofUp hF n7.up)
          replace hF := hF.up n7.up
          replace hW := hW.up n7.up
          replace U := U.tr n7.up
          have k7 := mzB n7.blk
          refine l_step (y_assignV (et g0 rfl)) ?_
          refine l_nil ?_
          refine hK6 _ _ ?_
          refine fg2 0 3 (gS rfl (gS rfl (gS rfl (gS rfl g0)))) g0 (fun g => ?_)
          refine c_seq (fun K8 hK8 => ?_)
          exact (by
            refine c_region ?_
            refine l_step (y_moveV (et g0 rfl)) ?_
            refine l_step (y_moveV (et (gS rfl (gS rfl g0)) rfl)) ?_
            refine l_eff (e_copyW Hvaa.underlying38 (et (gS rfl g0) rfl) (et g0 rfl) hW k7 (by simp only [List.size_toArray, length_bL, List.length_replicate]; omega)) (fun v9 w9 h9 => ?_)
            obtain ⟨rfl, x9⟩ := h9
            replace G := G.chs x9.ch (by intro b hb; first | omega | exact .inl hb | (simp at hb ⊢; omega)) (by intro q hq; first | (subst hq; assumption) | (simp only at hq; first | (subst hq; assumption) | (rcases hq with rfl | rfl <;> assumption)))
            replace hF := G.fz
            replace hW := hW.ch x9.ch (by first | omega | (intro q hq; omega))
            replace k7 := x9.blk
            replace U := U.cc x9.ch (by intro b hb; first | exact hb ▸ f7 | omega)
            rw [bL_full] at k7
            refine l_nil ?_
            refine hK8 _ _ ?_
            refine fg1 3 (gS rfl (gS rfl (gS rfl g0))) (fun g => ?_)
            refine c_seq (fun K10 hK10 => ?_)
            exact (by
              refine c_region ?_
              refine l_step (y_moveV (et g0 rfl)) ?_
              refine l_step (y_assignV (et g0 rfl)) ?_
              refine l_nil ?_
              refine hK10 _ _ ?_
              refine fg1 2 g0 (fun g => ?_)
              refine c_ret ?_
              repeat with_reducible refine then_ret ?_
              refine ret1 rfl (res_tmp (et g0 rfl)) ?_
              exact OB.bv ⟨hW.dig, .inr ⟨_, rfl, f7, k7.lt, by omega, k7⟩⟩ G hF0)))))
theorem mach_copied (s0 c : Nat) (a : Option Addr) (l : List Nat) (w : World) (H : Store) (hF : Fz w H) (hW : WV s0 w (.slice a l.length c) l) (hs0 : s0 ≤ w.heap.size) (h48 : l.length ≤ 1099511627776) :
    Ret 260 [.slice a l.length c] w (fun v w' => ∃ H', Go No w H w' H' ∧ BV H' v l) := by
  have hF0 := hF
  refine enter (n := 14) Hvaa.func260 rfl rfl (Nat.le_of_ble_eq_true rfl) ?_
  have U := Up.refl w
  have G : Go (No) w H w H := Go.refl hF
  refine c_seq (fun K1 hK1 => ?_)
  exact (by
    refine c_region ?_
    refine l_step y_assignC ?_
    refine l_nil ?_
    refine hK1 _ _ ?_
    refine fg1 0 (gS rfl g0) (fun g => ?_)
    refine c_seq (fun K2 hK2 => ?_)
    refine c_seq (fun K3 hK3 => ?_)
    exact (by
      refine c_region ?_
      refine l_step (y_moveV (et g0 rfl)) ?_
      refine l_step (y_len Hvaa.underlying38 (et g0 rfl)) ?_
      refine l_step (y_eql (et g0 rfl) rfl) ?_
      refine l_nil ?_
      refine hK3 _ _ ?_
      refine fg2 0 6 (gS rfl (gS rfl (gS rfl g0))) g0 (fun g => ?_)
      refine c_cond (et g0 rfl) (fun cB1 => ?_) (fun cB1 => ?_)
      · skip
        
        have h0 : l = [] := List.length_eq_zero_iff.1 (by have := of_decide_eq_true cB1; omega)
        refine c_seq (fun K5 hK5 => ?_)
        exact (by
          refine c_region ?_
          refine l_step y_assignC ?_
          refine l_nil ?_
          refine hK5 _ _ ?_
          refine fg1 2 g0 (fun g => ?_)
          refine c_ret ?_
          repeat with_reducible refine then_ret ?_
          refine ret1 rfl (res_tmp (et g0 rfl)) ?_
          exact ⟨_, G, by rw [h0]; exact BV.nil _⟩)
      · skip
        
        refine c_skip ?_
        refine hK2 _ _ ?_
        refine fg1 0 (gS rfl g0) (fun g => ?_)
        refine c_seq (fun K6 hK6 => ?_)
        exact (by
          refine c_region ?_
          refine l_step (y_moveV (et g0 rfl)) ?_
          refine l_step (y_len Hvaa.underlying38 (et g0 rfl)) ?_
          refine l_eff (e_make Hvaa.underlying38 sz_5 zr_5 by_5 (et g0 rfl) (et g0 rfl) (by omega) (by omega)) (fun v7 w7 h7 => ?_)
          obtain ⟨b7, rfl, n7⟩ := h7
          have f7 : w.heap.size ≤ b7 := Nat.le_trans U.size n7.fresh
          have nb7 := hF.nb n7.fresh
          replace G := G.tr (Go.ofUp hF n7.up)
          replace hF := hF.up n7.up
          replace hW := hW.up n7.up
          replace U := U.tr n7.up
          have k7 := mzB n7.blk
          refine l_step (y_assignV (et g0 rfl)) ?_
          refine l_nil ?_
          refine hK6 _ _ ?_
          refine fg2 0 3 (gS rfl (gS rfl (gS rfl (gS rfl g0)))) g0 (fun g => ?_)
          refine c_seq (fun K8 hK8 => ?_)
          exact (by
            refine c_region ?_
            refine l_step (y_moveV (et g0 rfl)) ?_
            refine l_step (y_moveV (et (gS rfl (gS rfl g0)) rfl)) ?_
            refine l_eff (e_copyW Hvaa.underlying38 (et (gS rfl g0) rfl) (et g0 rfl) hW k7 (by simp only [List.size_toArray, length_bL, List.length_replicate]; omega)) (fun v9 w9 h9 => ?_)
            obtain ⟨rfl, x9⟩ := h9
            replace G := G.chs x9.ch (by intro b hb; first | omega | exact .inl hb | (simp at hb ⊢; omega)) (by intro q hq; first | (subst hq; assumption) | (simp only at hq; first | (subst hq; assumption) | (rcases hq with rfl | rfl <;> assumption)))
            replace hF := G.fz
            replace hW := hW.ch x9.ch (by first | omega | (intro q hq; omega))
            replace k7 := x9.blk
            replace U := U.cc x9.ch (by intro b hb; first | exact hb ▸ f7 | omega)
            rw [bL_full] at k7
            refine l_nil ?_
            refine hK8 _ _ ?_
            refine fg1 3 (gS rfl (gS rfl (gS rfl g0))) (fun g => ?_)
            refine c_seq (fun K10 hK10 => ?_)
            exact (by
              refine c_region ?_
              refine l_step (y_moveV (et g0 rfl)) ?_
              refine l_step (y_assignV (et g0 rfl)) ?_
              refine l_nil ?_
              refine hK10 _ _ ?_
              refine fg1 2 g0 (fun g => ?_)
              refine c_ret ?_
              repeat with_reducible refine then_ret ?_
              refine ret1 rfl (res_tmp (et g0 rfl)) ?_
              exact OB.bv ⟨hW.dig, .inr ⟨_, rfl, f7, k7.lt, by omega, k7⟩⟩ G hF0)))))
end Go.Proofs.YgvaawGreat
